import PyProof.Rows.All
import Wide.All
import OpenK.AllK
import Wide.FinOn
import PySem.Challenge.RW_dayrecipes_k77_maps_spelled
import HandS.ForMost
import HandS.Exc
import HandS.ExcField
import KE.KExcIs
import HandS.ExcOwn
import KE.KExcInit
import HandS.Lambda
import KE.KNest
import HandS.Flow
import HandS.Style
import HandS.SortRule
import HandS.SortInts
import HandS.StrMore
import HandS.FStr
import HandS.IsInst
import HandS.Deep
import HandS.Conv
import HandS.More
import HandS.Codes
import HandS.Property
import HandS.ClsMeth
import HandS.Defaults
import HandS.MakeKw
import HandS.MakeKwOnly
import HandS.TupAny
import HandS.SetFor
import HandS.RaiseMore
import HandS.HeadHook2
import HandS.CallLocal
import HandS.SetBool
import HandS.TupSets
import KE.KxField
import PyProof.LongRange
import HandS.Star
import HandS.WordsExc
import KE.KUnpackStar
import HandS.TupMul
import HandS.OwnEq
import HandS.ExcValue
import HandS.Small
import KE.KDictDisplayH
import PyProof.ReprRoads
import PyProof.CallFns
import HandS.EndBits
import HandS.EndTab
import HandS.HeadWalk
import HandS.Head0
import HandS.Head1
import HandS.Head2
import HandS.HeadEnd
import HandS.HeadHook1
import HandS.HeadHook3
import HandS.HeadHook4
import KE.KStateDown
import HandS.Ends
set_option Elab.async false
set_option linter.all false
set_option maxRecDepth 100000
/-! M1: lists of offsets, their periods, maps from dates to dates. -/
namespace YM
/-- the offset at a date -/
def ofs (r : List Int) (x : Int) : Int := r.getD (x % r.length).toNat 0
/-- the value at a date -/
def val (r : List Int) (x : Int) : Int := x + ofs r x
def Pd (f : Int → Int) (p : Int) : Prop := ∀ x, f (x + p) = f x
theorem Pd.zero {f : Int → Int} : Pd f 0 := fun x => by rw [Int.add_zero]
theorem Pd.add {f : Int → Int} {p q : Int} (h : Pd f p) (k : Pd f q) : Pd f (p + q) := fun x => by rw [← Int.add_assoc, k, h]
theorem Pd.neg {f : Int → Int} {p : Int} (h : Pd f p) : Pd f (-p) := fun x => by
  have := h (x + -p)
  rw [show x + -p + p = x by omega] at this
  exact this.symm
theorem Pd.mulNat {f : Int → Int} {p : Int} (h : Pd f p) : ∀ n : Nat, Pd f (n * p)
  | 0 => by simpa using Pd.zero
  | n + 1 => by
    have := (Pd.mulNat h n).add h
    rw [show ((n + 1 : Nat) : Int) * p = (n : Int) * p + p by rw [Int.natCast_succ, Int.add_mul, Int.one_mul]]
    exact this
theorem Pd.mul {f : Int → Int} {p : Int} (h : Pd f p) (n : Int) : Pd f (n * p) := by
  rcases Int.le_total 0 n with e | e
  · obtain ⟨m, rfl⟩ := Int.eq_ofNat_of_zero_le e
    exact h.mulNat m
  · obtain ⟨m, hm⟩ := Int.eq_ofNat_of_zero_le (show 0 ≤ -n by omega)
    have := (h.mulNat m).neg
    rw [← hm, Int.neg_mul, Int.neg_neg] at this
    exact this
theorem Pd.dvd {f : Int → Int} {p q : Int} (h : Pd f p) (d : p ∣ q) : Pd f q := by
  obtain ⟨k, rfl⟩ := d
  rw [Int.mul_comm]
  exact h.mul k
theorem Pd.mod {f : Int → Int} {p : Int} (h : Pd f p) (x : Int) : f (x % p) = f x := by
  have := (h.mul (x / p)) (x % p)
  rw [← this]
  congr 1
  have := Int.emod_add_mul_ediv x p
  rw [Int.mul_comm] at this
  exact this
theorem Pd.rem {f : Int → Int} {p q : Int} (h : Pd f p) (k : Pd f q) : Pd f (q % p) := by
  have : q % p = q + -(q / p * p) := by have := Int.emod_add_mul_ediv q p; rw [Int.mul_comm] at this; omega
  rw [this]
  exact k.add (h.mul _).neg
theorem ofs_pd (r : List Int) : Pd (ofs r) r.length := fun x => by
  unfold ofs
  rw [Int.add_emod_right]
theorem ofs_nat {r : List Int} {i : Nat} (h : i < r.length) : ofs r i = r.getD i 0 := by
  unfold ofs
  rw [Int.emod_eq_of_lt (by omega) (by omega), Int.toNat_natCast]
/-- two periodic functions that agree on one period -/
theorem pd_ext {f g : Int → Int} {n : Nat} (h0 : 0 < n) (hf : Pd f n) (hg : Pd g n) (h : ∀ i : Nat, i < n → f i = g i) : f = g := by
  funext x
  rw [← hf.mod x, ← hg.mod x]
  have l0 := Int.emod_nonneg x (show (n : Int) ≠ 0 by omega)
  have l1 := Int.emod_lt_of_pos x (show (0 : Int) < n by omega)
  obtain ⟨i, hi⟩ := Int.eq_ofNat_of_zero_le l0
  rw [hi]
  exact h i (by omega)
/-- the row of a function -/
def row (f : Int → Int) (n : Nat) : List Int := (List.range n).map fun (i : Nat) => f (i : Int)
theorem row_len {f : Int → Int} {n : Nat} : (row f n).length = n := by unfold row; rw [List.length_map, List.length_range]
theorem row_get {f : Int → Int} {n i : Nat} (h : i < n) : (row f n)[i]? = some (f i) := by
  unfold row
  rw [List.getElem?_map, List.getElem?_range h]
  rfl
theorem row_getD {f : Int → Int} {n i : Nat} (h : i < n) : (row f n).getD i 0 = f i := by
  rw [List.getD_eq_getElem?_getD, row_get h]; rfl
theorem ofs_row {f : Int → Int} {n : Nat} (h0 : 0 < n) (h : Pd f n) : ofs (row f n) = f := by
  refine pd_ext h0 ?_ h fun i hi => ?_
  · have := ofs_pd (row f n); rw [row_len] at this; exact this
  · rw [ofs_nat (by rw [row_len]; exact hi), row_getD hi]
theorem row_ofs (r : List Int) : row (ofs r) r.length = r := by
  refine List.ext_getElem? fun i => ?_
  by_cases h : i < r.length
  · rw [row_get h, ofs_nat h, List.getD_eq_getElem?_getD, List.getElem?_eq_getElem h]; rfl
  · rw [List.getElem?_eq_none (by rw [row_len]; omega), List.getElem?_eq_none (by omega)]
theorem row_inj {f g : Int → Int} {n : Nat} (h0 : 0 < n) (hf : Pd f n) (hg : Pd g n) (h : row f n = row g n) : f = g := by
  rw [← ofs_row h0 hf, ← ofs_row h0 hg, h]
theorem ofs_congr {r s : List Int} (h : r.length = s.length) (e : ofs r = ofs s) : r = s := by
  rw [← row_ofs r, ← row_ofs s, h, e]
/-! ### the least period -/
/-- p is a period of the row, and a part of its length -/
def IsP (r : List Int) (p : Nat) : Prop := 0 < p ∧ p ∣ r.length ∧ Pd (ofs r) p
theorem IsP.len {r : List Int} (h : 0 < r.length) : IsP r r.length := ⟨h, Nat.dvd_refl _, ofs_pd r⟩
theorem exists_least (P : Nat → Prop) : ∀ n, P n → ∃ m, P m ∧ ∀ k, P k → m ≤ k := by
  intro n
  induction n using (Nat.strongRecOn) with
  | _ n ih =>
    intro h
    rcases Classical.em (∃ k, k < n ∧ P k) with ⟨k, hk, hp⟩ | hno
    · exact ih k hk hp
    · exact ⟨n, h, fun k hk => Nat.le_of_not_lt fun z => hno ⟨k, z, hk⟩⟩
/-- every period of a function is a multiple of the least one -/
theorem least_dvd {f : Int → Int} {m : Nat} (m0 : 0 < m) (hm : Pd f m) (hl : ∀ k : Nat, 0 < k → Pd f k → m ≤ k) {q : Nat} (hq : Pd f q) : m ∣ q := by
  have h1 := hm.rem hq
  have h2 : ((q : Int) % (m : Int)) = ((q % m : Nat) : Int) := by omega
  rw [h2] at h1
  rcases Nat.eq_zero_or_pos (q % m) with e | e
  · exact Nat.dvd_of_mod_eq_zero e
  · have := hl _ e h1
    have := Nat.mod_lt q m0
    omega
noncomputable section
open Classical
/-- the least period of a row -/
def lp (r : List Int) : Nat := if h : 0 < r.length then (exists_least (fun p => 0 < p ∧ Pd (ofs r) p) r.length ⟨h, ofs_pd r⟩).choose else 0
theorem lp_spec {r : List Int} (h : 0 < r.length) : (0 < lp r ∧ Pd (ofs r) (lp r)) ∧ ∀ k : Nat, (0 < k ∧ Pd (ofs r) k) → lp r ≤ k := by
  unfold lp
  rw [dif_pos h]
  exact (exists_least (fun p => 0 < p ∧ Pd (ofs r) p) r.length ⟨h, ofs_pd r⟩).choose_spec
theorem lp_pos {r : List Int} (h : 0 < r.length) : 0 < lp r := (lp_spec h).1.1
theorem lp_pd {r : List Int} (h : 0 < r.length) : Pd (ofs r) (lp r) := (lp_spec h).1.2
theorem lp_dvd {r : List Int} (h : 0 < r.length) {q : Nat} (hq : Pd (ofs r) q) : lp r ∣ q := least_dvd (lp_pos h) (lp_pd h) (fun k k0 kp => (lp_spec h).2 k ⟨k0, kp⟩) hq
theorem lp_len {r : List Int} (h : 0 < r.length) : lp r ∣ r.length := lp_dvd h (ofs_pd r)
theorem lp_le {r : List Int} (h : 0 < r.length) : lp r ≤ r.length := Nat.le_of_dvd h (lp_len h)
theorem lp_eq {r s : List Int} (h : 0 < r.length) (k : 0 < s.length) (e : ofs r = ofs s) : lp r = lp s :=
  Nat.dvd_antisymm (lp_dvd h (by rw [e]; exact lp_pd k)) (lp_dvd k (by rw [← e]; exact lp_pd h))
/-- the row of the least period -/
def lr (r : List Int) : List Int := r.take (lp r)
theorem lr_len {r : List Int} : (lr r).length = lp r := by
  unfold lr
  rw [List.length_take]
  rcases Nat.eq_zero_or_pos r.length with e | e
  · unfold lp; rw [dif_neg (by omega)]; omega
  · have := lp_le e; omega
theorem lr_row {r : List Int} (h : 0 < r.length) : lr r = row (ofs r) (lp r) := by
  have := lp_le h
  unfold lr
  have e : r.take (lp r) = (row (ofs r) r.length).take (lp r) := by rw [row_ofs]
  rw [e]
  unfold row
  rw [← List.map_take, List.take_range, Nat.min_eq_left this]
theorem lr_ofs {r : List Int} (h : 0 < r.length) : ofs (lr r) = ofs r := by rw [lr_row h]; exact ofs_row (lp_pos h) (lp_pd h)
theorem lr_eq {r s : List Int} (h : 0 < r.length) (k : 0 < s.length) : lr r = lr s ↔ ofs r = ofs s := by
  constructor
  · intro e
    rw [← lr_ofs h, ← lr_ofs k, e]
  · intro e
    rw [lr_row h, lr_row k, e, lp_eq h k e]
theorem lr_pos {r : List Int} (h : 0 < r.length) : 0 < (lr r).length := by rw [lr_len]; exact lp_pos h
theorem lp_lr {r : List Int} (h : 0 < r.length) : lp (lr r) = lp r := lp_eq (lr_pos h) h (lr_ofs h)
theorem lr_lr {r : List Int} (h : 0 < r.length) : lr (lr r) = lr r := (lr_eq (lr_pos h) h).mpr (lr_ofs h)
end
/-- a row that is its own least one -/
def Lst (r : List Int) : Prop := 0 < r.length ∧ lp r = r.length
theorem lst_lr {r : List Int} (h : 0 < r.length) : Lst (lr r) := ⟨lr_pos h, by rw [lp_lr h, lr_len]⟩
theorem Lst.lr {r : List Int} (h : Lst r) : lr r = r := by unfold YM.lr; rw [h.2, List.take_length]
/-- a period as lists tell it -/
theorem pd_shift {r : List Int} {d : Nat} (h0 : 0 < d) (hd : d ∣ r.length) (hn : 0 < r.length) : Pd (ofs r) d ↔ r.drop d = r.take (r.length - d) := by
  have hle := Nat.le_of_dvd hn hd
  constructor
  · intro h
    refine List.ext_getElem? fun i => ?_
    rw [List.getElem?_drop]
    by_cases hi : i < r.length - d
    · rw [List.getElem?_take, if_pos hi]
      have := h i
      rw [show ((i : Int) + (d : Int)) = ((i + d : Nat) : Int) by omega, ofs_nat (show i + d < r.length by omega), ofs_nat (show i < r.length by omega)] at this
      rw [List.getElem?_eq_getElem (show d + i < r.length by omega), List.getElem?_eq_getElem (show i < r.length by omega)]
      rw [List.getD_eq_getElem?_getD, List.getD_eq_getElem?_getD, List.getElem?_eq_getElem (show i + d < r.length by omega), List.getElem?_eq_getElem (show i < r.length by omega)] at this
      congr 1
      have e : r[d + i]'(by omega) = r[i + d]'(by omega) := by congr 1; omega
      rw [e]; exact this
    · rw [List.getElem?_eq_none (by omega), List.getElem?_eq_none (by rw [List.length_take]; omega)]
  · intro h
    have step : ∀ i : Nat, i + d < r.length → r.getD (i + d) 0 = r.getD i 0 := fun i hi => by
      have := congrArg (fun l => l[i]?) h
      simp only [List.getElem?_drop, List.getElem?_take] at this
      rw [if_pos (by omega)] at this
      rw [List.getD_eq_getElem?_getD, List.getD_eq_getElem?_getD, Nat.add_comm i d, this]
    -- all places by their rest
    have base : ∀ i : Nat, i < r.length → r.getD i 0 = r.getD (i % d) 0 := by
      intro i
      induction i using Nat.strongRecOn with
      | _ i ih =>
        intro hi
        by_cases hd' : i < d
        · rw [Nat.mod_eq_of_lt hd']
        · have e1 := ih (i - d) (by omega) (by omega)
          have e2 := step (i - d) (by omega)
          rw [show i - d + d = i by omega] at e2
          rw [e2, e1, ← Nat.mod_eq_sub_mod (show i ≥ d by omega)]
    have all : ∀ x : Int, ofs r x = r.getD (x % d).toNat 0 := fun x => by
      have l0 := Int.emod_nonneg x (show (r.length : Int) ≠ 0 by omega)
      have l1 := Int.emod_lt_of_pos x (show (0 : Int) < r.length by omega)
      have := base (x % r.length).toNat (by omega)
      unfold ofs
      rw [this]
      congr 1
      have e : (((x % r.length).toNat % d : Nat) : Int) = x % r.length % d := by rw [Int.natCast_emod, Int.toNat_of_nonneg l0]
      have e2 : x % (r.length : Int) % (d : Int) = x % d := Int.emod_emod_of_dvd x (by exact_mod_cast hd)
      rw [e2] at e
      omega
    intro x
    rw [all, all, Int.add_emod_right]
end YM

/-! M2: how the least period is found: by the law, and by the package. -/
namespace YM
theorem pd_of_base {r : List Int} {d : Nat} (h0 : 0 < d) (hd : d ∣ r.length) (hn : 0 < r.length) (base : ∀ i : Nat, i < r.length → r.getD i 0 = r.getD (i % d) 0) : Pd (ofs r) d := by
  have all : ∀ x : Int, ofs r x = r.getD (x % d).toNat 0 := fun x => by
    have l0 := Int.emod_nonneg x (show (r.length : Int) ≠ 0 by omega)
    have l1 := Int.emod_lt_of_pos x (show (0 : Int) < r.length by omega)
    have := base (x % r.length).toNat (by omega)
    unfold ofs
    rw [this]
    congr 1
    have e : (((x % r.length).toNat % d : Nat) : Int) = x % r.length % d := by rw [Int.natCast_emod, Int.toNat_of_nonneg l0]
    have e2 : x % (r.length : Int) % (d : Int) = x % d := Int.emod_emod_of_dvd x (by exact_mod_cast hd)
    rw [e2] at e
    omega
  intro x
  rw [all, all, Int.add_emod_right]
theorem rep_get {l : List Int} : ∀ {k i : Nat}, i < k * l.length → (List.replicate k l).flatten[i]? = l[i % l.length]?
  | 0, i, h => by omega
  | k + 1, i, h => by
    (rw [List.replicate_succ, List.flatten_cons])
    by_cases hi : i < l.length
    · rw [List.getElem?_append_left hi, Nat.mod_eq_of_lt hi]
    · rw [List.getElem?_append_right (by omega), rep_get (k := k) (by rw [Nat.succ_mul] at h; omega), ← Nat.mod_eq_sub_mod (by omega)]
theorem rep_len {l : List Int} {k : Nat} : (List.replicate k l).flatten.length = k * l.length := by
  induction k with
  | zero => simp
  | succ k ih => rw [List.replicate_succ, List.flatten_cons, List.length_append, ih, Nat.succ_mul, Nat.add_comm]
theorem rep_pd {r : List Int} {s : Nat} (h0 : 0 < s) (hd : s ∣ r.length) (hn : 0 < r.length) : r = (List.replicate (r.length / s) (r.take s)).flatten ↔ Pd (ofs r) s := by
  have hle := Nat.le_of_dvd hn hd
  have tl : (r.take s).length = s := by rw [List.length_take]; omega
  have mul : r.length / s * s = r.length := Nat.div_mul_cancel hd
  constructor
  · intro h
    refine pd_of_base h0 hd hn fun i hi => ?_
    have e := congrArg (fun l => l[i]?) h
    rw [rep_get (by rw [tl, mul]; exact hi), tl, List.getElem?_take, if_pos (Nat.mod_lt _ h0)] at e
    rw [List.getD_eq_getElem?_getD, List.getD_eq_getElem?_getD, e]
  · intro h
    refine List.ext_getElem? fun i => ?_
    by_cases hi : i < r.length
    · rw [rep_get (by rw [tl, mul]; exact hi), tl, List.getElem?_take, if_pos (Nat.mod_lt _ h0)]
      have e1 := ofs_nat hi
      have lt := Nat.mod_lt i h0
      have e2 := ofs_nat (r := r) (i := i % s) (by omega)
      have e3 := h.mod (i : Int)
      rw [← Int.natCast_emod] at e3
      rw [e1, e2, List.getD_eq_getElem?_getD, List.getD_eq_getElem?_getD] at e3
      rw [List.getElem?_eq_getElem hi, List.getElem?_eq_getElem (show i % s < r.length by omega)] at e3 ⊢
      exact congrArg some e3.symm
    · rw [List.getElem?_eq_none (by omega), List.getElem?_eq_none (by rw [rep_len, tl, mul]; omega)]
/-- the first span that repeats is the least period -/
theorem lp_first {r : List Int} {s : Nat} (h0 : 0 < s) (hd : s ∣ r.length) (hn : 0 < r.length) (hp : Pd (ofs r) s) (before : ∀ k, 0 < k → k < s → k ∣ r.length → ¬ Pd (ofs r) k) : s = lp r := by
  have h1 : lp r ∣ s := lp_dvd hn hp
  have h2 := Nat.le_of_dvd h0 h1
  rcases Nat.lt_or_eq_of_le h2 with e | e
  · exact absurd (lp_pd hn) (before _ (lp_pos hn) e (lp_len hn))
  · exact e.symm
/-! ### by primes -/
structure LpI (r : List Int) (f rest p : Nat) : Prop where
  r0 : 0 < rest
  rf : rest ∣ f
  fn : f ∣ r.length
  pd : Pd (ofs r) f
  p2 : 2 ≤ p
  no : ∀ d, 2 ≤ d → d < p → ¬ d ∣ rest
  k : ∃ k, f = lp r * k ∧ k ∣ rest
theorem LpI.start {r : List Int} (hn : 0 < r.length) : LpI r r.length r.length 2 where
  r0 := hn
  rf := Nat.dvd_refl _
  fn := Nat.dvd_refl _
  pd := ofs_pd r
  p2 := Nat.le_refl _
  no := fun d h1 h2 => by omega
  k := by
    obtain ⟨k, hk⟩ := lp_len hn
    exact ⟨k, hk, by rw [hk]; exact Nat.dvd_mul_left _ _⟩
section
variable {r : List Int} {f rest p : Nat}
theorem LpI.le (I : LpI r f rest p) (h : 1 < rest) : p ≤ rest := Nat.le_of_not_lt fun z => I.no rest h z (Nat.dvd_refl _)
theorem LpI.f0 (I : LpI r f rest p) (hn : 0 < r.length) : 0 < f := Nat.pos_of_dvd_of_pos I.fn hn
theorem LpI.fle (I : LpI r f rest p) (hn : 0 < r.length) : f ≤ r.length := Nat.le_of_dvd hn I.fn
theorem LpI.restle (I : LpI r f rest p) (hn : 0 < r.length) : rest ≤ r.length := Nat.le_trans (Nat.le_of_dvd (I.f0 hn) I.rf) (I.fle hn)
theorem LpI.up (I : LpI r f rest p) (h : ¬ p ∣ rest) (q : Nat) (hq : p < q) (hno : ∀ d, p < d → d < q → ¬ d ∣ rest) : LpI r f rest q :=
  ⟨I.r0, I.rf, I.fn, I.pd, (by have := I.p2; omega), (fun d h1 h2 => by
      rcases Nat.lt_trichotomy d p with e | e | e
      · exact I.no d h1 e
      · subst e; exact h
      · exact hno d e h2), I.k⟩
theorem LpI.next (I : LpI r f rest p) (h : ¬ p ∣ rest) : LpI r f rest (p + 1) := I.up h _ (Nat.lt_succ_self _) fun d h1 h2 => by omega
theorem LpI.last (I : LpI r f rest p) (h1 : 1 < rest) (h : ¬ p ∣ rest) (hs : rest < p * p) : LpI r f rest rest := by
  have hle := I.le h1
  have hne : p ≠ rest := fun z => h (by rw [z]; exact Nat.dvd_refl _)
  refine I.up h _ (by omega) fun d d1 d2 hd => ?_
  obtain ⟨e, he⟩ := hd
  -- e is a smaller part
  have e0 : 0 < e := Nat.pos_of_ne_zero fun z => by rw [z] at he; omega
  have e2 : 2 ≤ e := by
    rcases Nat.lt_or_ge e 2 with z | z
    · have : e = 1 := by omega
      rw [this] at he; omega
    · exact z
  have : e < p := by
    refine Nat.lt_of_not_le fun z => ?_
    have := Nat.mul_le_mul (Nat.le_of_lt d1) z
    omega
  exact I.no e e2 this ⟨d, by rw [Nat.mul_comm]; exact he⟩
theorem LpI.div (I : LpI r f rest p) (hn : 0 < r.length) (h : p ∣ rest) : p ∣ f ∧ 0 < f / p ∧ f / p < r.length ∧ rest / p < rest ∧ f / p ∣ r.length ∧ (Pd (ofs r) (f / p : Nat) → LpI r (f / p) (rest / p) p) ∧ (¬ Pd (ofs r) (f / p : Nat) → LpI r f (rest / p) p) := by
  have p0 : 0 < p := by have := I.p2; omega
  have pf : p ∣ f := Nat.dvd_trans h I.rf
  have f0 := I.f0 hn
  have q0 : 0 < f / p := Nat.div_pos (Nat.le_of_dvd f0 pf) p0
  have qlt : f / p < f := Nat.div_lt_self f0 (by have := I.p2; omega)
  have r1 : 0 < rest / p := Nat.div_pos (Nat.le_of_dvd I.r0 h) p0
  have qn : f / p ∣ r.length := Nat.dvd_trans (Nat.div_dvd_of_dvd pf) I.fn
  have no' : ∀ d, 2 ≤ d → d < p → ¬ d ∣ rest / p := fun d h1 h2 hd => I.no d h1 h2 (Nat.dvd_trans hd (Nat.div_dvd_of_dvd h))
  obtain ⟨k, hk, kr⟩ := I.k
  have m0 := lp_pos hn
  refine ⟨pf, q0, Nat.lt_of_lt_of_le qlt (I.fle hn), Nat.div_lt_self I.r0 (by have := I.p2; omega), qn, fun hp => ⟨r1, Nat.div_dvd_div h I.rf, qn, hp, I.p2, no', ?_⟩, fun hp => ⟨r1, Nat.dvd_trans (Nat.div_dvd_of_dvd h) I.rf, I.fn, I.pd, I.p2, no', k, hk, ?_⟩⟩
  · -- the quotient's own factor
    obtain ⟨j, hj⟩ := lp_dvd hn hp
    refine ⟨j, hj, ?_⟩
    have e : k = j * p := by
      have : lp r * k = lp r * (j * p) := by rw [← hk, ← Nat.mul_assoc, ← hj, Nat.div_mul_cancel pf]
      exact Nat.eq_of_mul_eq_mul_left m0 this
    rw [e] at kr
    exact Nat.dvd_div_of_mul_dvd (by rw [Nat.mul_comm]; exact kr)
  · -- p is no part of k
    have npk : ¬ p ∣ k := fun ⟨j, hj⟩ => hp (by
      have e : f / p = lp r * j := by
        rw [hk, hj, ← Nat.mul_assoc, Nat.mul_comm (lp r) p, Nat.mul_assoc, Nat.mul_div_cancel_left _ p0]
      rw [e, Int.natCast_mul, Int.mul_comm]
      exact (lp_pd hn).mul j)
    have cop : Nat.gcd k p = 1 := by
      have g1 : Nat.gcd k p ∣ p := Nat.gcd_dvd_right _ _
      have g0 : 0 < Nat.gcd k p := Nat.gcd_pos_of_pos_right _ p0
      have gle := Nat.le_of_dvd p0 g1
      rcases Nat.lt_or_ge (Nat.gcd k p) 2 with z | z
      · omega
      · rcases Nat.lt_or_eq_of_le gle with y | y
        · exact absurd (Nat.dvd_trans g1 h) (I.no _ z y)
        · exact absurd (by rw [← y]; exact Nat.gcd_dvd_left _ _) npk
    have : k ∣ p * (rest / p) := by rw [Nat.mul_div_cancel' h]; exact kr
    exact Nat.Coprime.dvd_of_dvd_mul_left cop this
theorem LpI.done (I : LpI r f 1 p) : f = lp r := by
  obtain ⟨k, hk, kr⟩ := I.k
  have := Nat.dvd_one.mp kr
  rw [this, Nat.mul_one] at hk
  exact hk
end
/-- what the package asks of the rows: the two places, the two pieces -/
theorem pd_test {r : List Int} {d : Nat} (h0 : 0 < d) (hd : d ∣ r.length) (hlt : d < r.length) : (r.getD 0 0 = r.getD d 0 ∧ r.drop d = r.take (r.length - d)) ↔ Pd (ofs r) d := by
  rw [← pd_shift h0 hd (by omega)]
  constructor
  · exact fun h => h.2
  · intro h
    refine ⟨?_, h⟩
    have := h 0
    rw [show (0 : Int) + (d : Int) = ((d : Nat) : Int) by omega, ofs_nat hlt, show (0 : Int) = ((0 : Nat) : Int) by rfl, ofs_nat (show 0 < r.length by omega)] at this
    exact this.symm
/-! ### common multiples -/
def com (a b : Nat) : Nat := a / Nat.gcd a b * b
theorem com_lcm (a b : Nat) : com a b = Nat.lcm a b := by
  unfold com Nat.lcm
  rw [Nat.div_mul_right_comm (Nat.gcd_dvd_left a b)]
end YM

/-! M3: maps one after the other, spellings, the search level by level. -/
namespace YM
/-- the offsets of two maps, one after the other -/
def cmp (f g : Int → Int) (x : Int) : Int := f x + g (x + f x)
theorem cmp_pd {f g : Int → Int} {p : Int} (hf : Pd f p) (hg : Pd g p) : Pd (cmp f g) p := fun x => by
  unfold cmp
  rw [hf, show x + p + f x = x + f x + p by omega, hg]
def zf : Int → Int := fun _ => 0
theorem zf_pd {p : Int} : Pd zf p := fun _ => rfl
def prodF (ws : List (Int → Int)) (s : List Nat) : Int → Int := s.foldl (fun f i => cmp f (ws.getD i zf)) zf
theorem prodF_snoc (ws : List (Int → Int)) (s : List Nat) (i : Nat) : prodF ws (s ++ [i]) = cmp (prodF ws s) (ws.getD i zf) := by
  unfold prodF; rw [List.foldl_append]; rfl
theorem getD_pd {ws : List (Int → Int)} {p : Int} (h : ∀ w ∈ ws, Pd w p) (i : Nat) : Pd (ws.getD i zf) p := by
  (rw [List.getD_eq_getElem?_getD])
  cases q : ws[i]? with
  | none => exact zf_pd
  | some w => exact h w (List.mem_of_getElem? q)
theorem prodF_pd {ws : List (Int → Int)} {p : Int} (h : ∀ w ∈ ws, Pd w p) (s : List Nat) : Pd (prodF ws s) p := by
  have : ∀ (s : List Nat) (f : Int → Int), Pd f p → Pd (s.foldl (fun f i => cmp f (ws.getD i zf)) f) p := by
    intro s
    induction s with
    | nil => exact fun f hf => hf
    | cons i s ih => exact fun f hf => ih _ (cmp_pd hf (getD_pd h i))
  exact this s zf zf_pd
/-- what joined_offsets makes of two lists -/
def jo (a b : List Int) : List Int := row (cmp (ofs a) (ofs b)) a.length
theorem jo_row {f g : Int → Int} {n : Nat} (h0 : 0 < n) (hf : Pd f n) (hg : Pd g n) : jo (row f n) (row g n) = row (cmp f g) n := by
  unfold jo; rw [ofs_row h0 hf, ofs_row h0 hg, row_len]
/-! ### all spellings, the shortest first -/
def lev (k : Nat) : Nat → List (List Nat)
  | 0 => [[]]
  | m + 1 => (lev k m).flatMap fun u => (List.range k).map fun i => u ++ [i]
def lists (k : Nat) : Nat → List (List Nat)
  | 0 => [[]]
  | m + 1 => lists k m ++ lev k (m + 1)
theorem lev_len (k : Nat) : ∀ m, (lev k m).length = k ^ m
  | 0 => rfl
  | m + 1 => by
    have : ∀ l : List (List Nat), (l.flatMap fun u => (List.range k).map fun i => u ++ [i]).length = l.length * k := by
      intro l
      induction l with
      | nil => simp
      | cons a l ih => rw [List.flatMap_cons, List.length_append, ih, List.length_map, List.length_range, List.length_cons, Nat.succ_mul, Nat.add_comm]
    unfold lev
    rw [this, lev_len k m, Nat.pow_succ]
theorem lists_len {k : Nat} (hk : k ≤ 4) : ∀ m, (lists k m).length ≤ 2 * 4 ^ m
  | 0 => by simp [lists]
  | m + 1 => by
    unfold lists
    rw [List.length_append, lev_len]
    have h1 := lists_len hk m
    have h2 := Nat.pow_le_pow_left hk (m + 1)
    rw [Nat.pow_succ] at h2 ⊢
    omega
theorem lev_small (k : Nat) : ∀ m, ∀ s ∈ lev k m, s.length = m ∧ ∀ i ∈ s, i < k
  | 0, s, h => by
    rw [lev, List.mem_singleton] at h
    subst h
    exact ⟨rfl, fun i hi => by cases hi⟩
  | m + 1, s, h => by
    unfold lev at h
    obtain ⟨u, hu, h2⟩ := List.mem_flatMap.mp h
    obtain ⟨i, hi, rfl⟩ := List.mem_map.mp h2
    obtain ⟨l1, l2⟩ := lev_small k m u hu
    refine ⟨by rw [List.length_append, l1]; rfl, fun j hj => ?_⟩
    rcases List.mem_append.mp hj with z | z
    · exact l2 j z
    · rw [List.mem_singleton.mp z]; exact List.mem_range.mp hi
theorem lists_small (k : Nat) : ∀ m, ∀ s ∈ lists k m, s.length ≤ m ∧ ∀ i ∈ s, i < k
  | 0, s, h => by
    rw [lists, List.mem_singleton] at h
    subst h
    exact ⟨Nat.le_refl _, fun i hi => by cases hi⟩
  | m + 1, s, h => by
    unfold lists at h
    rcases List.mem_append.mp h with z | z
    · obtain ⟨a, b⟩ := lists_small k m s z; exact ⟨by omega, b⟩
    · obtain ⟨a, b⟩ := lev_small k (m + 1) s z; exact ⟨by omega, b⟩
section
variable {α : Type} [DecidableEq α] (κ : List Nat → α) (k : Nat)
def addK (F : List (List Nat)) (w : List Nat) : List (List Nat) := if F.any (fun u => decide (κ u = κ w)) then F else F ++ [w]
def extK (F : List (List Nat)) (u : List Nat) : List (List Nat) := (List.range k).foldl (fun F i => addK κ F (u ++ [i])) F
def ddK (l : List (List Nat)) : List (List Nat) := l.foldl (addK κ) []
variable {κ k}
theorem addK_pre (F : List (List Nat)) (w : List Nat) : ∃ e, addK κ F w = F ++ e := by
  unfold addK
  split
  · exact ⟨[], (List.append_nil _).symm⟩
  · exact ⟨_, rfl⟩
theorem fold_pre {β : Type} (f : List (List Nat) → β → List (List Nat)) (hf : ∀ F b, ∃ e, f F b = F ++ e) : ∀ (l : List β) (F : List (List Nat)), ∃ e, l.foldl f F = F ++ e
  | [], F => ⟨[], (List.append_nil _).symm⟩
  | b :: l, F => by
    obtain ⟨e, h⟩ := hf F b
    obtain ⟨e', h'⟩ := fold_pre f hf l (f F b)
    rw [h] at h'
    exact ⟨e ++ e', by rw [List.foldl_cons, h, h', List.append_assoc]⟩
theorem extK_pre (F : List (List Nat)) (u : List Nat) : ∃ e, extK κ k F u = F ++ e := fold_pre _ (fun F i => addK_pre F _) _ _
def Has (κ : List Nat → α) (F : List (List Nat)) (w : List Nat) : Prop := ∃ u ∈ F, κ u = κ w
theorem has_any {F : List (List Nat)} {w : List Nat} : (F.any fun u => decide (κ u = κ w)) = true ↔ Has κ F w := by
  rw [List.any_eq_true]
  exact ⟨fun ⟨u, h1, h2⟩ => ⟨u, h1, of_decide_eq_true h2⟩, fun ⟨u, h1, h2⟩ => ⟨u, h1, decide_eq_true h2⟩⟩
theorem addK_has {F : List (List Nat)} {w : List Nat} (h : Has κ F w) : addK κ F w = F := by unfold addK; rw [if_pos (has_any.mpr h)]
theorem addK_not {F : List (List Nat)} {w : List Nat} (h : ¬ Has κ F w) : addK κ F w = F ++ [w] := by unfold addK; rw [if_neg (fun z => h (has_any.mp z))]
theorem Has.mono {F e : List (List Nat)} {w : List Nat} (h : Has κ F w) : Has κ (F ++ e) w := let ⟨u, h1, h2⟩ := h; ⟨u, List.mem_append_left _ h1, h2⟩
theorem has_add (F : List (List Nat)) (w : List Nat) : Has κ (addK κ F w) w := by
  rcases Classical.em (Has κ F w) with h | h
  · rw [addK_has h]; exact h
  · rw [addK_not h]; exact ⟨w, List.mem_append_right _ (List.mem_singleton.mpr rfl), rfl⟩
def Cov (κ : List Nat → α) (k : Nat) (G S : List (List Nat)) : Prop := ∀ u ∈ S, ∀ i, i < k → Has κ G (u ++ [i])
theorem Cov.mono {G e S : List (List Nat)} (h : Cov κ k G S) : Cov κ k (G ++ e) S := fun u hu i hi => (h u hu i hi).mono
theorem cov_fold (u : List Nat) : ∀ (n : Nat) (G : List (List Nat)) (i : Nat), i < n → Has κ ((List.range n).foldl (fun F i => addK κ F (u ++ [i])) G) (u ++ [i])
  | 0, G, i, h => by omega
  | n + 1, G, i, h => by
    (rw [List.range_succ, List.foldl_append])
    rcases Nat.lt_or_eq_of_le (Nat.le_of_lt_succ h) with z | z
    · obtain ⟨e, he⟩ := addK_pre (κ := κ) ((List.range n).foldl (fun F i => addK κ F (u ++ [i])) G) (u ++ [n])
      show Has κ (addK κ _ (u ++ [n])) _
      rw [he]
      exact (cov_fold u n G i z).mono
    · subst z
      exact has_add _ _
theorem cov_ext (G : List (List Nat)) (u : List Nat) : Cov κ k (extK κ k G u) [u] := fun v hv i hi => by
  rw [List.mem_singleton] at hv
  subst hv
  exact cov_fold v k G i hi
theorem ext_same {G : List (List Nat)} {u : List Nat} (h : ∀ i, i < k → Has κ G (u ++ [i])) : extK κ k G u = G := by
  have : ∀ n, n ≤ k → (List.range n).foldl (fun F i => addK κ F (u ++ [i])) G = G := by
    intro n
    induction n with
    | zero => exact fun _ => rfl
    | succ n ih =>
      intro hn
      rw [List.range_succ, List.foldl_append, ih (by omega)]
      exact addK_has (h n (by omega))
  exact this k (Nat.le_refl k)
theorem level_same (hκ : ∀ u v i, κ u = κ v → κ (u ++ [i]) = κ (v ++ [i])) : ∀ (A F' G : List (List Nat)), Cov κ k G F' → A.foldl (extK κ k) G = ((A.foldl (addK κ) F').drop F'.length).foldl (extK κ k) G
  | [], F', G, c => by rw [List.foldl_nil, List.foldl_nil, List.drop_length]; rfl
  | a :: A, F', G, c => by
    (rw [List.foldl_cons, List.foldl_cons])
    rcases Classical.em (Has κ F' a) with h | h
    · rw [addK_has h, ext_same, level_same hκ A F' G c]
      intro i hi
      obtain ⟨u, hu, he⟩ := h
      obtain ⟨v, hv, hw⟩ := c u hu i hi
      exact ⟨v, hv, by rw [hw, hκ u a i he]⟩
    · rw [addK_not h]
      obtain ⟨e, he⟩ := fold_pre (addK κ) (fun F b => addK_pre F b) A (F' ++ [a])
      have d1 : (A.foldl (addK κ) (F' ++ [a])).drop F'.length = a :: (A.foldl (addK κ) (F' ++ [a])).drop (F' ++ [a]).length := by
        rw [he, List.append_assoc, List.drop_left, ← List.append_assoc, List.drop_left]
        rfl
      rw [d1, List.foldl_cons, level_same hκ A (F' ++ [a]) (extK κ k G a)]
      intro u hu i hi
      rcases List.mem_append.mp hu with z | z
      · obtain ⟨e2, he2⟩ := extK_pre (κ := κ) (k := k) G a
        rw [he2]
        exact (c u z i hi).mono
      · exact cov_ext G a u z i hi
theorem cov_level : ∀ (N G : List (List Nat)), Cov κ k (N.foldl (extK κ k) G) N
  | [], G => fun u hu => by cases hu
  | a :: N, G => fun u hu i hi => by
    rw [List.foldl_cons]
    rcases List.mem_cons.mp hu with z | z
    · subst z
      obtain ⟨e, he⟩ := fold_pre (extK κ k) (fun F b => extK_pre F b) N (extK κ k G u)
      rw [he]
      exact (cov_ext G u u (List.mem_singleton.mpr rfl) i hi).mono
    · exact cov_level N (extK κ k G a) u z i hi
theorem lev_fold (F : List (List Nat)) (m : Nat) : (lev k (m + 1)).foldl (addK κ) F = (lev k m).foldl (extK κ k) F := by
  have : ∀ (l : List (List Nat)) (F : List (List Nat)), (l.flatMap fun u => (List.range k).map fun i => u ++ [i]).foldl (addK κ) F = l.foldl (extK κ k) F := by
    intro l
    induction l with
    | nil => exact fun F => rfl
    | cons a l ih =>
      intro F
      rw [List.flatMap_cons, List.foldl_append, ih, List.foldl_map, List.foldl_cons]
      rfl
  exact this _ F
/-- the state of the search behind level m: all that is found, the newest -/
structure Bfs (κ : List Nat → α) (k m : Nat) (F N : List (List Nat)) : Prop where
  all : F = ddK κ (lists k m)
  ex : ∃ F', F = F' ++ N ∧ F = (lev k m).foldl (addK κ) F' ∧ Cov κ k F F'
theorem Bfs.start : Bfs κ k 0 [[]] [[]] := ⟨by simp [ddK, lists, addK], [], rfl, by simp [lev, addK], fun u hu => by cases hu⟩
theorem Bfs.next (hκ : ∀ u v i, κ u = κ v → κ (u ++ [i]) = κ (v ++ [i])) {m : Nat} {F N : List (List Nat)} (B : Bfs κ k m F N) : Bfs κ k (m + 1) (N.foldl (extK κ k) F) ((N.foldl (extK κ k) F).drop F.length) := by
  obtain ⟨F', h1, h2, c⟩ := B.ex
  have hN : N = (F.drop F'.length) := by rw [h1, List.drop_left]
  have e1 : N.foldl (extK κ k) F = (lev k (m + 1)).foldl (addK κ) F := by
    rw [lev_fold, level_same hκ (lev k m) F' F c, ← h2, ← hN]
  refine ⟨?_, F, ?_, e1, ?_⟩
  · rw [e1]
    unfold ddK lists
    rw [List.foldl_append]
    have := B.all
    unfold ddK at this
    rw [← this]
  · obtain ⟨e, he⟩ := fold_pre (extK κ k) (fun F b => extK_pre F b) N F
    rw [he, List.drop_left]
  · intro u hu i hi
    rw [h1] at hu
    rcases List.mem_append.mp hu with z | z
    · obtain ⟨e, he⟩ := fold_pre (extK κ k) (fun F b => extK_pre F b) N F
      rw [he]
      exact (c u z i hi).mono
    · exact cov_level N F u z i hi
theorem dd_find (p : List Nat → Bool) (hp : ∀ u v, κ u = κ v → p u = p v) (l : List (List Nat)) : (ddK κ l).find? p = l.find? p := by
  have : ∀ (l F : List (List Nat)), (l.foldl (addK κ) F).find? p = (F.find? p).or (l.find? p) := by
    intro l
    induction l with
    | nil => intro F; simp
    | cons a l ih =>
      intro F
      rw [List.foldl_cons, ih]
      rcases Classical.em (Has κ F a) with h | h
      · rw [addK_has h]
        obtain ⟨u, hu, he⟩ := h
        by_cases ha : p a = true
        · have : (F.find? p).isSome = true := List.find?_isSome.mpr ⟨u, hu, by rw [hp u a he]; exact ha⟩
          obtain ⟨z, hz⟩ := Option.isSome_iff_exists.mp this
          rw [hz]; rfl
        · rw [List.find?_cons_of_neg ha]
      · rw [addK_not h, List.find?_append, Option.or_assoc]
        congr 1
        by_cases ha : p a = true
        · rw [List.find?_cons_of_pos ha, List.find?_cons_of_pos ha]; rfl
        · rw [List.find?_cons_of_neg ha, List.find?_cons_of_neg ha]; rfl
  have := this l []
  rw [List.find?_nil, Option.none_or] at this
  exact this
theorem dd_len (l : List (List Nat)) : (ddK κ l).length ≤ l.length := by
  have : ∀ (l F : List (List Nat)), (l.foldl (addK κ) F).length ≤ F.length + l.length := by
    intro l
    induction l with
    | nil => intro F; exact Nat.le_refl _
    | cons a l ih =>
      intro F
      rw [List.foldl_cons]
      have h1 := ih (addK κ F a)
      have h2 : (addK κ F a).length ≤ F.length + 1 := by
        unfold addK
        split
        · omega
        · rw [List.length_append]; exact Nat.le_refl _
      rw [List.length_cons]
      omega
  have := this l []
  rw [List.length_nil, Nat.zero_add] at this
  exact this
theorem dd_mem (l : List (List Nat)) : ∀ u ∈ ddK κ l, u ∈ l := by
  have : ∀ (l F : List (List Nat)), ∀ u ∈ l.foldl (addK κ) F, u ∈ F ∨ u ∈ l := by
    intro l
    induction l with
    | nil => intro F u hu; exact .inl hu
    | cons a l ih =>
      intro F u hu
      rcases ih _ u hu with z | z
      · unfold addK at z
        split at z
        · exact .inl z
        · rcases List.mem_append.mp z with y | y
          · exact .inl y
          · rw [List.mem_singleton.mp y]; exact .inr (List.mem_cons_self ..)
      · exact .inr (List.mem_cons_of_mem _ z)
  intro u hu
  rcases this l [] u hu with z | z
  · cases z
  · exact z
end
end YM

set_option maxHeartbeats 1900000
/-! LX0: a caught exception that is kept behind the suite. -/
namespace LX
open PySem.Spec PyProof.Rows L2 PySem
/-- at a: an exception object that was caught, of the class cls, its dict d -/
def Xc (a : Addr) (cls : Value) (d : Option Addr) : HO := .ext fun h => ∃ (oe : Obj) (vs : Array Value), h.get? a = some oe ∧ Zc cls d oe ∧ oe.data = .fields vs
theorem xc_ok {P : Program} {w : World} {H : Hp} {h : Heap} {a : Addr} {cls : Value} {d : Option Addr} {oe : Obj} {vs : Array Value} (e : h.get? a = some oe) (z : Zc cls d oe) (q : oe.data = .fields vs) : ObjOk P w H h a (Xc a cls d) :=
  ⟨⟨oe, vs, e, z, q⟩, ⟨oe, e⟩, fun _ _ ⟨o, v, q1, q2, q3⟩ k => ⟨o, v, k o q1, q2, q3⟩⟩
theorem xc_at {P : Program} {w : World} {H : Hp} {h : Heap} {a : Addr} {cls : Value} {d : Option Addr} (hok : HOk P w H h) (e : H a = some (Xc a cls d)) : ∃ (oe : Obj) (vs : Array Value), h.get? a = some oe ∧ Zc cls d oe ∧ oe.data = .fields vs := by
  have z : ObjOk P w H h a (.ext fun h => ∃ (oe : Obj) (vs : Array Value), h.get? a = some oe ∧ Zc cls d oe ∧ oe.data = .fields vs) := hok a _ e
  exact z.1
section
variable {pins : List (Addr × Obj)} {σ : L2.St} {H : Hp} {s : Shared} {X : Cx}
/-- an exception of one's own, known no more by a pin, is tracked from now on -/
theorem track {a : Addr} {cls : Value} {d : Option Addr} {oe : Obj} {vs : Array Value} (I : Inv X pins σ H s) (ha : s.heap.get? a = some oe) (hz : Zc cls d oe) (hd : oe.data = .fields vs) (na : H a = none) (n0 : X.s_0.heap.get? a = none) (nL : a ≠ X.env.locals)
    (np : ∀ p ∈ X.pn ++ pins, p.1 ≠ a) : Inv X pins σ (upd H a (Xc a cls d)) s where
  ok := I.ok
  os := I.os
  bare := I.bare
  base :=
    { keep := I.base.keep
      slot := I.base.slot
      free := fun b o e n x => by rw [upd_ne (fun z => by rw [z, n0] at e; cases e)]; exact I.base.free b o e n x
      there := I.base.there
      tups := fun b xs e => by have q := I.base.tups b xs e; rw [upd_ne (ne_of_none q na)]; exact q
      frzs := fun b o u e => by have q := I.base.frzs b o u e; rw [upd_ne (ne_of_none q na)]; exact q
      tbls := fun b ps e => by obtain ⟨m, q⟩ := I.base.tbls b ps e; exact ⟨m, by rw [upd_ne (ne_of_none q na)]; exact q⟩ }
  loc := I.loc
  cell := I.cell
  free := by rw [upd_ne (Ne.symm nL)]; exact I.free
  freeC := fun x c e => by
    have nc : c ≠ a := fun z => by
      obtain ⟨v, o, ho, hc⟩ := I.cell x c e
      rw [z, ha] at ho
      cases ho
      rw [hd] at hc
      cases hc
    rw [upd_ne nc]
    exact I.freeC x c e
  pin := fun p hp => by
    obtain ⟨e, n, r⟩ := I.pin p hp
    exact ⟨e, by rw [upd_ne (np p hp)]; exact n, r⟩
  hok := fun b u e => by
    by_cases hb : b = a
    · subst hb
      rw [upd_same] at e
      cases e
      exact xc_ok ha hz hd
    · rw [upd_ne hb] at e
      exact (I.hok b u e).stay (fun _ _ _ q => q) (fun c q => by rw [upd_ne (ne_of_none q na)]; exact q) fun c xs q => by rw [upd_ne (ne_of_none q na)]; exact q
  len := I.len
end
/-- as wAs; what follows the suite finds the exception kept -/
def wKeep (K : PySem.W.Frag) (c : Value) (i : Nat) (ts : Addr → Value → Option Addr → TS) (D : Ends) : WX := fun cls d σ H =>
  PySem.W.exmOne K cls c = some true ∧ ∀ a, H a = none → ts a cls d { nx := fun σ' H' => ∀ (_ : H' a = none), D.nx (σ'.set i none) (upd H' a (Xc a cls d)), rt := fun _ _ => False } (σ.set i (some (.ref a))) H
section
variable {X : Cx} {x n : Str} {c : Value} {i : Nat} {body suite : List Stmt} {b₀ : Stmt} {np pos pos' : Pos} {tb : WX → TS} {ts : Addr → Value → Option Addr → TS}
theorem ps_try_keep (hs : X.stack = X.env :: X.outer) (hf : X.env.frame = some X.env.locals) (hex : X.ex = []) (hN : X.N.Nodup) (hi : X.N[i]? = some n) (hln : X.env.kindOf n = some .local) (hc : Names X x c) (hb : ∀ (W : WX) (pn : List (Addr × Obj)) (xe : Value → Shared → Prop), Takes (X.tr pn xe) W → PassesOwn (model X.prog X.w) X.A X.env xe → PSs (X.tr pn xe) body (tb W)) (hsu : ∀ (a : Addr) (oe : Obj) (cls : Value) (d : Option Addr) (pn : List (Addr × Obj)), Zc cls d oe → (∃ vs, oe.data = .fields vs) → PSs (X.suite a ((a, oe) :: pn)) (b₀ :: suite) (ts a cls d)) :
    PS X (.Try body [.ExceptHandler (some (.Name x np)) (some n) (b₀ :: suite) pos'] [] [] pos) (fun D σ H => tb (wKeep X.K c i ts D) D σ H) := by
  constructor
  intro pins s σ H D I h
  have ok := I.ok
  have frames : X.A.frames = some (X.env :: X.outer) := ok.frames.trans (congrArg some hs)
  apply wpAny_Try_except
  refine wpAny_mono ((hb (wKeep X.K c i ts D) (X.pn ++ pins) (fun e s₁ => wpAny (model X.prog X.w) X.A (noteFrame e X.env) (fun _ s₂ => wpAny (model X.prog X.w) X.A (setFlight e none) (fun _ s₃ =>
    wpAny (model X.prog X.w) X.A (handleBy e X.env [.ExceptHandler (some (.Name x np)) (some n) (b₀ :: suite) pos']) (SP X pins D) X.xe s₃) X.xe s₂) X.xe s₁) (fun u s' caught => ?_) PassesOwn.looking).run [] s σ H D (I.toTry _) h) (fun f s1 out => ?_) fun _ _ z => z
  · obtain ⟨a, B, sI, pins', σ', H', cls, d, rfl, J0, nb, up, sky0, na, os, ag, yes, suiteOk⟩ := caught
    have J : Inv X pins σ' H' sI := J0.ofTry ok
    rw [hs] at sky0
    (show wpAny (model X.prog X.w) X.A (noteFrame (.ref a) X.env) _ _ _)
    apply Sky.land Zc.steady frames hf sky0
    intro h3 fl3 up3
    (have J3 : Inv X pins σ' H' { s' with heap := h3 } := J.landed nb fl3.1 (up.trans up3) os ag)
    obtain ⟨oe3, vs3, at3, z3, d3⟩ := fl3.there
    have noFrame : a ∉ frs (X.env :: X.outer) := fun hm => by
      obtain ⟨_, o', e', hnf⟩ := fl3.2.2.1.mem hm
      rw [at3] at e'
      cases e'
      exact hnf _ d3
    have nL : a ≠ X.env.locals := fun z => noFrame (List.mem_filterMap.mpr ⟨X.env, List.mem_cons_self, by rw [hf, z]⟩)
    have nF : (a ∉ X.fs) := fun hm => by
      (obtain ⟨e, he, q⟩ := List.mem_filterMap.mp hm)
      exact noFrame (List.mem_filterMap.mpr ⟨e, List.mem_cons_of_mem _ he, q⟩)
    have nI : sI.heap.get? a = none := by
      cases q : sI.heap.get? a with
      | none => rfl
      | some o =>
        have z := nb a o q (by rw [hs]; exact noFrame)
        rw [fl3.2.1] at z
        cases z
    have n0 : (X.s_0.heap.get? a = none) := by
      cases q : X.s_0.heap.get? a with
      | none => rfl
      | some o =>
        obtain ⟨o', z⟩ := J.base.there a o q (by rw [hex]; exact fun z => nomatch z)
        rw [nI] at z
        cases z
    have nP : ∀ p ∈ X.pn ++ pins, p.1 ≠ a := fun p hp z => by
      have q := (J.pin p hp).1
      rw [z, nI] at q
      cases q
    have S3 := J3.suite at3 d3 na nL nF
    (refine wpAny_handleBy_cons (codeAny_handlers_test ?_) (by intro q; cases q))
    have LT : PySem.W.Looks (model X.prog X.w) h3 (typeOf (.ref a)) cls := fun A Q E s k q => wpAny_typeOf_ref (k _ _ at3) (by rw [z3.1]; exact q)
    have LM := PySem.W.exm_one (M := model X.prog X.w) (J3.kIn) LT yes
    have test : ∀ {Q E : Value → Shared → Prop}, Q c { s' with heap := h3 } → wpAny (model X.prog X.w) (X.A.mark (some (.ref a))) (eval (.Name x np) X.env) Q E { s' with heap := h3 } := fun {Q E} q => by
      rcases hc with ⟨hg, hdbg, hm | ⟨hm, hv, hnn⟩⟩
      · (exact ld_glob (X := X.suite a ((a, oe3) :: (X.pn ++ pins))) S3 hg hm q hdbg)
      · (exact ld_blt (X := X.suite a ((a, oe3) :: (X.pn ++ pins))) S3 hg hm hv q hnn hdbg)
    apply test
    apply LM.here
    apply codeAny_handlers_suite_as
    apply HandSPX.lands_againZ fl3
    intro h4 fl4 up4
    (have J4 : Inv X pins σ' H' { s' with heap := h4 } := J.landed nb fl4.1 ((up.trans up3).trans up4) os ag)
    obtain ⟨oe4, vs4, at4, z4, d4⟩ := fl4.there
    have S4 := J4.suite at4 d4 na nL nF
    refine store_ok (X := X.suite a ((a, oe4) :: (X.pn ++ pins))) (v := .ref a) S4 hN hi (.inl hln) rfl (fun s5 S5 => ?_) (.inr hln)
    refine wpAny_mono ((hsu a oe4 cls d (X.pn ++ pins) z4 ⟨_, d4⟩).run [] s5 _ H' _ S5 (suiteOk a na)) (fun f s6 after => ?_) fun _ _ z => False.elim z
    cases f with
    | next =>
      obtain ⟨σ6, H6, S6, q6⟩ := after
      obtain ⟨at6, n6, _⟩ := S6.pin (a, oe4) (List.mem_append_left _ List.mem_cons_self)
      exact gone_ok (track (S6.unsuite ok) at6 z4 d4 n6 n0 nL nP) hN hi hln fun s7 J7 => ⟨_, _, J7, q6 n6⟩
    | brk =>
      obtain ⟨_, _, _, q6⟩ := after
      exact False.elim q6
    | cont =>
      obtain ⟨_, _, _, q6⟩ := after
      exact False.elim q6
    | ret u =>
      obtain ⟨_, _, _, _, _, q6⟩ := after
      exact False.elim q6
  · cases f with
    | next => obtain ⟨σ', H', J', q⟩ := out; exact wpAny_execs_nil ⟨σ', H', J'.ofTry ok, q⟩
    | brk => obtain ⟨σ', H', J', q⟩ := out; exact ⟨σ', H', J'.ofTry ok, q⟩
    | cont => obtain ⟨σ', H', J', q⟩ := out; exact ⟨σ', H', J'.ofTry ok, q⟩
    | ret u => obtain ⟨v, σ', H', J', r, q⟩ := out; exact ⟨v, σ', H', J'.ofTry ok, r, q⟩
end
/-! ### what is asked of a kept exception -/
/-- e.f, e a kept exception of the class at C -/
def tKf (C : Addr) (f : Str) (te : TE) : TE := fun σ H Q => te σ H fun x H1 => ∃ (a dd : Addr) (fs : List (Str × V)) (v : V), x = .ref a ∧ H1 a = some (Xc a (.ref C) (some dd)) ∧ H1 dd = some (.xd fs) ∧ fs.lookup f = some v ∧ Q v H1
theorem pe_kf {X : Cx} {C : Addr} {e : Expr} {te : TE} {pos : Pos} {n : Str} (T : XfC X.K C) (hno : PySem.W.findIn X.K (.ref C) n = some none) (he : PE X e te) (hb : attributeBase e n X.env (eval e X.env) = eval e X.env := by rfl) : PE X (.Attribute e n pos) (tKf C n te) := by
  constructor
  intro pins s σ H Q I h
  apply attr_of hb
  apply thn (he.run pins s σ H _ I h)
  rintro u s1 ⟨x, H1, I1, rx, a, dd, fs, v, rfl, ea, ed, l, q⟩
  (obtain rfl : u = Value.ref a := rx)
  obtain ⟨oe, vs, ho, hz, hd⟩ := xc_at I1.hok ea
  obtain ⟨mA, hns, hr⟩ := (show ObjOk X.prog X.w H1 s1.heap dd (.xd fs) from I1.hok dd _ ed)
  obtain ⟨od, hod, hl⟩ := lookIn_ns hns
  (obtain ⟨u, hu, ru⟩ := RelO.some_of (v := v) (o := mA n) (by rw [← l]; exact hr n))
  have J : PySem.W.InstAt s1.heap a oe C (some od) := ⟨ho, hz.1, by unfold PySem.W.notCls; rw [hd] <;> rfl, by rw [hz.2]; exact hod⟩
  (exact HandSPX.exc_get I1.kIn J T.ga T.gg T.exC (PySem.W.findObj_own T.hdC hno rfl (by rw [hl, hu])) (handed_of ru) ⟨v, H1, I1.tok _, ru, q⟩)
/-- what a class of errors must say for isinstance -/
structure IsC (K : PySem.W.Frag) (C : Addr) : Prop where
  cl : (PySem.W.clsIn K C).isSome = true
  (ga : PySem.W.findIn K (.ref C) "__getattribute__" = some (some (.builtin "BaseException.__getattribute__")))
  gt : ∃ gt, PySem.W.findIn K (.ref C) "__getattr__" = some gt
  sub : PySem.W.subIn K (.ref C) (.type "BaseException") = some true
  (ca : PySem.W.findIn K (.ref C) "__class__" = some (some (.builtin "object.__class__")))
  sp : PySem.W.specialIn K (.builtin "object.__class__") "__get__" = some (some (.builtin "getset_descriptor.__get__"))
  tk : PySem.W.takesIn K (.builtin "object.__class__") = some true
  mr : PySem.W.mroIn K C (.type "object") = some true
/-- isinstance(e, c), e a kept exception -/
def rIsK (K : PySem.W.Frag) : List V → Hp → VK → Prop := fun xs H Q => ∃ (a C : Addr) (d : Addr) (fs : List (Str × V)) (c : V) (cv : Value) (b : Bool), xs = [.ref a, c] ∧ H a = some (Xc a (.ref C) (some d)) ∧ H d = some (.xd fs) ∧ IsC K C ∧ (∀ u, RelV c u → u = cv) ∧ PySem.W.kitOne K (.ref C) cv = some b ∧ Q (.bl b) H
theorem call_isK {X : Cx} : CallR X (.builtin "isinstance") (rIsK X.K) := by
  rintro pins s σ H xs us Q I r ⟨a, C, d, fs, c, cv, b, rfl, ea, ed, T, hcv, e, q⟩
  cases r with
  | cons rx rr =>
    cases rr with
    | cons rt rr =>
      cases rr
      cases rx
      obtain rfl := hcv _ rt
      obtain ⟨oe, vs, ho, hz, hd⟩ := xc_at I.hok ea
      obtain ⟨mA, hns, hr⟩ := (show ObjOk X.prog X.w H s.heap d (.xd fs) from I.hok d _ ed)
      obtain ⟨od, hod, hl⟩ := lookIn_ns hns
      obtain ⟨gt, hgt⟩ := T.gt
      have J : PySem.W.InstAt s.heap a oe C (some od) := ⟨ho, hz.1, by unfold PySem.W.notCls; rw [hd] <;> rfl, by rw [hz.2]; exact hod⟩
      exact PySem.W.kia_one (PySem.W.kitx_exc T.cl T.ga hgt T.sub T.ca T.sp T.tk T.mr) I.kIn J e (fun z => nomatch z) fun tk => ⟨.bl b, H, I.kept (t' := tk) fun _ _ z => z, rfl, q⟩
end LX

set_option maxHeartbeats 1900000
/-! Errors with one field: what is common. (printed by err.py) -/
namespace ErrB
open PySem PySem.W PySem.Calls PyProof.Rows PySem.HandSPX
theorem one_le (v : Value) : [v].length ≤ sizeLine := by rw [sizeLine_eq]; exact (by decide : 1 ≤ 16777216)
theorem ldL {M : Model} {s : Shared} {name : Str} {scope : Scope} {L a : Addr} {cd : Value} {m : Str → Option Value} {x : Str} {pos : Pos} {v : Value} {Q : Value → Shared → Prop} {A : Around} {E : Value → Shared → Prop} (hn : s.heap.Ns L m) (hv : m x = some v) (h : Q v s)
    (hk : scope.kind = .function := by rfl) (hl : (envOfC name scope L a cd).kindOf x = some .local := by rfl) (hd : (x == ("__debug__" : Str)) = false := by decide) : wpAny M A (eval (.Name x pos) (envOfC name scope L a cd)) Q E s :=
  wpAny_Name (wpAny_loadName_local hk hl hn hv h) hd
/-- behind __init__, of a new exception at x -/
structure InitEnd (f : Str) (h h' : Heap) (x C dx t1 : Addr) (v : Value) : Prop where
  old : ∀ b o, b ≠ x → h.get? b = some o → h'.get? b = some o
  at_ : h'.get? x = some { cls := .ref C, dict := some dx, data := .fields #[.ref t1, .none, .none, .none, .bool false, .none] }
  far : h.objs.size ≤ dx
  ne : dx ≠ x
  ns : h'.Ns1 dx (fun y => if y = f then some v else none)
/-- an error that is made -/
structure Made (f : Str) (h h' : Heap) (e C d : Addr) (v : Value) : Prop where
  old : ∀ b o, h.get? b = some o → h'.get? b = some o
  new : h.objs.size ≤ e
  at_ : ∃ oe vs, h'.get? e = some oe ∧ oe.cls = .ref C ∧ oe.dict = some d ∧ oe.data = .fields vs ∧ vs[1]? = some .none
  far : h.objs.size ≤ d
  ne : d ≠ e
  ns : h'.Ns1 d (fun y => if y = f then some v else none)
section
open Builtin.ObjectAttr Builtin
variable {prog : Program} {w : World} {A : Around} {R : Result → Shared → Prop} {hp : Heap} {g : Array GenState} {d : Drawn} {t : Nat} {os : OsState}
/-- self.name = v: the exception at x has no dict yet; bm: what its class has behind itself -/
theorem osa1 {K : W.Frag} {T sa ow : String} {bm : List Value} (SB : StoreFacts T bm sa ow) (hob : bm.contains (.type "object") = true) {name : Str} {tk : Tok} {v : Value} {x C : Addr} {fv : Array Value} {cd : ClassData}
    (X : K.In hp) (hx : hp.get? x = some { cls := .ref C, data := .fields fv }) (hcd : W.clsIn K C = some cd) (hm : cd.mro = .ref C :: bm) (hh : cd.hasDict = true) (ha : W.findIn K (.ref C) name = some none)
    (hq : ∀ h' tk' dx, (∀ b o, b ≠ x → hp.get? b = some o → h'.get? b = some o) → hp.objs.size ≤ dx → dx ≠ x → h'.get? x = some { cls := .ref C, dict := some dx, data := .fields fv } → h'.Ns1 dx (fun y => if y = name then some v else none) → R (.ok (.ret .none)) ⟨h', g, d, tk', os⟩) : codeAny (model prog w) A (.call (.builtin "object.__setattr__") ⟨[.ref x, .str name tk, v], []⟩) R ⟨hp, g, d, t, os⟩ := by
  have SF := F.store_object
  (have I : W.InstAt hp x { cls := .ref C, data := .fields fv } C none := ⟨hx, rfl, rfl, trivial⟩)
  have far : x ≠ hp.objs.size := Nat.ne_of_lt (Heap.lt_size hx)
  have mem : cd.mro.contains (.type "object") = true := by rw [hm, List.contains_cons, hob, Bool.or_true]
  have inst : W.Looks (model prog w) hp (isInstance (.ref x) (.type "object")) true := I.type.andThen (W.looks_mroIn X (by unfold W.mroIn; rw [hcd, Option.bind_some, if_neg (by rw [hm]; exact Bool.false_ne_true), mem]))
  have order : W.Looks (model prog w) hp (mroOf (.ref C)) cd.mro := (W.looks_clsIn X hcd).andThen .now
  have noTaker : W.Looks (model prog w) hp (storeTaker? none) none := .now
  have cls : W.Looks (model prog w) hp (classData C) cd := W.looks_clsIn X hcd
  apply codeAny_call_builtin SF.slot.plain SF.entry
  apply @W.check_slot (model prog w) _ _ ⟨hp, g, d, t, os⟩ "object.__setattr__" "object" "__setattr__" (.ref x) [.str name tk, v] [] _ SF.kind SF.split inst (SF.args (.ref x) (.str name tk) v)
  rw [W.osa_eq, refuse_eq]
  apply wpAny_bind
  apply wpAny_bind
  apply I.type.at
  apply wpAny_bind
  apply order.at
  rw [hm, refuseLoop_ref, SB.passes]
  apply wpAny_pure
  apply wpAny_bind
  apply I.type.at
  apply wpAny_bind
  apply (W.looks_findIn X ha).at
  apply wpAny_bind
  apply noTaker.at
  (show wpAny _ _ (storeInOwnDict (.ref x) (.ref C) (.str name tk) name v false) _ _ _)
  rcases cd with ⟨nm, bs, mro, ns, qn, hd, sn, sb, ab, col, del⟩
  dsimp only at hh
  subst hh
  (unfold storeInOwnDict ownDictForStores)
  repeat (first | with_reducible refine store_in_new ?_ ?_ | with_reducible refine wpAny_loadPart_at hx ?_ | with_reducible refine cls.at ?_ | wp_step)
  · exact ⟨_, #[], _, (Heap.get?_update_ne _ _ _ _ far.symm).trans (Heap.get?_push_at rfl rfl), rfl, fun e he => absurd he (by simp), fun _ => rfl⟩
  · intro h' tk' hn' hs
    (have hx₁ : (hp.push { cls := .type "dict", data := .dict #[] }).get? x = some { cls := .ref C, data := .fields fv } := Heap.get?_push_of_some _ hx)
    apply hq h' tk' hp.objs.size _ (Nat.le_refl _) far.symm _ hn'
    · exact fun b o hb ho => (hs.2 b (Nat.ne_of_lt (Heap.lt_size ho))).trans ((Heap.get?_update_ne _ _ _ _ hb).trans (Heap.get?_push_of_some _ ho))
    · exact (hs.2 x far).trans (Heap.get?_update_self _ hx₁ rfl)
end
open L2
theorem relO_one {f : Str} {v : V} {v' : Value} (r : RelV v v') (g : Str) : RelO (List.lookup g [(f, v)]) (if g = f then some v' else none) := by
  by_cases hw : g = f
  · subst hw
    have q : List.lookup g [(g, v)] = some v := by simp [List.lookup]
    rw [if_pos rfl, q]
    exact r
  · have qw : (g == f) = false := by simpa using hw
    have q2 : List.lookup g [(f, v)] = none := by simp [List.lookup, qw]
    rw [if_neg hw, q2]
    trivial
/-- raise C(e), f the field -/
def tRaiseE (C : Addr) (f : Str) (W : WX) (ta : TA) : TS := fun _ σ H => ta σ H fun vs H1 => ∃ v, vs = [v] ∧ ∀ d, H1 d = none → W (.ref C) (some d) σ (upd H1 d (.xd [(f, v)]))
theorem mkp {X : Cx} {pins : List (Addr × Obj)} {σ : L2.St} {H1 : Hp} {hp h' : Heap} {g : Array GenState} {dr : Drawn} {tk tk' : Nat} {os : OsState} {f : Str} {e C d : Addr} {v : V} {v' : Value} {Q : XK} (rv : RelV v v') (I1 : Inv X pins σ H1 ⟨hp, g, dr, tk, os⟩) (M : Made f hp h' e C d v') (R : Raises X (.ref C))
    (q1 : ∀ d, H1 d = none → Q (.ref C) (some d) (upd H1 d (.xd [(f, v)]))) : MkP X pins σ Q (.ref e) ⟨h', g, dr, tk', os⟩ := by
  rcases M.at_ with ⟨oe, fv, hoe, hc, hd, hdat, h1⟩
  rcases restrict h' fun b => decide (b ≠ e) with ⟨G', g1, g2⟩
  (have gk : ∀ b, b ≠ e → G'.get? b = h'.get? b := fun b hb => g1 b (decide_eq_true hb))
  (have ge : G'.get? e = none := g2 e (by simp))
  have keep : ∀ b o, hp.get? b = some o → G'.get? b = some o := fun b o q => (gk b (Nat.ne_of_lt (Nat.lt_of_lt_of_le (Heap.lt_size q) M.new))).trans (M.old b o q)
  have ob : ObjOk X.prog X.w (upd H1 d (.xd [(f, v)])) G' d (.xd [(f, v)]) := ⟨_, M.ns.at (fun o q => (gk d M.ne).trans q), fun f => relO_one rv f⟩
  have J : Inv X pins σ (upd H1 d (.xd [(f, v)])) ⟨G', g, dr, tk', os⟩ := I1.laid (t' := tk') keep M.far ob
  refine ⟨e, oe, fv, ⟨G', g, dr, tk', os⟩, _, .ref C, some d, rfl, J, fun b o q => ?_, ge, hoe, ⟨hc, hd⟩, hdat, h1, ?_, rfl, I1.bare, R, q1 d (I1.hok.fresh M.far)⟩
  · rcases Nat.decEq b e with hb | hb
    · (exact (gk b hb).symm.trans q)
    · (have q' : G'.get? b = some o := q)
      rw [hb, ge] at q'
      cases q'
  · rw [upd_ne (Ne.symm M.ne)]
    exact I1.hok.fresh M.new
end ErrB
namespace Err.TooLong
open PySem PySem.W PySem.Calls PyProof.Rows PySem.HandSPX
def prm (p1 p2 : Pos) : Arguments := { posonlyargs := [], args := [{ arg := "self", annotation := none, pos := p1 }, { arg := "limit", annotation := none, pos := p2 }], vararg := none, kwonlyargs := [], kw_defaults := [], kwarg := none, defaults := [] }
def body (q1 q2 q3 q4 : Pos) : List Stmt := [.Assign [.Attribute (.Name "self" q1) "limit" q2] (.Name "limit" q3) q4]
def scp : Scope := { kind := .function, names := [(PySem.Str.ofString "self", .local), (PySem.Str.ofString "limit", .local)], isGenerator := false, isCoroutine := false, more := [] }
/-- what stands in the module of the class TooLong, at C, and of its __init__, at fI -/
structure Txt (K : Frag) (C fI : Addr) : Prop where
  cls : ∃ nm q N bs sn sub ab col dd k0 k1 k2 k3 k5, K.lookup C = some (excClassObj nm q C N bs [.type "OverflowError", .type "ArithmeticError", .type "Exception", .type "BaseException", .type "object"] true sn sub ab col dd k0 k1 k2 k3 k5 "OverflowError.__new__")
  (sa : findIn K (.ref C) "__setattr__" = some (some (.builtin "object.__setattr__")))
  noN : findIn K (.ref C) "limit" = some none
  (iC : findIn K (.ref C) "__init__" = some (some (.ref fI)))
  (tC : typeIn K (.ref fI) = some (.type "function"))
  kC : keepIn K (.ref C) = true
  (exC : subIn K (.ref C) (.type "BaseException") = some true)
  (tyC : typeIn K (.ref C) = some (.type "type"))
  fn : ∃ (oc : Value) (od : Option Addr) (doc pm : Value) (an : Option Addr) (cdv ct : Value) (osl : Array (Option Value)) (p1 p2 q1 q2 q3 q4 : Pos), K.lookup fI = some ⟨oc, od, .func (fnOf "__init__" "TooLong.__init__" (prm p1 p2) (body q1 q2 q3 q4) scp .none .none doc pm an cdv ct), osl⟩ ∧ codeIn K cdv "TooLong.__init__" = true
section
variable {prog : Program} {w : World} {A : Around} {E : Value → Shared → Prop} {R : Result → Shared → Prop} {s : Shared} {K : Frag} {C fI : Addr}
theorem init_ (T : Txt K C fI) {x t0 : Addr} {v : Value} (X : K.In s.heap) (hlim : s.heap.NoLimit) (hx : s.heap.get? x = some (excO C t0)) (hroom : A.depth < recursionLimit)
    (hq : ∀ h' tk dx, ErrB.InitEnd "limit" s.heap h' x C dx t0 v → R (.ok (.ret .none)) { s with heap := h', toks := tk }) : codeAny (model prog w) A (.call (.ref fI) ⟨[.ref x, v], []⟩) R s := by
  rcases T.fn with ⟨oc, od, doc, pm, an, cdv, ct, osl, p1, p2, q1, q2, q3, q4, ho, hcd⟩
  rcases T.cls with ⟨nm, q, N, bs, sn, sub, ab, col, dd, k0, k1, k2, k3, k5, hC⟩
  have hcl : clsIn K C = some { name := nm, bases := bs, mro := .ref C :: [.type "OverflowError", .type "ArithmeticError", .type "Exception", .type "BaseException", .type "object"], ns := N, qualname := q, hasDict := true, slotNames := sn, subclasses := sub, abstract := ab, collection := col, hasDel := false } := by unfold clsIn; rw [hC] <;> rfl
  refine Att.call_fn (binds := [("self", .ref x), ("limit", v)]) X hlim ho hcd hroom (BindsTo.of_eq (by first | rfl | with_unfolding_all rfl)) (by first | rfl | decide | with_unfolding_all rfl) (fun s₁ IC => ?_) rfl rfl rfl
  rcases IC.toInCall.same with ⟨h₁, tk₁, rfl⟩
  have old : ∀ b o, s.heap.get? b = some o → h₁.get? b = some o := IC.toInCall.keep
  have hn := IC.toInCall.ns
  (show wpAny _ _ (execs _ _) _ _ _)
  (refine wpAny_execs_cons (plainObj_wpAny_Assign_Attribute ?_))
  refine ErrB.ldL (v := v) hn (by first | rfl | with_unfolding_all rfl | kernel_rfl) (ErrB.ldL (v := .ref x) hn (by first | rfl | with_unfolding_all rfl | kernel_rfl) ?_)
  refine set_plain (X.keeps old) (ox := excO C t0) (od := none) ⟨old _ _ hx, rfl, rfl, trivial⟩ T.sa ?_
  refine ErrB.osa1 F.store_OverflowError (by decide +kernel) (X.keeps old) (old _ _ hx) hcl rfl rfl T.noN (fun h₃ tk₃ dx k₃ dn dne hx₃ hn₃ => ?_)
  (show wpAny _ _ (execs _ _) _ _ _)
  (have z : s.heap.objs.size < h₁.objs.size := hn.lt)
  exact wpAny_execs_nil (hq h₃ tk₃ dx ⟨fun b o hb e => k₃ b o hb (old b o e), hx₃, Nat.le_of_lt (Nat.lt_of_lt_of_le z dn), dne, hn₃⟩)
theorem made (T : Txt K C fI) {v : Value} (X : K.In s.heap) (hlim : s.heap.NoLimit) (hroom : A.depth + 1 < recursionLimit)
    (hq : ∀ h' tk e d, ErrB.Made "limit" s.heap h' e C d v → R (.ok (.ret (.ref e))) { s with heap := h', toks := tk }) : codeAny (model prog w) A (.call (.ref C) ⟨[v], []⟩) R s := by
  rcases T.cls with ⟨nm, q, N, bs, sn, sub, ab, col, dd, k0, k1, k2, k3, k5, hC⟩
  rcases s with ⟨hp, g, dr, tk, os⟩
  have old : ∀ b o, hp.get? b = some o → ((hp.push (kdv_tup [v])).push (excO C hp.objs.size)).get? b = some o := fun b o e => Heap.get?_push_of_some _ (Heap.get?_push_of_some _ e)
  have at_ : ((hp.push (kdv_tup [v])).push (excO C hp.objs.size)).get? (hp.objs.size + 1) = some (excO C hp.objs.size) := by heap_get
  apply call_own F.excBase_OverflowError (fun X => rfl) (X _ _ hC) (looks_findIn X T.iC) (fun self => bind_fn X self T.tC) (ErrB.one_le v)
  apply init_ (s := ⟨(hp.push (kdv_tup [v])).push (excO C hp.objs.size), g, dr, tk, os⟩) T (X.keeps old) (hlim.keeps old) at_ (show A.depth + 1 < recursionLimit from hroom)
  rintro h' tk' dx ⟨k', hx, dn, dne, hns⟩
  have keep : ∀ b o, hp.get? b = some o → h'.get? b = some o := fun b o e => k' b o (Nat.ne_of_lt (Nat.lt_succ_of_lt (Heap.lt_size e))) (old b o e)
  have z : (hp.objs.size + 1 + 1 ≤ dx) := by
    have q := dn
    first
      | exact q
      | (rw [Heap.size_push, Heap.size_push] at q; exact q)
      | (simpa only [Heap.size_push] using q)
  exact ⟨rfl, hq h' tk' (hp.objs.size + 1) dx ⟨keep, Nat.le_succ _, ⟨_, _, hx, rfl, rfl, rfl, rfl⟩, Nat.le_trans (Nat.le_trans (Nat.le_succ _) (Nat.le_succ _)) z, dne, hns⟩⟩
end
open L2
/-- raise TooLong(e) -/
theorem ps_raise {X : Cx} {C fI : Addr} {a : Expr} {ta : TA} {W : WX} {p pos pos2 : Pos} {k : Nat} (hc : X.calm = true) (T : Txt X.K C fI) (gC : X.mg "TooLong" = some (.ref C)) (hr : Room k X.A) (tk : Takes X W) (ha : PA X [a] ta) (hg : Gl X "TooLong" := by rfl)
    (he : starEach (a :: []) X.env = (false, eval a X.env) :: starEach [] X.env := by rfl) (hpl : (backTo pos (starEach [] X.env)).any (·.1) = false := by rfl) : PS X (.Raise (some (.Call (.Name "TooLong" p) [a] [] pos)) none pos2) (ErrB.tRaiseE C "limit" W ta) := by
  refine L2.ps_raise (t := fun σ H Q => ta σ H fun vs H1 => ∃ v, vs = [v] ∧ ∀ d, H1 d = none → Q (.ref C) (some d) (upd H1 d (.xd [("limit", v)]))) hc tk ?_
  intro pins s σ H Q I h
  apply wpAny_Call_Name_kw (ld_glob I hg gC ?_)
  apply PySem.W.callWith_K (h₀ := X.base) I.ok.mod.kin T.kC (thn (ha.run pos pins s σ H _ I h) ?_) he hpl
  rintro us s1 ⟨vs, H1, I1, r1, v, rfl, q1⟩
  refine ⟨I1.kIn, ?_⟩
  cases r1 with
  | cons rv rn =>
    rename_i v' us'
    cases rn
    (show wpAny _ _ (call (.ref C) [v']) _ _ _)
    have hlim := I1.nolimit
    rcases s1 with ⟨hp, g, dr, tk, os⟩
    apply wpAny_call
    apply made T I1.kIn hlim (by have := hr.dp; omega)
    exact fun h' tk' e d M => ErrB.mkp rv I1 M (raises_own T.exC T.tyC) q1
end Err.TooLong

set_option maxHeartbeats 1900000
/-! DL1: deep data, the store, worlds. -/
namespace DL
open PySem L2

abbrev Frag := PySem.W.Frag
/-- deep data: what a value stands for; loc: a mutable thing of the store; raw: any other object by its address -/
inductive D where
  | non | bl (b : Bool) | int (i : Int) | str (x : Str) | ty (n : String)
  | lst (xs : List D) | tup (xs : List D) | klst (xs : List D)
  | ins (C : Addr) (fs : List (Str × D))
  | dK (kvs : List (Key × D)) | dT (kvs : List (List Key × D))
  | loc (a : Addr) | raw (a : Addr)
  | exc (C : Addr) (fs : List (Str × D))
  | key (ks : List Key)

/-- G' knows all that G knows -/
def Sub (G G' : Hp) : Prop := ∀ a o, G a = some o → G' a = some o
theorem Sub.refl (G : Hp) : Sub G G := fun _ _ h => h
theorem Sub.trans {G G1 G2 : Hp} (a : Sub G G1) (b : Sub G1 G2) : Sub G G2 := fun x o h => b x o (a x o h)
theorem Sub.free {G G' : Hp} (e : Sub G G') {a : Addr} (h : G' a = none) : G a = none := by
  cases q : G a with
  | none => rfl
  | some o => rw [e a o q] at h; cases h
theorem Sub.new {G : Hp} {p : Addr} {o : HO} (h : G p = none) : Sub G (upd G p o) := fun a u e => by
  rw [upd_ne (ne_of_none e h)]; exact e
theorem Sub.rd {G G' : Hp} {a : Addr} {u : HO} (e : Sub G G') (h : Rd G a u) : Rd G' a u := by
  rcases h with h | ⟨o, h⟩
  · exact .inl (e a _ h)
  · exact .inr ⟨o, e a _ h⟩
theorem Sub.l {K : Frag} {G G' : Hp} {a : Addr} {xs : List V} (e : Sub G G') (h : SqL K G a xs) : SqL K G' a xs := by
  rcases h with h | h
  · exact .inl (e.rd h)
  · exact .inr h
theorem Sub.t {K : Frag} {G G' : Hp} {a : Addr} {xs : List V} (e : Sub G G') (h : SqT K G a xs) : SqT K G' a xs := by
  rcases h with h | h
  · exact .inl (e.rd h)
  · exact .inr h

mutual
inductive Rep (K : Frag) (G : Hp) : V → D → Prop
  | non : Rep K G .non .non
  | bl (b : Bool) : Rep K G (.bl b) (.bl b)
  | int (i : Int) : Rep K G (.int i) (.int i)
  | str (x : Str) : Rep K G (.str x) (.str x)
  | ty (n : String) : Rep K G (.ty n) (.ty n)
  | loc (a : Addr) : Rep K G (.ref a) (.loc a)
  | raw (a : Addr) : Rep K G (.ref a) (.raw a)
  | lst {a : Addr} {vs : List V} {ds : List D} : G a = some (.lst vs) → Reps K G vs ds → Rep K G (.ref a) (.lst ds)
  | klst {a : Addr} {vs : List V} {ds : List D} : SqL K G a vs → Reps K G vs ds → Rep K G (.ref a) (.klst ds)
  | tup {a : Addr} {vs : List V} {ds : List D} : SqT K G a vs → Reps K G vs ds → Rep K G (.ref a) (.tup ds)
  | ins {a C dx : Addr} {fs : List (Str × V)} {gs : List (Str × D)} : G a = some (.ins C dx fs) → RepF K G fs gs → Rep K G (.ref a) (.ins C gs)
  | dK {a : Addr} {fs : List (Key × V)} {gs : List (Key × D)} : G a = some (.dK fs) → RepK K G fs gs → Rep K G (.ref a) (.dK gs)
  | dT {a : Addr} {fs : List (List Key × V)} {gs : List (List Key × D)} : G a = some (.dT fs) → RepT K G fs gs → Rep K G (.ref a) (.dT gs)
  | exc {a C d : Addr} {fs : List (Str × V)} {gs : List (Str × D)} : G a = some (LX.Xc a (.ref C) (some d)) → G d = some (.xd fs) → RepF K G fs gs → Rep K G (.ref a) (.exc C gs)
  | key {a : Addr} {ks : List Key} : G a = some (.tup (ks.map L2.kV)) → Rep K G (.ref a) (.key ks)
inductive Reps (K : Frag) (G : Hp) : List V → List D → Prop
  | nil : Reps K G [] []
  | cons {v : V} {d : D} {vs : List V} {ds : List D} : Rep K G v d → Reps K G vs ds → Reps K G (v :: vs) (d :: ds)
inductive RepF (K : Frag) (G : Hp) : List (Str × V) → List (Str × D) → Prop
  | nil : RepF K G [] []
  | cons {f : Str} {v : V} {d : D} {fs : List (Str × V)} {gs : List (Str × D)} : Rep K G v d → RepF K G fs gs → RepF K G ((f, v) :: fs) ((f, d) :: gs)
inductive RepK (K : Frag) (G : Hp) : List (Key × V) → List (Key × D) → Prop
  | nil : RepK K G [] []
  | cons {f : Key} {v : V} {d : D} {fs : List (Key × V)} {gs : List (Key × D)} : Rep K G v d → RepK K G fs gs → RepK K G ((f, v) :: fs) ((f, d) :: gs)
inductive RepT (K : Frag) (G : Hp) : List (List Key × V) → List (List Key × D) → Prop
  | nil : RepT K G [] []
  | cons {f : List Key} {v : V} {d : D} {fs : List (List Key × V)} {gs : List (List Key × D)} : Rep K G v d → RepT K G fs gs → RepT K G ((f, v) :: fs) ((f, d) :: gs)
end

section
variable {K : Frag} {G G' : Hp}
mutual
theorem Rep.mono (e : Sub G G') : ∀ {v : V} {d : D}, Rep K G v d → Rep K G' v d
  | _, _, .non => .non
  | _, _, .bl b => .bl b
  | _, _, .int i => .int i
  | _, _, .str x => .str x
  | _, _, .ty n => .ty n
  | _, _, .loc a => .loc a
  | _, _, .raw a => .raw a
  | _, _, .lst h r => .lst (e _ _ h) (Reps.mono e r)
  | _, _, .klst h r => .klst (e.l h) (Reps.mono e r)
  | _, _, .tup h r => .tup (e.t h) (Reps.mono e r)
  | _, _, .ins h r => .ins (e _ _ h) (RepF.mono e r)
  | _, _, .dK h r => .dK (e _ _ h) (RepK.mono e r)
  | _, _, .dT h r => .dT (e _ _ h) (RepT.mono e r)
  | _, _, .exc h h2 r => .exc (e _ _ h) (e _ _ h2) (RepF.mono e r)
  | _, _, .key h => .key (e _ _ h)
theorem Reps.mono (e : Sub G G') : ∀ {vs : List V} {ds : List D}, Reps K G vs ds → Reps K G' vs ds
  | _, _, .nil => .nil
  | _, _, .cons r rs => .cons (Rep.mono e r) (Reps.mono e rs)
theorem RepF.mono (e : Sub G G') : ∀ {vs : List (Str × V)} {ds : List (Str × D)}, RepF K G vs ds → RepF K G' vs ds
  | _, _, .nil => .nil
  | _, _, .cons r rs => .cons (Rep.mono e r) (RepF.mono e rs)
theorem RepK.mono (e : Sub G G') : ∀ {vs : List (Key × V)} {ds : List (Key × D)}, RepK K G vs ds → RepK K G' vs ds
  | _, _, .nil => .nil
  | _, _, .cons r rs => .cons (Rep.mono e r) (RepK.mono e rs)
theorem RepT.mono (e : Sub G G') : ∀ {vs : List (List Key × V)} {ds : List (List Key × D)}, RepT K G vs ds → RepT K G' vs ds
  | _, _, .nil => .nil
  | _, _, .cons r rs => .cons (Rep.mono e r) (RepT.mono e rs)
end
theorem Reps.length : ∀ {vs : List V} {ds : List D}, Reps K G vs ds → vs.length = ds.length
  | _, _, .nil => rfl
  | _, _, .cons _ rs => by rw [List.length_cons, List.length_cons, Reps.length rs]
theorem Reps.getD : ∀ {vs : List V} {ds : List D} {i : Nat} {d : D}, Reps K G vs ds → ds[i]? = some d → ∃ v, vs[i]? = some v ∧ Rep K G v d
  | _, _, _, _, .nil, e => (by simp at e)
  | _, _, 0, _, .cons r _, e => by (skip); simp at e; subst e; exact ⟨_, rfl, r⟩
  | _, _, i + 1, d, .cons _ t, e => by
    obtain ⟨u, h1, h2⟩ := Reps.getD (i := i) (d := d) t (by simpa using e)
    (exact ⟨u, by simpa using h1, h2⟩)
theorem Reps.getV : ∀ {vs : List V} {ds : List D} {i : Nat} {v : V}, Reps K G vs ds → vs[i]? = some v → ∃ d, ds[i]? = some d ∧ Rep K G v d
  | _, _, _, _, .nil, e => (by simp at e)
  | _, _, 0, _, .cons r _, e => by (skip); simp at e; subst e; exact ⟨_, rfl, r⟩
  | _, _, i + 1, d, .cons _ t, e => by
    obtain ⟨u, h1, h2⟩ := Reps.getV (i := i) (v := d) t (by simpa using e)
    (exact ⟨u, by simpa using h1, h2⟩)
theorem Reps.append : ∀ {vs ws : List V} {ds es : List D}, Reps K G vs ds → Reps K G ws es → Reps K G (vs ++ ws) (ds ++ es)
  | _, _, _, _, .nil, s => s
  | _, _, _, _, .cons r t, s => .cons r (Reps.append t s)
theorem Reps.take : ∀ {vs : List V} {ds : List D} (n : Nat), Reps K G vs ds → Reps K G (vs.take n) (ds.take n)
  | _, _, 0, _ => .nil
  | _, _, _ + 1, .nil => .nil
  | _, _, n + 1, .cons r t => .cons r (Reps.take n t)
theorem Reps.drop : ∀ {vs : List V} {ds : List D} (n : Nat), Reps K G vs ds → Reps K G (vs.drop n) (ds.drop n)
  | _, _, 0, r => r
  | _, _, _ + 1, .nil => .nil
  | _, _, n + 1, .cons _ t => Reps.drop n t
theorem Reps.set {v : V} {d : D} (r : Rep K G v d) : ∀ {vs : List V} {ds : List D} (i : Nat), Reps K G vs ds → Reps K G (vs.set i v) (ds.set i d)
  | _, _, _, .nil => .nil
  | _, _, 0, .cons _ t => (.cons r t)
  | _, _, i + 1, .cons q t => .cons q (Reps.set r i t)
theorem Reps.reverse {vs : List V} {ds : List D} (r : Reps K G vs ds) : Reps K G vs.reverse ds.reverse := by induction vs generalizing ds with
  | nil => cases r; exact .nil
  | cons v vs ih =>
    cases r with
    | cons q t => rw [List.reverse_cons, List.reverse_cons]; exact (ih t).append (.cons q .nil)
theorem Reps.dropLast {vs : List V} {ds : List D} (r : Reps K G vs ds) : Reps K G vs.dropLast ds.dropLast := by
  rw [List.dropLast_eq_take, List.dropLast_eq_take, r.length]; exact r.take _
theorem Reps.eraseIdx : ∀ {vs : List V} {ds : List D} (n : Nat), Reps K G vs ds → Reps K G (vs.eraseIdx n) (ds.eraseIdx n)
  | _, _, _, .nil => .nil
  | _, _, 0, .cons _ t => t
  | _, _, n + 1, .cons q t => .cons q (Reps.eraseIdx n t)
theorem Reps.rep {vs : List V} {ds : List D} (r : Reps K G vs ds) : ∀ n : Nat, Reps K G (List.replicate n vs).flatten (List.replicate n ds).flatten
  | 0 => .nil
  | n + 1 => by rw [List.replicate_succ, List.replicate_succ, List.flatten_cons, List.flatten_cons]; exact r.append (Reps.rep r n)
theorem RepF.lookup {fs : List (Str × V)} {gs : List (Str × D)} (r : RepF K G fs gs) (f : Str) : (∃ v d, fs.lookup f = some v ∧ gs.lookup f = some d ∧ Rep K G v d) ∨ (fs.lookup f = none ∧ gs.lookup f = none) := by
  induction fs generalizing gs with
  | nil => cases r; exact .inr ⟨rfl, rfl⟩
  | cons p fs ih =>
    cases r with
    | cons q t =>
      rename_i g v d gs
      by_cases e : (f == g) = true
      · exact .inl ⟨v, d, by rw [List.lookup_cons, e], by rw [List.lookup_cons, e], q⟩
      · have e' : (f == g) = false := by simpa using e
        rw [List.lookup_cons, List.lookup_cons, e']
        exact ih t
theorem RepF.length {fs : List (Str × V)} {gs : List (Str × D)} (r : RepF K G fs gs) : fs.length = gs.length := by
  induction fs generalizing gs with
  | nil => cases r; rfl
  | cons p fs ih => cases r with | cons q t => rw [List.length_cons, List.length_cons, ih t]
def putD (f : Str) (d : D) : List (Str × D) → List (Str × D)
  | [] => [(f, d)]
  | (g, x) :: r => if g = f then (g, d) :: r else (g, x) :: putD f d r
theorem RepF.put {fs : List (Str × V)} {gs : List (Str × D)} (r : RepF K G fs gs) (f : Str) {v : V} {d : D} (q : Rep K G v d) : RepF K G (putF f v fs) (putD f d gs) := by
  induction fs generalizing gs with
  | nil => cases r; exact .cons q .nil
  | cons p fs ih =>
    cases r with
    | cons q' t =>
      rename_i g v' d' gs
      unfold putF putD
      by_cases e : g = f
      · rw [if_pos e, if_pos e]; exact .cons q t
      · rw [if_neg e, if_neg e]; exact .cons q' (ih t)
theorem lookup_putD (f g : Str) (d : D) : ∀ fs : List (Str × D), (putD f d fs).lookup g = if g = f then some d else fs.lookup g
  | [] => by
    unfold putD
    rw [List.lookup_cons]
    by_cases e : g = f
    · subst e; simp
    · have e' : (g == f) = false := by simpa using e
      rw [e', if_neg e]
  | (h, x) :: r => by
    unfold putD
    by_cases e : h = f
    · rw [if_pos e, List.lookup_cons, List.lookup_cons]
      subst e
      by_cases e2 : g = h
      · subst e2; simp
      · have e' : (g == h) = false := by simpa using e2
        rw [e', if_neg e2]
    · rw [if_neg e, List.lookup_cons, List.lookup_cons]
      by_cases e2 : (g == h) = true
      · rw [e2]
        have e3 : g = h := by simpa using e2
        subst e3
        rw [if_neg e]
      · have e' : (g == h) = false := by simpa using e2
        rw [e']
        exact lookup_putD f g d r
end

/-! ### the store -/
inductive M where
  | lst (xs : List D)
  | dK (kvs : List (Key × D)) | dT (kvs : List (List Key × D))
  | ins (C : Addr) (fs : List (Str × D))
abbrev Store := Addr → Option M
def Store.set (S : Store) (a : Addr) (m : M) : Store := fun b => if b = a then some m else S b
def Store.del (S : Store) (a : Addr) : Store := fun b => if b = a then none else S b
theorem Store.set_same {S : Store} {a : Addr} {m : M} : S.set a m a = some m := by unfold Store.set; rw [if_pos rfl]
theorem Store.set_ne {S : Store} {a b : Addr} {m : M} (h : b ≠ a) : S.set a m b = S b := by unfold Store.set; rw [if_neg h]
theorem Store.del_same {S : Store} {a : Addr} : S.del a a = none := by unfold Store.del; rw [if_pos rfl]
theorem Store.del_ne {S : Store} {a b : Addr} (h : b ≠ a) : S.del a b = S b := by unfold Store.del; rw [if_neg h]
theorem Store.set_set {S : Store} {a : Addr} {m m' : M} : (S.set a m).set a m' = S.set a m' := by
  funext b; unfold Store.set; split <;> rfl
theorem Store.del_set {S : Store} {a : Addr} {m : M} (h : S a = none) : (S.set a m).del a = S := by
  funext b; unfold Store.del Store.set
  by_cases e : b = a
  · rw [if_pos e, e, h]
  · rw [if_neg e, if_neg e]
def RepM (K : Frag) (G : Hp) : HO → M → Prop
  | .lst vs, .lst ds => Reps K G vs ds
  | .dK vs, .dK ds => RepK K G vs ds
  | .dT vs, .dT ds => RepT K G vs ds
  | .ins C _ vs, .ins C' ds => C = C' ∧ RepF K G vs ds
  | _, _ => False
theorem RepM.mono {K : Frag} {G G' : Hp} (e : Sub G G') : ∀ {o : HO} {m : M}, RepM K G o m → RepM K G' o m := by
  intro o m h
  cases o <;> cases m <;> first | exact h.elim | skip
  · exact Reps.mono e h
  · exact RepK.mono e h
  · exact RepT.mono e h
  · exact ⟨h.1, RepF.mono e h.2⟩

/-! ### the tables of code objects of the defs that make lambdas -/
/-- the laws' defs that make lambdas -/
def lamNames : List Str := ["_law_long_right", "law", "_law_odd_right", "_law_others_unknown", "_law_barred_right", "_law_bounds_right", "_law_same", "_law_undone_all", "_law_block", "_law_undone", "_law_edited", "_law_moved", "_law_refused", "_law_called", "_law_refused_right", "_law_almanac_named", "_law_done", "_law_first_broken", "_law_beside", "_law_promised", "_law_said", "_law_late_right", "_law_asked"]
def lamQual (n : Str) : Str := n ++ ".<locals>." ++ "<lambda>"
def tabsOf (K : Frag) : List (Addr × Str) := lamNames.filterMap fun n => (PySem.W.tabIn K n).map fun cp => (cp.2, lamQual n)
/-! ### worlds: G what never changes, H all that is tracked, S the mutable things -/
structure Wd (K : Frag) (G H : Hp) (S : Store) : Prop where
  sub : Sub G H
  own : ∀ a m, S a = some m → G a = none ∧ ∃ o, H a = some o ∧ RepM K G o m
  tabs : ∀ p ∈ tabsOf K, LamX.TabS H p.1 p.2 ∧ G p.1 = none ∧ S p.1 = none
  nt : ∀ a ps, G a ≠ some (.tbl ps)
/-- nothing of ours is at a -/
def Nw (H : Hp) (a : Addr) : Prop := ∀ o, H a = some o → ∃ ps, o = .tbl ps
theorem Nw.of {H : Hp} {a : Addr} (h : H a = none) : Nw H a := fun o e => by rw [h] at e; cases e
theorem Nw.no {H : Hp} {a : Addr} {o : HO} (h : Nw H a) (e : H a = some o) (n : ∀ ps, o ≠ .tbl ps) : False := let ⟨ps, z⟩ := h o e; n ps z
theorem Nw.up {H : Hp} {a p : Addr} {o : HO} (h : Nw (upd H p o) a) (hp : H p = none) : Nw H a := fun u e => h u (by rw [upd_ne (ne_of_none e hp)]; exact e)
structure Ext (G H : Hp) (S : Store) (G' H' : Hp) (S' : Store) : Prop where
  gsub : Sub G G'
  gnew : ∀ a o, G' a = some o → G a = some o ∨ Nw H a ∨ ∃ vs, o = .tup vs
  keep : ∀ a o, H a = some o → S a = none → (∀ ps, o ≠ .tbl ps) → H' a = some o
  there : ∀ a, Nw H' a → Nw H a
  snew : ∀ a m, S' a = some m → S a ≠ none ∨ Nw H a
  sold : ∀ a, S' a = none → S a = none
section
variable {K : Frag} {G H G1 H1 G2 H2 : Hp} {S S1 S2 : Store} {a p : Addr} {o : HO} {m : M}
theorem Ext.refl (w : Wd K G H S) : Ext G H S G H S where
  gsub := .refl G
  gnew := fun _ _ h => .inl h
  keep := fun _ _ h _ _ => h
  there := fun _ h => h
  snew := fun a m h => .inl (by rw [h]; exact fun z => by cases z)
  sold := fun _ h => h
theorem Ext.trans (x : Ext G H S G1 H1 S1) (y : Ext G1 H1 S1 G2 H2 S2) : Ext G H S G2 H2 S2 where
  gsub := x.gsub.trans y.gsub
  gnew := fun a o h => by
    rcases y.gnew a o h with h | h | h
    · exact x.gnew a o h
    · exact .inr (.inl (x.there a h))
    · exact .inr (.inr h)
  keep := fun a o h hs ht => y.keep a o (x.keep a o h hs ht) (by
    cases q : S1 a with
    | none => rfl
    | some m =>
      rcases x.snew a m q with z | z
      · exact absurd hs z
      · exact (z.no h ht).elim) ht
  there := fun a h => x.there a (y.there a h)
  snew := fun a m h => by
    rcases y.snew a m h with z | z
    · cases q : S1 a with
      | none => exact absurd q z
      | some m' => exact x.snew a m' q
    · exact .inr (x.there a z)
  sold := fun a h => x.sold a (y.sold a h)
theorem Wd.free (w : Wd K G H S) (h : H p = none) : G p = none ∧ S p = none := by
  refine ⟨w.sub.free h, ?_⟩
  cases q : S p with
  | none => rfl
  | some m =>
    obtain ⟨_, o, e, _⟩ := w.own p m q
    rw [h] at e; cases e
theorem tabS_new {P : Addr} {q : Str} (t : LamX.TabS H P q) (h : H p = none) : LamX.TabS (upd H p o) P q := t.ext fun b u e => by rw [upd_ne (ne_of_none e h)]; exact e
theorem tabS_put {P : Addr} {q : Str} {o' : HO} (t : LamX.TabS H P q) (h : H p = some o) (n1 : ∀ ps, o ≠ .tbl ps) (n2 : ∀ r, o ≠ LamX.CodeO p r) : LamX.TabS (upd H p o') P q := by
  obtain ⟨ps, e1, e2, e3⟩ := t
  refine ⟨ps, by rw [upd_ne (fun z => by subst z; rw [h] at e1; exact n1 ps (Option.some.inj e1))]; exact e1, e2, fun pos cv hc => ?_⟩
  obtain ⟨c, f1, f2⟩ := e3 pos cv hc
  exact ⟨c, f1, by rw [upd_ne (fun z => by subst z; rw [h] at f2; exact n2 q (Option.some.inj f2))]; exact f2⟩
theorem RepM.notbl : ∀ {o : HO} {m : M}, RepM K G o m → ∀ ps, o ≠ .tbl ps := by
  intro o m r ps z; subst z; cases m <;> exact r
theorem RepM.nocode : ∀ {o : HO} {m : M}, RepM K G o m → ∀ b r, o ≠ LamX.CodeO b r := by
  intro o m r b q z; subst z; cases m <;> exact r
theorem nt_upd {p : Addr} {o : HO} (w : ∀ a ps, G a ≠ some (.tbl ps)) (n : ∀ ps, o ≠ .tbl ps) : ∀ a ps, upd G p o a ≠ some (.tbl ps) := fun a ps e => by
  by_cases hb : a = p
  · subst hb; rw [upd_same] at e; exact n ps (Option.some.inj e)
  · rw [upd_ne hb] at e; exact w a ps e
/-- a new thing that never changes -/
theorem Wd.imm (w : Wd K G H S) (h : H p = none) (hn : ∀ ps, o ≠ .tbl ps := by intro _ z; first | cases z | (unfold LX.Xc at z; cases z)) : Wd K (upd G p o) (upd H p o) S where
  sub := fun b u e => by
    by_cases hb : b = p
    · subst hb; rw [upd_same] at e ⊢; exact e
    · rw [upd_ne hb] at e ⊢; exact w.sub b u e
  own := fun b m e => by
    have hb : b ≠ p := fun z => by subst z; rw [(w.free h).2] at e; cases e
    obtain ⟨e1, u, e2, r⟩ := w.own b m e
    exact ⟨by rw [upd_ne hb]; exact e1, u, by rw [upd_ne hb]; exact e2, r.mono (Sub.new (w.free h).1)⟩
  tabs := fun q hq => by
    obtain ⟨t, g, s⟩ := w.tabs q hq
    obtain ⟨ps, e1, _⟩ := id t
    exact ⟨tabS_new t h, by rw [upd_ne (ne_of_none e1 h)]; exact g, s⟩
  nt := nt_upd w.nt hn
theorem Ext.imm (w : Wd K G H S) (h : H p = none) : Ext G H S (upd G p o) (upd H p o) S where
  gsub := Sub.new (w.free h).1
  gnew := fun b u e => by
    by_cases hb : b = p
    · subst hb; exact .inr (.inl (.of h))
    · rw [upd_ne hb] at e; exact .inl e
  keep := fun b u e _ _ => by rw [upd_ne (ne_of_none e h)]; exact e
  there := fun b e => e.up h
  snew := fun b m e => .inl (by rw [e]; exact fun z => by cases z)
  sold := fun _ e => e
/-- a new mutable thing -/
theorem Wd.mut (w : Wd K G H S) (h : H p = none) (r : RepM K G o m) : Wd K G (upd H p o) (S.set p m) where
  sub := w.sub.trans (Sub.new h)
  own := fun b m' e => by
    by_cases hb : b = p
    · subst hb
      rw [Store.set_same] at e; cases e
      exact ⟨(w.free h).1, o, upd_same, r⟩
    · rw [Store.set_ne hb] at e
      obtain ⟨e1, u, e2, r'⟩ := w.own b m' e
      exact ⟨e1, u, by rw [upd_ne hb]; exact e2, r'⟩
  tabs := fun q hq => by
    obtain ⟨t, g, s⟩ := w.tabs q hq
    obtain ⟨ps, e1, _⟩ := id t
    exact ⟨tabS_new t h, g, by rw [Store.set_ne (ne_of_none e1 h)]; exact s⟩
  nt := w.nt
theorem Ext.mut (w : Wd K G H S) (h : H p = none) : Ext G H S G (upd H p o) (S.set p m) where
  gsub := .refl G
  gnew := fun _ _ e => .inl e
  keep := fun b u e _ _ => by rw [upd_ne (ne_of_none e h)]; exact e
  there := fun b e => e.up h
  snew := fun b m' e => by
    by_cases hb : b = p
    · subst hb; exact .inr (.of h)
    · rw [Store.set_ne hb] at e; exact .inl (by rw [e]; exact fun z => by cases z)
  sold := fun b e => by
    by_cases hb : b = p
    · subst hb; rw [Store.set_same] at e; cases e
    · rw [Store.set_ne hb] at e; exact e
/-- a mutable thing written -/
theorem Wd.put {m' : M} {o' : HO} (w : Wd K G H S) (h : S p = some m) (r : RepM K G o' m') : Wd K G (upd H p o') (S.set p m') where
  sub := fun b u e => by
    have hb : b ≠ p := fun z => by subst z; rw [(w.own b m h).1] at e; cases e
    rw [upd_ne hb]; exact w.sub b u e
  own := fun b m'' e => by
    by_cases hb : b = p
    · subst hb
      rw [Store.set_same] at e; cases e
      exact ⟨(w.own b m h).1, o', upd_same, r⟩
    · rw [Store.set_ne hb] at e
      obtain ⟨e1, u, e2, r'⟩ := w.own b m'' e
      exact ⟨e1, u, by rw [upd_ne hb]; exact e2, r'⟩
  tabs := fun q hq => by
    obtain ⟨t, g, s⟩ := w.tabs q hq
    obtain ⟨_, u, e2, r'⟩ := w.own p m h
    exact ⟨tabS_put t e2 r'.notbl fun r => r'.nocode p r, g, by rw [Store.set_ne (fun z => by rw [z, h] at s; cases s)]; exact s⟩
  nt := w.nt
theorem Ext.put {m' : M} {o' : HO} (w : Wd K G H S) (h : S p = some m) (hn : ∀ ps, o' ≠ .tbl ps := by intro _ z; cases z) : Ext G H S G (upd H p o') (S.set p m') where
  gsub := .refl G
  gnew := fun _ _ e => .inl e
  keep := fun b u e hs _ => by
    have hb : b ≠ p := fun z => by subst z; rw [h] at hs; cases hs
    rw [upd_ne hb]; exact e
  there := fun b e => by
    by_cases hb : b = p
    · subst hb; exact (e.no upd_same hn).elim
    · exact fun u q => e u (by rw [upd_ne hb]; exact q)
  snew := fun b m'' e => by
    by_cases hb : b = p
    · subst hb; exact .inl (by rw [h]; exact fun z => by cases z)
    · rw [Store.set_ne hb] at e; exact .inl (by rw [e]; exact fun z => by cases z)
  sold := fun b e => by
    by_cases hb : b = p
    · subst hb; rw [Store.set_same] at e; cases e
    · rw [Store.set_ne hb] at e; exact e
/-- a mutable thing is from now on one that never changes -/
theorem Wd.frz (w : Wd K G H S) (h : S p = some m) (ho : H p = some o) : Wd K (upd G p o) H (S.del p) where
  sub := fun b u e => by
    by_cases hb : b = p
    · subst hb; rw [upd_same] at e; rw [← e]; exact ho
    · rw [upd_ne hb] at e; exact w.sub b u e
  own := fun b m' e => by
    have hb : b ≠ p := fun z => by subst z; rw [Store.del_same] at e; cases e
    rw [Store.del_ne hb] at e
    obtain ⟨e1, u, e2, r⟩ := w.own b m' e
    exact ⟨by rw [upd_ne hb]; exact e1, u, e2, r.mono (Sub.new (w.own p m h).1)⟩
  tabs := fun q hq => by
    obtain ⟨t, g, s⟩ := w.tabs q hq
    have ne : q.1 ≠ p := fun z => by rw [z, h] at s; cases s
    exact ⟨t, by rw [upd_ne ne]; exact g, by rw [Store.del_ne ne]; exact s⟩
  nt := by
    obtain ⟨_, u, e2, r'⟩ := w.own p m h
    rw [ho] at e2
    cases e2
    exact nt_upd w.nt r'.notbl
theorem Ext.frz (x : Ext G H S G1 H1 S1) (w : Wd K G1 H1 S1) (h0 : S p = none) (h : S1 p = some m) (ho : H1 p = some o) : Ext G H S (upd G1 p o) H1 (S1.del p) where
  gsub := x.gsub.trans (Sub.new (w.own p m h).1)
  gnew := fun b u e => by
    by_cases hb : b = p
    · subst hb
      rcases x.snew b m h with z | z
      · exact absurd h0 z
      · exact .inr (.inl z)
    · rw [upd_ne hb] at e; exact x.gnew b u e
  keep := x.keep
  there := x.there
  snew := fun b m' e => by
    have hb : b ≠ p := fun z => by subst z; rw [Store.del_same] at e; cases e
    rw [Store.del_ne hb] at e; exact x.snew b m' e
  sold := fun b e => by
    by_cases hb : b = p
    · subst hb; exact h0
    · rw [Store.del_ne hb] at e; exact x.sold b e
/-- a mutable thing of one's own is forgotten -/
def Drop (S0 S S' : Store) : Prop := ∀ a, S' a = S a ∨ (S' a = none ∧ S0 a = none)
theorem Wd.drop {S0 : Store} (w : Wd K G H S) (d : Drop S0 S S1) : Wd K G H S1 where
  sub := w.sub
  own := fun b m e => by
    rcases d b with z | ⟨z, _⟩
    · rw [z] at e; exact w.own b m e
    · rw [z] at e; cases e
  tabs := fun q hq => by
    obtain ⟨t, g, s⟩ := w.tabs q hq
    refine ⟨t, g, ?_⟩
    rcases d q.1 with z | ⟨z, _⟩
    · rw [z]; exact s
    · exact z
  nt := w.nt
theorem Ext.drop (x : Ext G H S G1 H1 S1) (d : Drop S S1 S2) : Ext G H S G1 H1 S2 where
  gsub := x.gsub
  gnew := x.gnew
  keep := x.keep
  there := x.there
  snew := fun b m e => by
    rcases d b with z | ⟨z, _⟩
    · rw [z] at e; exact x.snew b m e
    · rw [z] at e; cases e
  sold := fun b e => by
    rcases d b with z | ⟨_, z⟩
    · rw [z] at e; exact x.sold b e
    · exact z
theorem Drop.refl {S0 S : Store} : Drop S0 S S := fun _ => .inl rfl
theorem Drop.set {S0 S S' : Store} (h0 : S0 p = none) (hp : S' p = none) (d : Drop S0 S S') : Drop S0 (S.set p m) S' := fun b => by
  by_cases hb : b = p
  · subst hb; exact .inr ⟨hp, h0⟩
  · rw [Store.set_ne hb]; exact d b
end
end DL

set_option maxHeartbeats 1900000
/-! DL2: judgements over deep data, the rules of expressions and statements. -/
namespace DL
open PySem L2

structure Jd where
  G : Hp
  H : Hp
  S : Store
def Jd.at (j : Jd) (G H : Hp) (S : Store) : Prop := Ext j.G j.H j.S G H S
abbrev En := List (Option D)
structure EnR (K : Frag) (G : Hp) (σ : L2.St) (δ : En) : Prop where
  len : δ.length = σ.length
  at_ : ∀ (i : Nat) (d : D), δ[i]? = some (some d) → ∃ v, σ[i]? = some (some v) ∧ Rep K G v d
theorem EnR.mono {K : Frag} {G G' : Hp} {σ : L2.St} {δ : En} (s : Sub G G') (e : EnR K G σ δ) : EnR K G' σ δ :=
  ⟨e.len, fun i d h => let ⟨v, h1, h2⟩ := e.at_ i d h; ⟨v, h1, h2.mono s⟩⟩
theorem EnR.set {K : Frag} {G : Hp} {σ : L2.St} {δ : En} (e : EnR K G σ δ) {v : V} {d : D} (r : Rep K G v d) (i : Nat) : EnR K G (σ.set i (some v)) (δ.set i (some d)) where
  len := by rw [List.length_set, List.length_set, e.len]
  at_ := fun j x h => by
    by_cases hj : i = j
    · subst hj
      have hi : i < (δ.set i (some d)).length := (List.getElem?_eq_some_iff.mp h).1
      rw [List.length_set] at hi
      rw [List.getElem?_set_self hi] at h
      cases h
      exact ⟨v, List.getElem?_set_self (by rw [← e.len]; exact hi), r⟩
    · rw [List.getElem?_set_ne hj] at h ⊢
      exact e.at_ j x h
/-- the slot's value upgraded -/
theorem EnR.up {K : Frag} {G : Hp} {σ : L2.St} {δ : En} (e : EnR K G σ δ) {v : V} {d : D} {i : Nat} (h : σ[i]? = some (some v)) (r : Rep K G v d) : EnR K G σ (δ.set i (some d)) where
  len := by rw [List.length_set, e.len]
  at_ := fun j x hx => by
    by_cases hj : i = j
    · subst hj
      have hi : i < (δ.set i (some d)).length := (List.getElem?_eq_some_iff.mp hx).1
      rw [List.length_set] at hi
      rw [List.getElem?_set_self hi] at hx
      cases hx
      exact ⟨v, h, r⟩
    · rw [List.getElem?_set_ne hj] at hx
      exact e.at_ j x hx
def wipeD (δ : En) : List Nat → En
  | [] => δ
  | v :: vs => (wipeD δ vs).set v none
theorem EnR.wipe {K : Frag} {G : Hp} {σ : L2.St} {δ : En} (e : EnR K G σ δ) : ∀ vs : List Nat, EnR K G (wipe σ vs) (wipeD δ vs)
  | [] => e
  | v :: vs => by
    have ih := EnR.wipe e vs
    refine ⟨by unfold L2.wipe wipeD; rw [List.length_set, List.length_set, ih.len], fun j x h => ?_⟩
    unfold wipeD at h
    unfold L2.wipe
    by_cases hj : v = j
    · subst hj
      have hi : v < ((wipeD δ vs).set v none).length := (List.getElem?_eq_some_iff.mp h).1
      rw [List.length_set] at hi
      rw [List.getElem?_set_self hi] at h
      cases h
    · rw [List.getElem?_set_ne hj] at h ⊢
      exact ih.at_ j x h

/-- what is wanted of a value -/
abbrev Kn (K : Frag) (G H : Hp) (S : Store) (P : D → Store → Prop) (Q : VK) : Prop := ∀ G' H' S' v d, Wd K G' H' S' → Ext G H S G' H' S' → Rep K G' v d → P d S' → Q v H'
def Ev (K : Frag) (J : Jd) (te : TE) (δ : En) (S : Store) (P : D → Store → Prop) : Prop := ∀ G H σ, Wd K G H S → J.at G H S → EnR K G σ δ → ∀ Q : VK, Kn K G H S P Q → te σ H Q
def EvT (K : Frag) (J : Jd) (te : TT) (δ : En) (S : Store) (P : Bool → Store → Prop) : Prop := ∀ G H σ, Wd K G H S → J.at G H S → EnR K G σ δ → ∀ Q : Bool → Hp → Prop, (∀ G' H' S' b, Wd K G' H' S' → Ext G H S G' H' S' → P b S' → Q b H') → te σ H Q
def EvA (K : Frag) (J : Jd) (te : TA) (δ : En) (S : Store) (P : List D → Store → Prop) : Prop := ∀ G H σ, Wd K G H S → J.at G H S → EnR K G σ δ → ∀ Q : List V → Hp → Prop, (∀ G' H' S' vs ds, Wd K G' H' S' → Ext G H S G' H' S' → Reps K G' vs ds → P ds S' → Q vs H') → te σ H Q
/-- of values -/
def Op (K : Frag) (J : Jd) (r : R2) (x y : D) (S : Store) (P : D → Store → Prop) : Prop := ∀ G H vx vy, Wd K G H S → J.at G H S → Rep K G vx x → Rep K G vy y → ∀ Q : VK, Kn K G H S P Q → r vx vy H Q
def Un (K : Frag) (J : Jd) (r : V → Hp → VK → Prop) (x : D) (S : Store) (P : D → Store → Prop) : Prop := ∀ G H vx, Wd K G H S → J.at G H S → Rep K G vx x → ∀ Q : VK, Kn K G H S P Q → r vx H Q
def Cb (K : Frag) (J : Jd) (r : List V → Hp → VK → Prop) (xs : List D) (S : Store) (P : D → Store → Prop) : Prop := ∀ G H vs, Wd K G H S → J.at G H S → Reps K G vs xs → ∀ Q : VK, Kn K G H S P Q → r vs H Q
/-- a built-in type's method -/
def Mb (K : Frag) (J : Jd) (r : V → List V → Hp → VK → Prop) (x : D) (xs : List D) (S : Store) (P : D → Store → Prop) : Prop := ∀ G H vx vs, Wd K G H S → J.at G H S → Rep K G vx x → Reps K G vs xs → ∀ Q : VK, Kn K G H S P Q → r vx vs H Q

section
variable {K : Frag} {J : Jd} {δ : En} {S : Store} {P : D → Store → Prop} {G H : Hp} {Q : VK} {ta tb te : TE}
theorem Kn.mono {S' : Store} {G' H' : Hp} (x : Ext G H S G' H' S') (k : Kn K G H S P Q) : Kn K G' H' S' P Q := fun G2 H2 S2 v d w2 x2 r p => k G2 H2 S2 v d w2 (x.trans x2) r p
theorem Kn.now {v : V} {d : D} (k : Kn K G H S P Q) (w : Wd K G H S) (r : Rep K G v d) (p : P d S) : Q v H := k G H S v d w (Ext.refl w) r p
/-- a new thing that never changes is handed on -/
theorem Kn.imm {o : HO} {d : D} (k : Kn K G H S P Q) (w : Wd K G H S) (r : ∀ p G', Sub G G' → G' p = some o → Rep K G' (.ref p) d) (q : P d S) (hn : ∀ ps, o ≠ .tbl ps := by intro _ z; cases z) : ∀ p, H p = none → Q (.ref p) (upd H p o) := fun p hp =>
  k _ _ S (.ref p) d (w.imm hp hn) (Ext.imm w hp) (r p _ (Sub.new (w.free hp).1) upd_same) q
/-- a new mutable thing is handed on -/
theorem Kn.mut {o : HO} {m : M} (k : Kn K G H S P Q) (w : Wd K G H S) (j : J.at G H S) (r : RepM K G o m) (q : ∀ p, S p = none → J.S p = none → P (.loc p) (S.set p m)) : ∀ p, H p = none → Q (.ref p) (upd H p o) := fun p hp =>
  k _ _ _ (.ref p) (.loc p) (w.mut hp r) (Ext.mut w hp) (.loc p) (q p (w.free hp).2 (j.sold p (w.free hp).2))

/-! ### names, constants -/
theorem ev_var {i : Nat} {d : D} (h : δ[i]? = some (some d)) (p : P d S) : Ev K J (tVar i) δ S P := fun G H σ w j e Q k => by
  obtain ⟨v, h1, r⟩ := e.at_ i d h
  exact ⟨v, h1, k.now w r p⟩
theorem ev_int {i : Int} (p : P (.int i) S) : Ev K J (tC (.int i)) δ S P := fun G H σ w j e Q k => k.now w (.int i) p
theorem ev_bl {b : Bool} (p : P (.bl b) S) : Ev K J (tC (.bl b)) δ S P := fun G H σ w j e Q k => k.now w (.bl b) p
theorem ev_non (p : P .non S) : Ev K J (tC .non) δ S P := fun G H σ w j e Q k => k.now w .non p
theorem ev_str {x : Str} (p : P (.str x) S) : Ev K J (tC (.str x)) δ S P := fun G H σ w j e Q k => k.now w (.str x) p
theorem ev_ty {x : String} (p : P (.ty x) S) : Ev K J (tC (.ty x)) δ S P := fun G H σ w j e Q k => k.now w (.ty x) p
theorem ev_raw {a : Addr} (p : P (.raw a) S) : Ev K J (tC (.ref a)) δ S P := fun G H σ w j e Q k => k.now w (.raw a) p
/-- a tuple, a list that stands in the module -/
theorem ev_kt {a : Addr} {vs : List V} {ds : List D} (h : ∀ H, SqT K H a vs) (r : ∀ H, Reps K H vs ds) (p : P (.tup ds) S) : Ev K J (tC (.ref a)) δ S P := fun G H σ w j e Q k => k.now w (.tup (h G) (r G)) p
theorem ev_kl {a : Addr} {vs : List V} {ds : List D} (h : ∀ H, SqL K H a vs) (r : ∀ H, Reps K H vs ds) (p : P (.klst ds) S) : Ev K J (tC (.ref a)) δ S P := fun G H σ w j e Q k => k.now w (.klst (h G) (r G)) p
theorem Ev.imp {P' : D → Store → Prop} (h : Ev K J te δ S P) (hp : ∀ d S', P d S' → P' d S') : Ev K J te δ S P' := fun G H σ w j e Q k => h G H σ w j e Q fun G' H' S' v d w' x r p => k G' H' S' v d w' x r (hp d S' p)

/-! ### operators -/
theorem ev_op {r : R2} (h : Ev K J ta δ S fun x S1 => Ev K J tb δ S1 fun y S2 => Op K J r x y S2 P) : Ev K J (tOp r ta tb) δ S P := fun G H σ w j e Q k =>
  h G H σ w j e _ fun G1 H1 S1 v d w1 x1 r1 p1 => p1 G1 H1 σ w1 (j.trans x1) (e.mono x1.gsub) _ fun G2 H2 S2 v2 d2 w2 x2 r2 p2 =>
    p2 G2 H2 v v2 w2 ((j.trans x1).trans x2) (r1.mono x2.gsub) r2 Q (k.mono (x1.trans x2))
theorem ev_un {r : V → Hp → VK → Prop} (h : Ev K J ta δ S fun x S1 => Un K J r x S1 P) : Ev K J (tUn r ta) δ S P := fun G H σ w j e Q k =>
  h G H σ w j e _ fun G1 H1 S1 v d w1 x1 r1 p1 => p1 G1 H1 v w1 (j.trans x1) r1 Q (k.mono x1)
theorem ev_cb {r : List V → Hp → VK → Prop} {t : TA} (h : EvA K J t δ S fun xs S1 => Cb K J r xs S1 P) : Ev K J (tCB r t) δ S P := fun G H σ w j e Q k =>
  h G H σ w j e _ fun G1 H1 S1 vs ds w1 x1 r1 p1 => p1 G1 H1 vs w1 (j.trans x1) r1 Q (k.mono x1)
theorem ea_nil {PA : List D → Store → Prop} (p : PA [] S) : EvA K J tNil δ S PA := fun G H σ w j e Q k => k G H S [] [] w (Ext.refl w) .nil p
theorem ea_cons {PA : List D → Store → Prop} {t : TA} (h : Ev K J ta δ S fun x S1 => EvA K J t δ S1 fun xs S2 => PA (x :: xs) S2) : EvA K J (tCons ta t) δ S PA := fun G H σ w j e Q k =>
  h G H σ w j e _ fun G1 H1 S1 v d w1 x1 r1 p1 => p1 G1 H1 σ w1 (j.trans x1) (e.mono x1.gsub) _ fun G2 H2 S2 vs ds w2 x2 r2 p2 =>
    k G2 H2 S2 (v :: vs) (d :: ds) w2 (x1.trans x2) (.cons (r1.mono x2.gsub) r2) p2
theorem EvA.imp {PA PA' : List D → Store → Prop} {t : TA} (h : EvA K J t δ S PA) (hp : ∀ d S', PA d S' → PA' d S') : EvA K J t δ S PA' := fun G H σ w j e Q k => h G H σ w j e Q fun G' H' S' v d w' x r p => k G' H' S' v d w' x r (hp d S' p)
/-- two ints -/
theorem op_I0 {g : Int → Int → V} {g' : Int → Int → D} {a b : Int} (hg : ∀ i j G, Rep K G (g i j) (g' i j)) (p : P (g' a b) S) : Op K J (rI0 g) (.int a) (.int b) S P := fun G H vx vy w j r1 r2 Q k => by
  cases r1; cases r2
  exact ⟨a, b, rfl, rfl, k.now w (hg a b G) p⟩
theorem op_I {C : Int → Int → Prop} {g : Int → Int → V} {g' : Int → Int → D} {a b : Int} (hg : ∀ i j G, Rep K G (g i j) (g' i j)) (hc : C a b) (p : P (g' a b) S) : Op K J (rI C g) (.int a) (.int b) S P := fun G H vx vy w j r1 r2 Q k => by
  cases r1; cases r2
  exact ⟨a, b, rfl, rfl, hc, k.now w (hg a b G) p⟩
theorem o_add {a b : Int} (p : P (.int (a + b)) S) : Op K J (rI0 fun i j => .int (i + j)) (.int a) (.int b) S P := op_I0 (fun i j G => .int _) p
theorem o_sub {a b : Int} (p : P (.int (a - b)) S) : Op K J (rI0 fun i j => .int (i - j)) (.int a) (.int b) S P := op_I0 (fun i j G => .int _) p
theorem o_lt {a b : Int} (p : P (.bl (decide (a < b))) S) : Op K J (rI0 fun i j => .bl (decide (i < j))) (.int a) (.int b) S P := op_I0 (g' := fun i j => .bl (decide (i < j))) (fun i j G => .bl _) p
theorem o_le {a b : Int} (p : P (.bl (decide (a ≤ b))) S) : Op K J (rI0 fun i j => .bl (decide (i ≤ j))) (.int a) (.int b) S P := op_I0 (g' := fun i j => .bl (decide (i ≤ j))) (fun i j G => .bl _) p
theorem o_gt {a b : Int} (p : P (.bl (decide (b < a))) S) : Op K J (rI0 fun i j => .bl (decide (j < i))) (.int a) (.int b) S P := op_I0 (g' := fun i j => .bl (decide (j < i))) (fun i j G => .bl _) p
theorem o_ge {a b : Int} (p : P (.bl (decide (b ≤ a))) S) : Op K J (rI0 fun i j => .bl (decide (j ≤ i))) (.int a) (.int b) S P := op_I0 (g' := fun i j => .bl (decide (j ≤ i))) (fun i j G => .bl _) p
theorem o_mul {a b : Int} (hc : CMul a b) (p : P (.int (a * b)) S) : Op K J (rI CMul fun i j => .int (i * j)) (.int a) (.int b) S P := op_I (g' := fun i j => .int (i * j)) (fun i j G => .int _) hc p
theorem o_fdiv {a b : Int} (hc : CDivN a b) (p : P (.int (a.fdiv b)) S) : Op K J (rI CDivN fun i j => .int (i.fdiv j)) (.int a) (.int b) S P := op_I (g' := fun i j => .int (i.fdiv j)) (fun i j G => .int _) hc p
theorem o_mod {a b : Int} (hc : b ≠ 0) (p : P (.int (a.fmod b)) S) : Op K J (rI (fun _ j => j ≠ 0) fun i j => .int (i.fmod j)) (.int a) (.int b) S P := op_I (g' := fun i j => .int (i.fmod j)) (fun i j G => .int _) hc p
/-- for a positive divisor -/
theorem o_fdivP {a b : Int} (h0 : 0 < b) (h1 : b < 1073741824) (p : P (.int (a / b)) S) : Op K J (rI CDivN fun i j => .int (i.fdiv j)) (.int a) (.int b) S P := o_fdiv ⟨by omega, by omega⟩ (by rw [Int.fdiv_eq_ediv_of_nonneg _ (by omega)]; exact p)
theorem o_modP {a b : Int} (h0 : 0 < b) (p : P (.int (a % b)) S) : Op K J (rI (fun _ j => j ≠ 0) fun i j => .int (i.fmod j)) (.int a) (.int b) S P := o_mod (by omega) (by rw [Int.fmod_eq_emod_of_nonneg _ (by omega)]; exact p)
theorem o_pow {a b : Int} (hc : CPow a b) (p : P (.int (a ^ b.toNat)) S) : Op K J (rI CPow fun i j => .int (i ^ j.toNat)) (.int a) (.int b) S P := op_I (g' := fun i j => .int (i ^ j.toNat)) (fun i j G => .int _) hc p
theorem o_eqI {a b : Int} (p : P (.bl (decide (a = b))) S) : Op K J rEq (.int a) (.int b) S P := fun G H vx vy w j r1 r2 Q k => by
  cases r1; cases r2
  exact ⟨rfl, by rw [dec_int, show (a == b) = decide (a = b) from rfl]; exact k.now w (.bl _) p⟩
theorem o_neI {a b : Int} (p : P (.bl (!decide (a = b))) S) : Op K J rNe (.int a) (.int b) S P := fun G H vx vy w j r1 r2 Q k => by
  cases r1; cases r2
  exact ⟨rfl, by rw [dec_int, show (a == b) = decide (a = b) from rfl]; exact k.now w (.bl _) p⟩
theorem o_eqS {a b : Str} (p : P (.bl (decide (a = b))) S) : Op K J rEq (.str a) (.str b) S P := fun G H vx vy w j r1 r2 Q k => by
  cases r1; cases r2
  refine ⟨rfl, ?_⟩
  have e : decide (V.str a = V.str b) = decide (a = b) := by
    by_cases h : a = b
    · subst h; simp
    · rw [decide_eq_false h, decide_eq_false (fun z => h (V.str.inj z))]
  rw [e]; exact k.now w (.bl _) p
theorem o_neS {a b : Str} (p : P (.bl (!decide (a = b))) S) : Op K J rNe (.str a) (.str b) S P := fun G H vx vy w j r1 r2 Q k => by
  cases r1; cases r2
  refine ⟨rfl, ?_⟩
  have e : decide (V.str a = V.str b) = decide (a = b) := by
    by_cases h : a = b
    · subst h; simp
    · rw [decide_eq_false h, decide_eq_false (fun z => h (V.str.inj z))]
  rw [e]; exact k.now w (.bl _) p
theorem u_neg {a : Int} (p : P (.int (-a)) S) : Un K J (rU fun i => .int (-i)) (.int a) S P := fun G H vx w j r1 Q k => by
  cases r1
  exact ⟨a, rfl, k.now w (.int _) p⟩

/-! ### tests -/
variable {PT : Bool → Store → Prop} {tt uu : TT}
theorem EvT.imp {P' : Bool → Store → Prop} (h : EvT K J tt δ S PT) (hp : ∀ d S', PT d S' → P' d S') : EvT K J tt δ S P' := fun G H σ w j e Q k => h G H σ w j e Q fun G' H' S' b w' x p => k G' H' S' b w' x (hp b S' p)
def IsB (PT : Bool → Store → Prop) : D → Store → Prop := fun d S => ∃ b, d = .bl b ∧ PT b S
theorem isB {b : Bool} (p : PT b S) : IsB PT (.bl b) S := ⟨b, rfl, p⟩
theorem et_test (h : Ev K J te δ S (IsB PT)) : EvT K J (tTest te) δ S PT := fun G H σ w j e Q k =>
  h G H σ w j e _ fun G1 H1 S1 v d w1 x1 r1 ⟨b, e1, p⟩ => by
    subst e1; cases r1
    exact ⟨b, rfl, k G1 H1 S1 b w1 x1 p⟩
theorem et_B (h : Ev K J te δ S (IsB PT)) : EvT K J (tB te) δ S PT := fun G H σ w j e Q k =>
  h G H σ w j e _ fun G1 H1 S1 v d w1 x1 r1 ⟨b, e1, p⟩ => by
    subst e1; cases r1
    exact ⟨b, rfl, k G1 H1 S1 b w1 x1 p⟩
theorem et_not (h : EvT K J tt δ S fun b S1 => PT (!b) S1) : EvT K J (tNot tt) δ S PT := fun G H σ w j e Q k =>
  h G H σ w j e _ fun G1 H1 S1 b w1 x1 p => k G1 H1 S1 (!b) w1 x1 p
theorem et_and (h : EvT K J tt δ S fun b S1 => (b = true → EvT K J uu δ S1 PT) ∧ (b = false → PT false S1)) : EvT K J (tAnd tt uu) δ S PT := fun G H σ w j e Q k =>
  h G H σ w j e _ fun G1 H1 S1 b w1 x1 p => by
    cases b with
    | true =>
      show uu σ H1 Q
      exact p.1 rfl G1 H1 σ w1 (j.trans x1) (e.mono x1.gsub) Q fun G2 H2 S2 b2 w2 x2 p2 => k G2 H2 S2 b2 w2 (x1.trans x2) p2
    | false =>
      show Q false H1
      exact k G1 H1 S1 false w1 x1 (p.2 rfl)
theorem et_or (h : EvT K J tt δ S fun b S1 => (b = true → PT true S1) ∧ (b = false → EvT K J uu δ S1 PT)) : EvT K J (tOr tt uu) δ S PT := fun G H σ w j e Q k =>
  h G H σ w j e _ fun G1 H1 S1 b w1 x1 p => by
    cases b with
    | false =>
      show uu σ H1 Q
      exact p.2 rfl G1 H1 σ w1 (j.trans x1) (e.mono x1.gsub) Q fun G2 H2 S2 b2 w2 x2 p2 => k G2 H2 S2 b2 w2 (x1.trans x2) p2
    | true =>
      show Q true H1
      exact k G1 H1 S1 true w1 x1 (p.1 rfl)
/-- a value's truth -/
def tTru (K : Frag) (ta : TE) : TT := fun σ H Q => ta σ H fun x H' => ∃ k, TruV K x H' k ∧ Q k H'
def Tru (S : Store) : D → Bool → Prop
  | .non, k => k = false
  | .bl b, k => k = b
  | .int i, k => k = (i != 0)
  | .str y, k => y.length ≤ sizeLine ∧ k = ((y.length : Int) != 0)
  | .lst ds, k => k = !ds.isEmpty
  | .klst ds, k => k = !ds.isEmpty
  | .tup ds, k => k = !ds.isEmpty
  | .loc p, k => (∃ ds, S p = some (.lst ds) ∧ k = !ds.isEmpty) ∨ ∃ ds, S p = some (.dK ds) ∧ k = !ds.isEmpty
  | _, _ => False
theorem Reps.isE {K : Frag} {G : Hp} {vs : List V} {ds : List D} (r : Reps K G vs ds) : vs.isEmpty = ds.isEmpty := by cases r <;> rfl
theorem RepK.isE {K : Frag} {G : Hp} {vs : List (Key × V)} {ds : List (Key × D)} (r : RepK K G vs ds) : vs.isEmpty = ds.isEmpty := by cases r <;> rfl
theorem et_tru (h : Ev K J te δ S fun d S1 => ∃ b, Tru S1 d b ∧ PT b S1) : EvT K J (tTru K te) δ S PT := fun G H σ w j e Q k =>
  h G H σ w j e _ fun G1 H1 S1 v d w1 x1 r1 ⟨b, t, p⟩ => by
    refine ⟨b, ?_, k G1 H1 S1 b w1 x1 p⟩
    cases r1 with
    | non => exact t
    | bl b => exact t
    | int i => exact t
    | str x => exact t
    | ty n => exact t.elim
    | loc a =>
      rcases t with ⟨ds, e1, e2⟩ | ⟨ds, e1, e2⟩
      · obtain ⟨_, o, ho, r⟩ := w1.own a _ e1
        cases o <;> first | exact r.elim | skip
        rename_i vs
        exact .inl ⟨vs, .inl (.inl ho), by rw [e2, ← Reps.isE r]⟩
      · obtain ⟨_, o, ho, r⟩ := w1.own a _ e1
        cases o <;> first | exact r.elim | skip
        rename_i vs
        exact .inr (.inr ⟨vs, ho, by rw [e2, ← RepK.isE r]⟩)
    | raw a => exact t.elim
    | lst h1 h2 => exact .inl ⟨_, .inl (.inl (w1.sub _ _ h1)), by rw [show b = _ from t, ← Reps.isE h2]⟩
    | klst h1 h2 => exact .inl ⟨_, w1.sub.l h1, by rw [show b = _ from t, ← Reps.isE h2]⟩
    | tup h1 h2 => exact .inr (.inl ⟨_, w1.sub.t h1, by rw [show b = _ from t, ← Reps.isE h2]⟩)
    | ins _ _ => exact t.elim
    | dK _ _ => exact t.elim
    | dT _ _ => exact t.elim
    | exc _ _ _ => exact t.elim
    | key _ => exact t.elim
/-! ### and, or, not, if as values -/
theorem ev_andV (h : Ev K J ta δ S (IsB fun b S1 => (b = true → Ev K J tb δ S1 P) ∧ (b = false → P (.bl false) S1))) : Ev K J (tAndV ta tb) δ S P := fun G H σ w j e Q k =>
  h G H σ w j e _ fun G1 H1 S1 v d w1 x1 r1 ⟨b, e1, p⟩ => by
    subst e1; cases r1
    refine ⟨b, rfl, ?_⟩
    cases b with
    | true => exact p.1 rfl G1 H1 σ w1 (j.trans x1) (e.mono x1.gsub) Q (k.mono x1)
    | false => exact k G1 H1 S1 _ _ w1 x1 (.bl false) (p.2 rfl)
theorem ev_orV (h : Ev K J ta δ S (IsB fun b S1 => (b = true → P (.bl true) S1) ∧ (b = false → Ev K J tb δ S1 P))) : Ev K J (tOrV ta tb) δ S P := fun G H σ w j e Q k =>
  h G H σ w j e _ fun G1 H1 S1 v d w1 x1 r1 ⟨b, e1, p⟩ => by
    subst e1; cases r1
    refine ⟨b, rfl, ?_⟩
    cases b with
    | false => exact p.2 rfl G1 H1 σ w1 (j.trans x1) (e.mono x1.gsub) Q (k.mono x1)
    | true => exact k G1 H1 S1 _ _ w1 x1 (.bl true) (p.1 rfl)
theorem ev_notV (h : Ev K J ta δ S (IsB fun b S1 => P (.bl (!b)) S1)) : Ev K J (tNotV ta) δ S P := fun G H σ w j e Q k =>
  h G H σ w j e _ fun G1 H1 S1 v d w1 x1 r1 ⟨b, e1, p⟩ => by
    subst e1; cases r1
    exact ⟨b, rfl, k G1 H1 S1 _ _ w1 x1 (.bl _) p⟩
theorem ev_if (h : EvT K J tt δ S fun b S1 => (b = true → Ev K J ta δ S1 P) ∧ (b = false → Ev K J tb δ S1 P)) : Ev K J (tIf tt ta tb) δ S P := fun G H σ w j e Q k =>
  h G H σ w j e _ fun G1 H1 S1 b w1 x1 p => by
    cases b with
    | true => exact p.1 rfl G1 H1 σ w1 (j.trans x1) (e.mono x1.gsub) Q (k.mono x1)
    | false => exact p.2 rfl G1 H1 σ w1 (j.trans x1) (e.mono x1.gsub) Q (k.mono x1)
theorem ev_chain {r r' : R2} {tc : TE} (h : Ev K J ta δ S fun x S1 => Ev K J tb δ S1 fun y S2 => Op K J r x y S2 (IsB fun b S3 => (b = true → Ev K J tc δ S3 fun z S4 => Op K J r' y z S4 P) ∧ (b = false → P (.bl false) S3))) : Ev K J (tChain r r' ta tb tc) δ S P := fun G H σ w j e Q k =>
  h G H σ w j e _ fun G1 H1 S1 v d w1 x1 r1 p1 => p1 G1 H1 σ w1 (j.trans x1) (e.mono x1.gsub) _ fun G2 H2 S2 v2 d2 w2 x2 r2 p2 =>
    p2 G2 H2 v v2 w2 ((j.trans x1).trans x2) (r1.mono x2.gsub) r2 _ fun G3 H3 S3 v3 d3 w3 x3 r3 ⟨b, e3, p3⟩ => by
      subst e3; cases r3
      refine ⟨b, rfl, ?_⟩
      cases b with
      | true =>
        exact p3.1 rfl G3 H3 σ w3 (((j.trans x1).trans x2).trans x3) (e.mono ((x1.trans x2).trans x3).gsub) _ fun G4 H4 S4 v4 d4 w4 x4 r4 p4 =>
          p4 G4 H4 v2 v4 w4 ((((j.trans x1).trans x2).trans x3).trans x4) (r2.mono (x3.trans x4).gsub) r4 Q (k.mono (((x1.trans x2).trans x3).trans x4))
      | false => exact k G3 H3 S3 _ _ w3 ((x1.trans x2).trans x3) (.bl false) (p3.2 rfl)
end
end DL

set_option maxHeartbeats 1900000
/-! DL3: statements, loops, calls, instances, a def's contract. -/
namespace DL
open PySem L2

structure Out where
  nx : En → Store → Prop
  rt : D → Store → Prop
  bk : En → Store → Prop := fun _ _ => False
  ct : En → Store → Prop := fun _ _ => False
abbrev OkN (K : Frag) (J : Jd) (G : Hp) (P : En → Store → Prop) (N : L2.St → Hp → Prop) : Prop := ∀ G' H' S' σ' δ', Wd K G' H' S' → J.at G' H' S' → Sub G G' → EnR K G' σ' δ' → P δ' S' → N σ' H'
structure OutOk (K : Frag) (J : Jd) (G : Hp) (D : Ends) (R : Out) : Prop where
  nx : OkN K J G R.nx D.nx
  rt : ∀ G' H' S' v d, Wd K G' H' S' → J.at G' H' S' → Rep K G' v d → R.rt d S' → D.rt v H'
  bk : OkN K J G R.bk D.bk
  ct : OkN K J G R.ct D.ct
def Run (K : Frag) (J : Jd) (ts : TS) (δ : En) (S : Store) (R : Out) : Prop := ∀ G H σ D, Wd K G H S → J.at G H S → EnR K G σ δ → OutOk K J G D R → ts D σ H
abbrev OkG (K : Frag) (G H : Hp) (S : Store) (P : En → Store → Prop) (N : L2.St → Hp → Prop) : Prop := ∀ G' H' S' σ' δ', Wd K G' H' S' → Ext G H S G' H' S' → EnR K G' σ' δ' → P δ' S' → N σ' H'
def EvG (K : Frag) (J : Jd) (g : TG) (x : D) (δ : En) (S : Store) (P : En → Store → Prop) : Prop := ∀ G H σ v, Wd K G H S → J.at G H S → EnR K G σ δ → Rep K G v x → ∀ N : L2.St → Hp → Prop, OkG K G H S P N → g v σ H N
def EvGs (K : Frag) (J : Jd) (g : TGs) (xs : List D) (δ : En) (S : Store) (P : En → Store → Prop) : Prop := ∀ G H σ vs, Wd K G H S → J.at G H S → EnR K G σ δ → Reps K G vs xs → ∀ N : L2.St → Hp → Prop, OkG K G H S P N → g vs σ H N
section
variable {K : Frag} {J : Jd} {δ : En} {S : Store} {P : D → Store → Prop} {G G' H : Hp} {Q : VK} {ta tb te : TE} {R : Out} {t u : TS} {D' : Ends}
theorem OkN.mono {P : En → Store → Prop} {N : L2.St → Hp → Prop} (s : Sub G G') (o : OkN K J G P N) : OkN K J G' P N := fun G2 H2 S2 σ2 δ2 w j s2 e p => o G2 H2 S2 σ2 δ2 w j (s.trans s2) e p
theorem OutOk.mono (s : Sub G G') (o : OutOk K J G D' R) : OutOk K J G' D' R := ⟨o.nx.mono s, o.rt, o.bk.mono s, o.ct.mono s⟩
theorem Run.imp {R' : Out} (h : Run K J t δ S R) (h1 : ∀ δ S, R.nx δ S → R'.nx δ S) (h2 : ∀ d S, R.rt d S → R'.rt d S) (h3 : ∀ δ S, R.bk δ S → R'.bk δ S) (h4 : ∀ δ S, R.ct δ S → R'.ct δ S) : Run K J t δ S R' := fun G H σ D w j e o =>
  h G H σ D w j e ⟨fun G2 H2 S2 σ2 δ2 w2 j2 s2 e2 p => o.nx G2 H2 S2 σ2 δ2 w2 j2 s2 e2 (h1 _ _ p), fun G2 H2 S2 v d w2 j2 r2 p => o.rt G2 H2 S2 v d w2 j2 r2 (h2 _ _ p),
    fun G2 H2 S2 σ2 δ2 w2 j2 s2 e2 p => o.bk G2 H2 S2 σ2 δ2 w2 j2 s2 e2 (h3 _ _ p), fun G2 H2 S2 σ2 δ2 w2 j2 s2 e2 p => o.ct G2 H2 S2 σ2 δ2 w2 j2 s2 e2 (h4 _ _ p)⟩

/-! ### small statements -/
theorem run_next (p : R.nx δ S) : Run K J tNext δ S R := fun G H σ D w j e o => o.nx G H S σ δ w j (.refl G) e p
theorem run_brk (p : R.bk δ S) : Run K J tBreak δ S R := fun G H σ D w j e o => o.bk G H S σ δ w j (.refl G) e p
theorem run_cont (p : R.ct δ S) : Run K J tCont δ S R := fun G H σ D w j e o => o.ct G H S σ δ w j (.refl G) e p
theorem run_seq (h : Run K J t δ S { R with nx := fun δ' S' => Run K J u δ' S' R }) : Run K J (tSeq t u) δ S R := fun G H σ D w j e o =>
  h G H σ { D with nx := u D } w j e ⟨fun G2 H2 S2 σ2 δ2 w2 j2 s2 e2 p => p G2 H2 σ2 D w2 j2 e2 (o.mono s2), o.rt, o.bk, o.ct⟩
theorem run_ret (h : Ev K J te δ S R.rt) : Run K J (tRet te) δ S R := fun G H σ D w j e o =>
  h G H σ w j e _ fun G2 H2 S2 v d w2 x2 r2 p => o.rt G2 H2 S2 v d w2 (j.trans x2) r2 p
theorem run_retN (h : R.rt .non S) : Run K J tRetN δ S R := fun G H σ D w j e o => o.rt G H S .non .non w j .non h
theorem run_drop (h : Ev K J te δ S fun _ S1 => R.nx δ S1) : Run K J (tDrop te) δ S R := fun G H σ D w j e o =>
  h G H σ w j e _ fun G2 H2 S2 v d w2 x2 r2 p => o.nx G2 H2 S2 σ δ w2 (j.trans x2) x2.gsub (e.mono x2.gsub) p
theorem run_if {c : TT} (h : EvT K J c δ S fun b S1 => (b = true → Run K J t δ S1 R) ∧ (b = false → Run K J u δ S1 R)) : Run K J (tIfS c t u) δ S R := fun G H σ D w j e o =>
  h G H σ w j e _ fun G2 H2 S2 b w2 x2 p => by
    cases b with
    | true => exact p.1 rfl G2 H2 σ D w2 (j.trans x2) (e.mono x2.gsub) (o.mono x2.gsub)
    | false => exact p.2 rfl G2 H2 σ D w2 (j.trans x2) (e.mono x2.gsub) (o.mono x2.gsub)
theorem run_asg {g : TG} (h : Ev K J te δ S fun d S1 => EvG K J g d δ S1 R.nx) : Run K J (tAsg te g) δ S R := fun G H σ D w j e o =>
  h G H σ w j e _ fun G2 H2 S2 v d w2 x2 r2 p => p G2 H2 σ v w2 (j.trans x2) (e.mono x2.gsub) r2 _ fun G3 H3 S3 σ3 δ3 w3 x3 e3 q => o.nx G3 H3 S3 σ3 δ3 w3 ((Ext.trans j x2).trans x3) (x2.trans x3).gsub e3 q
/-- name = e -/
theorem run_set {i : Nat} (h : Ev K J te δ S fun d S1 => R.nx (δ.set i (some d)) S1) : Run K J (tAsg te (gName i)) δ S R := fun G H σ D w j e o =>
  h G H σ w j e _ fun G2 H2 S2 v d w2 x2 r2 p => o.nx G2 H2 S2 _ _ w2 (j.trans x2) x2.gsub ((e.mono x2.gsub).set r2 i) p
theorem run_par {i k : Nat} {ta : TA} (h : EvA K J ta δ S fun ds S1 => ∃ x y, ds = [x, y] ∧ R.nx ((δ.set i (some x)).set k (some y)) S1) : Run K J (tPar i k ta) δ S R := fun G H σ D w j e o =>
  h G H σ w j e _ fun G2 H2 S2 vs ds w2 x2 r2 ⟨x, y, e1, p⟩ => by
    subst e1
    cases r2 with
    | cons r rr => cases rr with
      | cons r' rr => cases rr; exact ⟨_, _, rfl, o.nx G2 H2 S2 _ _ w2 (j.trans x2) x2.gsub (((e.mono x2.gsub).set r i).set r' k) p⟩
/-! ### targets -/
theorem eg_name {i : Nat} {d : D} {P : En → Store → Prop} (p : P (δ.set i (some d)) S) : EvG K J (gName i) d δ S P := fun G H σ v w j e r N o => o G H S _ _ w (Ext.refl w) (e.set r i) p
theorem egs_nil {P : En → Store → Prop} (p : P δ S) : EvGs K J gNil [] δ S P := fun G H σ v w j e r N o => by
  cases r
  exact ⟨rfl, o G H S σ δ w (Ext.refl w) e p⟩
theorem egs_cons {g : TG} {gs : TGs} {d : D} {ds : List D} {P : En → Store → Prop} (h : EvG K J g d δ S fun δ' S' => EvGs K J gs ds δ' S' P) : EvGs K J (gCons g gs) (d :: ds) δ S P := fun G H σ v w j e r N o => by
  cases r with
  | cons r rr => exact ⟨_, _, rfl, h G H σ _ w j e r _ fun G2 H2 S2 σ2 δ2 w2 x2 e2 p => p G2 H2 σ2 _ w2 (Ext.trans j x2) e2 (rr.mono x2.gsub) N fun G3 H3 S3 σ3 δ3 w3 x3 e3 q => o G3 H3 S3 σ3 δ3 w3 (x2.trans x3) e3 q⟩
theorem eg_tup {gs : TGs} {ds : List D} {n : Nat} {P : En → Store → Prop} (hn : ds.length = n) (h : EvGs K J gs ds δ S P) : EvG K J (gTup K n gs) (.tup ds) δ S P := fun G H σ v w j e r N o => by
  cases r with
  | tup hs rs => exact ⟨_, _, rfl, w.sub.t hs, by rw [rs.length, hn], h G H σ _ w j e rs N o⟩
/-! ### what was mutable is from now on one that never changes -/
def M.d : M → D
  | .lst xs => .lst xs
  | .dK kvs => .dK kvs
  | .dT kvs => .dT kvs
  | .ins C fs => .ins C fs
theorem RepM.d {K : Frag} {G : Hp} {p : Addr} : ∀ {o : HO} {m : M}, G p = some o → RepM K G o m → Rep K G (.ref p) m.d := by
  intro o m h r
  cases o <;> cases m <;> first | exact r.elim | skip
  · exact .lst h r
  · exact .dK h r
  · exact .dT h r
  · obtain ⟨e, r⟩ := r
    subst e
    exact .ins h r
theorem Ev.frz (k : Kn K G H S P Q) {G1 H1 : Hp} {S1 : Store} (x : Ext G H S G1 H1 S1) (w : Wd K G1 H1 S1) {p : Addr} {m : M} (h0 : S p = none) (h : S1 p = some m) (q : P m.d (S1.del p)) : Q (.ref p) H1 := by
  obtain ⟨_, o, ho, r⟩ := w.own p m h
  exact k _ H1 _ (.ref p) m.d (w.frz h ho) (x.frz w h0 h ho) (RepM.d upd_same (r.mono (Sub.new (w.own p m h).1))) q
theorem run_frz {i : Nat} {p : Addr} {m : M} (hi : δ[i]? = some (some (.loc p))) (hs : S p = some m) (h0 : J.S p = none) (h : Run K J t (δ.set i (some m.d)) (S.del p) R) : Run K J t δ S R := fun G H σ D w j e o => by
  obtain ⟨e1, ob, ho, r⟩ := w.own p m hs
  obtain ⟨v, h1, r1⟩ := e.at_ i _ hi
  cases r1
  exact h _ H σ D (w.frz hs ho) (Ext.frz j w h0 hs ho) ((e.mono (Sub.new e1)).up h1 (RepM.d upd_same (r.mono (Sub.new e1)))) (o.mono (Sub.new e1))
/-- the slots that are not needed any more, the facts weakened -/
theorem run_weak {δ' : En} (hl : δ'.length = δ.length) (hw : ∀ (i : Nat) (d : DL.D), δ'[i]? = some (some d) → δ[i]? = some (some d)) (h : Run K J t δ' S R) : Run K J t δ S R := fun G H σ D w j e o =>
  h G H σ D w j ⟨hl.trans e.len, fun i d hd => e.at_ i d (hw i d hd)⟩ o
theorem run_store {S' : Store} (d : Drop J.S S S') (h : Run K J t δ S' R) : Run K J t δ S R := fun G H σ D w j e o => h G H σ D (w.drop d) (Ext.drop j d) e o
/-! ### loops -/
theorem run_while {c : TT} (I : Nat → En → Store → Prop) (m0 : Nat) (h0 : I m0 δ S)
    (hs : ∀ m δ' S', I m δ' S' → EvT K J c δ' S' fun b S1 => (b = true → Run K J t δ' S1 { R with nx := fun δ2 S2 => ∃ m', m' < m ∧ I m' δ2 S2, ct := fun δ2 S2 => ∃ m', m' < m ∧ I m' δ2 S2, bk := R.nx }) ∧ (b = false → R.nx δ' S1)) : Run K J (tWhile c t) δ S R := fun G H σ D w j e o => by
  refine ⟨fun m σ' H' => ∃ G' S' δ', Wd K G' H' S' ∧ J.at G' H' S' ∧ Sub G G' ∧ EnR K G' σ' δ' ∧ I m δ' S', ⟨m0, G, S, δ, w, j, .refl G, e, h0⟩, ?_⟩
  rintro m σ1 H1 ⟨G1, S1, δ1, w1, j1, s1, e1, i1⟩
  refine hs m δ1 S1 i1 G1 H1 σ1 w1 j1 e1 _ fun G2 H2 S2 b w2 x2 p => ?_
  cases b with
  | true =>
    refine ⟨fun σ' H' => ∃ m', m' < m ∧ ∃ G' S' δ', Wd K G' H' S' ∧ J.at G' H' S' ∧ Sub G G' ∧ EnR K G' σ' δ' ∧ I m' δ' S', fun σ' H' z => z, ?_⟩
    refine p.1 rfl G2 H2 σ1 _ w2 (j1.trans x2) (e1.mono x2.gsub) ⟨?_, o.rt, ?_, ?_⟩
    · rintro G3 H3 S3 σ3 δ3 w3 j3 s3 e3 ⟨m', hm, i3⟩
      exact ⟨m', hm, G3, S3, δ3, w3, j3, (s1.trans x2.gsub).trans s3, e3, i3⟩
    · exact fun G3 H3 S3 σ3 δ3 w3 j3 s3 e3 p => o.nx G3 H3 S3 σ3 δ3 w3 j3 ((s1.trans x2.gsub).trans s3) e3 p
    · rintro G3 H3 S3 σ3 δ3 w3 j3 s3 e3 ⟨m', hm, i3⟩
      exact ⟨m', hm, G3, S3, δ3, w3, j3, (s1.trans x2.gsub).trans s3, e3, i3⟩
  | false => exact o.nx G2 H2 S2 σ1 δ1 w2 (j1.trans x2) (s1.trans x2.gsub) (e1.mono x2.gsub) (p.2 rfl)
/-- what a loop's turn is to show -/
abbrev Turns (K : Frag) (J : Jd) (g : TG) (t : TS) (R : Out) (I : Nat → En → Store → Prop) (i : Nat) (x : D) (δ' : En) (S' : Store) : Prop :=
  EvG K J g x δ' S' fun δ2 S2 => Run K J t δ2 S2 { R with nx := I (i + 1), ct := I (i + 1), bk := R.nx }
/-- what a range is to be -/
def Rg (a : Int) : Prop := -(2 ^ 62) ≤ a ∧ a < 2 ^ 62
/-! ### calls -/
abbrev PXT := Value → Option (List (Str × DL.D)) → Store → Prop
abbrev PX0 : PXT := fun _ _ _ => False
abbrev Ct := List DL.D → Store → (DL.D → Store → Prop) → PXT → Prop
structure XkOk (K : Frag) (G H : Hp) (S : Store) (E : XK) (PX : PXT) : Prop where
  none_ : ∀ G' H' S' cls, Wd K G' H' S' → Ext G H S G' H' S' → PX cls none S' → E cls none H'
  some_ : ∀ G' H' S' cls dd fs gs, Wd K G' H' S' → Ext G H S G' H' S' → G' dd = some (.xd fs) → RepF K G' fs gs → PX cls (some gs) S' → E cls (some dd) H'
theorem XkOk.none {E : XK} : XkOk K G H S E PX0 := ⟨fun _ _ _ _ _ _ z => z.elim, fun _ _ _ _ _ _ _ _ _ _ _ z => z.elim⟩
theorem XkOk.mono {E : XK} {PX : PXT} {G1 H1 : Hp} {S1 : Store} (x : Ext G H S G1 H1 S1) (k : XkOk K G H S E PX) : XkOk K G1 H1 S1 E PX :=
  ⟨fun G' H' S' cls w y p => k.none_ G' H' S' cls w (x.trans y) p, fun G' H' S' cls dd fs gs w y h r p => k.some_ G' H' S' cls dd fs gs w (x.trans y) h r p⟩
abbrev Jd.X (J : Jd) (K : Frag) (E : XK) (PX : PXT) : Prop := XkOk K J.G J.H J.S E PX
def spD (K : Frag) (C : Ct) : Sp := fun vs H Q E => ∃ G S ds P PX, Wd K G H S ∧ Reps K G vs ds ∧ C ds S P PX ∧ Kn K G H S P Q ∧ XkOk K G H S E PX
theorem ev_call {C : Ct} {E : XK} {PX : PXT} {ta : TA} (hX : J.X K E PX) (h : EvA K J ta δ S fun ds S1 => C ds S1 P PX) : Ev K J (tCall (spD K C) [] E ta) δ S P := fun G H σ w j e Q k =>
  h G H σ w j e _ fun G1 H1 S1 vs ds w1 x1 r1 p => by
    rw [List.append_nil]
    exact ⟨G1, S1, ds, P, PX, w1, r1, p, k.mono x1, hX.mono (Ext.trans j x1)⟩
/-- with the values of the defaults behind -/
theorem ev_callD {C : Ct} {E : XK} {PX : PXT} {ta : TA} {dvs : List V} {dds : List DL.D} (hX : J.X K E PX) (hd : ∀ G, Reps K G dvs dds) (h : EvA K J ta δ S fun ds S1 => C (ds ++ dds) S1 P PX) : Ev K J (tCall (spD K C) dvs E ta) δ S P := fun G H σ w j e Q k =>
  h G H σ w j e _ fun G1 H1 S1 vs ds w1 x1 r1 p => ⟨G1, S1, ds ++ dds, P, PX, w1, r1.append (hd G1), p, k.mono x1, hX.mono (Ext.trans j x1)⟩
/-! ### instances -/
/-- the attributes of an instance, mutable or not -/
def Insts (S : Store) (d : DL.D) (C : Addr) (fs : List (Str × DL.D)) : Prop := d = .ins C fs ∨ ∃ a, d = .loc a ∧ S a = some (.ins C fs)
theorem Insts.at {d : DL.D} {C : Addr} {gs : List (Str × DL.D)} {v : V} (w : Wd K G H S) (r : Rep K G v d) (h : Insts S d C gs) : ∃ a dx fs, v = .ref a ∧ H a = some (.ins C dx fs) ∧ RepF K G fs gs := by
  rcases h with e | ⟨a, e, hs⟩
  · subst e
    cases r with
    | ins hg rf => exact ⟨_, _, _, rfl, w.sub _ _ hg, rf⟩
  · subst e
    cases r
    obtain ⟨_, o, ho, rm⟩ := w.own a _ hs
    cases o <;> first | exact rm.elim | skip
    obtain ⟨e, rf⟩ := rm
    subst e
    exact ⟨a, _, _, rfl, ho, rf⟩
theorem ev_fld {f : Str} {C : Addr} (c : Cls K C) (n : NoAttr K C f) (h : Ev K J ta δ S fun d S1 => ∃ fs x, Insts S1 d C fs ∧ fs.lookup f = some x ∧ P x S1) : Ev K J (tFld K ta f) δ S P := fun G H σ w j e Q k =>
  h G H σ w j e _ fun G1 H1 S1 v d w1 x1 r1 ⟨fs, x, hi, hl, p⟩ => by
    obtain ⟨a, dx, vs, e1, ho, rf⟩ := hi.at w1 r1
    rcases rf.lookup f with ⟨u, d2, h1, h2, r2⟩ | ⟨_, h2⟩
    · rw [hl] at h2; cases h2
      exact ⟨a, C, dx, vs, u, e1, ho, c, n, h1, k G1 H1 S1 u _ w1 x1 r2 p⟩
    · rw [hl] at h2; cases h2
theorem ev_meth {C : Addr} {m : Str} {Cc : Ct} {E : XK} {PX : PXT} {t : TA} (hX : J.X K E PX)
    (h : Ev K J ta δ S fun d S1 => ∃ fs, Insts S1 d C fs ∧ fs.lookup m = none ∧ EvA K J t δ S1 fun ds S2 => Cc (d :: ds) S2 P PX) : Ev K J (tMeth C m (spD K Cc) [] E ta t) δ S P := fun G H σ w j e Q k =>
  h G H σ w j e _ fun G1 H1 S1 v d w1 x1 r1 ⟨fs, hi, hl, p⟩ => by
    obtain ⟨a, dx, vs, e1, ho, rf⟩ := hi.at w1 r1
    have hn : vs.lookup m = none := by
      rcases rf.lookup m with ⟨u, d2, h1, h2, r2⟩ | ⟨h1, _⟩
      · rw [hl] at h2; cases h2
      · exact h1
    refine ⟨a, dx, vs, e1, ho, hn, ?_⟩
    refine p G1 H1 σ w1 (j.trans x1) (e.mono x1.gsub) _ fun G2 H2 S2 ws ds w2 x2 r2 p2 => ?_
    rw [List.append_nil]
    exact ⟨G2, S2, d :: ds, P, PX, w2, .cons (r1.mono x2.gsub) r2, p2, k.mono (x1.trans x2), hX.mono (Ext.trans j (x1.trans x2))⟩
theorem run_fld {f : Str} {C : Addr} {tv : TE} (c : Cls K C) (n : NoAttr K C f) (h : Ev K J tv δ S fun x S1 => Ev K J ta δ S1 fun d S2 => ∃ a fs, d = .loc a ∧ S2 a = some (.ins C fs) ∧ fs.length < 1000 ∧ R.nx δ (S2.set a (.ins C (putD f x fs)))) : Run K J (sFld K ta tv f) δ S R := fun G H σ D w j e o =>
  h G H σ w j e _ fun G1 H1 S1 v x w1 x1 r1 p => p G1 H1 σ w1 (j.trans x1) (e.mono x1.gsub) _ fun G2 H2 S2 v2 d2 w2 x2 r2 ⟨a, fs, e1, hs, hl, q⟩ => by
    subst e1
    cases r2
    obtain ⟨_, ob, ho, rm⟩ := w2.own a _ hs
    cases ob with
    | ins C' dx vs =>
      obtain ⟨ec, rf⟩ := rm
      subst ec
      refine ⟨a, C', dx, vs, rfl, ho, c, n, by rw [rf.length]; exact hl, ?_⟩
      exact o.nx G2 _ _ σ δ (w2.put (m' := .ins C' (putD f x fs)) hs ⟨rfl, rf.put f (r1.mono x2.gsub)⟩) (((Ext.trans j x1).trans x2).trans (Ext.put w2 hs)) (x1.trans x2).gsub (e.mono (x1.trans x2).gsub) q
    | _ => exact rm.elim
theorem new_ins {x dx C : Addr} (w : Wd K G H S) (hx : H x = none) (hd : H dx = none) (ne : dx ≠ x) : Wd K G (upd (upd H dx (.own x)) x (.ins C dx [])) (S.set x (.ins C [])) ∧ Ext G H S G (upd (upd H dx (.own x)) x (.ins C dx [])) (S.set x (.ins C [])) := by
  have w1 : Wd K G (upd H dx (.own x)) S := ⟨w.sub.trans (Sub.new hd), fun a m e => by
    have hb : a ≠ dx := fun z => by subst z; rw [(w.free hd).2] at e; cases e
    obtain ⟨e1, u, e2, r⟩ := w.own a m e
    exact ⟨e1, u, by rw [upd_ne hb]; exact e2, r⟩, fun q hq => ⟨tabS_new (w.tabs q hq).1 hd, (w.tabs q hq).2⟩, w.nt⟩
  have x1 : Ext G H S G (upd H dx (.own x)) S := ⟨.refl _, fun _ _ e => .inl e, fun b u e _ _ => by rw [upd_ne (ne_of_none e hd)]; exact e, fun b e => e.up hd, fun b m e => .inl (by rw [e]; exact fun z => by cases z), fun _ e => e⟩
  have hx' : upd H dx (.own x) x = none := by rw [upd_ne (Ne.symm ne)]; exact hx
  exact ⟨w1.mut hx' ⟨rfl, .nil⟩, x1.trans (Ext.mut w1 hx')⟩
/-- C(..), then mutable or not by P -/
theorem ev_make {C : Addr} {Cc : Ct} {E : XK} {PX : PXT} {t : TA} (hX : J.X K E PX)
    (h : EvA K J t δ S fun ds S1 => ∀ x, S1 x = none → J.S x = none → Cc (.loc x :: ds) (S1.set x (.ins C [])) (fun d S2 => d = .non ∧ (P (.loc x) S2 ∨ ∃ fs, S2 x = some (.ins C fs) ∧ P (.ins C fs) (S2.del x))) PX) : Ev K J (tMake C (spD K Cc) [] E t) δ S P := fun G H σ w j e Q k =>
  h G H σ w j e _ fun G1 H1 S1 vs ds w1 x1 r1 p => by
    intro x dx hx hd ne
    rw [List.append_nil]
    obtain ⟨w2, x2⟩ := new_ins (C := C) w1 hx hd ne
    have hs := (w1.free hx).2
    refine ⟨G1, _, .loc x :: ds, _, PX, w2, .cons (.loc x) r1, p x hs (j.sold x (x1.sold x hs)), ?_, hX.mono (Ext.trans j (x1.trans x2))⟩
    intro G3 H3 S3 v d w3 x3 r3 ⟨ed, q⟩
    subst ed
    cases r3
    refine ⟨rfl, ?_⟩
    rcases q with q | ⟨fs, hs3, q⟩
    · exact k G3 H3 S3 _ _ w3 ((x1.trans x2).trans x3) (.loc x) q
    · exact Ev.frz (k.mono x1) (x2.trans x3) w3 hs hs3 q
/-! ### a def -/
def Fin (J : Jd) (P : DL.D → Store → Prop) (d : DL.D) (S : Store) : Prop := ∃ S', Drop J.S S S' ∧ P d S'
theorem Fin.now {d : DL.D} (p : P d S) : Fin J P d S := ⟨S, .refl, p⟩
theorem Fin.drop {d : DL.D} {S' : Store} (h : Drop J.S S S') (p : P d S') : Fin J P d S := ⟨S', h, p⟩
abbrev outD (J : Jd) (P : DL.D → Store → Prop) : Out := ⟨fun _ S' => Fin J P .non S', Fin J P, fun _ _ => False, fun _ _ => False⟩
def startD (N : List Str) (ds : List DL.D) : En := ds.map some ++ List.replicate (N.length - ds.length) none
theorem Reps.start {N : List Str} {vs : List V} {ds : List DL.D} (r : Reps K G vs ds) : EnR K G (L2.start N vs) (startD N ds) where
  len := by unfold L2.start startD; rw [List.length_append, List.length_append, List.length_map, List.length_map, List.length_replicate, List.length_replicate, r.length]
  at_ := fun i d h => by
    unfold startD at h
    unfold L2.start
    by_cases hi : i < ds.length
    · rw [List.getElem?_append_left (by rw [List.length_map]; exact hi), List.getElem?_map] at h
      rw [List.getElem?_append_left (by rw [List.length_map, r.length]; exact hi), List.getElem?_map]
      cases q : ds[i]? with
      | none => rw [q] at h; cases h
      | some x =>
        rw [q] at h
        cases h
        obtain ⟨v, h1, h2⟩ := r.getD q
        exact ⟨v, by rw [h1]; rfl, h2⟩
    · rw [List.getElem?_append_right (by rw [List.length_map]; omega), List.getElem?_replicate] at h
      split at h <;> cases h
/-- from the contract to the reading -/
theorem bodyD {C : Ct} {N : List Str} {t : TS} {E : XK} {vs : List V} (run : ∀ J ds S P PX, J.S = S → C ds S P PX → J.X K E PX → Run K J t (startD N ds) S (outD J P)) (h : spD K C vs H Q E) :
    t { nx := fun _ H' => Q .non H', rt := Q } (L2.start N vs) H := by
  obtain ⟨G, S, ds, P, PX, w, r, c, k, x⟩ := h
  refine run ⟨G, H, S⟩ ds S P PX rfl c x G H _ _ w (Ext.refl w) r.start ⟨?_, ?_, ?_, ?_⟩
  · rintro G' H' S' σ' δ' w' j' _ _ ⟨S2, d2, p⟩
    exact k G' H' S2 .non .non (w'.drop d2) (Ext.drop j' d2) .non p
  · rintro G' H' S' v d w' j' r' ⟨S2, d2, p⟩
    exact k G' H' S2 v d (w'.drop d2) (Ext.drop j' d2) r' p
  · exact fun _ _ _ _ _ _ _ _ _ z => z.elim
  · exact fun _ _ _ _ _ _ _ _ _ z => z.elim
theorem spD_len {C : Ct} {n : Nat} (len : ∀ ds S P PX, C ds S P PX → ds.length = n) : ∀ vs H Q E, spD K C vs H Q E → vs.length = n := fun vs H Q E ⟨G, S, ds, P, PX, w, r, c, _⟩ => by
  rw [r.length]; exact len ds S P PX c
end
end DL

set_option maxHeartbeats 1900000
/-! DL4: short names of readings, further rules of the layer. -/
namespace DL
open PySem L2 PySem.Spec PyProof.Rows
/-! ### short names -/
abbrev rAddI : R2 := rI0 fun i j => .int (i + j)
abbrev rSubI : R2 := rI0 fun i j => .int (i - j)
abbrev rMulI : R2 := rI CMul fun i j => .int (i * j)
abbrev rDivI : R2 := rI CDivN fun i j => .int (i.fdiv j)
abbrev rModI : R2 := rI (fun _ j => j ≠ 0) fun i j => .int (i.fmod j)
abbrev rPowI : R2 := rI CPow fun i j => .int (i ^ j.toNat)
abbrev rLtI : R2 := rI0 fun i j => .bl (decide (i < j))
abbrev rLeI : R2 := rI0 fun i j => .bl (decide (i ≤ j))
abbrev rGtI : R2 := rI0 fun i j => .bl (decide (j < i))
abbrev rGeI : R2 := rI0 fun i j => .bl (decide (j ≤ i))
abbrev rNeg : V → Hp → VK → Prop := rU fun i => .int (-i)
abbrev rAddS : R2 := fun x y H Q => ∃ a b, x = .str a ∧ y = .str b ∧ a.length + b.length ≤ sizeLine ∧ Q (.str (a ++ b)) H
abbrev rIsN : R2 := fun x y H Q => y = .non ∧ Q (.bl (decide (x = .non))) H
abbrev rNotN : R2 := fun x y H Q => y = .non ∧ Q (.bl (!decide (x = .non))) H
abbrev rLenSeq (K : Frag) : List V → Hp → VK → Prop := fun us H Q => ∃ a ws, us = [.ref a] ∧ (SqL K H a ws ∨ SqT K H a ws) ∧ Q (.int ws.length) H
abbrev rLenStr : List V → Hp → VK → Prop := fun us H Q => ∃ a, us = [.str a] ∧ a.length ≤ sizeLine ∧ Q (.int a.length) H
abbrev rListOf (K : Frag) : List V → Hp → VK → Prop := fun us H Q => ∃ a ws, us = [.ref a] ∧ (SqL K H a ws ∨ SqT K H a ws) ∧ ∀ l, H l = none → Q (.ref l) (upd H l (.lst ws))
abbrev rTupOf (K : Frag) : List V → Hp → VK → Prop := fun us H Q => ∃ a ws, us = [.ref a] ∧ ((SqL K H a ws ∧ ∀ l, H l = none → Q (.ref l) (upd H l (.tup ws))) ∨ (SqT K H a ws ∧ Q (.ref a) H))
abbrev rAbs : List V → Hp → VK → Prop := fun us H Q => ∃ i, us = [.int i] ∧ Q (.int (if i < 0 then -i else i)) H
abbrev rMin2 : List V → Hp → VK → Prop := fun us H Q => ∃ i j, us = [.int i, .int j] ∧ Q (.int (if j < i then j else i)) H
abbrev rMax2 : List V → Hp → VK → Prop := fun us H Q => ∃ i j, us = [.int i, .int j] ∧ Q (.int (if j > i then j else i)) H
abbrev rMinL := rMin
abbrev rMaxL := rMax
abbrev rInt1 : List V → Hp → VK → Prop := fun us H Q => (∃ i, us = [.int i] ∧ Q (.int i) H) ∨ ∃ k, us = [.bl k] ∧ Q (.int (if k then 1 else 0)) H
abbrev rStrI : List V → Hp → VK → Prop := fun us H Q => ∃ i, us = [.int i] ∧ i.natAbs.log2 < 1920 ∧ Q (.str (toString i)) H
abbrev rDivmod : List V → Hp → VK → Prop := fun us H Q => ∃ i j, us = [.int i, .int j] ∧ CDiv i j ∧ ∀ p, H p = none → Q (.ref p) (upd H p (.tup [.int (i / j), .int (i % j)]))
abbrev rRjust : V → List V → Hp → VK → Prop := fun x us H Q => ∃ (a : Str) (i : Int), x = .str a ∧ us = [.int i] ∧ PadOk i = true ∧ Q (.str (Txt.rjust a i)) H
abbrev rInsert : V → List V → Hp → VK → Prop := fun x us H Q => ∃ (l : Addr) (ws : List V) (i : Int) (y : V), x = .ref l ∧ us = [.int i, y] ∧ H l = some (.lst ws) ∧ ws.length < sizeLine ∧ 0 ≤ i ∧ i < 2 ^ 63 ∧
  Q .non (upd H l (.lst (ws.take i.toNat ++ [y] ++ ws.drop i.toNat)))
abbrev rJoin (K : Frag) : V → List V → Hp → VK → Prop := fun x us H Q => ∃ a p, ∃ ys : List Str, x = .str a ∧ us = [.ref p] ∧ (SqL K H p (ys.map V.str) ∨ SqT K H p (ys.map V.str)) ∧ (ys.map (·.length)).sum + ys.length * a.length ≤ 16777216 ∧ Q (.str (Txt.join a ys)) H
abbrev rSplit : V → List V → Hp → VK → Prop := fun x us H Q => ∃ a b, x = .str a ∧ us = [.str b] ∧ (b.length == 0) = false ∧ a.length + 2 ≤ sizeLine ∧ rNewStrs (Txt.split a b) H Q
abbrev rSlS : V → Option Int → Option Int → Hp → VK → Prop := fun x lo hi H Q => ∃ z, x = .str z ∧ z.length ≤ sizeLine ∧ Q (.str (cutS z lo hi)) H
theorem unitsOf {A : Around} {k : Nat} (hr : Room k A) : A.units + 64 < cLine := hr.units
/-! ### x in a tuple of data of any depth -/
section
variable {X : Cx}
def rInDT (K : Frag) : R2 := fun x y H Q => ∃ d ds, Dp K H x d ∧ Dp K H y (.tuple ds) ∧ SeqAt.shaped d = true ∧ SeqAt.shaped (.tuple ds) = true ∧ Q (.bl (ds.any fun z => PyData.eqv z d)) H
def rNotInDT (K : Frag) : R2 := fun x y H Q => ∃ d ds, Dp K H x d ∧ Dp K H y (.tuple ds) ∧ SeqAt.shaped d = true ∧ SeqAt.shaped (.tuple ds) = true ∧ Q (.bl (!ds.any fun z => PyData.eqv z d)) H
theorem op_inDT (hu : X.A.units + 65 < cLine) : OpR X (compareOp .In) (rInDT X.K) := by
  intro pins s σ H x y v u Q I rx ry ⟨d, ds, hd, he, sd, se, q⟩
  (obtain ⟨as, r1⟩ := Dp.reads I d x v hd rx)
  obtain ⟨bs, r2⟩ := Dp.reads I (.tuple ds) y u he ry
  exact SeqAt.in_tuple_reads r2 r1 (SeqAt.canLay_of_shaped se) (SeqAt.canLay_of_shaped sd) (room_in_shaped sd hu) ⟨.bl _, H, I, rfl, q⟩
theorem op_notInDT (hu : X.A.units + 65 < cLine) : OpR X (compareOp .NotIn) (rNotInDT X.K) := by
  intro pins s σ H x y v u Q I rx ry ⟨d, ds, hd, he, sd, se, q⟩
  (obtain ⟨as, r1⟩ := Dp.reads I d x v hd rx)
  obtain ⟨bs, r2⟩ := Dp.reads I (.tuple ds) y u he ry
  exact SeqAt.notIn_tuple_reads r2 r1 (SeqAt.canLay_of_shaped se) (SeqAt.canLay_of_shaped sd) (room_in_shaped sd hu) ⟨.bl _, H, I, rfl, q⟩
end
/-! ### a def of the module, a method, a class made -/
structure FnD (P : Program) (w : World) (K : Frag) (mg : Str → Option Value) (base : Heap) (CX : CXT) (k : Nat) (f : Addr) (C : Ct) : Prop where
  ex : ∃ (fd : FuncData) (ps : List Str), FnOk P w K mg base CX k f fd ps (spD K C) ∧ Binds K fd ps [] ∧ PySem.W.keepIn K (.ref f) = true
section
variable {X : Cx} {j k : Nat} {f Cl : Addr} {C : Ct} {x m : Str} {p pos apos : Pos} {e o : Expr} {es : List Expr} {ta : TE} {t : TA}
theorem pe_cd (F : FnD X.prog X.w X.K X.mg X.base CX0 k f C) (hr : Room j X.A) (hk : k ≤ j) (hg : Gl X x) (hm : X.mg x = some (.ref f)) (ha : PA X (e :: es) t) (hdb : (x == ("__debug__" : Str)) = false := by decide) (he : starEach (e :: es) X.env = (false, eval e X.env) :: starEach es X.env := by rfl) (hpl : (backTo pos (starEach es X.env)).any (·.1) = false := by rfl) :
    PE X (.Call (.Name x p) (e :: es) [] pos) (tCall (spD X.K C) [] E0 t) := by
  obtain ⟨fd, ps, F1, b, kp⟩ := F.ex
  exact pe_call F1 (hr.mono hk) hg hm kp b .nil pass0 ha hdb he hpl
theorem pe_cd0 (F : FnD X.prog X.w X.K X.mg X.base CX0 k f C) (hr : Room j X.A) (hk : k ≤ j) (hg : Gl X x) (hm : X.mg x = some (.ref f)) (hdb : (x == ("__debug__" : Str)) = false := by decide) :
    PE X (.Call (.Name x p) [] [] pos) (tCall (spD X.K C) [] E0 tNil) := by
  obtain ⟨fd, ps, F1, b, kp⟩ := F.ex
  exact pe_call0 F1 (hr.mono hk) hg hm kp b .nil pass0 hdb
theorem pe_md {pl : Sem Bool} (he : PE X o ta) (c : Cls X.K Cl) (hm : Meth X.K Cl m f) (F : FnD X.prog X.w X.K X.mg X.base CX0 k f C) (hr : Room j X.A) (hk : k ≤ j) (ha : PA X (e :: es) t) (hst : starEach (e :: es) X.env = (false, eval e X.env) :: starEach es X.env := by rfl) (hpl : (backTo pos (starEach es X.env)).any (·.1) = false := by rfl)
    (ht : eval (.Call (.Attribute o m apos) (e :: es) [] pos) X.env = (do let ov ← eval o X.env; standAt apos.atName; let (g, first) ← holding [ov] (getMethod ov m pl); callWith pos g first (backTo pos (starEach (e :: es) X.env)) (backToKw pos (keywordEach [] X.env))) := by rfl) :
    PE X (.Call (.Attribute o m apos) (e :: es) [] pos) (tMeth Cl m (spD X.K C) [] E0 ta t) := by
  obtain ⟨fd, ps, F1, b, kp⟩ := F.ex
  exact pe_meth he c hm F1 (hr.mono hk) b .nil pass0 ha hst hpl ht
theorem pe_md0 {pl : Sem Bool} (he : PE X o ta) (c : Cls X.K Cl) (hm : Meth X.K Cl m f) (F : FnD X.prog X.w X.K X.mg X.base CX0 k f C) (hr : Room j X.A) (hk : k ≤ j)
    (ht : eval (.Call (.Attribute o m apos) [] [] pos) X.env = (do let ov ← eval o X.env; standAt apos.atName; let (g, first) ← holding [ov] (getMethod ov m pl); callWith pos g first (backTo pos (starEach [] X.env)) (backToKw pos (keywordEach [] X.env))) := by rfl) :
    PE X (.Call (.Attribute o m apos) [] [] pos) (tMeth Cl m (spD X.K C) [] E0 ta tNil) := by
  obtain ⟨fd, ps, F1, b, kp⟩ := F.ex
  exact pe_meth0 he c hm F1 (hr.mono hk) b .nil pass0 ht
abbrev tPropD (K : Frag) (Cl : Addr) (C : Ct) (ta : TE) : TE := tProp Cl (spD K C) [] E0 ta
theorem pe_propD {q : Addr} (he : PE X e ta) (c : Cls X.K Cl) (hp : PropOf X.K Cl m q f) (F : FnD X.prog X.w X.K X.mg X.base CX0 k f C) (hr : Room j X.A) (hk : k + 1 ≤ j) (hab : attributeBase e m X.env (eval e X.env) = eval e X.env := by rfl) :
    PE X (.Attribute e m pos) (tPropD X.K Cl C ta) := by
  obtain ⟨fd, ps, F1, b, kp⟩ := F.ex
  exact pe_prop he c hp F1 (hr.mono hk) b .nil pass0 hab
end
theorem pe_gk {X : Cx} {v : V} {x : Str} {pos : Pos} (hg : Gl X x) (h : ∃ u, X.mg x = some u ∧ RelV v u) (hd : (x == ("__debug__" : Str)) = false := by decide) : PE X (.Name x pos) (tC v) := by
  obtain ⟨u, hm, r⟩ := h
  exact pe_glob hg hm r hd
end DL

set_option maxHeartbeats 1900000
/-! DL5: what is walked, loops and comprehensions over it; built-ins over deep data. -/
namespace DL
open PySem L2 PySem.Spec PyProof.Rows

/-! ### what is walked: its items -/
structure Src (K : Frag) (I : It) (G1 : Hp) (ds : List D) : Prop where
  go : ∀ i G H S x, ds[i]? = some x → Wd K G H S → Sub G1 G → I.go i H ∧ ∀ v H', I.yld i H v H' → ∃ G', Wd K G' H' S ∧ Ext G H S G' H' S ∧ Rep K G' v x
  stop : ∀ G H S, Wd K G H S → Sub G1 G → I.stop ds.length H
def EvI (K : Frag) (J : Jd) (wi : TI) (δ : En) (S : Store) (P : List D → Store → Prop) : Prop := ∀ G H σ, Wd K G H S → J.at G H S → EnR K G σ δ → ∀ R : It → Hp → Prop,
  (∀ G' H' S' I ds, Wd K G' H' S' → Ext G H S G' H' S' → Src K I G' ds → P ds S' → R I H') → wi σ H R
def rgD (lo : Int) (n : Nat) : List D := (List.range n).map fun i => .int (lo + (i : Nat))
theorem rgD_get {lo : Int} {n i : Nat} {x : D} (h : (rgD lo n)[i]? = some x) : i < n ∧ x = .int (lo + (i : Nat)) := by
  unfold rgD at h
  rw [List.getElem?_map] at h
  by_cases hi : i < n
  · rw [List.getElem?_range hi] at h
    exact ⟨hi, (Option.some.inj h).symm⟩
  · rw [List.getElem?_eq_none (by simpa using hi)] at h; cases h
theorem rgD_len {lo : Int} {n : Nat} : (rgD lo n).length = n := by unfold rgD; rw [List.length_map, List.length_range]
/-- the items numbered -/
def enD (ds : List D) : List D := (List.range ds.length).map fun i => .tup [.int (i : Nat), ds.getD i .non]
theorem enD_get {ds : List D} {i : Nat} {x : D} (h : (enD ds)[i]? = some x) : ∃ d, ds[i]? = some d ∧ x = .tup [.int (i : Nat), d] := by
  unfold enD at h
  rw [List.getElem?_map] at h
  by_cases hi : i < ds.length
  · rw [List.getElem?_range hi] at h
    refine ⟨ds[i], List.getElem?_eq_getElem hi, ?_⟩
    rw [← Option.some.inj h]
    show D.tup [.int (i : Nat), ds.getD i .non] = _
    (rw [List.getD_eq_getElem?_getD, List.getElem?_eq_getElem hi])
    rfl
  · rw [List.getElem?_eq_none (by simpa using hi)] at h; cases h
theorem enD_len {ds : List D} : (enD ds).length = ds.length := by unfold enD; rw [List.length_map, List.length_range]
def zpD (ds es : List D) : List D := (List.range (min ds.length es.length)).map fun i => .tup [ds.getD i .non, es.getD i .non]
theorem zpD_get {ds es : List D} {i : Nat} {x : D} (h : (zpD ds es)[i]? = some x) : ∃ d e, ds[i]? = some d ∧ es[i]? = some e ∧ x = .tup [d, e] := by
  unfold zpD at h
  rw [List.getElem?_map] at h
  by_cases hi : i < min ds.length es.length
  · rw [List.getElem?_range hi] at h
    have h1 : i < ds.length := by omega
    have h2 : i < es.length := by omega
    refine ⟨ds[i], es[i], List.getElem?_eq_getElem h1, List.getElem?_eq_getElem h2, ?_⟩
    rw [← Option.some.inj h]
    show D.tup [ds.getD i .non, es.getD i .non] = _
    rw [List.getD_eq_getElem?_getD, List.getElem?_eq_getElem h1, List.getD_eq_getElem?_getD, List.getElem?_eq_getElem h2]
    rfl
  · rw [List.getElem?_eq_none (by simpa using hi)] at h; cases h
theorem zpD_len {ds es : List D} : (zpD ds es).length = min ds.length es.length := by unfold zpD; rw [List.length_map, List.length_range]
section
variable {K : Frag} {J : Jd} {δ : En} {S : Store} {PI : List D → Store → Prop} {P : D → Store → Prop} {G G' H : Hp} {Q : VK} {ta tb te tl : TE}
theorem src_list {a : Addr} {vs : List V} {ds : List D} (h : SqL K G a vs) (r : Reps K G vs ds) : Src K (Itl K a) G ds where
  go := fun i G2 H2 S2 x hx w s => by
    obtain ⟨v, hv, rv⟩ := r.getD hx
    exact ⟨⟨vs, v, w.sub.l (s.l h), hv⟩, fun u H' y => by
      obtain ⟨e, y⟩ := y
      subst e
      have e2 := y vs (w.sub.l (s.l h))
      rw [hv] at e2; cases e2
      exact ⟨G2, w, Ext.refl w, rv.mono s⟩⟩
  stop := fun G2 H2 S2 w s => ⟨vs, w.sub.l (s.l h), by rw [r.length]; exact Nat.le_refl _⟩
theorem src_tup {a : Addr} {vs : List V} {ds : List D} (h : SqT K G a vs) (r : Reps K G vs ds) : Src K (Itt K a) G ds where
  go := fun i G2 H2 S2 x hx w s => by
    obtain ⟨v, hv, rv⟩ := r.getD hx
    exact ⟨⟨vs, v, w.sub.t (s.t h), hv⟩, fun u H' y => by
      obtain ⟨e, y⟩ := y
      subst e
      have e2 := y vs (w.sub.t (s.t h))
      rw [hv] at e2; cases e2
      exact ⟨G2, w, Ext.refl w, rv.mono s⟩⟩
  stop := fun G2 H2 S2 w s => ⟨vs, w.sub.t (s.t h), by rw [r.length]; exact Nat.le_refl _⟩
theorem src_rng (lo : Int) (n : Nat) : Src K (Itr lo n) G (rgD lo n) where
  go := fun i G2 H2 S2 x hx w s => by
    obtain ⟨hi, e⟩ := rgD_get hx
    subst e
    exact ⟨hi, fun u H' y => by
      obtain ⟨e, y⟩ := y
      subst e y
      exact ⟨G2, w, Ext.refl w, .int _⟩⟩
  stop := fun G2 H2 S2 w s => by rw [rgD_len]; exact Nat.le_refl _
theorem src_enum {a : Addr} {vs : List V} {ds : List D} (h : SqL K G a vs) (r : Reps K G vs ds) : Src K (Ite K a) G (enD ds) where
  go := fun i G2 H2 S2 x hx w s => by
    obtain ⟨d, hd, e⟩ := enD_get hx
    subst e
    obtain ⟨v, hv, rv⟩ := r.getD hd
    exact ⟨⟨vs, v, w.sub.l (s.l h), hv⟩, fun u H' y => by
      obtain ⟨T, z, e1, hT, e2, y⟩ := y
      subst e1 e2
      have e3 := y vs (w.sub.l (s.l h))
      rw [hv] at e3; cases e3
      exact ⟨_, w.imm hT, Ext.imm w hT, .tup (.inl (.inl upd_same)) (.cons (.int _) (.cons ((rv.mono s).mono (Sub.new (w.free hT).1)) .nil))⟩⟩
  stop := fun G2 H2 S2 w s => ⟨vs, w.sub.l (s.l h), by rw [enD_len, r.length]; exact Nat.le_refl _⟩
theorem src_zip {a b : Addr} {vs us : List V} {ds es : List D} (h : SqL K G a vs) (r : Reps K G vs ds) (h' : SqL K G b us) (r' : Reps K G us es) : Src K (Itz K a b) G (zpD ds es) where
  go := fun i G2 H2 S2 x hx w s => by
    obtain ⟨d, e, hd, he, ex⟩ := zpD_get hx
    subst ex
    obtain ⟨v, hv, rv⟩ := r.getD hd
    obtain ⟨u, hu, ru⟩ := r'.getD he
    exact ⟨⟨vs, us, v, u, w.sub.l (s.l h), w.sub.l (s.l h'), hv, hu⟩, fun z H' y => by
      obtain ⟨T, z1, z2, e1, hT, e2, y1, y2⟩ := y
      subst e1 e2
      have e3 := y1 vs (w.sub.l (s.l h))
      have e4 := y2 us (w.sub.l (s.l h'))
      rw [hv] at e3; cases e3
      rw [hu] at e4; cases e4
      have n1 := Sub.new (o := HO.tup [v, u]) (w.free hT).1
      exact ⟨_, w.imm hT, Ext.imm w hT, .tup (.inl (.inl upd_same)) (.cons ((rv.mono s).mono n1) (.cons ((ru.mono s).mono n1) .nil))⟩⟩
  stop := fun G2 H2 S2 w s => ⟨vs, us, w.sub.l (s.l h), w.sub.l (s.l h'), by rw [zpD_len, r.length, r'.length]; omega⟩
theorem ei_list (h : Ev K J tl δ S fun d S1 => ∃ ds, d = .lst ds ∧ PI ds S1) : EvI K J (iList K tl) δ S PI := fun G H σ w j e R k =>
  h G H σ w j e _ fun G1 H1 S1 v d w1 x1 r1 ⟨ds, ed, p⟩ => by
    subst ed
    cases r1 with
    | lst hq rs => exact ⟨_, rfl, ⟨_, .inl (.inl (w1.sub _ _ hq))⟩, k G1 H1 S1 _ ds w1 x1 (src_list (.inl (.inl hq)) rs) p⟩
theorem ei_tup (h : Ev K J tl δ S fun d S1 => ∃ ds, d = .tup ds ∧ PI ds S1) : EvI K J (iTup K tl) δ S PI := fun G H σ w j e R k =>
  h G H σ w j e _ fun G1 H1 S1 v d w1 x1 r1 ⟨ds, ed, p⟩ => by
    subst ed
    cases r1 with
    | tup hq rs => exact ⟨_, rfl, ⟨_, w1.sub.t hq⟩, k G1 H1 S1 _ ds w1 x1 (src_tup hq rs) p⟩
theorem ei_rng1 {t : TA} (h : EvA K J t δ S fun xs S1 => ∃ n : Int, xs = [.int n] ∧ Rg n ∧ PI (rgD 0 n.toNat) S1) : EvI K J (iRng1 t) δ S PI := fun G H σ w j e R k =>
  h G H σ w j e _ fun G1 H1 S1 vs ds w1 x1 r1 ⟨n, ed, hn, p⟩ => by
    subst ed
    cases r1 with
    | cons r rr =>
      cases rr; cases r
      exact ⟨n, rfl, hn.1, hn.2, k G1 H1 S1 _ _ w1 x1 (src_rng 0 n.toNat) p⟩
theorem ei_rng2 {t : TA} (h : EvA K J t δ S fun xs S1 => ∃ lo n : Int, xs = [.int lo, .int n] ∧ Rg lo ∧ Rg n ∧ PI (rgD lo (n - lo).toNat) S1) : EvI K J (iRng2 t) δ S PI := fun G H σ w j e R k =>
  h G H σ w j e _ fun G1 H1 S1 vs ds w1 x1 r1 ⟨lo, n, ed, hl, hn, p⟩ => by
    subst ed
    cases r1 with
    | cons r rr =>
      cases rr with
      | cons r' rr =>
        cases rr; cases r; cases r'
        exact ⟨lo, n, rfl, ⟨hl.1, hl.2, hn.1, hn.2⟩, k G1 H1 S1 _ _ w1 x1 (src_rng lo _) p⟩
theorem ei_enum {t : TA} (h : EvA K J t δ S fun xs S1 => ∃ ds, xs = [.lst ds] ∧ PI (enD ds) S1) : EvI K J (iEnum K t) δ S PI := fun G H σ w j e R k =>
  h G H σ w j e _ fun G1 H1 S1 vs xs w1 x1 r1 ⟨ds, ed, p⟩ => by
    subst ed
    cases r1 with
    | cons r rr =>
      cases rr
      cases r with
      | lst hq rs => exact ⟨_, _, rfl, .inl (.inl (w1.sub _ _ hq)), k G1 H1 S1 _ _ w1 x1 (src_enum (.inl (.inl hq)) rs) p⟩
theorem ei_zip {t : TA} (h : EvA K J t δ S fun xs S1 => ∃ ds es, xs = [.lst ds, .lst es] ∧ PI (zpD ds es) S1) : EvI K J (iZip K t) δ S PI := fun G H σ w j e R k =>
  h G H σ w j e _ fun G1 H1 S1 vs xs w1 x1 r1 ⟨ds, es, ed, p⟩ => by
    subst ed
    cases r1 with
    | cons r rr =>
      cases rr with
      | cons r' rr =>
        cases rr
        cases r with
        | lst hq rs =>
          cases r' with
          | lst hq' rs' => exact ⟨_, _, _, _, rfl, .inl (.inl (w1.sub _ _ hq)), .inl (.inl (w1.sub _ _ hq')), k G1 H1 S1 _ _ w1 x1 (src_zip (.inl (.inl hq)) rs (.inl (.inl hq')) rs') p⟩
/-- for target in ..: -/
theorem run_for {wi : TI} {g : TG} {t : TS} {R : Out} (h : EvI K J wi δ S fun ds S1 => ∃ I : Nat → En → Store → Prop, I 0 δ S1 ∧ (∀ i x δ' S', ds[i]? = some x → I i δ' S' → Turns K J g t R I i x δ' S') ∧ ∀ δ' S', I ds.length δ' S' → R.nx δ' S') :
    Run K J (tFor wi g t) δ S R := fun G H σ D w j e o =>
  h G H σ w j e _ fun G1 H1 S1 It ds w1 x1 src ⟨I, i0, hs, hd⟩ => by
    refine ⟨fun i m σ' H' => m = ds.length - i ∧ i ≤ ds.length ∧ ∃ G' S' δ', Wd K G' H' S' ∧ J.at G' H' S' ∧ Sub G1 G' ∧ EnR K G' σ' δ' ∧ I i δ' S',
      ⟨_, rfl, Nat.zero_le _, G1, S1, δ, w1, j.trans x1, .refl _, e.mono x1.gsub, i0⟩, ?_⟩
    rintro i m σ2 H2 ⟨rfl, hi, G2, S2, δ2, w2, j2, s2, e2, i2⟩
    by_cases hlt : i < ds.length
    · have hx : ds[i]? = some ds[i] := List.getElem?_eq_getElem hlt
      obtain ⟨go, yl⟩ := src.go i G2 H2 S2 _ hx w2 s2
      refine .inr ⟨go, fun σ' H' => ∃ G' S' δ', Wd K G' H' S' ∧ J.at G' H' S' ∧ Sub G1 G' ∧ EnR K G' σ' δ' ∧ I (i + 1) δ' S', ?_, ?_⟩
      · rintro σ' H' q
        exact ⟨ds.length - (i + 1), by omega, rfl, hlt, q⟩
      · rintro v H3 hy
        obtain ⟨G3, w3, x3, r3⟩ := yl v H3 hy
        refine hs i _ δ2 S2 hx i2 G3 H3 σ2 v w3 (Ext.trans j2 x3) (e2.mono x3.gsub) r3 _ fun G4 H4 S4 σ4 δ4 w4 x4 e4 p => ?_
        have s14 : Sub G1 G4 := (s2.trans x3.gsub).trans x4.gsub
        refine p G4 H4 σ4 _ w4 ((Ext.trans j2 x3).trans x4) e4 ⟨?_, o.rt, ?_, ?_⟩
        · exact fun G5 H5 S5 σ5 δ5 w5 j5 s5 e5 p => ⟨G5, S5, δ5, w5, j5, s14.trans s5, e5, p⟩
        · exact fun G5 H5 S5 σ5 δ5 w5 j5 s5 e5 p => o.nx G5 H5 S5 σ5 δ5 w5 j5 ((x1.gsub.trans s14).trans s5) e5 p
        · exact fun G5 H5 S5 σ5 δ5 w5 j5 s5 e5 p => ⟨G5, S5, δ5, w5, j5, s14.trans s5, e5, p⟩
    · have e9 : i = ds.length := by omega
      subst e9
      exact .inl ⟨src.stop G2 H2 S2 w2 s2, o.nx G2 H2 S2 σ2 δ2 w2 j2 (x1.gsub.trans s2) e2 (hd _ _ i2)⟩

/-! ### comprehensions -/
/-- the target stores into these slots alone -/
def GK (vs : List Nat) (g : TG) : Prop := ∀ (v : V) (σ0 σ : L2.St) (H : Hp) (N : L2.St → Hp → Prop), wipe σ vs = wipe σ0 vs → g v σ H N → g v σ H fun σ2 H2 => wipe σ2 vs = wipe σ0 vs ∧ N σ2 H2
def GKs (vs : List Nat) (g : TGs) : Prop := ∀ (us : List V) (σ0 σ : L2.St) (H : Hp) (N : L2.St → Hp → Prop), wipe σ vs = wipe σ0 vs → g us σ H N → g us σ H fun σ2 H2 => wipe σ2 vs = wipe σ0 vs ∧ N σ2 H2
theorem wipe_get (σ : L2.St) (i : Nat) : ∀ vs : List Nat, (wipe σ vs)[i]? = if i ∈ vs ∧ i < σ.length then some none else σ[i]?
  | [] => by simp [L2.wipe]
  | v :: vs => by
    unfold L2.wipe
    by_cases hv : v = i
    · subst hv
      by_cases hl : v < σ.length
      · rw [List.getElem?_set_self (by rw [wipe_length]; exact hl), if_pos ⟨List.mem_cons_self, hl⟩]
      · rw [List.getElem?_eq_none (by rw [List.length_set, wipe_length]; omega), if_neg (fun z => hl z.2), List.getElem?_eq_none (by omega)]
    · rw [List.getElem?_set_ne hv, wipe_get σ i vs]
      have e : (i ∈ v :: vs ∧ i < σ.length) ↔ (i ∈ vs ∧ i < σ.length) := by
        rw [List.mem_cons]
        exact ⟨fun ⟨a, b⟩ => ⟨a.resolve_left (fun z => hv z.symm), b⟩, fun ⟨a, b⟩ => ⟨.inr a, b⟩⟩
      by_cases h : i ∈ vs ∧ i < σ.length
      · rw [if_pos h, if_pos (e.mpr h)]
      · rw [if_neg h, if_neg (fun z => h (e.mp z))]
theorem wipe_set {σ : L2.St} {i : Nat} {x : Option V} {vs : List Nat} (h : i ∈ vs) : wipe (σ.set i x) vs = wipe σ vs := by
  apply List.ext_getElem?
  intro k
  rw [wipe_get, wipe_get, List.length_set]
  by_cases hk : k ∈ vs ∧ k < σ.length
  · rw [if_pos hk, if_pos hk]
  · rw [if_neg hk, if_neg hk]
    by_cases e : i = k
    · subst e
      have hl : ¬ i < σ.length := fun z => hk ⟨h, z⟩
      rw [List.getElem?_eq_none (by rw [List.length_set]; omega), List.getElem?_eq_none (by omega)]
    · rw [List.getElem?_set_ne e]
theorem gk_name {i : Nat} {vs : List Nat} (h : i ∈ vs) : GK vs (gName i) := fun v σ0 σ H N hw q => ⟨by rw [wipe_set h]; exact hw, q⟩
theorem gks_nil {vs : List Nat} : GKs vs gNil := fun us σ0 σ H N hw q => ⟨q.1, hw, q.2⟩
theorem gk_mono {g : TG} {vs : List Nat} (h : GK vs g) : GK vs g := h
theorem gks_cons {g : TG} {gs : TGs} {vs : List Nat} (hm : ∀ (v : V) (σ : L2.St) (H : Hp) (N N' : L2.St → Hp → Prop), (∀ a b, N a b → N' a b) → g v σ H N → g v σ H N') (h : GK vs g) (hs : GKs vs gs) : GKs vs (gCons g gs) := fun us σ0 σ H N hw ⟨v, r, e, q⟩ =>
  ⟨v, r, e, hm _ _ _ _ _ (fun σ1 H1 ⟨hw1, q1⟩ => hs r σ0 σ1 H1 N hw1 q1) (h v σ0 σ H _ hw q)⟩
theorem gk_tup {gs : TGs} {vs : List Nat} {n : Nat} (hs : GKs vs gs) : GK vs (gTup K n gs) := fun v σ0 σ H N hw ⟨a, xs, e, hq, hl, q⟩ => ⟨a, xs, e, hq, hl, hs xs σ0 σ H N hw q⟩
theorem gm_name {i : Nat} : ∀ (v : V) (σ : L2.St) (H : Hp) (N N' : L2.St → Hp → Prop), (∀ a b, N a b → N' a b) → gName i v σ H N → gName i v σ H N' := fun v σ H N N' h q => h _ _ q
theorem wipe_wipe {σ : L2.St} {vs : List Nat} : wipe (wipe σ vs) vs = wipe σ vs := by
  apply List.ext_getElem?
  intro k
  rw [wipe_get, wipe_get, wipe_length]
  by_cases hk : k ∈ vs ∧ k < σ.length
  · rw [if_pos hk, if_pos hk]
  · rw [if_neg hk, if_neg hk]
/-- a list that grows beside the world -/
structure Grow (K : Frag) (G1 H1 : Hp) (S1 : Store) (G H : Hp) (S : Store) (D : Addr) (acc : List DL.D) : Prop where
  wd : Wd K G H S
  ext : Ext G1 H1 S1 G H S
  new : H1 D = none
  noG : G D = none
  noS : S D = none
  at_ : ∃ vs, H D = some (.lst vs) ∧ Reps K G vs acc
theorem Grow.start {G1 H1 : Hp} {S1 : Store} {D : Addr} (w : Wd K G1 H1 S1) (h : H1 D = none) : Grow K G1 H1 S1 G1 (upd H1 D (.lst [])) S1 D [] where
  wd := ⟨w.sub.trans (Sub.new h), fun a m e => by
    have hb : a ≠ D := fun z => by subst z; rw [(w.free h).2] at e; cases e
    obtain ⟨e1, u, e2, r⟩ := w.own a m e
    exact ⟨e1, u, by rw [upd_ne hb]; exact e2, r⟩, fun q hq => ⟨tabS_new (w.tabs q hq).1 h, (w.tabs q hq).2⟩, w.nt⟩
  ext := ⟨.refl _, fun _ _ e => .inl e, fun b u e _ _ => by rw [upd_ne (ne_of_none e h)]; exact e, fun b e => e.up h, fun b m e => .inl (by rw [e]; exact fun z => by cases z), fun _ e => e⟩
  new := h
  noG := (w.free h).1
  noS := (w.free h).2
  at_ := ⟨[], upd_same, .nil⟩
theorem Grow.step {G1 H1 G2 H2 : Hp} {S1 S2 : Store} {D : Addr} {acc : List DL.D} (q : Grow K G1 H1 S1 G H S D acc) (w : Wd K G2 H2 S2) (x : Ext G H S G2 H2 S2) : Grow K G1 H1 S1 G2 H2 S2 D acc where
  wd := w
  ext := q.ext.trans x
  new := q.new
  noG := by
    obtain ⟨vs, h, _⟩ := q.at_
    cases e : G2 D with
    | none => rfl
    | some o =>
      rcases x.gnew D o e with z | z | ⟨us, z⟩
      · rw [q.noG] at z; cases z
      · exact (z.no h (by intro _ z; cases z)).elim
      · have e2 := w.sub D o e
        rw [x.keep D _ h q.noS (by intro _ z; cases z), z] at e2
        cases e2
  noS := by
    obtain ⟨vs, h, _⟩ := q.at_
    cases e : S2 D with
    | none => rfl
    | some m =>
      rcases x.snew D m e with z | z
      · exact absurd q.noS z
      · exact (z.no h (by intro _ z; cases z)).elim
  at_ := let ⟨vs, h, r⟩ := q.at_; ⟨vs, x.keep D _ h q.noS (by intro _ z; cases z), r.mono x.gsub⟩
theorem Grow.push {G1 H1 : Hp} {S1 : Store} {D : Addr} {acc : List DL.D} {v : V} {d : DL.D} {vs : List V} (q : Grow K G1 H1 S1 G H S D acc) (h : H D = some (.lst vs)) (r : Rep K G v d) : Grow K G1 H1 S1 G (upd H D (.lst (vs ++ [v]))) S D (acc ++ [d]) where
  wd := ⟨fun b u e => by
      have hb : b ≠ D := fun z => by subst z; rw [q.noG] at e; cases e
      rw [upd_ne hb]; exact q.wd.sub b u e, fun a m e => by
    have hb : a ≠ D := fun z => by subst z; rw [q.noS] at e; cases e
    obtain ⟨e1, u, e2, r⟩ := q.wd.own a m e
    exact ⟨e1, u, by rw [upd_ne hb]; exact e2, r⟩, fun z hz => ⟨tabS_put (q.wd.tabs z hz).1 h (by intro _ z; cases z) (by intro _ z; cases z), (q.wd.tabs z hz).2⟩, q.wd.nt⟩
  ext := ⟨q.ext.gsub, q.ext.gnew, fun b u e hs ht => by rw [upd_ne (ne_of_none e q.new)]; exact q.ext.keep b u e hs ht, fun b e => q.ext.there b fun u z => by
    by_cases hb : b = D
    · subst hb; exact (e.no upd_same (by intro _ z; cases z)).elim
    · exact e u (by rw [upd_ne hb]; exact z), q.ext.snew, q.ext.sold⟩
  new := q.new
  noG := q.noG
  noS := q.noS
  at_ := ⟨_, upd_same, by
    obtain ⟨ws, hw, rw_⟩ := q.at_
    rw [h] at hw; cases hw
    exact rw_.append (.cons r .nil)⟩
theorem Grow.fin {G1 H1 : Hp} {S1 : Store} {D : Addr} {acc : List DL.D} (q : Grow K G1 H1 S1 G H S D acc) : ∃ o, Wd K (upd G D o) H S ∧ Ext G1 H1 S1 (upd G D o) H S ∧ Rep K (upd G D o) (.ref D) (.lst acc) := by
  obtain ⟨vs, h, r⟩ := q.at_
  refine ⟨.lst vs, ⟨fun b u e => ?_, fun a m e => ?_, fun z hz => ?_, nt_upd q.wd.nt (by intro _ z; cases z)⟩, ⟨q.ext.gsub.trans (Sub.new q.noG), fun b u e => ?_, q.ext.keep, q.ext.there, q.ext.snew, q.ext.sold⟩, .lst upd_same (r.mono (Sub.new q.noG))⟩
  · by_cases hb : b = D
    · subst hb; rw [upd_same] at e; rw [← e]; exact h
    · rw [upd_ne hb] at e; exact q.wd.sub b u e
  · have hb : a ≠ D := fun z => by subst z; rw [q.noS] at e; cases e
    obtain ⟨e1, u, e2, r⟩ := q.wd.own a m e
    exact ⟨by rw [upd_ne hb]; exact e1, u, e2, r.mono (Sub.new q.noG)⟩
  · obtain ⟨t, g, s⟩ := q.wd.tabs z hz
    obtain ⟨ps, e1, _⟩ := id t
    exact ⟨t, by rw [upd_ne (fun y => by rw [y, h] at e1; cases e1)]; exact g, s⟩
  · by_cases hb : b = D
    · subst hb; exact .inr (.inl (.of q.new))
    · rw [upd_ne hb] at e; exact q.ext.gnew b u e
/-- what a turn of a comprehension is to show -/
abbrev CTurn (K : Frag) (J : Jd) (g : TG) (tt : TT) (te : TE) (vs : List Nat) (δ : En) (I : Nat → List DL.D → Store → Prop) (i : Nat) (x : DL.D) (acc : List DL.D) (S' : Store) : Prop :=
  EvG K J g x (wipeD δ vs) S' fun δ2 S2 => EvT K J tt δ2 S2 fun b S3 => (b = true → Ev K J te δ2 S3 fun y S4 => acc.length < sizeLine ∧ I (i + 1) (acc ++ [y]) S4) ∧ (b = false → I (i + 1) acc S3)
theorem ev_lc {wi : TI} {g : TG} {tt : TT} {vs : List Nat} (hk : GK vs g)
    (h : EvI K J wi δ S fun ds S1 => ∃ I : Nat → List DL.D → Store → Prop, I 0 [] S1 ∧ (∀ i x acc S', ds[i]? = some x → I i acc S' → CTurn K J g tt te vs δ I i x acc S') ∧ ∀ acc S', I ds.length acc S' → P (.lst acc) S') :
    Ev K J (tLc wi g tt te vs) δ S P := fun G H σ w j e Q k =>
  h G H σ w j e _ fun G1 H1 S1 It ds w1 x1 src ⟨I, i0, hs, hd⟩ => by
    intro D hD
    refine ⟨fun i m H' => m = ds.length - i ∧ i ≤ ds.length ∧ ∃ G' S' acc, Grow K G1 H1 S1 G' H' S' D acc ∧ I i acc S', ⟨_, rfl, Nat.zero_le _, G1, S1, [], Grow.start w1 hD, i0⟩, ?_⟩
    rintro i m H2 ⟨rfl, hi, G2, S2, acc, q2, i2⟩
    by_cases hlt : i < ds.length
    · have hx : ds[i]? = some ds[i] := List.getElem?_eq_getElem hlt
      obtain ⟨go, yl⟩ := src.go i G2 H2 S2 _ hx q2.wd q2.ext.gsub
      refine .inr ⟨go, fun H' => ∃ G' S' acc', Grow K G1 H1 S1 G' H' S' D acc' ∧ I (i + 1) acc' S', ?_, ?_⟩
      · rintro H' q
        exact ⟨ds.length - (i + 1), by omega, rfl, hlt, q⟩
      · rintro v H3 hy
        obtain ⟨G3, w3, x3, r3⟩ := yl v H3 hy
        have q3 := q2.step w3 x3
        have j3 : J.at G3 H3 S2 := (Ext.trans j x1).trans q3.ext
        refine hk v σ (wipe σ vs) H3 _ wipe_wipe ?_
        refine hs i _ acc S2 hx i2 G3 H3 (wipe σ vs) v w3 j3 ((e.mono (x1.trans q3.ext).gsub).wipe vs) r3 _ fun G4 H4 S4 σ4 δ4 w4 x4 e4 p => ?_
        have q4 := q3.step w4 x4
        have j4 : J.at G4 H4 S4 := (Ext.trans j x1).trans q4.ext
        refine p G4 H4 σ4 w4 j4 e4 _ fun G5 H5 S5 b w5 x5 p5 => ?_
        have q5 := q4.step w5 x5
        have j5 : J.at G5 H5 S5 := (Ext.trans j x1).trans q5.ext
        cases b with
        | false => exact ⟨G5, S5, acc, q5, p5.2 rfl⟩
        | true =>
          refine p5.1 rfl G5 H5 σ4 w5 j5 (e4.mono x5.gsub) _ fun G6 H6 S6 v6 d6 w6 x6 r6 ⟨p6, i6⟩ => ?_
          have q6 := q5.step w6 x6
          obtain ⟨vs6, h6, rs6⟩ := q6.at_
          exact ⟨vs6, h6, by rw [rs6.length]; exact p6, G6, S6, _, q6.push h6 r6, i6⟩
    · have e9 : i = ds.length := by omega
      subst e9
      obtain ⟨o, wf, xf, rf⟩ := q2.fin
      exact .inl ⟨src.stop G2 H2 S2 q2.wd q2.ext.gsub, k _ _ S2 _ _ wf (x1.trans xf) rf (hd _ _ i2)⟩
end
end DL

set_option maxHeartbeats 1900000
/-! DL6: sequences, dicts, built-ins and methods over deep data. -/
namespace DL
open PySem L2 PySem.Spec PyProof.Rows
/-- a list, mutable or not -/
def LstAt (S : Store) (d : D) (ds : List D) : Prop := d = .lst ds ∨ ∃ a, d = .loc a ∧ S a = some (.lst ds)
/-- a list or a tuple -/
def SqAt (S : Store) (d : D) (ds : List D) : Prop := LstAt S d ds ∨ d = .tup ds
/-- a dict, mutable or not -/
def DctAt (S : Store) (d : D) (kvs : List (Key × D)) : Prop := d = .dK kvs ∨ ∃ a, d = .loc a ∧ S a = some (.dK kvs)
theorem LstAt.v {S : Store} {ds : List D} : LstAt S (.lst ds) ds := .inl rfl
theorem LstAt.m {S : Store} {a : Addr} {ds : List D} (h : S a = some (.lst ds)) : LstAt S (.loc a) ds := .inr ⟨a, rfl, h⟩
theorem SqAt.l {S : Store} {ds : List D} : SqAt S (.lst ds) ds := .inl .v
theorem SqAt.m {S : Store} {a : Addr} {ds : List D} (h : S a = some (.lst ds)) : SqAt S (.loc a) ds := .inl (.m h)
theorem SqAt.t {S : Store} {ds : List D} : SqAt S (.tup ds) ds := .inr rfl
theorem DctAt.v {S : Store} {ds : List (Key × D)} : DctAt S (.dK ds) ds := .inl rfl
theorem DctAt.m {S : Store} {a : Addr} {ds : List (Key × D)} (h : S a = some (.dK ds)) : DctAt S (.loc a) ds := .inr ⟨a, rfl, h⟩
theorem Store.set_at {S : Store} {a b : Addr} {m : M} (h : a = b) : S.set b m a = some m := by subst h; exact Store.set_same
section
variable {K : Frag} {J : Jd} {δ : En} {S : Store} {P : D → Store → Prop} {G H : Hp} {Q : VK} {ta tb te : TE} {v : V} {d x y : D} {ds es : List D} {vs : List V}
theorem LstAt.rep (w : Wd K G H S) (r : Rep K G v d) (h : LstAt S d ds) : ∃ a vs, v = .ref a ∧ H a = some (.lst vs) ∧ Reps K G vs ds := by
  rcases h with e | ⟨a, e, hs⟩
  · subst e
    cases r with
    | lst h rs => exact ⟨_, _, rfl, w.sub _ _ h, rs⟩
  · subst e
    cases r
    obtain ⟨_, o, ho, rm⟩ := w.own a _ hs
    cases o <;> first | exact rm.elim | skip
    exact ⟨a, _, rfl, ho, rm⟩
theorem SqAt.rep (w : Wd K G H S) (r : Rep K G v d) (h : SqAt S d ds) : ∃ a vs, v = .ref a ∧ (SqL K H a vs ∨ SqT K H a vs) ∧ Reps K G vs ds := by
  rcases h with h | e
  · obtain ⟨a, vs, e, h1, h2⟩ := h.rep w r
    exact ⟨a, vs, e, .inl (.inl (.inl h1)), h2⟩
  · subst e
    cases r with
    | tup h rs => exact ⟨_, _, rfl, .inr (w.sub.t h), rs⟩
theorem DctAt.rep {kvs : List (Key × D)} (w : Wd K G H S) (r : Rep K G v d) (h : DctAt S d kvs) : ∃ a fs, v = .ref a ∧ H a = some (.dK fs) ∧ RepK K G fs kvs := by
  rcases h with e | ⟨a, e, hs⟩
  · subst e
    cases r with
    | dK h rs => exact ⟨_, _, rfl, w.sub _ _ h, rs⟩
  · subst e
    cases r
    obtain ⟨_, o, ho, rm⟩ := w.own a _ hs
    cases o <;> first | exact rm.elim | skip
    exact ⟨a, _, rfl, ho, rm⟩
/-! ### items -/
theorem Reps.atI {i : Int} (r : Reps K G vs ds) (h : L2.atI ds i = some d) : ∃ v, L2.atI vs i = some v ∧ Rep K G v d := by
  unfold L2.atI at h ⊢
  rw [r.length]
  cases q : ixN ds.length i with
  | none => rw [q] at h; cases h
  | some j => rw [q] at h; exact r.getD h
theorem atI_nn {α : Type} {xs : List α} {i : Int} {z : α} (h0 : 0 ≤ i) (h : xs[i.toNat]? = some z) : L2.atI xs i = some z := by
  have hl := (List.getElem?_eq_some_iff.mp h).1
  unfold L2.atI ixN
  rw [if_pos h0, if_pos (by omega)]
  exact h
theorem atI_nat {α : Type} {xs : List α} {i : Nat} {z : α} (h : xs[i]? = some z) : L2.atI xs (i : Int) = some z := atI_nn (Int.natCast_nonneg i) (by rw [Int.toNat_natCast]; exact h)
theorem atI_last {α : Type} {xs : List α} {z : α} (h : xs[xs.length - 1]? = some z) : L2.atI xs (-1) = some z := by
  have hl := (List.getElem?_eq_some_iff.mp h).1
  unfold L2.atI ixN
  rw [if_neg (by omega)]
  have e : ((-1 : Int) + (xs.length : Int)).toNat = xs.length - 1 := by omega
  rw [if_pos (by omega)]
  simp only [Option.bind_some]
  rw [e]; exact h
theorem o_ixL {i : Int} (hl : LstAt S x ds) (hi : L2.atI ds i = some d) (p : P d S) : Op K J (rIxL K) x (.int i) S P := fun G H vx vy w j r1 r2 Q k => by
  cases r2
  obtain ⟨a, vs, e, h1, rs⟩ := hl.rep w r1
  obtain ⟨v, hv, rv⟩ := rs.atI hi
  exact ⟨a, vs, i, v, e, rfl, .inl (.inl h1), hv, k.now w rv p⟩
theorem o_ixT {i : Int} (hi : L2.atI ds i = some d) (p : P d S) : Op K J (rIxT K) (.tup ds) (.int i) S P := fun G H vx vy w j r1 r2 Q k => by
  cases r2
  cases r1 with
  | tup h rs =>
    obtain ⟨v, hv, rv⟩ := rs.atI hi
    exact ⟨_, _, i, v, rfl, rfl, w.sub.t h, hv, k.now w rv p⟩
/-! ### new lists, tuples -/
theorem ev_lst {t : TA} (h : EvA K J t δ S fun xs S1 => xs.length ≤ sizeLine ∧ P (.lst xs) S1) : Ev K J (tLst t) δ S P := fun G H σ w j e Q k =>
  h G H σ w j e _ fun G1 H1 S1 vs ds w1 x1 r1 ⟨z, p⟩ => ⟨by rw [r1.length]; exact z, (k.mono x1).imm w1 (fun p G' s hp => .lst hp (r1.mono s)) p⟩
theorem ev_lstM {t : TA} (h : EvA K J t δ S fun xs S1 => xs.length ≤ sizeLine ∧ ∀ p, S1 p = none → J.S p = none → P (.loc p) (S1.set p (.lst xs))) : Ev K J (tLst t) δ S P := fun G H σ w j e Q k =>
  h G H σ w j e _ fun G1 H1 S1 vs ds w1 x1 r1 ⟨z, p⟩ => ⟨by rw [r1.length]; exact z, (k.mono x1).mut w1 (Ext.trans j x1) (o := .lst vs) (m := .lst ds) r1 p⟩
theorem ev_tup {t : TA} (h : EvA K J t δ S fun xs S1 => xs.length ≤ sizeLine ∧ P (.tup xs) S1) : Ev K J (tTup t) δ S P := fun G H σ w j e Q k =>
  h G H σ w j e _ fun G1 H1 S1 vs ds w1 x1 r1 ⟨z, p⟩ => ⟨by rw [r1.length]; exact z, (k.mono x1).imm w1 (fun p G' s hp => .tup (.inl (.inl hp)) (r1.mono s)) p⟩
/-- a mutable list display -/
def tLstM (t : TA) : TE := tLst t
theorem ev_lstM' {t : TA} (h : EvA K J t δ S fun xs S1 => xs.length ≤ sizeLine ∧ ∀ p, S1 p = none → J.S p = none → P (.loc p) (S1.set p (.lst xs))) : Ev K J (tLstM t) δ S P := ev_lstM h
theorem o_cat (hx : LstAt S x ds) (hy : LstAt S y es) (hz : ds.length + es.length ≤ sizeLine) (p : P (.lst (ds ++ es)) S) : Op K J rCat x y S P := fun G H vx vy w j r1 r2 Q k => by
  obtain ⟨a, vs, e1, h1, s1⟩ := hx.rep w r1
  obtain ⟨b, us, e2, h2, s2⟩ := hy.rep w r2
  exact ⟨a, b, vs, us, e1, e2, h1, h2, by rw [s1.length, s2.length]; exact hz, k.imm w (fun p G' s hp => .lst hp ((s1.append s2).mono s)) p⟩
theorem o_rep {i : Int} (hx : LstAt S x ds) (h1 : -(2 ^ 63) ≤ i) (h2 : i < 2 ^ 63) (hz : ds.length * i.toNat ≤ sizeLine) (p : P (.lst (List.replicate i.toNat ds).flatten) S) : Op K J rRep x (.int i) S P := fun G H vx vy w j r1 r2 Q k => by
  cases r2
  obtain ⟨a, vs, e1, h3, s1⟩ := hx.rep w r1
  exact ⟨a, i, vs, e1, rfl, h3, h1, h2, by rw [s1.length]; exact hz, k.imm w (fun p G' s hp => .lst hp ((s1.rep _).mono s)) p⟩
/-! ### slices -/
def EvO (K : Frag) (J : Jd) (to : TO) (δ : En) (S : Store) (P : Option Int → Store → Prop) : Prop := ∀ G H σ, Wd K G H S → J.at G H S → EnR K G σ δ → ∀ Q : Option Int → Hp → Prop, (∀ G' H' S' o, Wd K G' H' S' → Ext G H S G' H' S' → P o S' → Q o H') → to σ H Q
def Sc (K : Frag) (J : Jd) (r : V → Option Int → Option Int → Hp → VK → Prop) (x : D) (lo hi : Option Int) (S : Store) (P : D → Store → Prop) : Prop := ∀ G H vx, Wd K G H S → J.at G H S → Rep K G vx x → ∀ Q : VK, Kn K G H S P Q → r vx lo hi H Q
theorem eo_none {PO : Option Int → Store → Prop} (p : PO none S) : EvO K J tNoPart δ S PO := fun G H σ w j e Q k => k G H S none w (Ext.refl w) p
theorem eo_some {PO : Option Int → Store → Prop} (h : Ev K J te δ S fun d S1 => ∃ i, d = .int i ∧ PO (some i) S1) : EvO K J (tPart te) δ S PO := fun G H σ w j e Q k =>
  h G H σ w j e _ fun G1 H1 S1 v d w1 x1 r1 ⟨i, ed, p⟩ => by
    subst ed; cases r1
    exact ⟨i, rfl, k G1 H1 S1 _ w1 x1 p⟩
theorem ev_sl {r : V → Option Int → Option Int → Hp → VK → Prop} {tl th : TO} (h : Ev K J te δ S fun x S1 => EvO K J tl δ S1 fun lo S2 => EvO K J th δ S2 fun hi S3 => Sc K J r x lo hi S3 P) : Ev K J (L2.tSl r te tl th) δ S P := fun G H σ w j e Q k =>
  h G H σ w j e _ fun G1 H1 S1 v d w1 x1 r1 p1 => p1 G1 H1 σ w1 (j.trans x1) (e.mono x1.gsub) _ fun G2 H2 S2 lo w2 x2 p2 => p2 G2 H2 σ w2 ((j.trans x1).trans x2) (e.mono (x1.trans x2).gsub) _ fun G3 H3 S3 hi w3 x3 p3 =>
    p3 G3 H3 v w3 (((j.trans x1).trans x2).trans x3) (r1.mono (x2.trans x3).gsub) Q (k.mono ((x1.trans x2).trans x3))
def cutD (xs : List D) (lo hi : Option Int) : List D := (xs.drop (HT.sIx xs.length 0 lo)).take (HT.sIx xs.length xs.length hi - HT.sIx xs.length 0 lo)
theorem Reps.cut (r : Reps K G vs ds) (lo hi : Option Int) : Reps K G (cutV vs lo hi) (cutD ds lo hi) := by
  unfold cutV cutD
  rw [r.length]
  exact (r.drop _).take _
theorem s_lst {lo hi : Option Int} (hx : LstAt S x ds) (p : P (.lst (cutD ds lo hi)) S) : Sc K J (rSlL K) x lo hi S P := fun G H vx w j r1 Q k => by
  obtain ⟨a, vs, e1, h1, s1⟩ := hx.rep w r1
  exact ⟨a, vs, e1, .inl (.inl h1), k.imm w (fun p G' s hp => .lst hp ((s1.cut lo hi).mono s)) p⟩
theorem cutD_whole {lo hi : Option Int} (h : HT.sIx ds.length 0 lo = 0 ∧ HT.sIx ds.length ds.length hi = ds.length) : cutD ds lo hi = ds := by
  unfold cutD
  rw [h.1, h.2, List.drop_zero, Nat.sub_zero, List.take_length]
theorem s_tup {lo hi : Option Int} (p : P (.tup (cutD ds lo hi)) S) : Sc K J (rSlA K) (.tup ds) lo hi S P := fun G H vx w j r1 Q k => by
  cases r1 with
  | tup h rs =>
    refine ⟨_, _, rfl, w.sub.t h, fun z => ?_, fun _ => k.imm w (fun p G' s hp => .tup (.inl (.inl hp)) ((rs.cut lo hi).mono s)) p⟩
    rw [rs.length] at z
    rw [cutD_whole z] at p
    exact k.now w (.tup h rs) p
theorem s_str {z : Str} {lo hi : Option Int} (hz : z.length ≤ sizeLine) (p : P (.str (cutS z lo hi)) S) : Sc K J rSlS (.str z) lo hi S P := fun G H vx w j r1 Q k => by
  cases r1
  exact ⟨z, rfl, hz, k.now w (.str _) p⟩
/-! ### dicts -/
def kD : Key → D
  | .inl i => .int i
  | .inr x => .str x
def valD {κ : Type} [DecidableEq κ] (kvs : List (κ × D)) (k : κ) : Option D := (kvs.find? fun kv => decide (kv.1 = k)).map (·.2)
def putKD {κ : Type} [DecidableEq κ] (kvs : List (κ × D)) (k : κ) (v : D) : List (κ × D) := if (kvs.any fun kv => decide (kv.1 = k)) = true then kvs.map (fun kv => if kv.1 = k then (kv.1, v) else kv) else kvs ++ [(k, v)]
def mergeD {κ : Type} [DecidableEq κ] (kvs more : List (κ × D)) : List (κ × D) := more.foldl (fun acc kv => putKD acc kv.1 kv.2) kvs
theorem Rep.kV {k : Key} (r : Rep K G v (kD k)) : v = L2.kV k := by
  cases k <;> cases r <;> rfl
theorem RepK.val {fs : List (Key × V)} {gs : List (Key × D)} (r : RepK K G fs gs) (k : Key) (h : valD gs k = some d) : ∃ v, valV fs k = some v ∧ Rep K G v d := by
  induction fs generalizing gs with
  | nil => cases r; cases h
  | cons p fs ih =>
    cases r with
    | cons q t =>
      rename_i f v' d' gs
      unfold valD valV at *
      rw [List.find?_cons] at h ⊢
      by_cases e : f = k
      · rw [decide_eq_true e] at h ⊢
        cases h
        exact ⟨v', rfl, q⟩
      · rw [decide_eq_false e] at h ⊢
        exact ih t h
theorem RepK.append {fs fs' : List (Key × V)} {gs gs' : List (Key × D)} (r : RepK K G fs gs) (r' : RepK K G fs' gs') : RepK K G (fs ++ fs') (gs ++ gs') := by
  induction fs generalizing gs with
  | nil => cases r; exact r'
  | cons p fs ih => cases r with | cons q t => exact .cons q (ih t)
theorem RepK.any {fs : List (Key × V)} {gs : List (Key × D)} (r : RepK K G fs gs) (k : Key) : (fs.any fun kv => decide (kv.1 = k)) = (gs.any fun kv => decide (kv.1 = k)) := by
  induction fs generalizing gs with
  | nil => cases r; rfl
  | cons p fs ih => cases r with | cons q t => rw [List.any_cons, List.any_cons, ih t]
theorem RepK.length {fs : List (Key × V)} {gs : List (Key × D)} (r : RepK K G fs gs) : fs.length = gs.length := by
  induction fs generalizing gs with
  | nil => cases r; rfl
  | cons p fs ih => cases r with | cons q t => rw [List.length_cons, List.length_cons, ih t]
theorem RepK.mapput {k : Key} (q : Rep K G v d) {fs : List (Key × V)} {gs : List (Key × D)} (r : RepK K G fs gs) : RepK K G (fs.map fun kv => if kv.1 = k then (kv.1, v) else kv) (gs.map fun kv => if kv.1 = k then (kv.1, d) else kv) := by
  induction fs generalizing gs with
  | nil => cases r; exact .nil
  | cons p fs ih =>
    cases r with
    | cons q' t =>
      rename_i f v' d' gs
      (rw [List.map_cons, List.map_cons])
      by_cases e : f = k
      · simp only [e, if_true]; exact .cons q (ih t)
      · simp only [e, if_false]; exact .cons q' (ih t)
theorem RepK.put {fs : List (Key × V)} {gs : List (Key × D)} (r : RepK K G fs gs) (k : Key) (q : Rep K G v d) : RepK K G (putK fs k v) (putKD gs k d) := by
  unfold putK putKD
  rw [r.any k]
  by_cases h : (gs.any fun kv => decide (kv.1 = k)) = true
  · rw [if_pos h, if_pos h]; exact RepK.mapput q r
  · rw [if_neg h, if_neg h]; exact r.append (.cons q .nil)
theorem RepK.merge {fs fs' : List (Key × V)} {gs gs' : List (Key × D)} (r : RepK K G fs gs) (r' : RepK K G fs' gs') : RepK K G (mergeK fs fs') (mergeD gs gs') := by
  induction fs' generalizing fs gs gs' with
  | nil => cases r'; exact r
  | cons p fs' ih =>
    cases r' with
    | cons q t =>
      rename_i f v' d' gs''
      show RepK K G (mergeK (putK fs f v') fs') (mergeD (putKD gs f d') gs'')
      exact ih (r.put f q) t
theorem ev_dget {td ty : TE} (h : Ev K J td δ S fun x S1 => Ev K J ty δ S1 fun y S2 => ∃ kvs k z, DctAt S2 x kvs ∧ y = kD k ∧ valD kvs k = some z ∧ P z S2) : Ev K J (tDGet td ty) δ S P := fun G H σ w j e Q k =>
  h G H σ w j e _ fun G1 H1 S1 v d w1 x1 r1 p1 => p1 G1 H1 σ w1 (j.trans x1) (e.mono x1.gsub) _ fun G2 H2 S2 v2 d2 w2 x2 r2 ⟨kvs, key, z, hd, ek, hv, p⟩ => by
    subst ek
    obtain ⟨a, fs, e1, h1, rk⟩ := hd.rep w2 (r1.mono x2.gsub)
    obtain ⟨u, hu, ru⟩ := rk.val key hv
    refine ⟨a, u, e1, .inl ⟨fs, key, .inl h1, r2.kV, hu.symm⟩, k G2 H2 S2 u z w2 (x1.trans x2) ru p⟩
/-- by a name -/
theorem ev_dgetS {td : TE} {n : Str} (h : Ev K J td δ S fun x S1 => ∃ kvs z, DctAt S1 x kvs ∧ valD kvs (.inr n) = some z ∧ P z S1) : Ev K J (tDGet td (tC (.str n))) δ S P :=
  ev_dget (h.imp fun x S1 ⟨kvs, z, h1, h2, p⟩ => ev_str ⟨kvs, .inr n, z, h1, rfl, h2, p⟩)
theorem run_dput {R : Out} {td ty tv : TE} (h : Ev K J tv δ S fun v S1 => Ev K J td δ S1 fun x S2 => Ev K J ty δ S2 fun y S3 => ∃ a kvs k, x = .loc a ∧ S3 a = some (.dK kvs) ∧ y = kD k ∧ kvs.length < sizeLine ∧ R.nx δ (S3.set a (.dK (putKD kvs k v)))) :
    Run K J (sDPut td ty tv) δ S R := fun G H σ D w j e o =>
  h G H σ w j e _ fun G1 H1 S1 v x w1 x1 r1 p => p G1 H1 σ w1 (j.trans x1) (e.mono x1.gsub) _ fun G2 H2 S2 v2 d2 w2 x2 r2 p2 => p2 G2 H2 σ w2 ((j.trans x1).trans x2) (e.mono (x1.trans x2).gsub) _ fun G3 H3 S3 v3 d3 w3 x3 r3 ⟨a, kvs, key, e1, hs, ek, hl, q⟩ => by
    subst e1; subst ek
    cases r2
    obtain ⟨_, ob, ho, rm⟩ := w3.own a _ hs
    cases ob <;> first | exact rm.elim | skip
    rename_i fs
    have rf : RepK K G3 fs kvs := rm
    refine ⟨a, _, rfl, .inl ⟨fs, key, ho, r3.kV, by rw [rf.length]; exact hl, rfl⟩, ?_⟩
    exact o.nx G3 _ _ σ δ (w3.put (m' := .dK (putKD kvs key x)) hs (rf.put key (r1.mono (x2.trans x3).gsub))) ((((Ext.trans j x1).trans x2).trans x3).trans (Ext.put w3 hs)) ((x1.trans x2).trans x3).gsub (e.mono ((x1.trans x2).trans x3).gsub) q
def EvP (K : Frag) (J : Jd) : List (TE × TE) → En → Store → (List (D × D) → Store → Prop) → Prop
  | [], _, S, P => P [] S
  | (tk, tv) :: r, δ, S, P => Ev K J tk δ S fun x S1 => Ev K J tv δ S1 fun y S2 => EvP K J r δ S2 fun ps S3 => P ((x, y) :: ps) S3
inductive RepP (K : Frag) (G : Hp) : List (V × V) → List (D × D) → Prop
  | nil : RepP K G [] []
  | cons {a b : V} {x y : D} {ps : List (V × V)} {qs : List (D × D)} : Rep K G a x → Rep K G b y → RepP K G ps qs → RepP K G ((a, b) :: ps) ((x, y) :: qs)
theorem EvP.run : ∀ (trs : List (TE × TE)) {S : Store} {P : List (D × D) → Store → Prop}, EvP K J trs δ S P → ∀ G H σ, Wd K G H S → J.at G H S → EnR K G σ δ → ∀ Q : List (V × V) → Hp → Prop,
    (∀ G' H' S' ps qs, Wd K G' H' S' → Ext G H S G' H' S' → RepP K G' ps qs → P qs S' → Q ps H') → tPairs trs σ H Q
  | [], S, P, h, G, H, σ, w, j, e, Q, k => k G H S [] [] w (Ext.refl w) .nil h
  | (tk, tv) :: r, S, P, h, G, H, σ, w, j, e, Q, k =>
    h G H σ w j e _ fun G1 H1 S1 v1 d1 w1 x1 r1 p1 => p1 G1 H1 σ w1 (Ext.trans j x1) (e.mono x1.gsub) _ fun G2 H2 S2 v2 d2 w2 x2 r2 p2 =>
      EvP.run r p2 G2 H2 σ w2 ((Ext.trans j x1).trans x2) (e.mono (x1.trans x2).gsub) _ fun G3 H3 S3 ps qs w3 x3 r3 p3 =>
        k G3 H3 S3 _ _ w3 ((x1.trans x2).trans x3) (.cons (r1.mono (x2.trans x3).gsub) (r2.mono x3.gsub) r3) p3
theorem RepP.keys {ps : List (V × V)} : ∀ {kvs : List (Key × D)}, RepP K G ps (kvs.map fun kv => (kD kv.1, kv.2)) → ∃ fs : List (Key × V), ps = fs.map (fun kv => (L2.kV kv.1, kv.2)) ∧ RepK K G fs kvs := by
  induction ps with
  | nil => intro kvs r; cases kvs <;> cases r; exact ⟨[], rfl, .nil⟩
  | cons p ps ih =>
    intro kvs r
    cases kvs with
    | nil => cases r
    | cons q kvs =>
      cases r with
      | cons r1 r2 r3 =>
        obtain ⟨fs, e, rk⟩ := ih r3
        exact ⟨(q.1, _) :: fs, by rw [List.map_cons, ← e, r1.kV], .cons r2 rk⟩
/-- {k: v, ..}: a mutable dict -/
theorem ev_dispM {trs : List (TE × TE)} (h : ∀ p, S p = none → J.S p = none → EvP K J trs δ (S.set p (.dK [])) fun ps S' => ∃ kvs : List (Key × D), ps = kvs.map (fun kv => (kD kv.1, kv.2)) ∧ kvs.length ≤ 15 ∧ S' p = some (.dK []) ∧ P (.loc p) (S'.set p (.dK (mergeD [] kvs)))) :
    Ev K J (tDisp trs) δ S P := fun G H σ w j e Q k p hp => by
  have hs := (w.free hp).2
  have w1 : Wd K G (upd H p (.dK [])) (S.set p (.dK [])) := w.mut hp (o := .dK []) (m := .dK []) .nil
  have x1 : Ext G H S G (upd H p (.dK [])) (S.set p (.dK [])) := Ext.mut w hp
  refine EvP.run trs (h p hs (j.sold p hs)) G _ σ w1 (Ext.trans j x1) e _ fun G2 H2 S2 ps qs w2 x2 r2 ⟨kvs, e1, hl, hn, q⟩ => ?_
  subst e1
  obtain ⟨fs, e2, rk⟩ := r2.keys
  obtain ⟨_, ob, ho, rm⟩ := w2.own p _ hn
  cases ob <;> first | exact rm.elim | skip
  rename_i zs
  have rz : RepK K G2 zs [] := rm
  cases rz
  refine ⟨ho, fs, e2, by rw [rk.length]; exact hl, ?_⟩
  exact k G2 _ _ (.ref p) (.loc p) (w2.put (m' := .dK (mergeD [] kvs)) hn (RepK.merge .nil rk)) ((x1.trans x2).trans (Ext.put w2 hn)) (.loc p) q
/-! ### built-ins -/
theorem c_lenSeq (h : SqAt S x ds) (p : P (.int (ds.length : Nat)) S) : Cb K J (rLenSeq K) [x] S P := fun G H vs w j r Q k => by
  cases r with
  | cons r rr =>
    cases rr
    obtain ⟨a, us, e, hs, rs⟩ := h.rep w r
    subst e
    exact ⟨a, us, rfl, hs, by rw [rs.length]; exact k.now w (.int _) p⟩
theorem c_lenStr {z : Str} (h : z.length ≤ sizeLine) (p : P (.int (z.length : Nat)) S) : Cb K J rLenStr [.str z] S P := fun G H vs w j r Q k => by
  cases r with
  | cons r rr => cases rr; cases r; exact ⟨z, rfl, h, k.now w (.int _) p⟩
theorem c_abs {i : Int} (p : P (.int (if i < 0 then -i else i)) S) : Cb K J rAbs [.int i] S P := fun G H vs w j r Q k => by
  cases r with
  | cons r rr => cases rr; cases r; exact ⟨i, rfl, k.now w (.int _) p⟩
theorem c_min2 {a b : Int} (p : P (.int (if b < a then b else a)) S) : Cb K J rMin2 [.int a, .int b] S P := fun G H vs w j r Q k => by
  cases r with
  | cons r rr =>
    cases rr with
    | cons r' rr => cases rr; cases r; cases r'; exact ⟨a, b, rfl, k.now w (.int _) p⟩
theorem c_max2 {a b : Int} (p : P (.int (if b > a then b else a)) S) : Cb K J rMax2 [.int a, .int b] S P := fun G H vs w j r Q k => by
  cases r with
  | cons r rr =>
    cases rr with
    | cons r' rr => cases rr; cases r; cases r'; exact ⟨a, b, rfl, k.now w (.int _) p⟩
theorem c_int {i : Int} (p : P (.int i) S) : Cb K J rInt1 [.int i] S P := fun G H vs w j r Q k => by
  cases r with
  | cons r rr => cases rr; cases r; exact .inl ⟨i, rfl, k.now w (.int _) p⟩
theorem c_intB {b : Bool} (p : P (.int (if b then 1 else 0)) S) : Cb K J rInt1 [.bl b] S P := fun G H vs w j r Q k => by
  cases r with
  | cons r rr => cases rr; cases r; exact .inr ⟨b, rfl, k.now w (.int _) p⟩
theorem c_strI {i : Int} (h : i.natAbs.log2 < 1920) (p : P (.str (toString i)) S) : Cb K J rStrI [.int i] S P := fun G H vs w j r Q k => by
  cases r with
  | cons r rr => cases rr; cases r; exact ⟨i, rfl, h, k.now w (.str _) p⟩
theorem reps_bl : ∀ {vs : List V} {bs : List Bool}, Reps K G vs (bs.map D.bl) → vs = bs.map V.bl
  | _, [], .nil => rfl
  | _, _ :: _, .cons r t => by cases r; rw [reps_bl t]; rfl
theorem reps_int : ∀ {vs : List V} {bs : List Int}, Reps K G vs (bs.map D.int) → vs = bs.map V.int
  | _, [], .nil => rfl
  | _, _ :: _, .cons r t => by cases r; rw [reps_int t]; rfl
theorem reps_str : ∀ {vs : List V} {bs : List Str}, Reps K G vs (bs.map D.str) → vs = bs.map V.str
  | _, [], .nil => rfl
  | _, _ :: _, .cons r t => by cases r; rw [reps_str t]; rfl
theorem ints_reps : ∀ bs : List Int, Reps K G (bs.map V.int) (bs.map D.int)
  | [] => .nil
  | b :: bs => .cons (.int b) (ints_reps bs)
theorem strs_reps : ∀ bs : List Str, Reps K G (bs.map V.str) (bs.map D.str)
  | [] => .nil
  | b :: bs => .cons (.str b) (strs_reps bs)
theorem c_all {bs : List Bool} (h : LstAt S x (bs.map D.bl)) (p : P (.bl (bs.all id)) S) : Cb K J (rAll K) [x] S P := fun G H vs w j r Q k => by
  cases r with
  | cons r rr =>
    cases rr
    obtain ⟨a, us, e, hs, rs⟩ := h.rep w r
    subst e
    rw [reps_bl rs] at hs
    exact ⟨a, bs, rfl, .inl (.inl hs), k.now w (.bl _) p⟩
theorem c_any {bs : List Bool} (h : LstAt S x (bs.map D.bl)) (p : P (.bl (bs.any id)) S) : Cb K J (rAny K) [x] S P := fun G H vs w j r Q k => by
  cases r with
  | cons r rr =>
    cases rr
    obtain ⟨a, us, e, hs, rs⟩ := h.rep w r
    subst e
    rw [reps_bl rs] at hs
    exact ⟨a, bs, rfl, .inl (.inl hs), k.now w (.bl _) p⟩
theorem c_listOf (h : SqAt S x ds) (p : P (.lst ds) S) : Cb K J (rListOf K) [x] S P := fun G H vs w j r Q k => by
  cases r with
  | cons r rr =>
    cases rr
    obtain ⟨a, us, e, hs, rs⟩ := h.rep w r
    subst e
    exact ⟨a, us, rfl, hs, k.imm w (fun p G' s hp => .lst hp (rs.mono s)) p⟩
theorem c_tupOf (h : SqAt S x ds) (p : P (.tup ds) S) : Cb K J (rTupOf K) [x] S P := fun G H vs w j r Q k => by
  cases r with
  | cons r rr =>
    cases rr
    rcases h with h | e
    · obtain ⟨a, us, e, hs, rs⟩ := h.rep w r
      subst e
      exact ⟨a, us, rfl, .inl ⟨.inl (.inl hs), k.imm w (fun p G' s hp => .tup (.inl (.inl hp)) (rs.mono s)) p⟩⟩
    · subst e
      cases r with
      | tup h rs => exact ⟨_, _, rfl, .inr ⟨w.sub.t h, k.now w (.tup h rs) p⟩⟩
/-! ### methods of built-in types -/
theorem ev_bm {T : String} {r : V → List V → Hp → VK → Prop} {t : TA} (h : Ev K J ta δ S fun x S1 => (∀ G H v, Wd K G H S1 → Rep K G v x → tyV K T v H) ∧ EvA K J t δ S1 fun xs S2 => Mb K J r x xs S2 P) : Ev K J (tBM K T r ta t) δ S P := fun G H σ w j e Q k =>
  h G H σ w j e _ fun G1 H1 S1 v d w1 x1 r1 ⟨ty, p1⟩ => ⟨ty G1 H1 v w1 r1, p1 G1 H1 σ w1 (j.trans x1) (e.mono x1.gsub) _ fun G2 H2 S2 vs ds w2 x2 r2 p2 =>
    p2 G2 H2 v vs w2 ((j.trans x1).trans x2) (r1.mono x2.gsub) r2 Q (k.mono (x1.trans x2))⟩
theorem ev_bm0 {T : String} {r : V → List V → Hp → VK → Prop} (h : Ev K J ta δ S fun x S1 => (∀ G H v, Wd K G H S1 → Rep K G v x → tyV K T v H) ∧ Mb K J r x [] S1 P) : Ev K J (tBM0 K T r ta) δ S P := fun G H σ w j e Q k =>
  h G H σ w j e _ fun G1 H1 S1 v d w1 x1 r1 ⟨ty, p1⟩ => ⟨ty G1 H1 v w1 r1, p1 G1 H1 v [] w1 (j.trans x1) r1 .nil Q (k.mono x1)⟩
theorem ty_list (h : LstAt S x ds) : ∀ G H v, Wd K G H S → Rep K G v x → tyV K "list" v H := fun G H v w r => by
  obtain ⟨a, us, e, hs, rs⟩ := h.rep w r
  subst e
  exact .inl ⟨rfl, us, .inl (.inl hs)⟩
theorem ty_str {z : Str} : ∀ G H v, Wd K G H S → Rep K G v (.str z) → tyV K "str" v H := fun G H v w r => by cases r; rfl
theorem ev_m1 {r : V → List V → Hp → VK → Prop} (h : Ev K J ta δ S fun x S1 => (∃ z, x = .str z) ∧ Ev K J tb δ S1 fun y S2 => Mb K J r x [y] S2 P) : Ev K J (tM1 r ta tb) δ S P := fun G H σ w j e Q k =>
  h G H σ w j e _ fun G1 H1 S1 v d w1 x1 r1 ⟨⟨z, ez⟩, p1⟩ => ⟨by subst ez; cases r1; exact ⟨z, rfl⟩, p1 G1 H1 σ w1 (j.trans x1) (e.mono x1.gsub) _ fun G2 H2 S2 v2 d2 w2 x2 r2 p2 =>
    p2 G2 H2 v [v2] w2 ((j.trans x1).trans x2) (r1.mono x2.gsub) (.cons r2 .nil) Q (k.mono (x1.trans x2))⟩
theorem m_append {a : Addr} (hs : S a = some (.lst ds)) (hl : ds.length < sizeLine) (p : P .non (S.set a (.lst (ds ++ [y])))) : Mb K J rAppend (.loc a) [y] S P := fun G H vx vs w j r1 r2 Q k => by
  cases r1
  cases r2 with
  | cons r rr =>
    cases rr
    obtain ⟨_, o, ho, rm⟩ := w.own a _ hs
    cases o <;> first | exact rm.elim | skip
    rename_i us v'
    have rs : Reps K G v' ds := rm
    exact ⟨a, v', _, rfl, rfl, ho, by rw [rs.length]; exact hl, k _ _ _ _ _ (w.put (m' := .lst (ds ++ [y])) hs (rs.append (.cons r .nil))) (Ext.put w hs) .non p⟩
theorem m_extend {a : Addr} (hs : S a = some (.lst ds)) (hy : LstAt S y es) (hl : ds.length + es.length ≤ sizeLine) (p : P .non (S.set a (.lst (ds ++ es)))) : Mb K J rExtend (.loc a) [y] S P := fun G H vx vs w j r1 r2 Q k => by
  cases r1
  cases r2 with
  | cons r rr =>
    cases rr
    obtain ⟨b, us, e, hb, rs'⟩ := hy.rep w r
    subst e
    obtain ⟨_, o, ho, rm⟩ := w.own a _ hs
    cases o <;> first | exact rm.elim | skip
    rename_i v'
    have rs : Reps K G v' ds := rm
    exact ⟨a, b, v', us, rfl, rfl, ho, hb, by rw [rs.length, rs'.length]; exact hl, k _ _ _ _ _ (w.put (m' := .lst (ds ++ es)) hs (rs.append rs')) (Ext.put w hs) .non p⟩
theorem m_rjust {z : Str} {i : Int} (h : PadOk i = true) (p : P (.str (Txt.rjust z i)) S) : Mb K J rRjust (.str z) [.int i] S P := fun G H vx vs w j r1 r2 Q k => by
  cases r1
  cases r2 with
  | cons r rr => cases rr; cases r; exact ⟨z, i, rfl, rfl, h, k.now w (.str _) p⟩
theorem m_join {z : Str} {ys : List Str} (hy : SqAt S y (ys.map D.str)) (hz : (ys.map (·.length)).sum + ys.length * z.length ≤ 16777216) (p : P (.str (Txt.join z ys)) S) : Mb K J (rJoin K) (.str z) [y] S P := fun G H vx vs w j r1 r2 Q k => by
  cases r1
  cases r2 with
  | cons r rr =>
    cases rr
    obtain ⟨b, us, e, hb, rs⟩ := hy.rep w r
    subst e
    rw [reps_str rs] at hb
    exact ⟨z, b, ys, rfl, rfl, hb, hz, k.now w (.str _) p⟩
end
end DL

set_option maxHeartbeats 4100000
/-! LW: rules of the low layer that were lacking. -/
namespace DL
open PySem L2 PySem.Spec PyProof.Rows
section
variable {X : Cx} {CX : CXT} {k n i : Nat} {f g C q : Addr} {fd : FuncData} {ps ks : List Str} {sp : Sp} {E : XK} {x m : Str} {p pos apos : Pos} {e o a : Expr} {es : List Expr} {kws : List Keyword} {t tk : TA} {ta te : TE}
/-! ### an attribute as a target -/
def gFld (K : Frag) (ta : TE) (f : Str) : TG := fun v σ H N => ta σ H fun x H1 => ∃ a C dx fs, x = .ref a ∧ H1 a = some (.ins C dx fs) ∧ Cls K C ∧ NoAttr K C f ∧ fs.length < 1000 ∧ N σ (upd H1 a (.ins C dx (putF f v fs)))
theorem pg_fld {f : Str} (ho : PE X o ta) : PG X (.Attribute o f pos) (gFld X.K ta f) := ⟨fun pins s σ H v u Q I r h => by
  rw [assign_Attribute]
  refine wpAny_bind (wpAny_holding (thn (ho.run pins s σ H _ I h) fun ov s1 hq => ?_))
  obtain ⟨y, H1, I1, ry, b, C, dx, fs, rfl, eb, c, nn, l, q⟩ := hq
  obtain rfl : ov = Value.ref b := ry
  exact wpAny_bind (wpAny_standAt (wpAny_bind (wpAny_holding (setattr_ok I1 eb c nn l r fun s3 I3 => wpAny_release ⟨σ, _, I3, q⟩))))⟩
/-! ### C(.., k = v) by a local name -/
def tMakeNL (i : Nat) (C : Addr) (n m : Nat) (sp : Sp) (gV : List V → List V → List V) (E : XK) (t tk : TA) : TE := fun σ H Q => σ[i]? = some (some (.ref C)) ∧ tMakeN C n m sp gV E t tk σ H Q
theorem pe_makeNL {gA : List Value → List Value → List Value} {gV : List V → List V → List V} (M : Mk X.K C f) (F : FnOk X.prog X.w X.K X.mg X.base CX k f fd ps sp) (hr : Room (k + 1) X.A) (hN : X.N[i]? = some x) (hv : Vis X.env.scope x) (hb : KBn X.K fd ps (n + 1) ks gA gV) (hx : Passes CX X E) (ha : PA X (e :: es) t) (hkw : PK X kws tk) (hall : (backToKw pos (keywordEach kws X.env)).all (·.1.isSome) = true := by rfl) (hks : (backToKw pos (keywordEach kws X.env)).filterMap (·.1) = ks := by rfl)
    (hdb : (x == ("__debug__" : Str)) = false := by decide) (hcd : (x == ("__classdict__" : Str)) = false := by decide) (he : starEach (e :: es) X.env = (false, eval e X.env) :: starEach es X.env := by rfl) (hpl : ((backTo pos (starEach (e :: es) X.env)).any (·.1) || (backToKw pos (keywordEach kws X.env)).any (·.1.isNone)) = false := by rfl) :
    PE X (.Call (.Name x p) (e :: es) kws pos) (tMakeNL i C n ks.length sp gV E t tk) := ⟨fun pins s σ H Q I h => by
  have look := (pe_var (pos := p) hN hv hdb hcd).run pins s σ H (fun v H1 => v = .ref C ∧ H1 = H) I ⟨.ref C, h.1, rfl, rfl⟩
  refine wpAny_Call_Name_kw (thn look fun u s1 hq => ?_)
  obtain ⟨v, H1, I1, r1, ev, eH⟩ := hq
  subst eH; subst ev
  obtain rfl : u = Value.ref C := r1
  have args := ha.run pos pins s1 σ H1 _ I1 h.2
  refine PySem.W.callWith_KW (h₀ := X.base) I.ok.mod.kin M.kp hall (thn args fun us s2 hq2 => ?_) hpl he
  obtain ⟨vs, H2, I2, r, q2⟩ := hq2
  refine thn (hkw.run pos pins s2 σ H2 _ I2 q2) fun ws s3 hq3 => ?_
  obtain ⟨zs, H3, I3, rz, l1, l2, q3⟩ := hq3
  rw [hks]
  exact ⟨I3.kIn, run_makeN M F hr hb hx I3 r rz l1 l2 q3⟩⟩
/-! ### C.m(), m a classmethod -/
def tCMeth0 (C : Addr) (sp : Sp) (E : XK) (ta : TE) : TE := fun σ H Q => ta σ H fun x H1 => x = .ref C ∧ sp [.ref C] H1 Q E
theorem pe_cmeth0 {mc : Value} {pl : Sem Bool} (he : PE X o ta) (r : ClX.CRead X.K C mc) (c : ClX.CMet X.K C mc m q g) (F : FnR X.prog X.w X.K X.mg X.base CX k g sp) (hr : Room k X.A) (hx : Passes CX X E)
    (ht : eval (.Call (.Attribute o m apos) [] [] pos) X.env = (do let ov ← eval o X.env; standAt apos.atName; let (f, first) ← holding [ov] (getMethod ov m pl); callWith pos f first (backTo pos (starEach [] X.env)) (backToKw pos (keywordEach [] X.env))) := by rfl) :
    PE X (.Call (.Attribute o m apos) [] [] pos) (tCMeth0 C sp E ta) := ⟨fun pins s σ H Q I h => by
  refine PySem.W.methodCall_KW (pl := pl) (thn (he.run pins s σ H _ I h) fun u s1 hq => ?_) ht
  obtain ⟨y, H1, I1, ry, ey, q1⟩ := hq
  subst ey
  obtain rfl : u = Value.ref C := ry
  exact ClX.getmethcm_ok I1 r c fun s2 I2 => PySem.W.callWith_M0 (K := X.K) ⟨ClX.pin_at I2, I2.kIn⟩ c.fi (ClX.run_cm F hr hx I2 .nil q1)⟩
/-! ### repr of a text -/
abbrev rReprS : List V → Hp → VK → Prop := fun us H Q => ∃ z : Str, us = [.str z] ∧ (reprText z).length ≤ sizeLine ∧ Q (.str (reprText z)) H
theorem call_repr_strD : CallR X (.builtin "repr") rReprS := by
  (intro pins s σ H xs us Q I r h)
  obtain ⟨z, rfl, hz, q⟩ := h
  (obtain ⟨u, rfl, t, rfl⟩ := vals1 r)
  exact PySem.P.repr_of_str ⟨.str _, H, I.tok _, ⟨_, rfl⟩, q⟩ hz
/-! ### f"{x:>3}", x from 1 to 14 -/
def tFmt3 (te : TE) : TE := fun σ H Q => te σ H fun x H1 => ∃ i : Int, x = .int i ∧ 1 ≤ i ∧ i ≤ 14 ∧ Q (.str (Txt.rjust (toString i) 3)) H1
end
section
variable {w : World} {A : Around} {E : Value → Shared → Prop} {s : Shared} {prog : Program}
/-! ### sorted of a tuple -/
theorem sorted_seqD {l : Addr} {T : String} {o : Obj} {n : Nat} {vs : List Value} {ltv : Value → Value → Bool} {Q : Value → Shared → Prop} (O : SrtO.Swo ltv) (hT : T = "list" ∨ T = "tuple") (ho : s.heap.get? l = some o) (hc : o.cls = .type T) (hd : o.data = .seq vs.toArray n) (hz : vs.length ≤ sizeLine)
    (hS : 2 ≤ vs.length → ∀ (h₁ : Heap) (a : Addr), h₁.get? a = some (seqObj "list" vs.toArray 0) → (∀ b o, s.heap.get? b = some o → h₁.get? b = some o) → SrtO.SortableO prog w A.in1.in1 { s with heap := h₁ } a vs ltv)
    (h : ∀ (h1 : Heap) (out : List Value), (∀ b o, s.heap.get? b = some o → h1.get? b = some o) → SrtO.Srtd ltv out → SrtO.Stb ltv out vs → Q (.ref h1.objs.size) { s with heap := sortedHeap (h1.push (seqObj "list" vs.toArray 0)) h1.objs.size vs out.toArray }) : wpAny (model prog w) A (call (.builtin "sorted") [.ref l]) Q E s := by
  (refine Calls.call_function_entry kind_sorted plain_sorted entry_sorted (args_sorted1 _) ?_)
  unfold Builtin.«sorted»
  (refine wpAny_bind (m := checkCount "sorted" 1 1 _) (wpAny_pure ?_))
  refine wpAny_bind (wpAny_collect_seq l hT ho hc hd (fun h1 hk => ?_) (by rw [List.size_toArray]; exact hz))
  have e1 : vs.toArray.toList = vs := by simp
  rw [e1]
  (refine wpAny_bind (wpAny_newList ?_ hz))
  have new : (h1.push (seqObj "list" vs.toArray 0)).get? h1.objs.size = some (seqObj "list" vs.toArray 0) := Heap.get?_push_size _ rfl
  have srt := fun h2 => hS h2 _ _ new fun b o e => Heap.get?_push_of_some _ (hk b o e)
  refine wpAny_bind (wpAny_holding (wpAny_call_entry slot_list_sort ⟨_, new, rfl⟩ entry_list_sort ?_ (args_list_sort _)))
  refine SrtO.list_sort_ord O new hz srt fun out h2 h3 => ⟨_, rfl, ?_⟩
  exact wpAny_pure ⟨_, rfl, h h1 out hk h2 h3⟩
end
end DL

set_option maxHeartbeats 4100000
/-! LW2: sorted, set of a tuple; dict.update; a width in an f-string. -/
namespace DL
open PySem L2 PySem.Spec PyProof.Rows
section
variable {X : Cx} {pins : List (Addr × Obj)} {σ : L2.St} {H : Hp} {s : Shared} {a : Addr} {xs : List V}
theorem seq_src (I : Inv X pins σ H s) (h : SqL X.K H a xs ∨ SqT X.K H a xs) : ∃ (T : String) (o : Obj) (n : Nat) (its : List Value), (T = "list" ∨ T = "tuple") ∧ s.heap.get? a = some o ∧ o.cls = .type T ∧ o.data = .seq its.toArray n ∧ Vals xs its ∧ xs.length ≤ sizeLine := by
  rcases h with h | h
  · obtain ⟨its, rv, pl, hz⟩ := I.list h
    (obtain ⟨o, ho, hc, n, hd⟩ := pl.isList)
    exact ⟨"list", o, n, its, .inl rfl, ho, hc, hd, rv, hz⟩
  · obtain ⟨its, rv, ⟨o, ho, hc, n, hd⟩, hz⟩ := I.tuple h
    exact ⟨"tuple", o, n, its, .inr rfl, ho, hc, hd, rv, hz⟩
/-- the sorted list, laid -/
theorem sorted_laid {Q : VK} {h1 : Heap} {its out : List Value} {ys : List V} (I : Inv X pins σ H s) (hk : ∀ b o, s.heap.get? b = some o → h1.get? b = some o) (rv : Vals ys out) (hz : ys.length ≤ sizeLine) (q : ∀ p, H p = none → Q (.ref p) (upd H p (.lst ys))) :
    EP X pins σ Q (.ref h1.objs.size) { s with heap := sortedHeap (h1.push (seqObj "list" its.toArray 0)) h1.objs.size its out.toArray } := by
  have I1 : Inv X pins σ H { s with heap := h1 } := I.kept (t' := s.toks) hk
  have fresh := I1.hok.fresh (Nat.le_refl h1.objs.size)
  obtain ⟨ep, there⟩ := sortedHeap_at (vs := its) (out := out.toArray) (Heap.get?_push_size h1 (o := seqObj "list" its.toArray 0) rfl)
  refine ⟨.ref _, _, I1.laid (t' := s.toks) (o := .lst ys) (fun b o e => ?_) (Nat.le_refl _) ⟨hz, out, ep, rv, there⟩, rfl, q _ fresh⟩
  have lt : b < h1.objs.size := Heap.lt_size e
  rw [sortedHeap_old (Nat.ne_of_lt lt) (by rw [size_push']; exact Nat.lt_succ_of_lt lt)]
  (exact Heap.get?_push_of_some _ e)
/-- sorted(x), x a list or a tuple of ints -/
def rSortTI (K : Frag) : List V → Hp → VK → Prop := fun vs H Q => ∃ (a : Addr) (ns : List Int), vs = [V.ref a] ∧ (SqL K H a (ns.map V.int) ∨ SqT K H a (ns.map V.int)) ∧ ∀ (ns' : List Int) (p : Addr), ns'.Perm ns → ns'.Pairwise (· ≤ ·) → H p = none → Q (.ref p) (upd H p (.lst (ns'.map V.int)))
theorem cr_sortedTI : CallR X (.builtin "sorted") (rSortTI X.K) := by
  rintro pins s σ H vs us Q I r ⟨a, ns, rfl, hs, q⟩
  (obtain ⟨u, rfl, ru⟩ := vals1 r)
  (obtain rfl : u = Value.ref a := ru)
  obtain ⟨T, o, n, its, hT, ho, hc, hd, rv, hz⟩ := seq_src I hs
  have hi := ints_of_vals rv
  refine sorted_seqD SrtO.swo_int hT ho hc hd (by rw [← rv.length]; exact hz) (fun two _ _ _ _ => SrtO.ints_sortable hi two) fun h1 out hk h2 h3 => ?_
  obtain ⟨k1, k2, k3⟩ := SrtO.ints_out hi h2 h3
  refine sorted_laid I hk (vals_of_ints k1) ?_ fun p hp => q _ p k2 k3 hp
  (rw [List.length_map, k2.length_eq])
  rw [List.length_map] at hz
  exact hz
/-- sorted(x), x a list or a tuple of pairs of ints -/
def rSortTP (K : Frag) : List V → Hp → VK → Prop := fun vs H Q => ∃ (a : Addr) (xs : List V), vs = [V.ref a] ∧ (SqL K H a xs ∨ SqT K H a xs) ∧ (∀ x ∈ xs, ∃ p : Int × Int, ∃ t, x = V.ref t ∧ SqT K H t [.int p.1, .int p.2]) ∧ ∀ ys p, ys.Perm xs → H p = none → Q (.ref p) (upd H p (.lst ys))
open Classical in
theorem cr_sortedTP : CallR X (.builtin "sorted") (rSortTP X.K) := by
  rintro pins s σ H vs us Q I r ⟨a, xs, rfl, hs, hx, q⟩
  (obtain ⟨u, rfl, ru⟩ := vals1 r)
  (obtain rfl : u = Value.ref a := ru)
  obtain ⟨T, o, n, its, hT, ho, hc, hd, rv, hz⟩ := seq_src I hs
  obtain ⟨e1, e2⟩ := refs_back rv fun x m => let ⟨_, t, e, _⟩ := hx x m; ⟨t, e⟩
  let k : V → Int × Int := fun x => if h : ∃ p : Int × Int, ∃ t, x = V.ref t ∧ SqT X.K H t [.int p.1, .int p.2] then h.choose else (0, 0)
  have pairs : ∀ v ∈ its, Srt.IsPair s.heap v (k (backV v)).1 (k (backV v)).2 := fun v hv => by
    obtain ⟨t, rfl⟩ := e2 v hv
    have there := hx _ (show V.ref t ∈ xs by rw [e1]; exact List.mem_map.mpr ⟨_, hv, rfl⟩)
    have key : k (V.ref t) = there.choose := dif_pos there
    obtain ⟨t', e, ht⟩ := there.choose_spec
    cases e
    rw [← key] at ht
    obtain ⟨js, r2, ⟨o2, ho2, hc2, n2, hd2⟩, _⟩ := I.tuple ht
    obtain ⟨u1, u2, rfl, ⟨t1, e1⟩, ⟨t2, e2⟩⟩ := vals2 r2
    subst e1; subst e2
    exact ⟨t, o2, t1, t2, n2, rfl, ho2, hc2, hd2⟩
  refine sorted_seqD (SrtO.swo_lex fun u => k (backV u)) hT ho hc hd (by rw [← rv.length]; exact hz) (fun two h₁ b hb kk => ?_) fun h1 out hk h2 h3 => ?_
  · refine SrtO.pairs_sortableO (s := { s with heap := h₁ }) (by omega) (fun v hm => (pairs v hm).keeps fun b o e _ => kk b o e) fun o e c => ?_
    rw [show h₁.get? b = _ from hb] at e
    cases e
    (exact absurd (Value.type.inj c) (by decide))
  · have pm : (out.map backV).Perm xs := by rw [e1]; exact h3.perm.map backV
    refine sorted_laid I hk (vals_back fun u hu => e2 u (h3.perm.mem_iff.mp hu)) (by rw [pm.length_eq]; exact hz) fun p hp => q _ p pm hp
/-! ### len(set(t)), t a tuple of ints -/
theorem len_nodup {ns es : List Int} (h1 : ns.Nodup) (h2 : es.Nodup) (h : ∀ k, k ∈ ns ↔ k ∈ es) : es.length = ns.length := ((List.perm_ext_iff_of_nodup h2 h1).mpr fun k => (h k).symm).length_eq
def tLenSetD (K : Frag) (ta : TE) : TE := fun σ H Q => ta σ H fun x H1 => ∃ (l : Addr) (ns : List Int), x = .ref l ∧ SqT K H1 l (ns.map V.int) ∧ ns.Nodup ∧ ns.length ≤ 4000 ∧ Q (.int (ns.length : Nat)) H1
theorem pe_lenSetD {a : Expr} {ta : TE} {p p2 q pos : Pos} (hg : Gl X "len") (hm : X.mg "len" = none) (hg2 : Gl X "set") (hm2 : X.mg "set" = none) (ha : PE X a ta) (hc : X.calm = true := by rfl)
    (na : starEach [a] X.env = (false, eval a X.env) :: starEach [] X.env := by rfl) : PE X (.Call (.Name "len" p) [.Call (.Name "set" p2) [a] [] q] [] pos) (tLenSetD X.K ta) := ⟨fun pins s σ H Q I h => by
  refine Call_ (ld_blt I hg hm boot_len (PyProof.Rows.callWith_builtin1 (PyProof.Rows.args_cons ?_ rfl) rfl rfl))
  refine Call_ (ld_blt I hg2 hm2 boot_set (PyProof.Rows.callWith_type1 (PyProof.Rows.args_cons (thn (ha.run pins s σ H _ I h) fun v s1 hv => PyProof.Rows.args_nil ?_) na) na rfl))
  obtain ⟨x, H1, I1, r1, l, ns, rfl, hq, hnd, hl, q1⟩ := hv
  obtain rfl : v = Value.ref l := r1
  obtain ⟨its, rv, it, _⟩ := I1.tuple hq
  refine call_set_tupI ns (I1.ok.hd hc) it (by simpa using ints_of_vals rv) (by unfold scanBound; omega) fun h' tk c hS _ hk => PyProof.Rows.args_nil ?_
  obtain ⟨o, es, ep, t, ho, hex, hd, _, nd, mem, _, hf, hn, _, _⟩ := hS
  have len : es.size = ns.length := by
    have := len_nodup (es := es.toList.map keyOf) hnd nd fun k => by rw [← mem k]; simp
    rw [List.length_map, Array.length_toList] at this
    exact this
  (have I2 : Inv X pins σ H1 { s1 with heap := h', toks := tk } := I1.kept hk)
  refine call_len_set ho hex hd hf (by rw [len]; omega) ⟨.int ns.length, H1, I2.tok _, ⟨_, by rw [len]⟩, q1⟩⟩
/-! ### d.update(e), two dicts -/
theorem KV.merge' {more : List (Key × V)} {rs : List (Key × Value)} {kvs : List (Key × V)} {vs : List (Key × Value)} (a : KV more rs) (b : KV kvs vs) : KV (mergeK kvs more) (merged vs rs) := L2.KV.merge a b
def tDUpd (td te : TE) : TE := fun σ H Q => td σ H fun x H1 => (∃ a kvs, x = .ref a ∧ H1 a = some (.dK kvs)) ∧ te σ H1 fun y H2 => ∃ a b kvs more, x = .ref a ∧ y = .ref b ∧ a ≠ b ∧ H2 a = some (.dK kvs) ∧ H2 b = some (.dK more) ∧ kvs.length + more.length ≤ sizeLine ∧ Q .non (upd H2 a (.dK (mergeK kvs more)))
def rDUpd : V → List V → Hp → VK → Prop := fun x vs H Q => ∃ a b kvs more, x = .ref a ∧ vs = [.ref b] ∧ a ≠ b ∧ H a = some (.dK kvs) ∧ H b = some (.dK more) ∧ kvs.length + more.length ≤ sizeLine ∧ Q .non (upd H a (.dK (mergeK kvs more)))
theorem length_mergeK (kvs more : List (Key × V)) : (mergeK kvs more).length ≤ kvs.length + more.length := by induction more generalizing kvs with
  | nil => exact Nat.le_refl _
  | cons p r ih =>
    have h1 := ih (putK kvs p.1 p.2)
    (have h2 := length_putK kvs p.1 p.2)
    (show (mergeK (putK kvs p.1 p.2) r).length ≤ _)
    rw [List.length_cons]
    omega
theorem mt_dupd : MtR X "dict.update" rDUpd := by
  rintro pins s σ H x vs v us Q I rx rv ⟨a, b, kvs, more, rfl, rfl, ne, ha, hb, hz, q⟩
  (obtain rfl : v = Value.ref a := rx)
  obtain ⟨u, rfl, ru⟩ := rv.one
  obtain rfl : u = Value.ref b := ru
  obtain ⟨_, hd, vs, rel, dd⟩ := dk_of I.hok ha
  obtain ⟨_, hd2, ws, rel2, dd2⟩ := dk_of I.hok hb
  refine call_meetsIn PySem.F.slot_dict_update dd.typeIs PySem.F.entry_dict_update (PySem.F.args_dict_update_2 _ _) (meets_dict_update (mixKind X.prog X.w) a b ne hd2)
    ⟨vs, ws, dd, dd2, by rw [← rel.length, ← rel2.length]; exact hz, fun h' m1 _ sb => ?_⟩
  have there : ∃ o, h'.get? a = some o := let ⟨o, _, _, e, _⟩ := m1; ⟨o, e⟩
  exact ⟨.non, _, d_write I (by rw [ha]; exact True.intro) sb there (dk_new (Nat.le_trans (length_mergeK kvs more) hz) hd (L2.KV.merge rel2 rel) m1), rfl, q⟩
end
end DL

set_option maxHeartbeats 4100000
/-! LW3: len(set(t)), t a tuple of tuples of ints; a width in an f-string. -/
namespace DL
open PySem L2 PySem.Spec PyProof.Rows
section
variable {w : World} {A : Around} {E : Value → Shared → Prop} {s : Shared} {P : Program}
/-- the set that is not filled yet -/
abbrev nset (w : World) : Obj := { cls := .type "set", dict := none, data := .set #[] 0 (.fresh 0 0 (!w.params.followText "set-order")) }
/-- set(a), given what __init__ does with the new set -/
theorem call_set_by {a : Value} {Q : Value → Shared → Prop} {I : Shared → Prop}
    (hi : wpAny (model P w) A.in1.in1 (Builtin.«set.__init__» ⟨[.ref s.heap.objs.size, a], []⟩) (fun f s2 => f = .done (.ret .none) ∧ I s2) E { s with heap := s.heap.push (nset w) })
    (h : ∀ s2, I s2 → Q (.ref s.heap.objs.size) s2) : wpAny (model P w) A (call (.type "set") [a]) Q E s := by
  (obtain ⟨c, tl, hmro⟩ := F.called_set.mro)
  have f1 := F.called_set.made
  have f2 := F.called_set.sub
  refine wpAny_call (codeAny_of_tree (wpAny_pure ⟨Code.quiet_builtin _ (by decide +kernel), codeAny_builtin F.entry_type_call ?_⟩))
  have f3 := F.called_set.notType
  have f4 := F.called_set.canCreate
  have f5 := F.typeCall_set_1 a
  rw [Around.under_plain (weight_type_call_type "set" [a] []) rfl]
  (repeat (any_goals (first | assumption | wp_step)))
  refine codeAny_mono (code_set_led1 a (E := E) (Q₁ := fun obj s₁ => obj = .ref s.heap.objs.size ∧ s₁ = { s with heap := s.heap.push (nset w) }) ⟨rfl, rfl⟩) fun r s₁ hr => ?_
  rcases r with e | fl
  · exact hr
  cases fl <;> first | exact hr.elim | skip
  obtain ⟨rfl, rfl⟩ := hr
  have isS : Shared.TypeIs { s with heap := s.heap.push (nset w) } (.ref s.heap.objs.size) "set" := ⟨_, Heap.get?_push_size _ rfl, rfl⟩
  have g1 := F.called_set.init.lookup
  have g2 := F.called_set.init.bind (.ref s.heap.objs.size)
  (repeat (any_goals (first | assumption | wp_step)))
  refine codeAny_mono (codeAny_call_builtin (R := wants (fun r s2 => r = .none ∧ I s2) E) F.called_set.init.plain F.entry_set_init (check_set_init_1 isS ?_)) fun r2 s2 hr2 => ?_
  · exact wpAny_mono hi (fun f s2 h2 => by obtain ⟨rfl, h3⟩ := h2; exact ⟨rfl, h3⟩) fun _ _ z => z
  rcases r2 with e | fl
  · exact hr2
  cases fl <;> first | exact hr2.elim | skip
  obtain ⟨rfl, hI⟩ := hr2
  have fin := h _ hI
  (repeat (any_goals (first | assumption | wp_step)))
theorem set_init_tupT {l : Addr} {items : Array Value} (ks : List (Addr × List Int)) (hh : A.handled = none) (hl : s.heap.IsTuple l items) (hit : items.toList = ks.map fun p => Value.ref p.1) (hk : ∀ p ∈ ks, IsT P w s.heap p.2 p.1) (hfew : ks.length < 64) (hu : A.units + 3 < cLine) :
    wpAny (model P w) A.in1.in1 (Builtin.«set.__init__» ⟨[.ref s.heap.objs.size, .ref l], []⟩)
      (fun f s2 => f = .done (.ret .none) ∧ ∃ h' tk L es ep t, s2 = { s with heap := h', toks := tk } ∧ SetTR P w h' s.heap.objs.size L es ep t ∧ Got ks ks.length L ∧ ∀ b o, s.heap.get? b = some o → h'.get? b = some o) E
      { s with heap := s.heap.push (nset w) } := by
  have cnt : items.size = ks.length := by
    have := congrArg List.length hit
    rwa [Array.length_toList, List.length_map] at this
  have atS : (s.heap.push (nset w)).get? s.heap.objs.size = some (nset w) := Heap.get?_push_size _ rfl
  have isS : Shared.TypeIs { s with heap := s.heap.push (nset w) } (.ref s.heap.objs.size) "set" := ⟨_, atS, rfl⟩
  obtain ⟨⟨cls, dct, dat, slo⟩, hol, hcl, nl, hdl⟩ := hl
  simp only at hcl hdl
  subst hcl hdl
  have lt : l < s.heap.objs.size := Heap.lt_size hol
  have hol2 : (s.heap.push (nset w)).get? l = some { cls := .type "tuple", dict := dct, data := .seq items nl, slots := slo } := Heap.get?_push_of_some _ hol
  have hl2 : (s.heap.push (nset w)).IsTuple l items := ⟨_, hol2, rfl, nl, rfl⟩
  have n1 := F.sub_tuple_set
  have n2 := F.sub_tuple_frozenset
  have n3 : (Value.type "tuple" == Value.type "dict") = false := by decide
  (unfold Builtin.«set.__init__» noKeywords Builtin.Frozenset.updateFrom)
  generalize hPI : pyIter = PI
  wp_walk
  subst hPI
  refine wpAny_pyIter_tuple hl2 (wpAny_bind (wpAny_runValue ?_))
  have sz : (s.heap.push (nset w)).objs.size = s.heap.objs.size + 1 := Heap.size_push ..
  have quiet : A.in1.in1.in1.handled = none := by simp [hh]
  have ne : l ≠ (s.heap.push (nset w)).objs.size := by rw [sz]; exact Nat.ne_of_lt (Nat.lt_succ_of_lt lt)
  have out : s.heap.objs.size ∉ [(s.heap.push (nset w)).objs.size, l] := by
    rw [sz]
    simp only [List.mem_cons, List.not_mem_nil, or_false, not_or]
    exact ⟨Nat.ne_of_lt (Nat.lt_succ_self _), Nat.ne_of_gt lt⟩
  have val : ∀ (i : Nat) (v : Value), items[i]? = some v → ∃ p, ks[i]? = some p ∧ v = .ref p.1 := fun i v hv => by
    have at_ : (ks.map fun p => Value.ref p.1)[i]? = some v := by rw [← hit, Array.getElem?_toList]; exact hv
    rw [List.getElem?_map] at at_
    obtain ⟨p, hp, e⟩ := Option.map_eq_some_iff.mp at_
    exact ⟨p, hp, e.symm⟩
  have far : ∀ b, s.heap.objs.size ≤ b → s.heap.get? b = none := fun b hb => by
    rcases e : s.heap.get? b with _ | o
    · rfl
    · exact absurd (Heap.lt_size e) (Nat.not_lt.mpr hb)
  refine set_update_tups ((Walks.tuple quiet _ l ne items).toS) s.heap.objs.size out ks cnt hfew val s.heap hk (far _ (Nat.le_refl _)) (fun b hb => far b ?_) ?_ (items.size - 0) 0 _ (by omega) (Nat.zero_le _)
    ⟨⟨_, Heap.get?_push_size _ rfl, rfl, rfl⟩, hl2.push _⟩ (fun b o e => Heap.get?_push_of_some _ (Heap.get?_push_of_some _ e)) ⟨[], #[], 0, _, setTR_fresh (Heap.get?_push_of_some _ atS), Got.zero ks⟩ ?_
  · rw [List.mem_singleton.mp hb, sz]; exact Nat.le_succ _
  · simpa using hu
  · rintro ⟨h', g2, d2, tk, o2⟩ L es ep t hm hS g kp
    obtain rfl : g2 = s.gens := hm.gens
    obtain rfl : d2 = s.drawn := hm.drawn
    obtain rfl : o2 = s.os := hm.os
    rw [cnt] at g
    exact wpAny_pure (wpAny_pure ⟨rfl, h', tk, L, es, ep, t, rfl, hS, g, kp⟩)
end
end DL

set_option maxHeartbeats 4100000
/-! LW4: len(set(t)) as an expression; f"{x:>3}". -/
namespace DL
open PySem L2 PySem.Spec PyProof.Rows
open PySem.W in
theorem meets_fmt3 {P : Program} {w : World} {A : Around} {E : Value → Shared → Prop} {s : Shared} {i : Int} {t : Tok} {Q : Value → Shared → Prop} (h1 : 1 ≤ i) (h2 : i ≤ 14) (h : ∀ t' k, Q (.str (Txt.rjust (toString i) 3) t') { s with toks := k }) :
    wpAny (model P w) A (formatField (.int i t) ">3") Q E s := by
  have e : i = 1 ∨ i = 2 ∨ i = 3 ∨ i = 4 ∨ i = 5 ∨ i = 6 ∨ i = 7 ∨ i = 8 ∨ i = 9 ∨ i = 10 ∨ i = 11 ∨ i = 12 ∨ i = 13 ∨ i = 14 := by omega
  rcases e with rfl | rfl | rfl | rfl | rfl | rfl | rfl | rfl | rfl | rfl | rfl | rfl | rfl | rfl <;>
  exact KXf.field_int (spec' := ">3") rfl (by decide +kernel) (by decide +kernel) (by kxf_run_i) h
section
variable {X : Cx}
/-- f"{x:>3}", x from 1 to 14 -/
theorem pe_fmt3 {e sp : Expr} {te : TE} {pos : Pos} (he : PE X e te) (hs : PE X sp (tC (.str ">3"))) : PE X (.FormattedValue e (-1) (some sp) pos) (tFmt3 te) := ⟨fun pins s σ H Q I h => by
  refine wpAny_FormattedValue_spec (thn (he.run pins s σ H _ I h) fun v s1 hv => ?_)
  obtain ⟨x, H1, I1, rx, i, rfl, h1, h2, q⟩ := hv
  obtain ⟨t, rfl⟩ := rx
  refine thn (hs.run pins s1 σ H1 (fun y H2 => y = .str ">3" ∧ H2 = H1) I1 ⟨rfl, rfl⟩) fun r s2 hr => ?_
  obtain ⟨y, H2, I2, ry, rfl, rfl⟩ := hr
  obtain ⟨t2, rfl⟩ := ry
  exact ⟨">3", t2, rfl, meets_fmt3 h1 h2 fun t' k => ⟨.str _, H2, I2.tok _, ⟨_, rfl⟩, q⟩⟩⟩
theorem items_of {P : Program} {w : World} : ∀ {ns : List Int} {vs : List Value}, Vals (ns.map V.int) vs → ItemsAre (intKind P w) ns vs
  | [], _, .nil => .nil
  | n :: ns, _, .cons r t => by
    obtain ⟨k, rfl⟩ := r
    exact .cons (intKind_is _ _ _ _) (items_of t)
/-- len(set(t)), t a tuple of different tuples of ints -/
def tLenSetT (K : Frag) (ta : TE) : TE := fun σ H Q => ta σ H fun x H1 => ∃ (l : Addr) (ks : List (Addr × List Int)), x = .ref l ∧ SqT K H1 l (ks.map fun p => V.ref p.1) ∧ (∀ p ∈ ks, SqT K H1 p.1 (p.2.map V.int)) ∧ (ks.map (·.2)).Nodup ∧ ks.length < 64 ∧ Q (.int (ks.length : Nat)) H1
theorem refs_vals {ks : List (Addr × List Int)} : ∀ {vs : List Value}, Vals (ks.map fun p => V.ref p.1) vs → vs = ks.map fun p => Value.ref p.1 := by
  induction ks with
  | nil => intro vs r; cases r; rfl
  | cons p ks ih =>
    intro vs r
    cases r with
    | cons r t => rw [List.map_cons, ih t, show _ = Value.ref p.1 from r]
theorem pe_lenSetT {a : Expr} {ta : TE} {p p2 q pos : Pos} (hu : X.A.units + 64 < cLine) (hg : Gl X "len") (hm : X.mg "len" = none) (hg2 : Gl X "set") (hm2 : X.mg "set" = none) (ha : PE X a ta) (hc : X.calm = true := by rfl)
    (na : starEach [a] X.env = (false, eval a X.env) :: starEach [] X.env := by rfl) : PE X (.Call (.Name "len" p) [.Call (.Name "set" p2) [a] [] q] [] pos) (tLenSetT X.K ta) := ⟨fun pins s σ H Q I h => by
  refine Call_ (ld_blt I hg hm boot_len (PyProof.Rows.callWith_builtin1 (PyProof.Rows.args_cons ?_ rfl) rfl rfl))
  refine Call_ (ld_blt I hg2 hm2 boot_set (PyProof.Rows.callWith_type1 (PyProof.Rows.args_cons (thn (ha.run pins s σ H _ I h) fun v s1 hv => PyProof.Rows.args_nil ?_) na) na rfl))
  obtain ⟨x, H1, I1, r1, l, ks, rfl, hq, hks, hnd, hl, q1⟩ := hv
  obtain rfl : v = Value.ref l := r1
  obtain ⟨its, rv, it, _⟩ := I1.tuple hq
  have quiet := I1.ok.hd hc
  refine call_set_by (set_init_tupT ks quiet it (by rw [List.toList_toArray]; exact refs_vals rv) (fun z hz => ?_) hl (by omega)) fun s2 hs2 => PyProof.Rows.args_nil ?_
  · obtain ⟨js, r2, ⟨o2, ho2, hc2, n2, hd2⟩, _⟩ := I1.tuple (hks z hz)
    exact ⟨o2, js.toArray, n2, ho2, hc2, hd2, by rw [List.toList_toArray]; exact items_of r2⟩
  · obtain ⟨h', tk, L, es, ep, t, rfl, hS, g, kp⟩ := hs2
    have len : es.size = ks.length := by
      rw [SetTR.size (s := { s1 with heap := h', toks := tk }) hS]
      have pm : (L.map (·.2)).Perm (ks.map (·.2)) := (List.perm_ext_iff_of_nodup hS.nd hnd).mpr fun k => by
        constructor
        · intro hk
          obtain ⟨p, hp, rfl⟩ := List.mem_map.mp hk
          exact List.mem_map.mpr ⟨p, List.mem_of_mem_take (g.sub p hp), rfl⟩
        · intro hk
          obtain ⟨p, hp, rfl⟩ := List.mem_map.mp hk
          exact g.all p (by rw [List.take_length]; exact hp)
      have := pm.length_eq
      rwa [List.length_map, List.length_map] at this
    obtain ⟨o, ho, hex, hd⟩ := hS.ob
    (have I2 : Inv X pins σ H1 { s1 with heap := h', toks := tk } := I1.kept kp)
    exact call_len_set ho hex hd (SetTR.fits (s := { s1 with heap := h', toks := tk }) hS) (by rw [len]; omega) ⟨.int ks.length, H1, I2.tok _, ⟨_, by rw [len]⟩, q1⟩⟩
end
end DL

set_option maxHeartbeats 1100000
/-! LW5: list(range(a, b)) of any ints, 2^24 items at most. -/
namespace DL
open PySem L2 PySem.Spec PyProof.Rows
section
variable {w : World} {A : Around} {E : Value → Shared → Prop} {s : Shared} {prog : Program}
/-- what a long range's iterator is at its start -/
abbrev lit (a c : Int) (n : Int) : Obj := { cls := .type "longrange_iterator", data := .fields #[rawInt a, rawInt n, rawInt c] }
theorem long_ext {R : Result → Shared → Prop} {r : Addr} {a b c : Int} {t u v : Tok} {n : Nat} (quiet : A.handled = none) (hr : IsRange s.heap r a b c t u v) (big : Builtin.Range.small a b c = false)
    (hn : Builtin.Range.rangeSize a b c = n) (few : n ≤ 2 ^ 24) (S : Addr) (res : Value) (k : Nat) (at_ : s.heap.get? S = some { cls := .type "list", data := .seq #[] k })
    (fin : ∀ h' tk acc m, (∀ b o, b ≠ S → s.heap.get? b = some o → h'.get? b = some o) → h'.get? S = some { cls := .type "list", dict := none, data := .seq acc m, slots := #[] } → ItemsOf (fun i v => ∃ t, v = .int (a + i * c) t) acc n → R (.ok (.ret res)) { s with heap := h', toks := tk }) :
    wpAny (model prog w) A.in1 (Builtin.List.listExtendWith (.ref S) (.ref r) res) (fun f s' => match f with | .done x => R (.ok x) s' | .again c' => c'.quiet = true ∧ codeAny (model prog w) A c' R s') (fun e s' => R (.error e) s') s := by
  have ne : S ≠ r := by
    rintro rfl
    rw [hr] at at_
    simp at at_
  have lt : S < s.heap.objs.size := Heap.lt_size at_
  have ne2 : S ≠ s.heap.objs.size := Nat.ne_of_lt lt
  have walk := (Walks.longrange (prog := prog) (w := w) (A := A.in1) quiet s.heap.objs.size a c n).toS
  have go : ∀ (h : Heap) (k1 tk : Nat), IsLongIter h s.heap.objs.size (a + ((0 : Nat) : Int) * c) ((n : Int) - ((0 : Nat) : Int)) c → (∀ b o, b ≠ S → s.heap.get? b = some o → h.get? b = some o) →
      h.get? S = some { cls := .type "list", data := .seq #[] k1 } → codeAny (model prog w) A (.builtin "list.extend.loop" ⟨[.ref S, .ref s.heap.objs.size, res], []⟩) R { s with heap := h, toks := tk } := fun h k1 tk st keep at1 => by
    refine codeAny_extend_loopS walk (by rw [sizeLine_eq]; omega) S (by simpa using ne2) res n 0 _ #[] k1 rfl (Nat.zero_le _) st at1 (ItemsOf.nil _) fun s2 acc m mv at2 its => ?_
    rw [Moved.eq_with mv]
    refine fin s2.heap s2.toks acc m (fun b o hb e => mv.heap b o (fun z => ?_) (keep b o hb e)) at2 its
    (rcases List.mem_cons.mp z with z | z)
    · exact hb z
    · rw [List.mem_singleton.mp z] at e
      exact absurd (Heap.lt_size e) (Nat.lt_irrefl _)
  have q1 : Builtin.List.listSameRef (.ref S) (.ref r) = false := by simp [Builtin.List.listSameRef, ne]
  have q2 : (Value.type "range" == Value.type "list") = false := by decide
  have q3 : (Value.type "range" == Value.type "tuple") = false := by decide
  (unfold Builtin.List.listExtendWith)
  (refine wpAny_bind (wpAny_typeOf (T := "range") ⟨_, hr, rfl⟩ ?_))
  simp only [q1, q2, q3, Bool.or_false, Bool.false_eq_true, if_false]
  refine wpAny_bind (wpAny_pyIter_longrange hr big (wpAny_bind (wpAny_holding (wpAny_hint_range (n := n) (Heap.get?_push_of_some _ hr) hn few ?_))))
  rw [hn]
  have it0 : IsLongIter (s.heap.push (lit a c n)) s.heap.objs.size (a + ((0 : Nat) : Int) * c) ((n : Int) - ((0 : Nat) : Int)) c := by simpa using Heap.get?_push_size s.heap (o := lit a c n) rfl
  have at1 := Heap.get?_push_of_some (lit a c n) at_
  refine wpAny_ite_split (fun _ => wpAny_bind (wpAny_rule (wpAny_bind ?_))) fun _ => wpAny_pure ⟨plainId_quiet F.plain_extend_loop _, go _ k _ it0 (fun b o _ e => Heap.get?_push_of_some _ e) at1⟩
  show wpAny _ _ (updateSeq S (fun z => z.push .none) >>= fun _ => updateSeq S fun z => z.pop) _ _ _
  have at2 := Heap.get?_update_self (Obj.mapSeq (·.push Value.none)) at1 rfl
  have at3 := Heap.get?_update_self (Obj.mapSeq (·.pop)) at2 rfl
  refine wpAny_bind (wpAny_updateSeq at1 rfl (wpAny_updateSeq (hz := by seq_fits) at2 rfl (wpAny_pure ⟨plainId_quiet F.plain_extend_loop _, go _ _ _ ?_ (fun b o hb e => ?_) at3⟩)))
  · exact (Heap.get?_update_other _ _ ne2).trans ((Heap.get?_update_other _ _ ne2).trans it0)
  · (exact (Heap.get?_update_other _ _ (Ne.symm hb)).trans ((Heap.get?_update_other _ _ (Ne.symm hb)).trans (Heap.get?_push_of_some _ e)))
theorem list_of_long {Q : Value → Shared → Prop} {r : Addr} {a b c : Int} {t u v : Tok} {n : Nat} (quiet : A.handled = none) (hr : IsRange s.heap r a b c t u v) (big : Builtin.Range.small a b c = false) (hn : Builtin.Range.rangeSize a b c = n) (few : n ≤ 2 ^ 24)
    (fin : ∀ h' tk acc m, (∀ b o, s.heap.get? b = some o → h'.get? b = some o) → h'.get? s.heap.objs.size = some { cls := .type "list", dict := none, data := .seq acc m, slots := #[] } → ItemsOf (fun i v => ∃ t, v = .int (a + i * c) t) acc n → Q (.ref s.heap.objs.size) { s with heap := h', toks := tk }) : wpAny (model prog w) A (call (.type "list") [.ref r]) Q E s := by
  refine callType_codes (Q₁ := fun z s1 => z = .ref s.heap.objs.size ∧ s1 = { s with heap := s.heap.push { cls := .type "list", data := .seq #[] } }) F.called_list (F.typeCall_list_1 _) F.entry_list_init (code_list_new _ ⟨rfl, rfl⟩) fun z s1 hz => ?_
  obtain ⟨rfl, rfl⟩ := hz
  have at0 : (s.heap.push { cls := .type "list", data := .seq #[] }).get? s.heap.objs.size = some { cls := .type "list", data := .seq #[] } := Heap.get?_push_size _ rfl
  have hr1 := Heap.get?_push_of_some { cls := .type "list", data := .seq #[] } hr
  have lt : r < s.heap.objs.size := Heap.lt_size hr
  refine ⟨⟨_, at0, rfl⟩, F.args_list_init_2 _ _, ?_⟩
  show wpAny _ _ (do let old ← Builtin.List.listItems (.ref s.heap.objs.size); Builtin.List.listUpdate (.ref s.heap.objs.size) (fun _ => #[]); letGo old.toList.reverse; Builtin.List.listExtendWith (.ref s.heap.objs.size) (.ref r) .none) _ _ _
  unfold Builtin.List.listItems
  have at1 := Heap.get?_update_self (Obj.mapSeq (fun _ => (#[] : Array Value))) at0 rfl
  refine wpAny_bind (wpAny_bind (wpAny_seqItems at0 rfl (wpAny_pure ?_)))
  show wpAny _ _ (updateSeq s.heap.objs.size (fun _ => #[]) >>= fun _ => letGo (#[] : Array Value).toList.reverse >>= fun _ => Builtin.List.listExtendWith (.ref s.heap.objs.size) (.ref r) .none) _ _ _
  refine wpAny_bind (wpAny_updateSeq at0 rfl ?_)
  (refine wpAny_bind (wpAny_letGo ?_))
  refine long_ext (A := A.in1) quiet ((Heap.get?_update_other _ _ (Nat.ne_of_gt lt)).trans hr1) big hn few s.heap.objs.size .none _ at1 fun h' tk acc m keep at2 its => ?_
  refine ⟨rfl, fin h' tk acc m (fun b o e => ?_) at2 its⟩
  have ne : b ≠ s.heap.objs.size := Nat.ne_of_lt (Heap.lt_size e)
  exact keep b o ne ((Heap.get?_update_other _ _ (Ne.symm ne)).trans (Heap.get?_push_of_some _ e))
end
section
variable {X : Cx} {e : Expr} {te : L2.St → Hp → (Int → Int → Hp → Prop) → Prop}
/-- list(range(..)), any ints -/
def tLstRgA (te : L2.St → Hp → (Int → Int → Hp → Prop) → Prop) : TE := fun σ H Q => te σ H fun a b H1 => (b - a).toNat ≤ 2 ^ 24 ∧ ∀ q, H1 q = none → Q (.ref q) (upd H1 q (.lst (rgV a b)))
theorem pe_listRgA {p pos : Pos} (hc : X.calm = true) (hg : Gl X "list") (hm : X.mg "list" = none) (he : PRg X e te) (na : starEach [e] X.env = (false, eval e X.env) :: starEach [] X.env := by rfl) : PE X (.Call (.Name "list" p) [e] [] pos) (tLstRgA te) := ⟨fun pins s σ H Q I h => by
  refine Call_ (ld_blt I hg hm boot_list (PyProof.Rows.callWith_type1 (args_cons (thn (he pins s σ H _ I h) fun x s1 hx => args_nil ?_) na) na))
  obtain ⟨r, a, b, t, u, v, H1, rfl, hr, I1, few, q⟩ := hx
  have fin : ∀ h' tk acc m, (∀ b o, s1.heap.get? b = some o → h'.get? b = some o) → h'.get? s1.heap.objs.size = some { cls := .type "list", dict := none, data := .seq acc m, slots := #[] } → ItemsOf (fun i v => ∃ t, v = .int (a + i * 1) t) acc (b - a).toNat → EP X pins σ Q (.ref s1.heap.objs.size) { s1 with heap := h', toks := tk } := fun h' tk acc m keep at_ its => by
    refine ⟨.ref s1.heap.objs.size, _, I1.laid keep (Nat.le_refl _) (o := .lst (rgV a b)) ⟨?_, acc.toList, m, vals_rg its, ?_⟩, rfl, q _ (I1.hok.fresh (Nat.le_refl _))⟩
    · (rw [rgV_length, sizeLine_eq]; omega)
    · rw [Array.toArray_toList]; exact at_
  cases small : Builtin.Range.small a b 1 with
  | true => exact call_list_range (n := (b - a).toNat) (I1.ok.hd hc) hr small (rangeSize_nat a b) few fin
  | false => exact list_of_long (n := (b - a).toNat) (I1.ok.hd hc) hr small (rangeSize_nat a b) few fin⟩
end
end DL

set_option maxHeartbeats 1900000
/-! DL7: equality, membership, isinstance, sorted, set, instances by keywords, double comprehensions. -/
namespace DL
open PySem L2 PySem.Spec PyProof.Rows
mutual
def D.py : D → PyData
  | .bl b => .bool b
  | .int i => .int i
  | .str x => .str x
  | .lst xs => .list (pys xs)
  | .klst xs => .list (pys xs)
  | .tup xs => .tuple (pys xs)
  | _ => .none
def pys : List D → List PyData
  | [] => []
  | x :: xs => x.py :: pys xs
end
/-- data that are compared: of depth n at most -/
def Pl : Nat → D → Prop
  | 0, d => d = .non ∨ (∃ b, d = .bl b) ∨ (∃ i, d = .int i)
  | n + 1, d => d = .non ∨ (∃ b, d = .bl b) ∨ (∃ i, d = .int i) ∨ ∃ xs, (d = .lst xs ∨ d = .tup xs) ∧ ∀ x ∈ xs, Pl n x
theorem Pl.int {n : Nat} {i : Int} : Pl n (.int i) := by cases n <;> simp [Pl]
theorem Pl.lst {n : Nat} {xs : List D} (h : ∀ x ∈ xs, Pl n x) : Pl (n + 1) (.lst xs) := .inr (.inr (.inr ⟨xs, .inl rfl, h⟩))
theorem Pl.tup {n : Nat} {xs : List D} (h : ∀ x ∈ xs, Pl n x) : Pl (n + 1) (.tup xs) := .inr (.inr (.inr ⟨xs, .inr rfl, h⟩))
theorem pys_shape : ∀ {n : Nat} {xs : List D}, (∀ x ∈ xs, x.py.canLay0 = true ∧ x.py.depth ≤ n) → PyData.canLayAll0 (pys xs) = true ∧ PyData.depthAll (pys xs) ≤ n
  | n, [], _ => ⟨rfl, Nat.zero_le _⟩
  | n, x :: xs, h => by
    obtain ⟨h1, h2⟩ := h x (List.mem_cons_self ..)
    obtain ⟨h3, h4⟩ := pys_shape (n := n) (xs := xs) fun y hy => h y (List.mem_cons_of_mem _ hy)
    refine ⟨?_, ?_⟩
    · simp only [pys, PyData.canLayAll0, h1, h3, Bool.and_self]
    · simp only [pys, PyData.depthAll]; omega
theorem Pl.shape : ∀ {n : Nat} {d : D}, Pl n d → d.py.canLay0 = true ∧ d.py.depth ≤ n
  | 0, d, h => by
    rcases h with rfl | ⟨b, rfl⟩ | ⟨i, rfl⟩ <;> exact ⟨rfl, Nat.le_refl _⟩
  | n + 1, d, h => by
    rcases h with rfl | ⟨b, rfl⟩ | ⟨i, rfl⟩ | ⟨xs, e, h⟩
    · exact ⟨rfl, Nat.zero_le _⟩
    · exact ⟨rfl, Nat.zero_le _⟩
    · exact ⟨rfl, Nat.zero_le _⟩
    · obtain ⟨h1, h2⟩ := pys_shape (n := n) (xs := xs) fun x hx => (h x hx).shape
      rcases e with rfl | rfl <;> refine ⟨?_, ?_⟩
      · simp only [D.py, PyData.canLay0, h1]
      · simp only [D.py, PyData.depth]; omega
      · simp only [D.py, PyData.canLay0, h1]
      · simp only [D.py, PyData.depth]; omega
theorem Pl.shaped {n : Nat} {d : D} (h : Pl n d) (hn : n ≤ 64) : SeqAt.shaped d.py = true := by
  obtain ⟨h1, h2⟩ := h.shape
  unfold SeqAt.shaped
  rw [h1, decide_eq_true (Nat.le_trans h2 hn)]
  rfl
section
variable {K : Frag} {J : Jd} {δ : En} {S : Store} {P : D → Store → Prop} {G H : Hp} {Q : VK} {ta tb te : TE} {v : V} {d x y : D} {ds es : List D} {vs : List V}
theorem pl_dp : ∀ {n : Nat} {d : D} {v : V}, Sub G H → Pl n d → Rep K G v d → Dp K H v d.py
  | 0, d, v, s, h, r => by
    rcases h with rfl | ⟨b, rfl⟩ | ⟨i, rfl⟩ <;> cases r
    · exact .non
    · exact .bl _
    · exact .int _
  | n + 1, d, v, s, h, r => by
    have all : ∀ {vs : List V} {xs : List D}, (∀ x ∈ xs, Pl n x) → Reps K G vs xs → DpAll K H vs (pys xs) := by
      intro vs xs hx rs
      induction xs generalizing vs with
      | nil => cases rs; exact .nil
      | cons x xs ih =>
        cases rs with
        | cons r rs => exact .cons (pl_dp s (hx x (List.mem_cons_self ..)) r) (ih (fun y hy => hx y (List.mem_cons_of_mem _ hy)) rs)
    rcases h with rfl | ⟨b, rfl⟩ | ⟨i, rfl⟩ | ⟨xs, e, h⟩
    · cases r; exact .non
    · cases r; exact .bl _
    · cases r; exact .int _
    · rcases e with rfl | rfl
      · cases r with
        | lst hg rs => exact .lst (.inl (.inl (s _ _ hg))) (all h rs)
      · cases r with
        | tup hg rs => exact .tup (s.t hg) (all h rs)
theorem o_eqD {n m : Nat} (hx : Pl n x) (hy : Pl m y) (p : P (.bl (PyData.eqv x.py y.py)) S) (hn : n ≤ 64 := by decide) (hm : m ≤ 64 := by decide) : Op K J (rEqD K) x y S P := fun G H vx vy w j r1 r2 Q k =>
  ⟨_, _, pl_dp w.sub hx r1, pl_dp w.sub hy r2, hx.shaped hn, hy.shaped hm, k.now w (.bl _) p⟩
theorem o_neD {n m : Nat} (hx : Pl n x) (hy : Pl m y) (p : P (.bl (!PyData.eqv x.py y.py)) S) (hn : n ≤ 64 := by decide) (hm : m ≤ 64 := by decide) : Op K J (rNeD K) x y S P := fun G H vx vy w j r1 r2 Q k =>
  ⟨_, _, pl_dp w.sub hx r1, pl_dp w.sub hy r2, hx.shaped hn, hy.shaped hm, k.now w (.bl _) p⟩
theorem eqv_nil (xs : List PyData) : PyData.eqvAll xs [] = xs.isEmpty := by cases xs <;> simp [PyData.eqvAll]
theorem pys_empty (xs : List D) : (pys xs).isEmpty = xs.isEmpty := by cases xs <;> rfl
theorem o_eqNil {n : Nat} (hx : Pl n (.lst ds)) (p : P (.bl ds.isEmpty) S) (hn : n ≤ 64 := by decide) : Op K J (rEqD K) (.lst ds) (.lst []) S P :=
  o_eqD hx (Pl.lst (n := 0) (fun x h => by cases h)) (by simp only [D.py, PyData.eqv, pys, eqv_nil, pys_empty]; exact p) hn
theorem o_neNil {n : Nat} (hx : Pl n (.lst ds)) (p : P (.bl (!ds.isEmpty)) S) (hn : n ≤ 64 := by decide) : Op K J (rNeD K) (.lst ds) (.lst []) S P :=
  o_neD hx (Pl.lst (n := 0) (fun x h => by cases h)) (by simp only [D.py, PyData.eqv, pys, eqv_nil, pys_empty]; exact p) hn
theorem o_eqNilT {n : Nat} (hx : Pl n (.tup ds)) (p : P (.bl ds.isEmpty) S) (hn : n ≤ 64 := by decide) : Op K J (rEqD K) (.tup ds) (.tup []) S P :=
  o_eqD hx (Pl.tup (n := 0) (fun x h => by cases h)) (by simp only [D.py, PyData.eqv, pys, eqv_nil, pys_empty]; exact p) hn
/-- a pair of ints -/
def pairD (p : Int × Int) : D := .tup [.int p.1, .int p.2]
theorem pl_pair {p : Int × Int} : Pl 1 (pairD p) := Pl.tup fun x h => by
  (rcases List.mem_cons.mp h with rfl | h)
  · exact .int
  · (rcases List.mem_cons.mp h with rfl | h)
    · exact .int
    · cases h
theorem pl_ints {ns : List Int} : Pl 1 (.lst (ns.map D.int)) := Pl.lst fun x h => by
  obtain ⟨i, _, rfl⟩ := List.mem_map.mp h
  exact .int
theorem pl_tints {ns : List Int} : Pl 1 (.tup (ns.map D.int)) := Pl.tup fun x h => by
  obtain ⟨i, _, rfl⟩ := List.mem_map.mp h
  exact .int
theorem pl_pairs {ps : List (Int × Int)} : Pl 2 (.lst (ps.map pairD)) := Pl.lst fun x h => by
  obtain ⟨i, _, rfl⟩ := List.mem_map.mp h
  exact pl_pair
theorem pl_tpairs {ps : List (Int × Int)} : Pl 2 (.tup (ps.map pairD)) := Pl.tup fun x h => by
  obtain ⟨i, _, rfl⟩ := List.mem_map.mp h
  exact pl_pair
theorem eqv_pair {p q : Int × Int} : PyData.eqv (pairD p).py (pairD q).py = decide (p = q) := by
  obtain ⟨a, b⟩ := p
  obtain ⟨c, e⟩ := q
  simp only [pairD, D.py, pys, PyData.eqv, PyData.eqvAll, Bool.and_true]
  by_cases h1 : a = c <;> by_cases h2 : b = e <;> simp [h1, h2]
theorem any_pair {p : Int × Int} : ∀ ps : List (Int × Int), ((pys (ps.map pairD)).any fun z => PyData.eqv z (pairD p).py) = decide (p ∈ ps)
  | [] => by simp [pys]
  | q :: ps => by
    rw [List.map_cons]
    simp only [pys, List.any_cons, eqv_pair]
    rw [any_pair ps]
    by_cases h : q = p
    · subst h; simp
    · have h' : ¬ p = q := fun z => h z.symm
      simp [h, h']
theorem o_inP {p : Int × Int} {ps : List (Int × Int)} (h : P (.bl (decide (p ∈ ps))) S) : Op K J (rInD K) (pairD p) (.lst (ps.map pairD)) S P := fun G H vx vy w j r1 r2 Q k =>
  ⟨_, _, pl_dp w.sub pl_pair r1, by have := pl_dp w.sub pl_pairs r2; simpa only [D.py] using this, pl_pair.shaped (by decide), by have := pl_pairs (ps := ps).shaped (by decide); simpa only [D.py] using this, by rw [any_pair]; exact k.now w (.bl _) h⟩
theorem o_notInP {p : Int × Int} {ps : List (Int × Int)} (h : P (.bl (!decide (p ∈ ps))) S) : Op K J (rNotInD K) (pairD p) (.lst (ps.map pairD)) S P := fun G H vx vy w j r1 r2 Q k =>
  ⟨_, _, pl_dp w.sub pl_pair r1, by have := pl_dp w.sub pl_pairs r2; simpa only [D.py] using this, pl_pair.shaped (by decide), by have := pl_pairs (ps := ps).shaped (by decide); simpa only [D.py] using this, by rw [any_pair]; exact k.now w (.bl _) h⟩
theorem o_inPT {p : Int × Int} {ps : List (Int × Int)} (h : P (.bl (decide (p ∈ ps))) S) : Op K J (rInDT K) (pairD p) (.tup (ps.map pairD)) S P := fun G H vx vy w j r1 r2 Q k =>
  ⟨_, _, pl_dp w.sub pl_pair r1, by have := pl_dp w.sub pl_tpairs r2; simpa only [D.py] using this, pl_pair.shaped (by decide), by have := pl_tpairs (ps := ps).shaped (by decide); simpa only [D.py] using this, by rw [any_pair]; exact k.now w (.bl _) h⟩
theorem o_notInPT {p : Int × Int} {ps : List (Int × Int)} (h : P (.bl (!decide (p ∈ ps))) S) : Op K J (rNotInDT K) (pairD p) (.tup (ps.map pairD)) S P := fun G H vx vy w j r1 r2 Q k =>
  ⟨_, _, pl_dp w.sub pl_pair r1, by have := pl_dp w.sub pl_tpairs r2; simpa only [D.py] using this, pl_pair.shaped (by decide), by have := pl_tpairs (ps := ps).shaped (by decide); simpa only [D.py] using this, by rw [any_pair]; exact k.now w (.bl _) h⟩
theorem inV_ints {i : Int} : ∀ ns : List Int, inV (.int i) (ns.map V.int) = decide (i ∈ ns)
  | [] => by simp [inV]
  | n :: ns => by
    have ih := inV_ints (i := i) ns
    unfold inV at ih ⊢
    rw [List.map_cons, List.any_cons, ih]
    by_cases h : n = i
    · subst h; simp [eqV]
    · have h' : ¬ i = n := fun z => h z.symm
      simp [eqV, h, h']
theorem o_inI {neg : Bool} {i : Int} {ns : List Int} (hs : SqAt S y (ns.map D.int)) (h : P (.bl (if neg then !decide (i ∈ ns) else decide (i ∈ ns))) S) : Op K J (rIn K neg) (.int i) y S P := fun G H vx vy w j r1 r2 Q k => by
  cases r1
  obtain ⟨a, us, e, hq, rs⟩ := hs.rep w r2
  rw [reps_int rs] at hq
  refine ⟨a, ns.map V.int, e, hq, rfl, ?_, ?_⟩
  · rw [List.all_eq_true]; intro z hz; obtain ⟨q, _, rfl⟩ := List.mem_map.mp hz; rfl
  · rw [inV_ints]; exact k.now w (.bl _) h
/-! ### isinstance -/
def TyD (S : Store) : D → String → Prop
  | .non, n => n = "NoneType"
  | .bl _, n => n = "bool"
  | .int _, n => n = "int"
  | .str _, n => n = "str"
  | .lst _, n => n = "list"
  | .tup _, n => n = "tuple"
  | .dK _, n => n = "dict"
  | .loc a, n => (∃ ds, S a = some (.lst ds) ∧ n = "list") ∨ ∃ ds, S a = some (.dK ds) ∧ n = "dict"
  | _, _ => False
theorem TyD.tyx {n : String} (w : Wd K G H S) (r : Rep K G v x) (h : TyD S x n) : TyX K H v (.type n) := by
  cases r with
  | non => cases h; exact .base .non
  | bl b => cases h; exact .base (.bl _)
  | int b => cases h; exact .base (.int _)
  | str b => cases h; exact .base (.str _)
  | ty b => exact h.elim
  | loc a =>
    rcases h with ⟨ds, hs, rfl⟩ | ⟨ds, hs, rfl⟩
    · obtain ⟨_, o, ho, rm⟩ := w.own a _ hs
      cases o <;> first | exact rm.elim | exact .base (.lst ho)
    · obtain ⟨_, o, ho, rm⟩ := w.own a _ hs
      cases o <;> first | exact rm.elim | exact .base (.dK ho)
  | raw a => exact h.elim
  | lst hg rs => cases h; exact .base (.lst (w.sub _ _ hg))
  | klst hg rs => exact h.elim
  | tup hg rs =>
    cases h
    rcases w.sub.t hg with (z | ⟨o, z⟩) | ⟨o, its, n, z, zc, _⟩
    · exact .base (.tup z)
    · exact .fTuple z
    · exact .kTuple z zc
  | ins _ _ => exact h.elim
  | dK hg rs => cases h; exact .base (.dK (w.sub _ _ hg))
  | dT _ _ => exact h.elim
  | exc _ _ _ => exact h.elim
  | key _ => exact h.elim
theorem c_isi {n t : String} {b : Bool} (ht : TyD S x t) (hk : kitB t n = some b) (p : P (.bl b) S) : Cb K J (rIsi K) [x, .ty n] S P := fun G H vs w j r Q k => by
  cases r with
  | cons r rr =>
    cases rr with
    | cons r' rr => cases rr; cases r'; exact ⟨_, _, .type t, .type n, b, rfl, .ty n, ht.tyx w r, kit_ty hk, k.now w (.bl _) p⟩
def kitBs (t : String) : List String → Option Bool
  | [] => some false
  | n :: ns => match kitB t n with
    | some true => some true
    | some false => kitBs t ns
    | none => none
theorem kit_tys {t : String} : ∀ {ns : List String} {b : Bool}, kitBs t ns = some b → PySem.W.kitAny K (.type t) (ns.map fun n => Value.type n) = some b
  | [], b, h => h
  | n :: ns, b, h => by
    unfold kitBs at h
    rw [List.map_cons]
    unfold PySem.W.kitAny
    cases q : kitB t n with
    | none => rw [q] at h; cases h
    | some c =>
      rw [q] at h
      rw [kit_ty q]
      cases c with
      | true => exact h
      | false => exact kit_tys h
theorem tys_reps : ∀ {vs : List V} {ns : List String}, Reps K G vs (ns.map D.ty) → vs = ns.map V.ty
  | _, [], .nil => rfl
  | _, _ :: _, .cons r t => by cases r; rw [tys_reps t]; rfl
theorem tys_cls : ∀ ns : List String, Paired ClsV (ns.map V.ty) (ns.map fun n => Value.type n)
  | [] => .nil
  | n :: ns => .cons (.ty n) (tys_cls ns)
/-- isinstance(x, (T, U, ..)) -/
theorem ev_isiT {t : TA} (h : Ev K J ta δ S fun x S1 => EvA K J t δ S1 fun xs S2 => ∃ ns ty b, xs = ns.map D.ty ∧ xs.length ≤ sizeLine ∧ TyD S2 x ty ∧ kitBs ty ns = some b ∧ P (.bl b) S2) : Ev K J (tCB (rIsiT K) (tCons ta (tCons (tTup t) tNil))) δ S P := fun G H σ w j e Q k =>
  h G H σ w j e _ fun G1 H1 S1 v1 d1 w1 x1 r1 p1 => p1 G1 H1 σ w1 (j.trans x1) (e.mono x1.gsub) _ fun G2 H2 S2 vs ds w2 x2 rs ⟨ns, ty, b, e1, hl, ht, hk, p⟩ => ⟨by rw [rs.length]; exact hl, fun q hq => by
    subst e1
    have r2 := r1.mono x2.gsub
    have w3 := w2.imm (o := .tup vs) hq
    have x3 := Ext.imm (o := HO.tup vs) w2 hq
    have n1 := Sub.new (o := HO.tup vs) (w2.free hq).1
    refine ⟨v1, q, vs, .type ty, ns.map (fun n => Value.type n), b, rfl, upd_same, ?_, ht.tyx w3 (r2.mono n1), kit_tys hk, k _ _ S2 (.bl b) (.bl b) w3 ((x1.trans x2).trans x3) (.bl b) p⟩
    rw [tys_reps rs]
    exact tys_cls ns⟩
/-! ### sorted, set -/
theorem c_sortI {ns : List Int} (h : SqAt S x (ns.map D.int)) (p : ∀ ns' : List Int, ns'.Perm ns → ns'.Pairwise (· ≤ ·) → P (.lst (ns'.map D.int)) S) : Cb K J (rSortTI K) [x] S P := fun G H vs w j r Q k => by
  cases r with
  | cons r rr =>
    cases rr
    obtain ⟨a, us, e, hs, rs⟩ := h.rep w r
    subst e
    rw [reps_int rs] at hs
    exact ⟨a, ns, rfl, hs, fun ns' q h1 h2 hq => k.imm w (fun z G' s hz => .lst hz (ints_reps ns')) (p ns' h1 h2) (by intro _ z; cases z) q hq⟩
theorem pair_rep {p : Int × Int} (w : Wd K G H S) (r : Rep K G v (pairD p)) : ∃ t, v = .ref t ∧ SqT K H t [.int p.1, .int p.2] := by
  cases r with
  | tup hg rs =>
    cases rs with
    | cons r1 rs => cases rs with
      | cons r2 rs => cases rs; cases r1; cases r2; exact ⟨_, rfl, w.sub.t hg⟩
theorem Reps.perm {us ys : List V} {ds : List D} (p : ys.Perm us) (r : Reps K G us ds) : ∃ es : List D, es.Perm ds ∧ Reps K G ys es := by
  induction p generalizing ds with
  | nil => cases r; exact ⟨[], .nil, .nil⟩
  | cons x p ih =>
    cases r with
    | cons q t =>
      obtain ⟨es, h1, h2⟩ := ih t
      exact ⟨_, .cons _ h1, .cons q h2⟩
  | swap x y l =>
    cases r with
    | cons q t =>
      cases t with
      | cons q' t => exact ⟨_, .swap _ _ _, .cons q' (.cons q t)⟩
  | trans p1 p2 ih1 ih2 =>
    obtain ⟨es, h1, h2⟩ := ih2 r
    obtain ⟨fs, h3, h4⟩ := ih1 h2
    exact ⟨fs, h3.trans h1, h4⟩
theorem perm_map {ps : List (Int × Int)} {es : List D} (h : es.Perm (ps.map pairD)) : ∃ qs : List (Int × Int), qs.Perm ps ∧ es = qs.map pairD := by
  have inj : ∀ p q, pairD p = pairD q → p = q := fun p q z => by
    injection z with z; injection z with z1 z2; injection z2 with z2 _; injection z1 with z1; injection z2 with z2
    exact Prod.ext z1 z2
  have all : ∀ e ∈ es, ∃ p, e = pairD p := fun e he => by
    obtain ⟨p, _, rfl⟩ := List.mem_map.mp (h.mem_iff.mp he)
    exact ⟨p, rfl⟩
  have ex : ∃ qs : List (Int × Int), es = qs.map pairD := by
    clear h
    induction es with
    | nil => exact ⟨[], rfl⟩
    | cons e es ih =>
      obtain ⟨p, rfl⟩ := all e (List.mem_cons_self ..)
      obtain ⟨qs, rfl⟩ := ih fun e he => all e (List.mem_cons_of_mem _ he)
      exact ⟨p :: qs, rfl⟩
  obtain ⟨qs, rfl⟩ := ex
  refine ⟨qs, ?_, rfl⟩
  classical
  let key : D → Int × Int := fun d => match d with | .tup [.int a, .int b] => (a, b) | _ => (0, 0)
  have h2 := h.map key
  have id_ : ∀ l : List (Int × Int), (l.map pairD).map key = l := fun l => by
    rw [List.map_map]
    exact (List.map_congr_left fun p _ => rfl).trans (List.map_id l)
  rwa [id_, id_] at h2
theorem c_sortP {ps : List (Int × Int)} (h : SqAt S x (ps.map pairD)) (p : ∀ qs : List (Int × Int), qs.Perm ps → P (.lst (qs.map pairD)) S) : Cb K J (rSortTP K) [x] S P := fun G H vs w j r Q k => by
  cases r with
  | cons r rr =>
    cases rr
    obtain ⟨a, us, e, hs, rs⟩ := h.rep w r
    subst e
    refine ⟨a, us, rfl, hs, fun u hu => ?_, fun ys q hp hq => ?_⟩
    · obtain ⟨i, hi⟩ := List.mem_iff_getElem?.mp hu
      obtain ⟨d, h1, h2⟩ := rs.getV hi
      rw [List.getElem?_map] at h1
      obtain ⟨z, _, rfl⟩ := Option.map_eq_some_iff.mp h1
      exact ⟨z, pair_rep w h2⟩
    · obtain ⟨es, h1, h2⟩ := Reps.perm hp rs
      obtain ⟨qs, h3, rfl⟩ := perm_map h1
      exact k.imm w (fun z G' s hz => .lst hz (h2.mono s)) (p qs h3) (by intro _ z; cases z) q hq
theorem ev_lenSetD (h : Ev K J ta δ S fun x S1 => ∃ ns : List Int, x = .tup (ns.map D.int) ∧ ns.Nodup ∧ ns.length ≤ 4000 ∧ P (.int (ns.length : Nat)) S1) : Ev K J (tLenSetD K ta) δ S P := fun G H σ w j e Q k =>
  h G H σ w j e _ fun G1 H1 S1 v d w1 x1 r1 ⟨ns, ed, hn, hl, p⟩ => by
    subst ed
    cases r1 with
    | tup hg rs =>
      rw [reps_int rs] at hg
      exact ⟨_, ns, rfl, w1.sub.t hg, hn, hl, k G1 H1 S1 _ _ w1 x1 (.int _) p⟩
theorem ev_lenSetT (h : Ev K J ta δ S fun x S1 => ∃ ps : List (Int × Int), x = .tup (ps.map pairD) ∧ ps.Nodup ∧ ps.length < 64 ∧ P (.int (ps.length : Nat)) S1) : Ev K J (tLenSetT K ta) δ S P := fun G H σ w j e Q k =>
  h G H σ w j e _ fun G1 H1 S1 v d w1 x1 r1 ⟨ps, ed, hn, hl, p⟩ => by
    subst ed
    cases r1 with
    | tup hg rs =>
      have keys : ∀ {us : List V} {ps : List (Int × Int)}, Reps K G1 us (ps.map pairD) → ∃ ks : List (Addr × List Int), us = ks.map (fun z => V.ref z.1) ∧ (∀ z ∈ ks, SqT K H1 z.1 (z.2.map V.int)) ∧ ks.map (·.2) = ps.map fun p => [p.1, p.2] := by
        intro us ps rs
        induction ps generalizing us with
        | nil => cases rs; exact ⟨[], rfl, fun z hz => (by cases hz), rfl⟩
        | cons p ps ih =>
          cases rs with
          | cons r rs =>
            obtain ⟨ks, h1, h2, h3⟩ := ih rs
            obtain ⟨t, rfl, ht⟩ := pair_rep w1 r
            refine ⟨(t, [p.1, p.2]) :: ks, by rw [h1]; rfl, fun z hz => ?_, by rw [List.map_cons, h3]; rfl⟩
            (rcases List.mem_cons.mp hz with rfl | hz)
            · exact ht
            · exact h2 z hz
      obtain ⟨ks, rfl, h2, h3⟩ := keys rs
      have len : ks.length = ps.length := by have := congrArg List.length h3; simpa using this
      refine ⟨_, ks, rfl, w1.sub.t hg, h2, ?_, by rw [len]; exact hl, by rw [len]; exact k G1 H1 S1 _ _ w1 x1 (.int _) p⟩
      rw [h3]
      refine List.Pairwise.map _ (fun a b hab z => hab ?_) hn
      injection z with z1 z2; injection z2 with z2 _
      exact Prod.ext z1 z2
/-! ### repr, a width, update -/
theorem c_repr {z : Str} (h : (reprText z).length ≤ sizeLine) (p : P (.str (reprText z)) S) : Cb K J rReprS [.str z] S P := fun G H vs w j r Q k => by
  cases r with
  | cons r rr => cases rr; cases r; exact ⟨z, rfl, h, k.now w (.str _) p⟩
theorem ev_fmt3 (h : Ev K J ta δ S fun x S1 => ∃ i : Int, x = .int i ∧ 1 ≤ i ∧ i ≤ 14 ∧ P (.str (Txt.rjust (toString i) 3)) S1) : Ev K J (tFmt3 ta) δ S P := fun G H σ w j e Q k =>
  h G H σ w j e _ fun G1 H1 S1 v d w1 x1 r1 ⟨i, ed, h1, h2, p⟩ => by
    subst ed
    cases r1
    exact ⟨i, rfl, h1, h2, k G1 H1 S1 _ _ w1 x1 (.str _) p⟩
theorem ty_dict {kvs : List (Key × D)} (h : DctAt S x kvs) : ∀ G H v, Wd K G H S → Rep K G v x → tyV K "dict" v H := fun G H v w r => by
  obtain ⟨a, us, e, hs, rs⟩ := h.rep w r
  subst e
  exact .inr (.inr (.inl ⟨rfl, .inl ⟨us, hs⟩⟩))
theorem m_dupd {a : Addr} {kvs more : List (Key × D)} (hs : S a = some (.dK kvs)) (hy : DctAt S y more) (ny : y ≠ .loc a) (hl : kvs.length + more.length ≤ sizeLine) (p : P .non (S.set a (.dK (mergeD kvs more)))) : Mb K J rDUpd (.loc a) [y] S P := fun G H vx vs w j r1 r2 Q k => by
  cases r1
  cases r2 with
  | cons r rr =>
    cases rr
    obtain ⟨b, fs, e, hb, rf⟩ := hy.rep w r
    obtain ⟨h0, o, ho, rm⟩ := w.own a _ hs
    cases o <;> first | exact rm.elim | skip
    rename_i gs
    have rg : RepK K G gs kvs := rm
    have ne : a ≠ b := by
      rintro rfl
      subst e
      rcases hy with e | ⟨c, e, _⟩
      · subst e
        cases r with
        | dK hg _ => rw [h0] at hg; cases hg
      · subst e
        cases r
        exact ny rfl
    subst e
    exact ⟨a, b, gs, fs, rfl, rfl, ne, ho, hb, by rw [rg.length, rf.length]; exact hl, k _ _ _ _ _ (w.put (m' := .dK (mergeD kvs more)) hs (rg.merge rf)) (Ext.put w hs) .non p⟩
/-! ### attributes as targets, properties, instances -/
theorem eg_fld {f : Str} {C : Addr} {P : En → Store → Prop} (c : Cls K C) (n : NoAttr K C f) (h : Ev K J ta δ S fun d S2 => ∃ a fs, d = .loc a ∧ S2 a = some (.ins C fs) ∧ fs.length < 1000 ∧ P δ (S2.set a (.ins C (putD f x fs)))) : EvG K J (gFld K ta f) x δ S P := fun G H σ v w j e r N o =>
  h G H σ w j e _ fun G2 H2 S2 v2 d2 w2 x2 r2 ⟨a, fs, e1, hs, hl, q⟩ => by
    subst e1
    cases r2
    obtain ⟨_, ob, ho, rm⟩ := w2.own a _ hs
    cases ob <;> first | exact rm.elim | skip
    obtain ⟨ec, rf⟩ := rm
    subst ec
    refine ⟨a, _, _, _, rfl, ho, c, n, by rw [rf.length]; exact hl, ?_⟩
    exact o G2 _ _ σ δ (w2.put (m' := .ins _ (putD f x fs)) hs ⟨rfl, rf.put f (r.mono x2.gsub)⟩) (x2.trans (Ext.put w2 hs)) (e.mono x2.gsub) q
theorem ev_prop {C : Addr} {Cc : Ct} {PX : PXT} {E : XK} (hX : J.X K E PX) (h : Ev K J ta δ S fun d S1 => ∃ fs, Insts S1 d C fs ∧ Cc [d] S1 P PX) : Ev K J (tProp C (spD K Cc) [] E ta) δ S P := fun G H σ w j e Q k =>
  h G H σ w j e _ fun G1 H1 S1 v d w1 x1 r1 ⟨fs, hi, p⟩ => by
    obtain ⟨a, dx, vs, e1, ho, rf⟩ := hi.at w1 r1
    subst e1
    exact ⟨a, dx, vs, rfl, ho, G1, S1, [d], P, PX, w1, .cons r1 .nil, p, k.mono x1, hX.mono (Ext.trans j x1)⟩
/-- C(.., k = v, ..), the values one behind another -/
theorem ev_makeN {C : Addr} {Cc : Ct} {E : XK} {PX : PXT} {n m : Nat} {t tk : TA} (hX : J.X K E PX)
    (h : EvA K J t δ S fun ds S1 => EvA K J tk δ S1 fun es S2 => ds.length = n ∧ es.length = m ∧ ∀ x, S2 x = none → J.S x = none → Cc (.loc x :: (ds ++ es)) (S2.set x (.ins C [])) (fun d S3 => d = .non ∧ (P (.loc x) S3 ∨ ∃ fs, S3 x = some (.ins C fs) ∧ P (.ins C fs) (S3.del x))) PX) :
    Ev K J (tMakeN C n m (spD K Cc) (fun vs zs => vs ++ zs) E t tk) δ S P := fun G H σ w j e Q k =>
  h G H σ w j e _ fun G0 H0 S0 vs ds w0 x0 r0 p0 => p0 G0 H0 σ w0 (j.trans x0) (e.mono x0.gsub) _ fun G1 H1 S1 zs es w1 x1 r1 ⟨l1, l2, p⟩ => by
    refine ⟨by rw [r0.length]; exact l1, by rw [r1.length]; exact l2, ?_⟩
    intro x dx hx hd ne
    have xx := x0.trans x1
    obtain ⟨w2, x2⟩ := new_ins (C := C) w1 hx hd ne
    have hs := (w1.free hx).2
    refine ⟨G1, _, .loc x :: (ds ++ es), _, PX, w2, .cons (.loc x) ((r0.mono x1.gsub).append r1), p x hs (j.sold x (xx.sold x hs)), ?_, hX.mono (Ext.trans j (xx.trans x2))⟩
    intro G3 H3 S3 v d w3 x3 r3 ⟨ed, q⟩
    subst ed
    cases r3
    refine ⟨rfl, ?_⟩
    rcases q with q | ⟨fs, hs3, q⟩
    · exact k G3 H3 S3 _ _ w3 ((xx.trans x2).trans x3) (.loc x) q
    · exact Ev.frz (k.mono xx) (x2.trans x3) w3 hs hs3 q
theorem ev_makeNL {i : Nat} {C : Addr} {Cc : Ct} {E : XK} {n m : Nat} {t tk : TA} (hi : δ[i]? = some (some (.raw C))) (h : Ev K J (tMakeN C n m (spD K Cc) (fun vs zs => vs ++ zs) E t tk) δ S P) : Ev K J (tMakeNL i C n m (spD K Cc) (fun vs zs => vs ++ zs) E t tk) δ S P := fun G H σ w j e Q k => by
  obtain ⟨v, h1, r⟩ := e.at_ i _ hi
  cases r
  exact ⟨h1, h G H σ w j e Q k⟩
theorem ev_cmeth0 {C : Addr} {Cc : Ct} {E : XK} {PX : PXT} {dds : List D} {sp : Sp} (hsp : ∀ G vs H Q, (∃ S P, Wd K G H S ∧ vs = [V.ref C] ∧ Cc (.raw C :: dds) S P PX ∧ Kn K G H S P Q ∧ XkOk K G H S E PX) → sp vs H Q E) (hX : J.X K E PX) (h : Cc (.raw C :: dds) S P PX) : Ev K J (tCMeth0 C sp E (tC (.ref C))) δ S P := fun G H σ w j e Q k =>
  ⟨rfl, hsp G _ _ _ ⟨S, P, w, rfl, h, k, hX.mono j⟩⟩
end
end DL

set_option maxHeartbeats 1900000
/-! DL8: double comprehensions, starred items, list(range(..)). -/
namespace DL
open PySem L2 PySem.Spec PyProof.Rows
section
variable {K : Frag} {J : Jd} {δ : En} {S : Store} {P : D → Store → Prop} {G H : Hp} {Q : VK} {ta tb te : TE} {v : V} {d x y : D} {ds es : List D}
/-- an inner turn -/
abbrev CIn (K : Frag) (J : Jd) (g1 : TG) (tt1 : TT) (te : TE) (vs1 : List Nat) (δ2 : En) (I1 : Nat → List D → Store → Prop) (j : Nat) (y : D) (acc : List D) (S' : Store) : Prop :=
  EvG K J g1 y (wipeD δ2 vs1) S' fun δ3 S6 => EvT K J tt1 δ3 S6 fun b S7 => (b = true → Ev K J te δ3 S7 fun z S8 => acc.length < sizeLine ∧ I1 (j + 1) (acc ++ [z]) S8) ∧ (b = false → I1 (j + 1) acc S7)
abbrev COut (K : Frag) (J : Jd) (g : TG) (tt : TT) (wi1 : TI) (g1 : TG) (tt1 : TT) (te : TE) (vs vs1 : List Nat) (δ : En) (I : Nat → List D → Store → Prop) (i : Nat) (x : D) (acc : List D) (S' : Store) : Prop :=
  EvG K J g x (wipeD δ vs) S' fun δ2 S2 => EvT K J tt δ2 S2 fun b S3 => (b = true → EvI K J wi1 δ2 S3 fun es S4 => ∃ I1 : Nat → List D → Store → Prop, I1 0 acc S4 ∧
    (∀ j y acc1 S5, es[j]? = some y → I1 j acc1 S5 → CIn K J g1 tt1 te vs1 δ2 I1 j y acc1 S5) ∧ ∀ acc1 S5, I1 es.length acc1 S5 → I (i + 1) acc1 S5) ∧ (b = false → I (i + 1) acc S3)
theorem ev_lc2 {wi wi1 : TI} {g g1 : TG} {tt tt1 : TT} {vs vs1 : List Nat} (hk : GK vs g) (hk1 : GK vs1 g1)
    (h : EvI K J wi δ S fun ds S1 => ∃ I : Nat → List D → Store → Prop, I 0 [] S1 ∧ (∀ i x acc S', ds[i]? = some x → I i acc S' → COut K J g tt wi1 g1 tt1 te vs vs1 δ I i x acc S') ∧ ∀ acc S', I ds.length acc S' → P (.lst acc) S') :
    Ev K J (tLc2 wi g tt wi1 g1 tt1 te vs vs1) δ S P := fun G H σ w j e Q k =>
  h G H σ w j e _ fun G1 H1 S1 It ds w1 x1 src ⟨I, i0, hs, hd⟩ => by
    intro D hD
    refine ⟨fun i m H' => m = ds.length - i ∧ i ≤ ds.length ∧ ∃ G' S' acc, Grow K G1 H1 S1 G' H' S' D acc ∧ I i acc S', ⟨_, rfl, Nat.zero_le _, G1, S1, [], Grow.start w1 hD, i0⟩, ?_⟩
    rintro i m H2 ⟨rfl, hi, G2, S2, acc, q2, i2⟩
    rcases Nat.lt_or_ge i ds.length with hlt | hge
    · have hx : ds[i]? = some ds[i] := List.getElem?_eq_getElem hlt
      obtain ⟨go, yl⟩ := src.go i G2 H2 S2 _ hx q2.wd q2.ext.gsub
      refine .inr ⟨go, fun H' => ∃ G' S' acc', Grow K G1 H1 S1 G' H' S' D acc' ∧ I (i + 1) acc' S', fun H' q => ⟨ds.length - (i + 1), by omega, rfl, hlt, q⟩, fun v H3 hy => ?_⟩
      obtain ⟨G3, w3, x3, r3⟩ := yl v H3 hy
      have q3 := q2.step w3 x3
      have j3 : J.at G3 H3 S2 := (Ext.trans j x1).trans q3.ext
      refine hk v σ (wipe σ vs) H3 _ wipe_wipe ?_
      refine hs i _ acc S2 hx i2 G3 H3 (wipe σ vs) v w3 j3 ((e.mono (x1.trans q3.ext).gsub).wipe vs) r3 _ fun G4 H4 S4 σ4 δ4 w4 x4 e4 p => ?_
      have q4 := q3.step w4 x4
      have j4 : J.at G4 H4 S4 := (Ext.trans j x1).trans q4.ext
      refine p G4 H4 σ4 w4 j4 e4 _ fun G5 H5 S5 b w5 x5 p5 => ?_
      have q5 := q4.step w5 x5
      have j5 : J.at G5 H5 S5 := (Ext.trans j x1).trans q5.ext
      cases b with
      | false => exact ⟨G5, S5, acc, q5, p5.2 rfl⟩
      | true =>
        refine p5.1 rfl G5 H5 σ4 w5 j5 (e4.mono x5.gsub) _ fun G6 H6 S6 It1 es w6 x6 src1 ⟨I1, k0, ks, kd⟩ => ?_
        have q6 := q5.step w6 x6
        refine ⟨fun i m H' => m = es.length - i ∧ i ≤ es.length ∧ ∃ G' S' acc', Grow K G1 H1 S1 G' H' S' D acc' ∧ I1 i acc' S' ∧ Sub G6 G', ⟨_, rfl, Nat.zero_le _, G6, S6, acc, q6, k0, .refl _⟩, ?_⟩
        rintro i' m' H7 ⟨rfl, hi', G7, S7, acc7, q7, i7, s7⟩
        rcases Nat.lt_or_ge i' es.length with hlt' | hge'
        · have hx' : es[i']? = some es[i'] := List.getElem?_eq_getElem hlt'
          obtain ⟨go', yl'⟩ := src1.go i' G7 H7 S7 _ hx' q7.wd s7
          refine .inr ⟨go', fun H' => ∃ G' S' acc', Grow K G1 H1 S1 G' H' S' D acc' ∧ I1 (i' + 1) acc' S' ∧ Sub G6 G', fun H' q => ⟨es.length - (i' + 1), by omega, rfl, hlt', q⟩, fun v8 H8 hy8 => ?_⟩
          obtain ⟨G8, w8, x8, r8⟩ := yl' v8 H8 hy8
          have q8 := q7.step w8 x8
          have j8 : J.at G8 H8 S7 := (Ext.trans j x1).trans q8.ext
          have e8 : EnR K G8 σ4 δ4 := ((e4.mono (x5.trans x6).gsub).mono s7).mono x8.gsub
          refine hk1 v8 σ4 (wipe σ4 vs1) H8 _ wipe_wipe ?_
          refine ks i' _ acc7 S7 hx' i7 G8 H8 (wipe σ4 vs1) v8 w8 j8 (e8.wipe vs1) r8 _ fun G9 H9 S9 σ9 δ9 w9 x9 e9 p9 => ?_
          have q9 := q8.step w9 x9
          have j9 : J.at G9 H9 S9 := (Ext.trans j x1).trans q9.ext
          refine p9 G9 H9 σ9 w9 j9 e9 _ fun Ga Ha Sa b wa xa pa => ?_
          have qa := q9.step wa xa
          have ja : J.at Ga Ha Sa := (Ext.trans j x1).trans qa.ext
          have sa : Sub G6 Ga := ((s7.trans x8.gsub).trans x9.gsub).trans xa.gsub
          cases b with
          | false => exact ⟨Ga, Sa, acc7, qa, pa.2 rfl, sa⟩
          | true =>
            refine pa.1 rfl Ga Ha σ9 wa ja (e9.mono xa.gsub) _ fun Gb Hb Sb vb db wb xb rb ⟨pb, ib⟩ => ?_
            have qb := qa.step wb xb
            obtain ⟨vsb, hb, rsb⟩ := qb.at_
            exact ⟨vsb, hb, by rw [rsb.length]; exact pb, Gb, Sb, _, qb.push hb rb, ib, sa.trans xb.gsub⟩
        · obtain rfl : i' = es.length := by omega
          exact .inl ⟨src1.stop G7 H7 S7 q7.wd s7, G7, S7, acc7, q7, kd _ _ i7⟩
    · obtain rfl : i = ds.length := by omega
      obtain ⟨o, wf, xf, rf⟩ := q2.fin
      exact .inl ⟨src.stop G2 H2 S2 q2.wd q2.ext.gsub, k _ _ S2 _ _ wf (x1.trans xf) rf (hd _ _ i2)⟩
/-- *e among the items -/
theorem ea_star {PA : List D → Store → Prop} {t : TA} (h : Ev K J ta δ S fun x S1 => ∃ ds, SqAt S1 x ds ∧ EvA K J t δ S1 fun xs S2 => PA (ds ++ xs) S2) : EvA K J (StX.tStar K ta t) δ S PA := fun G H σ w j e Q k =>
  h G H σ w j e _ fun G1 H1 S1 v d w1 x1 r1 ⟨ds, hs, p1⟩ => by
    obtain ⟨a, us, e1, hq, rs⟩ := hs.rep w1 r1
    refine ⟨a, us, e1, hq.symm, p1 G1 H1 σ w1 (j.trans x1) (e.mono x1.gsub) _ fun G2 H2 S2 vs ds2 w2 x2 r2 p2 => ?_⟩
    exact k G2 H2 S2 _ _ w2 (x1.trans x2) ((rs.mono x2.gsub).append r2) p2
theorem rg_reps (a b : Int) : Reps K G (rgV a b) (rgD a (b - a).toNat) := by
  unfold rgV rgD
  generalize (b - a).toNat = n
  induction n with
  | zero => exact .nil
  | succ n ih =>
    rw [List.range_succ, List.map_append, List.map_append]
    exact ih.append (.cons (.int _) .nil)
/-- list(range(a, b)) -/
theorem ev_lstRg2 (h : Ev K J ta δ S fun x S1 => Ev K J tb δ S1 fun y S2 => ∃ a b : Int, x = .int a ∧ y = .int b ∧ (b - a).toNat ≤ 2 ^ 24 ∧ P (.lst (rgD a (b - a).toNat)) S2) : Ev K J (tLstRgA (tRg2 ta tb)) δ S P := fun G H σ w j e Q k =>
  h G H σ w j e _ fun G1 H1 S1 v1 d1 w1 x1 r1 p1 => p1 G1 H1 σ w1 (j.trans x1) (e.mono x1.gsub) _ fun G2 H2 S2 v2 d2 w2 x2 r2 ⟨a, b, e1, e2, hr, p⟩ => by
    subst e1; subst e2
    cases r1; cases r2
    exact ⟨a, b, rfl, rfl, hr, (k.mono (x1.trans x2)).imm w2 (fun q G' s hq => .lst hq (rg_reps a b)) p⟩
end
end DL

set_option maxHeartbeats 1900000
/-! DL9: classes made with keywords, classmethods with defaults, over contracts. -/
namespace DL
open PySem L2 PySem.Spec PyProof.Rows
/-- a def called with n values and the keywords ks, all parameters given -/
structure KwD (P : Program) (w : World) (K : Frag) (mg : Str → Option Value) (base : Heap) (CX : CXT) (k : Nat) (f : Addr) (C : Ct) (n : Nat) (ks : List Str) : Prop where
  ex : ∃ (fd : FuncData) (ps : List Str) (gA : List Value → List Value → List Value), FnOk P w K mg base CX k f fd ps (spD K C) ∧ KBn K fd ps n ks gA (fun vs zs => vs ++ zs)
/-- a def whose defaults dds stand behind what is written -/
def spDD (K : Frag) (C : Ct) (dds : List D) : Sp := fun vs H Q E => ∃ G S ds P PX, Wd K G H S ∧ Reps K G vs ds ∧ C (ds ++ dds) S P PX ∧ Kn K G H S P Q ∧ XkOk K G H S E PX
theorem spDD_of {P : Program} {w : World} {K : Frag} {mg : Str → Option Value} {base : Heap} {CX : CXT} {k : Nat} {f : Addr} {C : Ct} {fd : FuncData} {ps : List Str} {us : List Value} {dvs : List V} {dds : List D}
    (F : FnOk P w K mg base CX k f fd ps (spD K C)) (hb : Binds K fd ps us) (hd : Vals dvs us) (hr : ∀ G, Reps K G dvs dds) : FnR P w K mg base CX k f (spDD K C dds) :=
  (F.raw hb hd).imp fun vs H Q E ⟨G, S, ds, P, PX, w, r, c, kn, x⟩ => ⟨G, S, ds ++ dds, P, PX, w, r.append (hr G), c, kn, x⟩
section
variable {X : Cx} {j k n i : Nat} {f g q Cl : Addr} {C : Ct} {x m : Str} {p pos apos : Pos} {e o : Expr} {es : List Expr} {kws : List Keyword} {ks : List Str} {ta : TE} {t tk : TA} {dds : List D}
theorem pe_mkd (M : Mk X.K Cl f) (F : FnD X.prog X.w X.K X.mg X.base CX0 k f C) (hr : Room j X.A) (hk : k + 1 ≤ j) (hg : Gl X x) (hm : X.mg x = some (.ref Cl)) (ha : PA X (e :: es) t) (hdb : (x == ("__debug__" : Str)) = false := by decide) (he : starEach (e :: es) X.env = (false, eval e X.env) :: starEach es X.env := by rfl) (hpl : (backTo pos (starEach es X.env)).any (·.1) = false := by rfl) :
    PE X (.Call (.Name x p) (e :: es) [] pos) (tMake Cl (spD X.K C) [] E0 t) := by
  obtain ⟨fd, ps, F1, b, kp⟩ := F.ex
  exact pe_make M F1 (hr.mono hk) hg hm b .nil pass0 ha hdb he hpl
theorem pe_mkk (M : Mk X.K Cl f) (F : KwD X.prog X.w X.K X.mg X.base CX0 k f C (n + 1) ks) (hr : Room j X.A) (hk : k + 1 ≤ j) (hg : Gl X x) (hm : X.mg x = some (.ref Cl)) (ha : PA X (e :: es) t) (hkw : PK X kws tk) (hall : (backToKw pos (keywordEach kws X.env)).all (·.1.isSome) = true := by rfl) (hks : (backToKw pos (keywordEach kws X.env)).filterMap (·.1) = ks := by rfl) (hdb : (x == ("__debug__" : Str)) = false := by decide) (he : starEach (e :: es) X.env = (false, eval e X.env) :: starEach es X.env := by rfl) (hpl : ((backTo pos (starEach (e :: es) X.env)).any (·.1) || (backToKw pos (keywordEach kws X.env)).any (·.1.isNone)) = false := by rfl) :
    PE X (.Call (.Name x p) (e :: es) kws pos) (tMakeN Cl n ks.length (spD X.K C) (fun vs zs => vs ++ zs) E0 t tk) := by
  obtain ⟨fd, ps, gA, F1, b⟩ := F.ex
  exact pe_makeN M F1 (hr.mono hk) hg hm b pass0 ha hkw hall hks hdb he hpl
theorem pe_mkkl (M : Mk X.K Cl f) (F : KwD X.prog X.w X.K X.mg X.base CX0 k f C (n + 1) ks) (hr : Room j X.A) (hk : k + 1 ≤ j) (hN : X.N[i]? = some x) (hv : Vis X.env.scope x) (ha : PA X (e :: es) t) (hkw : PK X kws tk)
    (hall : (backToKw pos (keywordEach kws X.env)).all (·.1.isSome) = true := by rfl) (hks : (backToKw pos (keywordEach kws X.env)).filterMap (·.1) = ks := by rfl) (hdb : (x == ("__debug__" : Str)) = false := by decide) (hcd : (x == ("__classdict__" : Str)) = false := by decide) (he : starEach (e :: es) X.env = (false, eval e X.env) :: starEach es X.env := by rfl) (hpl : ((backTo pos (starEach (e :: es) X.env)).any (·.1) || (backToKw pos (keywordEach kws X.env)).any (·.1.isNone)) = false := by rfl) :
    PE X (.Call (.Name x p) (e :: es) kws pos) (tMakeNL i Cl n ks.length (spD X.K C) (fun vs zs => vs ++ zs) E0 t tk) := by
  obtain ⟨fd, ps, gA, F1, b⟩ := F.ex
  exact pe_makeNL M F1 (hr.mono hk) hN hv b pass0 ha hkw hall hks hdb hcd he hpl
theorem pe_cmd0 {mc : Value} {pl : Sem Bool} (he : PE X o (tC (.ref Cl))) (r : ClX.CRead X.K Cl mc) (c : ClX.CMet X.K Cl mc m q g) (F : FnR X.prog X.w X.K X.mg X.base CX0 k g (spDD X.K C dds)) (hr : Room j X.A) (hk : k ≤ j)
    (ht : eval (.Call (.Attribute o m apos) [] [] pos) X.env = (do let ov ← eval o X.env; standAt apos.atName; let (f, first) ← holding [ov] (getMethod ov m pl); callWith pos f first (backTo pos (starEach [] X.env)) (backToKw pos (keywordEach [] X.env))) := by rfl) :
    PE X (.Call (.Attribute o m apos) [] [] pos) (tCMeth0 Cl (spDD X.K C dds) E0 (tC (.ref Cl))) := pe_cmeth0 he r c F (hr.mono hk) pass0 ht
end
section
variable {K : Frag} {J : Jd} {δ : En} {S : Store} {P : D → Store → Prop}
theorem ev_cmd0 {C : Addr} {Cc : Ct} {E : XK} {PX : PXT} {dds : List D} (hX : J.X K E PX) (h : Cc (.raw C :: dds) S P PX) : Ev K J (tCMeth0 C (spDD K Cc dds) E (tC (.ref C))) δ S P :=
  ev_cmeth0 (PX := PX) (fun G vs H Q ⟨S, P, w, e, c, k, x⟩ => ⟨G, S, [.raw C], P, PX, w, by rw [e]; exact .cons (.raw C) .nil, c, k, x⟩) hX h
end
end DL

set_option maxHeartbeats 1100000
/-! DLB: the step of a proof; the attributes' places. -/
namespace DL
open PySem L2
section
variable {K : Frag} {J : Jd} {δ : En} {S : Store} {P : D → Store → Prop} {x : D} {d : D}
theorem nx_mk {f b c : En → Store → Prop} {r : D → Store → Prop} (h : f δ S) : (Out.mk f r b c).nx δ S := h
theorem rt_mk {f b c : En → Store → Prop} {r : D → Store → Prop} (h : r d S) : (Out.mk f r b c).rt d S := h
theorem bk_mk {f b c : En → Store → Prop} {r : D → Store → Prop} (h : b δ S) : (Out.mk f r b c).bk δ S := h
theorem ct_mk {f b c : En → Store → Prop} {r : D → Store → Prop} (h : c δ S) : (Out.mk f r b c).ct δ S := h
theorem dec_and {p A B : Prop} [Decidable p] (h1 : p → A) (h2 : ¬ p → B) : (decide p = true → A) ∧ (decide p = false → B) := ⟨fun h => h1 (of_decide_eq_true h), fun h => h2 (of_decide_eq_false h)⟩
theorem dec_andN {p A B : Prop} [Decidable p] (h1 : ¬ p → A) (h2 : p → B) : ((!decide p) = true → A) ∧ ((!decide p) = false → B) :=
  ⟨fun h => h1 (by simpa using h), fun h => h2 (by simpa using h)⟩
theorem tt_and {A B : Prop} (h : A) : (true = true → A) ∧ (true = false → B) := ⟨fun _ => h, fun z => (by cases z)⟩
theorem ff_and {A B : Prop} (h : B) : (false = true → A) ∧ (false = false → B) := ⟨fun z => (by cases z), fun _ => h⟩
theorem ntt_and {A B : Prop} (h : B) : ((!true) = true → A) ∧ ((!true) = false → B) := ⟨fun z => (by cases z), fun _ => h⟩
theorem nff_and {A B : Prop} (h : A) : ((!false) = true → A) ∧ ((!false) = false → B) := ⟨fun _ => h, fun z => (by cases z)⟩
theorem par_mk {α : Type} {x y : α} {Q : α → α → Prop} (h : Q x y) : ∃ a b, [x, y] = [a, b] ∧ Q a b := ⟨x, y, rfl, h⟩
theorem ev_callE {C : Ct} {ta : L2.TA} (h : EvA K J ta δ S fun ds S1 => C ds S1 P PX0) : Ev K J (L2.tCall (spD K C) [] L2.E0 ta) δ S P := ev_call (PX := PX0) XkOk.none h
theorem ev_methE {C : Addr} {m : Str} {Cc : Ct} {ta : L2.TE} {t : L2.TA} (h : Ev K J ta δ S fun d S1 => ∃ fs, Insts S1 d C fs ∧ fs.lookup m = none ∧ EvA K J t δ S1 fun ds S2 => Cc (d :: ds) S2 P PX0) : Ev K J (L2.tMeth C m (spD K Cc) [] L2.E0 ta t) δ S P := ev_meth (PX := PX0) XkOk.none h
theorem ev_propE {C : Addr} {Cc : Ct} {ta : L2.TE} (h : Ev K J ta δ S fun d S1 => ∃ fs, Insts S1 d C fs ∧ Cc [d] S1 P PX0) : Ev K J (tPropD K C Cc ta) δ S P := ev_prop (PX := PX0) XkOk.none h
end
end DL

set_option maxHeartbeats 1100000
/-! DLA: comprehensions that change nothing. -/
namespace DL
open PySem L2
section
variable {K : Frag} {J : Jd} {δ : En} {S : Store} {P : D → Store → Prop}
theorem ep_nil {PP : List (D × D) → Store → Prop} (p : PP [] S) : EvP K J [] δ S PP := p
theorem ep_cons {PP : List (D × D) → Store → Prop} {tk tv : TE} {r : List (TE × TE)} (h : Ev K J tk δ S fun x S1 => Ev K J tv δ S1 fun y S2 => EvP K J r δ S2 fun ps S3 => PP ((x, y) :: ps) S3) : EvP K J ((tk, tv) :: r) δ S PP := h
theorem Store.set_id {a : PySem.Addr} {m : M} (h : S a = some m) : S.set a m = S := by
  funext b
  unfold Store.set
  by_cases e : b = a
  · rw [if_pos e, e, h]
  · rw [if_neg e]
theorem s_klst {ds : List D} {lo hi : Option Int} (p : P (.lst (DL.cutD ds lo hi)) S) : Sc K J (rSlL K) (.klst ds) lo hi S P := fun G H vx w j r1 Q k => by
  cases r1 with
  | klst h rs => exact ⟨_, _, rfl, w.sub.l h, k.imm w (fun p G' s hp => .lst hp ((rs.cut lo hi).mono s)) p⟩
theorem c_lenK {ds : List D} (p : P (.int (ds.length : Nat)) S) : Cb K J (rLenSeq K) [.klst ds] S P := fun G H vs w j r Q k => by
  cases r with
  | cons r rr =>
    cases rr
    cases r with
    | klst h rs => exact ⟨_, _, rfl, .inl (w.sub.l h), by rw [rs.length]; exact k.now w (.int _) p⟩
theorem et_yes {PT : Bool → Store → Prop} (p : PT true S) : EvT K J tYes δ S PT := fun G H σ w j e Q k => k G H S true w (Ext.refl w) p
theorem range_map_succ {α : Type} (f : Nat → α) (i : Nat) : (List.range (i + 1)).map f = (List.range i).map f ++ [f i] := by rw [List.range_succ, List.map_append]; rfl
theorem ev_lcP {wi : TI} {g : TG} {te : TE} {vs : List Nat} (f : Nat → D) (hk : GK vs g)
    (h : EvI K J wi δ S fun ds S1 => ds.length ≤ PySem.sizeLine ∧ (∀ (i : Nat) (x : D), ds[i]? = some x → EvG K J g x (wipeD δ vs) S1 fun δ2 S2 => Ev K J te δ2 S2 fun y S3 => y = f i ∧ S3 = S1) ∧ P (.lst ((List.range ds.length).map f)) S1) :
    Ev K J (tLc wi g tYes te vs) δ S P := by
  refine ev_lc hk fun G H σ w j e R k => h G H σ w j e R fun G' H' S' I ds w' xe src ⟨hl, ht, hp⟩ => k G' H' S' I ds w' xe src ⟨fun i acc S2 => acc = (List.range i).map f ∧ S2 = S', ⟨rfl, rfl⟩, ?_, ?_⟩
  · rintro i x acc S2 hx ⟨rfl, rfl⟩
    have lt := (List.getElem?_eq_some_iff.mp hx).1
    intro G2 H2 σ2 v w2 j2 e2 r N o
    refine ht i x hx G2 H2 σ2 v w2 j2 e2 r N fun G3 H3 S3 σ3 δ3 w3 x3 e3 p3 => o G3 H3 S3 σ3 δ3 w3 x3 e3 ?_
    refine et_yes ⟨fun _ => p3.imp fun y S4 hy => ?_, fun z => (by cases z)⟩
    obtain ⟨rfl, rfl⟩ := hy
    exact ⟨by rw [List.length_map, List.length_range]; omega, (range_map_succ f i).symm, rfl⟩
  · rintro acc S2 ⟨rfl, rfl⟩
    exact hp
theorem ev_lcF {wi : TI} {g : TG} {tt : TT} {te : TE} {vs : List Nat} (f : Nat → D) (q : Nat → Bool) (hk : GK vs g)
    (h : EvI K J wi δ S fun ds S1 => ds.length ≤ PySem.sizeLine ∧ (∀ (i : Nat) (x : D), ds[i]? = some x → EvG K J g x (wipeD δ vs) S1 fun δ2 S2 => EvT K J tt δ2 S2 fun b S3 => b = q i ∧ S3 = S1 ∧ (b = true → Ev K J te δ2 S3 fun y S4 => y = f i ∧ S4 = S1)) ∧ P (.lst (((List.range ds.length).filter q).map f)) S1) :
    Ev K J (tLc wi g tt te vs) δ S P := by
  refine ev_lc hk fun G H σ w j e R k => h G H σ w j e R fun G' H' S' I ds w' xe src ⟨hl, ht, hp⟩ => k G' H' S' I ds w' xe src ⟨fun i acc S2 => acc = ((List.range i).filter q).map f ∧ S2 = S', ⟨rfl, rfl⟩, ?_, ?_⟩
  · rintro i x acc S2 hx ⟨rfl, rfl⟩
    have lt := (List.getElem?_eq_some_iff.mp hx).1
    intro G2 H2 σ2 v w2 j2 e2 r N o
    refine ht i x hx G2 H2 σ2 v w2 j2 e2 r N fun G3 H3 S3 σ3 δ3 w3 x3 e3 p3 => o G3 H3 S3 σ3 δ3 w3 x3 e3 ?_
    refine p3.imp fun b S4 ⟨hb, hS, he⟩ => ?_
    subst hS
    refine ⟨fun z => (he z).imp fun y S5 hy => ?_, fun z => ?_⟩
    · obtain ⟨rfl, rfl⟩ := hy
      have l1 : (((List.range i).filter q).map f).length ≤ i := by
        rw [List.length_map]; have := List.length_filter_le q (List.range i); rw [List.length_range] at this; exact this
      refine ⟨by omega, ?_, rfl⟩
      rw [List.range_succ, List.filter_append, List.map_append]
      have : q i = true := by rw [← hb, z]
      simp [this]
    · refine ⟨?_, rfl⟩
      rw [List.range_succ, List.filter_append, List.map_append]
      have : q i = false := by rw [← hb, z]
      simp [this]
  · rintro acc S2 ⟨rfl, rfl⟩
    exact hp
theorem ev_lc2P {wi wi1 : TI} {g g1 : TG} {te : TE} {vs vs1 : List Nat} (inner : Nat → List D) (f : D → D) (hk : GK vs g) (hk1 : GK vs1 g1)
    (h : EvI K J wi δ S fun ds S1 => ((List.range ds.length).flatMap inner).length ≤ PySem.sizeLine ∧ (∀ (i : Nat) (x : D), ds[i]? = some x → EvG K J g x (wipeD δ vs) S1 fun δ2 S2 => EvI K J wi1 δ2 S2 fun (es : List D) S3 => S3 = S1 ∧ es = inner i ∧
      ∀ (j : Nat) (y : D), es[j]? = some y → EvG K J g1 y (wipeD δ2 vs1) S3 fun δ3 S4 => Ev K J te δ3 S4 fun z S5 => z = f y ∧ S5 = S1) ∧ P (.lst (((List.range ds.length).flatMap inner).map f)) S1) :
    Ev K J (tLc2 wi g tYes wi1 g1 tYes te vs vs1) δ S P := by
  refine ev_lc2 hk hk1 fun G H σ w j e R k => h G H σ w j e R fun G' H' S' I ds w' xe src ⟨hl, ht, hp⟩ => k G' H' S' I ds w' xe src ⟨fun i acc S2 => acc = ((List.range i).flatMap inner).map f ∧ S2 = S', ⟨rfl, rfl⟩, ?_, ?_⟩
  · rintro i x acc S2 hx ⟨rfl, rfl⟩
    have lt := (List.getElem?_eq_some_iff.mp hx).1
    have sub : ((List.range (i + 1)).flatMap inner).length ≤ ((List.range ds.length).flatMap inner).length := by
      have e : List.range ds.length = List.range (i + 1) ++ (List.range (ds.length - (i + 1))).map (fun z => i + 1 + z) := by
        rw [← List.range_add]
        exact congrArg List.range (by omega)
      rw [e, List.flatMap_append, List.length_append]
      exact Nat.le_add_right _ _
    have next : (List.range (i + 1)).flatMap inner = (List.range i).flatMap inner ++ inner i := by rw [List.range_succ, List.flatMap_append]; simp
    intro G2 H2 σ2 v w2 j2 e2 r N o
    refine ht i x hx G2 H2 σ2 v w2 j2 e2 r N fun G3 H3 S3 σ3 δ3 w3 x3 e3 p3 => o G3 H3 S3 σ3 δ3 w3 x3 e3 ?_
    refine et_yes ⟨fun _ => ?_, fun z => (by cases z)⟩
    intro G4 H4 σ4 w4 j4 e4 R4 k4
    refine p3 G4 H4 σ4 w4 j4 e4 R4 fun G5 H5 S5 I5 es w5 x5 src5 ⟨hS, hes, ht1⟩ => k4 G5 H5 S5 I5 es w5 x5 src5 ?_
    subst hS; subst hes
    refine ⟨fun j acc S6 => acc = ((List.range i).flatMap inner).map f ++ ((inner i).take j).map f ∧ S6 = S5, ⟨by simp, rfl⟩, ?_, ?_⟩
    · rintro j y acc S6 hy ⟨rfl, rfl⟩
      have ltj := (List.getElem?_eq_some_iff.mp hy).1
      intro G7 H7 σ7 v7 w7 j7 e7 r7 N7 o7
      refine ht1 j y hy G7 H7 σ7 v7 w7 j7 e7 r7 N7 fun G8 H8 S8 σ8 δ8 w8 x8 e8 p8 => o7 G8 H8 S8 σ8 δ8 w8 x8 e8 ?_
      refine et_yes ⟨fun _ => p8.imp fun z S9 hz => ?_, fun z => (by cases z)⟩
      obtain ⟨rfl, rfl⟩ := hz
      refine ⟨?_, ?_, rfl⟩
      · rw [List.length_append, List.length_map, List.length_map, List.length_take]
        rw [next, List.length_append] at sub
        omega
      · rw [List.take_add_one, hy, List.map_append, List.append_assoc]
        rfl
    · rintro acc S6 ⟨rfl, rfl⟩
      refine ⟨?_, rfl⟩
      rw [List.take_length, next, List.map_append]
  · rintro acc S2 ⟨rfl, rfl⟩
    exact hp
theorem map_get {α β : Type} {f : α → β} {xs : List α} {i : Nat} {y : β} (h : (xs.map f)[i]? = some y) : ∃ x, xs[i]? = some x ∧ y = f x := by
  rw [List.getElem?_map] at h
  obtain ⟨x, h1, h2⟩ := Option.map_eq_some_iff.mp h
  exact ⟨x, h1, h2.symm⟩
theorem range_map_get {α : Type} (xs : List α) (f : α → D) (z : α) : (List.range xs.length).map (fun i => f (xs.getD i z)) = xs.map f := by
  (refine List.ext_getElem (by simp) fun i h1 h2 => ?_)
  simp only [List.getElem_map, List.getElem_range]
  rw [List.getD_eq_getElem?_getD, List.getElem?_eq_getElem (by simpa using h2)]
  rfl
theorem range_flatMap_get {α β : Type} (xs : List (List α)) (f : α → β) : (List.range xs.length).flatMap (fun i => (xs.getD i []).map f) = xs.flatten.map f := by
  have : ∀ (xs : List (List α)), (List.range xs.length).flatMap (fun i => (xs.getD i []).map f) = xs.flatten.map f := by
    intro xs
    induction xs with
    | nil => rfl
    | cons x xs ih =>
      rw [List.length_cons, List.range_succ_eq_map, List.flatMap_cons, List.flatten_cons, List.map_append, ← ih, List.flatMap_map]
      rfl
  exact this xs
end
end DL

set_option maxHeartbeats 1900000
/-! DLC: errors raised, caught and kept; lambdas handed to a def that calls them. -/
namespace DL
open PySem L2 PySem.Spec PyProof.Rows
section
variable {K : Frag} {J : Jd} {δ : En} {S : Store} {P : D → Store → Prop} {G H : Hp} {Q : VK} {ta tb te : TE} {R : Out}
/-! ### raise -/
/-- what leaves a def, the slots forgotten -/
abbrev wE (E : XK) : WX := fun cls d _ H => E cls d H
theorem run_raiseE {E : XK} {PX : PXT} {C : Addr} {f : Str} {t : TA} (hX : J.X K E PX) (h : EvA K J t δ S fun ds S1 => ∃ x, ds = [x] ∧ PX (.ref C) (some [(f, x)]) S1) : Run K J (ErrB.tRaiseE C f (wE E) t) δ S R := fun G H σ D w j e o =>
  h G H σ w j e _ fun G1 H1 S1 vs ds w1 x1 r1 ⟨x, ed, p⟩ => by
    subst ed
    cases r1 with
    | @cons v0 _ _ _ r rr =>
      cases rr
      refine ⟨_, rfl, fun d hd => ?_⟩
      have w2 := w1.imm (o := .xd [(f, v0)]) hd
      exact hX.some_ _ _ S1 (.ref C) d _ [(f, x)] w2 ((Ext.trans j x1).trans (Ext.imm w1 hd)) upd_same (.cons (r.mono (Sub.new (w1.free hd).1)) .nil) p
/-! ### what is asked of a kept exception -/
theorem ev_kf {C : Addr} {f : Str} (h : Ev K J ta δ S fun d S1 => ∃ fs x, d = .exc C fs ∧ fs.lookup f = some x ∧ P x S1) : Ev K J (LX.tKf C f ta) δ S P := fun G H σ w j e Q k =>
  h G H σ w j e _ fun G1 H1 S1 v d w1 x1 r1 ⟨fs, x, ed, hl, p⟩ => by
    subst ed
    cases r1 with
    | exc h1 h2 rf =>
      rcases rf.lookup f with ⟨u, d2, q1, q2, r2⟩ | ⟨_, q2⟩
      · rw [hl] at q2; cases q2
        exact ⟨_, _, _, u, rfl, w1.sub _ _ h1, w1.sub _ _ h2, q1, k G1 H1 S1 u _ w1 x1 r2 p⟩
      · rw [hl] at q2; cases q2
theorem c_isK {C : Addr} {fs : List (Str × D)} {n : String} {b : Bool} (T : LX.IsC K C) (e : PySem.W.kitOne K (.ref C) (.type n) = some b) (p : P (.bl b) S) : Cb K J (LX.rIsK K) [.exc C fs, .ty n] S P := fun G H vs w j r Q k => by
  cases r with
  | cons r rr =>
    cases rr with
    | cons r' rr =>
      cases rr
      cases r'
      cases r with
      | exc h1 h2 rf => exact ⟨_, _, _, _, _, .type n, b, rfl, w.sub _ _ h1, w.sub _ _ h2, T, fun u z => z, e, k.now w (.bl b) p⟩
theorem c_isKr {C D' : Addr} {fs : List (Str × D)} {b : Bool} (T : LX.IsC K C) (e : PySem.W.kitOne K (.ref C) (.ref D') = some b) (p : P (.bl b) S) : Cb K J (LX.rIsK K) [.exc C fs, .raw D'] S P := fun G H vs w j r Q k => by
  cases r with
  | cons r rr =>
    cases rr with
    | cons r' rr =>
      cases rr
      cases r'
      cases r with
      | exc h1 h2 rf => exact ⟨_, _, _, _, _, .ref D', b, rfl, w.sub _ _ h1, w.sub _ _ h2, T, fun u z => z, e, k.now w (.bl b) p⟩
theorem o_isN {x : D} (hx : (∃ C fs, x = .exc C fs) ∨ x = .non ∨ (∃ ds, x = .lst ds) ∨ (∃ ds, x = .tup ds) ∨ (∃ C fs, x = .ins C fs) ∨ (∃ i, x = .int i) ∨ ∃ s, x = .str s) (p : P (.bl (match x with | .non => true | _ => false)) S) : Op K J rIsN x .non S P := fun G H vx vy w j r1 r2 Q k => by
  cases r2
  refine ⟨rfl, ?_⟩
  rcases hx with ⟨C, fs, rfl⟩ | rfl | ⟨ds, rfl⟩ | ⟨ds, rfl⟩ | ⟨C, fs, rfl⟩ | ⟨i, rfl⟩ | ⟨s, rfl⟩ <;> cases r1 <;> exact k.now w (.bl _) p
theorem o_notN {x : D} (hx : (∃ C fs, x = .exc C fs) ∨ x = .non ∨ (∃ ds, x = .lst ds) ∨ (∃ ds, x = .tup ds) ∨ (∃ C fs, x = .ins C fs) ∨ (∃ i, x = .int i) ∨ ∃ s, x = .str s) (p : P (.bl (match x with | .non => false | _ => true)) S) : Op K J rNotN x .non S P := fun G H vx vy w j r1 r2 Q k => by
  cases r2
  refine ⟨rfl, ?_⟩
  rcases hx with ⟨C, fs, rfl⟩ | rfl | ⟨ds, rfl⟩ | ⟨ds, rfl⟩ | ⟨C, fs, rfl⟩ | ⟨i, rfl⟩ | ⟨s, rfl⟩ <;> cases r1 <;> exact k.now w (.bl _) p
/-! ### try .. except X as e: the exception kept -/
theorem takes_len {X : Cx} {W : WX} (tk : Takes X W) : Takes X (fun cls d σ H => σ.length = X.N.length → W cls d σ H) := fun u s' ⟨a, B, sI, pins, σ, H, cls, d, e, I, nb, up, sky, na, os, ag, w⟩ => tk u s' ⟨a, B, sI, pins, σ, H, cls, d, e, I, nb, up, sky, na, os, ag, w I.len⟩
/-- the body's reading tb by what leaves it; n slots -/
def tTryKeep (K : Frag) (c : Value) (i n : Nat) (tb : XK → TS) (ts : TS) : TS := fun D σ H => tb (fun cls d H' => ∀ σ' : L2.St, σ'.length = n → LX.wKeep K c i (fun _ _ _ => ts) D cls d σ' H') D σ H
/-- nothing is known of the slots -/
def blank (n : Nat) : En := List.replicate n none
/-- what is known of a better -/
def upE (a : Addr) (x : D) (δ : En) : En := δ.map fun o => match o with | some (.raw b) => if b = a then some x else some (.raw b) | o => o
theorem enr_blank {σ : L2.St} {n : Nat} (h : σ.length = n) : EnR K G σ (blank n) := ⟨by unfold blank; rw [List.length_replicate, h], fun i d hd => by
  unfold blank at hd
  rw [List.getElem?_replicate] at hd
  split at hd <;> cases hd⟩
theorem EnR.upE {σ : L2.St} {a : Addr} {x : D} (e : EnR K G σ δ) (r : Rep K G (.ref a) x) : EnR K G σ (upE a x δ) where
  len := by unfold DL.upE; rw [List.length_map]; exact e.len
  at_ := fun i d hd => by
    unfold DL.upE at hd
    rw [List.getElem?_map] at hd
    obtain ⟨o, h1, h2⟩ := Option.map_eq_some_iff.mp hd
    split at h2
    · rename_i b
      split at h2
      · rename_i hb
        cases h2
        subst hb
        obtain ⟨v, h3, h4⟩ := e.at_ i _ h1
        cases h4
        exact ⟨_, h3, r⟩
      · cases h2
        exact e.at_ i _ h1
    · subst h2
      exact e.at_ i _ h1
theorem EnR.unset {σ : L2.St} (e : EnR K G σ δ) (i : Nat) : EnR K G (σ.set i none) (δ.set i none) where
  len := by rw [List.length_set, List.length_set, e.len]
  at_ := fun k d hd => by
    by_cases hk : i = k
    · subst hk
      have hi := (List.getElem?_eq_some_iff.mp hd).1
      rw [List.length_set] at hi
      rw [List.getElem?_set_self hi] at hd
      cases hd
    · rw [List.getElem?_set_ne hk] at hd ⊢
      exact e.at_ k d hd
/-- what leaves the try's body: an error of the class at c, the suite runs -/
def PXkeep (K : Frag) (J : Jd) (c : Addr) (i n : Nat) (ts : TS) (R : Out) : PXT := fun cls gs S' => ∃ fs, cls = .ref c ∧ gs = some fs ∧ ∀ a, Run K J ts ((blank n).set i (some (.raw a))) S' { nx := fun δ2 S2 => R.nx ((upE a (.exc c fs) δ2).set i none) S2, rt := fun _ _ => False }
theorem run_tryKeep {c : Addr} {i n : Nat} {tb' : XK → TS} {ts : TS} (hc : PySem.W.exmOne K (.ref c) (.ref c) = some true) (h : ∀ (J' : Jd) (E : XK), J'.S = S → J.at J'.G J'.H J'.S → J'.X K E (PXkeep K J c i n ts R) → Run K J' (tb' E) δ S R) : Run K J (tTryKeep K (.ref c) i n tb' ts) δ S R := fun G H σ D w j e o => by
  refine h ⟨G, H, S⟩ _ rfl j ⟨fun G1 H1 S1 cls w1 x1 p => ?_, fun G1 H1 S1 cls dd vs gs w1 x1 hg rf p σ1 hl => ?_⟩ G H σ D w (Ext.refl w) e
    ⟨fun G1 H1 S1 σ1 δ1 w1 j1 s1 e1 p => o.nx G1 H1 S1 σ1 δ1 w1 (Ext.trans j j1) s1 e1 p, fun G1 H1 S1 v d w1 j1 r1 p => o.rt G1 H1 S1 v d w1 (Ext.trans j j1) r1 p,
      fun G1 H1 S1 σ1 δ1 w1 j1 s1 e1 p => o.bk G1 H1 S1 σ1 δ1 w1 (Ext.trans j j1) s1 e1 p, fun G1 H1 S1 σ1 δ1 w1 j1 s1 e1 p => o.ct G1 H1 S1 σ1 δ1 w1 (Ext.trans j j1) s1 e1 p⟩
  · obtain ⟨fs, _, z, _⟩ := p
    cases z
  · obtain ⟨fs, rfl, z, run⟩ := p
    cases z
    refine ⟨hc, fun a ha => ?_⟩
    have x0 : Ext G H S G1 H1 S1 := x1
    refine run a G1 H1 _ _ w1 (Ext.trans j x0) ((enr_blank hl).set (.raw a) i) ⟨fun G2 H2 S2 σ2 δ2 w2 j2 s2 e2 q => fun na => ?_, fun _ _ _ _ _ _ _ _ z => z.elim, fun _ _ _ _ _ _ _ _ _ z => z.elim, fun _ _ _ _ _ _ _ _ _ z => z.elim⟩
    have w3 := w2.imm (o := LX.Xc a (.ref c) (some dd)) na
    have s3 := Sub.new (o := LX.Xc a (.ref c) (some dd)) (w2.free na).1
    have r3 : Rep K (upd G2 a (LX.Xc a (.ref c) (some dd))) (.ref a) (.exc c gs) := .exc upd_same (s3 _ _ (s2 _ _ hg)) ((rf.mono s2).mono s3)
    exact o.nx _ _ S2 _ _ w3 (Ext.trans j2 (Ext.imm w2 na)) ((x0.gsub.trans s2).trans s3) (((e2.mono s3).upE r3).unset i) q
/-! ### a lambda handed to a def that calls it -/
/-- a(), a the lambda that the def got (its function at f, its code at c'): its body's reading tl at the slots of the maker -/
def tAct (f c' : Addr) (q : Str) (tl : XK → Hp → VK → Prop) (E : XK) : TE := fun σ H Q => σ[0]? = some (some (.ref f)) ∧ H c' = some (LamX.CodeO c' q) ∧ tl E H Q
/-- what the def that got the lambda makes of it; body: its body's reading by that of the call -/
def tTG (N : List Str) (q : Str) (body : (XK → TE) → TS) (tl : XK → Hp → VK → Prop) (H : Hp) (Q : VK) : Prop := ∀ f c', H c' = some (LamX.CodeO c' q) → body (tAct f c' q tl) { nx := fun _ H' => Q .non H', rt := Q } (L2.start N [.ref f]) H
theorem Wd.free' (w : Wd K G H S) {c : Addr} {q : Str} (h : H c = some (LamX.CodeO c q)) : S c = none := by
  cases e : S c with
  | none => rfl
  | some m =>
    obtain ⟨_, o, ho, r⟩ := w.own c m e
    rw [h] at ho
    cases ho
    exact (r.nocode c q rfl).elim
theorem wd_ext {H1 : Hp} (w : Wd K G H S) (e : LamX.ExtN H H1) (t : LamX.Tabs (tabsOf K) H1) : Wd K G H1 S ∧ Ext G H S G H1 S := by
  refine ⟨⟨fun a o h => e a o (w.sub a o h) (fun ps z => w.nt a ps (by rw [h, z])), fun a m h => ?_, fun p hp => ⟨t p hp, (w.tabs p hp).2⟩, w.nt⟩, ⟨.refl G, fun _ _ h => .inl h, fun a o h _ n => e a o h n, fun a h o q => ?_, fun a m h => .inl (by rw [h]; exact fun z => by cases z), fun _ h => h⟩⟩
  · obtain ⟨g, o, ho, r⟩ := w.own a m h
    exact ⟨g, o, e a o ho r.notbl, r⟩
  · rcases Classical.em (∃ ps, o = .tbl ps) with z | z
    · exact z
    · exact (h.no (e a o q fun ps y => z ⟨ps, y⟩) fun ps y => z ⟨ps, y⟩).elim
/-- the contract of a lambda's body: what it gives at a store -/
abbrev Bc := Store → (D → Store → Prop) → PXT → Prop
theorem ev_lam {t : XK → TE} {body : (XK → TE) → TS} {N : List Str} {q : Str} (B : Bc) (hB : ∀ (J' : Jd) (E : XK) (S' : Store) (P' : D → Store → Prop) (PX : PXT), B S' P' PX → J'.X K E PX → Ev K J' (t E) δ S' P')
    (hrun : ∀ (J' : Jd) (act : XK → TE) (f : Addr), J'.S = S → (∀ (J2 : Jd) (E : XK) (PX : PXT) (δ2 : En) (S2 : Store) (P2 : D → Store → Prop), J'.at J2.G J2.H J2.S → J2.X K E PX → δ2[0]? = some (some (.raw f)) → B S2 P2 PX → Ev K J2 (act E) δ2 S2 P2) →
      Run K J' (body act) (startD N [.raw f]) S (outD J' P)) : Ev K J (LamX.tLam (tabsOf K) (tTG N q body) t) δ S P := fun G H σ w j e Q k => by
  refine ⟨fun p hp => (w.tabs p hp).1, fun H1 eN T1 f c' hc => ?_⟩
  obtain ⟨w1, x1⟩ := wd_ext w eN T1
  have j1 : J.at G H1 S := Ext.trans j x1
  refine hrun ⟨G, H1, S⟩ _ f rfl (fun J2 E PX δ2 S2 P2 hJ hX h0 hb => ?_) G H1 _ _ w1 (Ext.refl w1) (Reps.start (ds := [.raw f]) (.cons (.raw f) .nil)) ⟨?_, ?_, ?_, ?_⟩
  · intro G2 H2 σ2 w2 j2 e2 Q2 k2
    obtain ⟨v, hv, rv⟩ := e2.at_ 0 _ h0
    cases rv
    have x2 : Ext G H1 S G2 H2 S2 := Ext.trans hJ j2
    refine ⟨hv, x2.keep c' _ hc (w1.free' hc) (fun ps z => LamX.codeO_ne ps z), ?_⟩
    exact hB J2 E S2 P2 PX hb hX G2 H2 σ w2 j2 (e.mono x2.gsub) Q2 k2
  · rintro G' H' S' σ' δ' w' j' _ _ ⟨S2, d2, p⟩
    exact k G' H' S2 .non .non (w'.drop d2) (Ext.drop (Ext.trans x1 j') d2) .non p
  · rintro G' H' S' v d w' j' r' ⟨S2, d2, p⟩
    exact k G' H' S2 v d (w'.drop d2) (Ext.drop (Ext.trans x1 j') d2) r' p
  · exact fun _ _ _ _ _ _ _ _ _ z => z.elim
  · exact fun _ _ _ _ _ _ _ _ _ z => z.elim
end
end DL

set_option maxHeartbeats 1900000
/-! DLD: defs that raise, defs that get a lambda, defs that make one: from the text to the readings. -/
namespace DL
open PySem L2 PySem.Spec PyProof.Rows
/-- the code object of the def at f -/
def codeOf (K : Frag) (f : Addr) : Value := match K.lookup f with
  | some ⟨_, _, .func fd, _⟩ => fd.code
  | _ => .none
theorem FunD.okC {P : Program} {w : World} {K : Frag} {mg : Str → Option Value} {base : Heap} {x qual : Str} {params : Arguments} {body : List Stmt} {scope : Scope} {dvs : List V} {kws : List (Str × V)} {f : Addr} {fd : FuncData} {CX : CXT} {N ps : List Str} {k : Nat} {sp : Sp}
    (F : FunD K x qual params body scope dvs kws f fd) (S : FnScope N ps scope) (len : ∀ vs H Q E, sp vs H Q E → vs.length = ps.length)
    (hbody : ∀ (A : Around) (outer : List Env) (s : Shared) (H : Hp) (vs : List V) (Q : VK) (E : XK), Room k (A.deeper (envOfC qual scope s.heap.objs.size f (codeOf K f))) → sp vs H Q E →
      ∃ t, PSs (cxOf CX P w K mg base N qual scope f (codeOf K f) A outer s H E) body t ∧ t { nx := fun _ H' => Q .non H', rt := Q } (L2.start N vs) H) : FnOk P w K mg base CX (k + 1) f fd ps sp := by
  (obtain ⟨oc, od, dV, kV, doc, pm, an, cdv, ct, osl, rfl, lk, hcd, _, _⟩ := F.ex)
  have e : codeOf K f = cdv := by unfold codeOf; rw [lk]
  rw [e] at hbody
  exact fn_of lk hcd S len fun A outer s H vs Q E hr hsp => hbody A outer s H vs Q E hr hsp
section
variable {X : Cx} {j k : Nat} {f Cl : Addr} {C : Ct} {x m : Str} {p pos apos : Pos} {e o : Expr} {es : List Expr} {ta : TE} {t : TA} {E : XK}
/-- a call of a def that may raise, what it raises goes on -/
theorem pe_cdX (F : FnD X.prog X.w X.K X.mg X.base (L2.CX X.prog X.w) k f C) (hr : Room j X.A) (hk : k ≤ j) (hg : Gl X x) (hm : X.mg x = some (.ref f)) (tk : Takes X (wE E)) (ha : PA X (e :: es) t) (hdb : (x == ("__debug__" : Str)) = false := by decide) (he : starEach (e :: es) X.env = (false, eval e X.env) :: starEach es X.env := by rfl) (hpl : (backTo pos (starEach es X.env)).any (·.1) = false := by rfl) :
    PE X (.Call (.Name x p) (e :: es) [] pos) (tCall (spD X.K C) [] E t) := by
  obtain ⟨fd, ps, F1, b, kp⟩ := F.ex
  exact pe_call F1 (hr.mono hk) hg hm kp b .nil (passes_call tk fun _ _ _ _ h => h) ha hdb he hpl
/-- .. called where it is known not to raise -/
theorem pe_cdL (F : FnD X.prog X.w X.K X.mg X.base (L2.CX X.prog X.w) k f C) (hr : Room j X.A) (hk : k ≤ j) (hg : Gl X x) (hm : X.mg x = some (.ref f)) (ha : PA X (e :: es) t) (hdb : (x == ("__debug__" : Str)) = false := by decide) (he : starEach (e :: es) X.env = (false, eval e X.env) :: starEach es X.env := by rfl) (hpl : (backTo pos (starEach es X.env)).any (·.1) = false := by rfl) :
    PE X (.Call (.Name x p) (e :: es) [] pos) (tCall (spD X.K C) [] E0 t) := by
  obtain ⟨fd, ps, F1, b, kp⟩ := F.ex
  exact pe_call F1 (hr.mono hk) hg hm kp b .nil passL ha hdb he hpl
/-- C(..), C a local name -/
theorem pe_mdX {pl : Sem Bool} (he : PE X o ta) (c : Cls X.K Cl) (hm : Meth X.K Cl m f) (F : FnD X.prog X.w X.K X.mg X.base (L2.CX X.prog X.w) k f C) (hr : Room j X.A) (hk : k ≤ j) (tk : Takes X (wE E)) (ha : PA X (e :: es) t) (hst : starEach (e :: es) X.env = (false, eval e X.env) :: starEach es X.env := by rfl) (hpl : (backTo pos (starEach es X.env)).any (·.1) = false := by rfl)
    (ht : eval (.Call (.Attribute o m apos) (e :: es) [] pos) X.env = (do let ov ← eval o X.env; standAt apos.atName; let (g, first) ← holding [ov] (getMethod ov m pl); callWith pos g first (backTo pos (starEach (e :: es) X.env)) (backToKw pos (keywordEach [] X.env))) := by rfl) :
    PE X (.Call (.Attribute o m apos) (e :: es) [] pos) (tMeth Cl m (spD X.K C) [] E ta t) := by
  obtain ⟨fd, ps, F1, b, kp⟩ := F.ex
  exact pe_meth he c hm F1 (hr.mono hk) b .nil (passes_call tk fun _ _ _ _ h => h) ha hst hpl ht
end
/-! ### try .. except X as e: the exception kept -/
theorem ps_tryK {X : Cx} {x nm : Str} {c : Value} {i n : Nat} {body suite : List Stmt} {b₀ : Stmt} {np pos pos' : Pos} {tb : XK → TS} {ts : TS} (hs : X.stack = X.env :: X.outer) (hf : X.env.frame = some X.env.locals) (hex : X.ex = []) (hN : X.N.Nodup) (hi : X.N[i]? = some nm) (hln : X.env.kindOf nm = some .local) (hc : Names X x c) (hl : X.N.length = n)
    (hb : ∀ (W : WX) (E : XK) (pn : List (Addr × Obj)) (xe : Value → Shared → Prop), Takes (X.tr pn xe) W → (∀ cls d σ' H', E cls d H' → W cls d σ' H') → PassesOwn (model X.prog X.w) X.A X.env xe → PSs (X.tr pn xe) body (tb E))
    (hsu : ∀ (a : Addr) (oe : Obj) (cls : Value) (d : Option Addr) (pn : List (Addr × Obj)), Zc cls d oe → (∃ vs, oe.data = .fields vs) → PSs (X.suite a ((a, oe) :: pn)) (b₀ :: suite) ts) :
    PS X (.Try body [.ExceptHandler (some (.Name x np)) (some nm) (b₀ :: suite) pos'] [] [] pos) (tTryKeep X.K c i n tb ts) :=
  LX.ps_try_keep (tb := fun W => tb (fun cls d H' => ∀ σ' : L2.St, σ'.length = n → W cls d σ' H')) (ts := fun _ _ _ => ts) hs hf hex hN hi hln hc
    (fun W pn xe tk po => hb _ _ pn xe (takes_len tk) (fun cls d σ' H' h z => h σ' (z.trans hl)) po) hsu
/-! ### a def that gets a lambda -/
/-- how the def's own name a of the lambda is called -/
abbrev ActP (X : Cx) (Ng : List Str) (x : Str) (sg : Scope) (g : Addr) (cdg : Value) (a : Str) (s : Shared) (H : Hp) (act : XK → TE) : Prop :=
  ∀ (W : WX) (pn : List (Addr × Obj)) (xe : Value → Shared → Prop) (E : XK) (p1 p2 : Pos), Takes ((cxOf C8.CX0 X.prog X.w X.K X.mg X.base Ng x sg g cdg X.A X.stack s H C8.E0).tr pn xe) W → (∀ cls d σ' H', E cls d H' → W cls d σ' H') →
    PE ((cxOf C8.CX0 X.prog X.w X.K X.mg X.base Ng x sg g cdg X.A X.stack s H C8.E0).tr pn xe) (.Call (.Name a p1) [] [] p2) (act E)
theorem gives_of {X : Cx} {Ng : List Str} {x a q : Str} {sg : Scope} {g : Addr} {cdg : Value} {bg : List Stmt} {body : (XK → TE) → TS}
    (h : ∀ (s : Shared) (H : Hp) (act : XK → TE), ActP X Ng x sg g cdg a s H act → PSs (cxOf C8.CX0 X.prog X.w X.K X.mg X.base Ng x sg g cdg X.A X.stack s H C8.E0).nox bg (body act)) : LamX.GivesTo X Ng x sg g cdg bg a q (tTG Ng q body) := fun f c' s H Q tl act hc ht =>
  ⟨_, h s H (tAct f c' q tl) (fun W pn xe E p1 p2 tk hW => act W pn xe E p1 p2 tk hW), ht f c' hc⟩
/-- what is told of a def that makes lambdas -/
structure LamD (K : Frag) (n : Str) (f : Addr) (c P : Addr) : Prop where
  mem : n ∈ lamNames
  tab : PySem.W.tabIn K n = some (c, P)
  code : codeOf K f = .ref c
  uniq : ∀ p ∈ tabsOf K, p.1 = P → p.2 = lamQual n
theorem LamD.inT {K : Frag} {n : Str} {f c P : Addr} (L : LamD K n f c P) : (P, lamQual n) ∈ tabsOf K := by
  unfold tabsOf
  exact List.mem_filterMap.mpr ⟨n, L.mem, by rw [L.tab]; rfl⟩
/-- the tables at the start -/
def TabsB (K : Frag) (mg : Str → Option Value) (base : Heap) : Prop := ∀ n ∈ lamNames, ∀ c P, PySem.W.tabIn K n = some (c, P) → LamX.TabB base mg c P
theorem pe_lamD {X : Cx} {n x a : Str} {f0 g c P : Addr} {k : Nat} {st : Stmt} {fdg : FuncData} {Ng : List Str} {bodyR : (XK → TE) → TS} {params : Arguments} {body : Expr} {scope : Scope} {t : XK → TE} {p lpos pos : Pos} (TB : TabsB X.K X.mg X.base) (L : LamD X.K n f0 c P) (hcode : X.env.code = codeOf X.K f0) (hq : X.env.qual ++ "<lambda>" = lamQual n)
    (hg : Gl X x) (hm : X.mg x = some (.ref g)) (F : FunD X.K x x (defArgs st) (defBody st) (defScope st) [] [] g fdg) (hb : Binds X.K fdg [a] []) (Sg : FnScope Ng [a] (defScope st)) (hNg : Ng[0]? = some a) (hva : Vis (defScope st) a)
    (hGv : ∀ cdg : Value, LamX.GivesTo X Ng x (defScope st) g cdg (defBody st) a (lamQual n) (tTG Ng (lamQual n) bodyR)) (hr : Room (k + 2) X.A) (LS : LamX.LamS X.env.scope scope) (hdef : defaultsOf params X.env = ([], [])) (hbind : ∀ (q : Str) (cl : List (Str × Addr)) (pm cv ctv : Value), bindArgs (PySem.W.kla_fn "<lambda>" q params body scope cl pm cv ctv) ⟨[], []⟩ = pure [])
    (hbody : ∀ (A : Around) (outer : List Env) (s : Shared) (H : Hp) (E : XK) (f c' : Addr), Room k (A.deeper (LamX.lamEnv X scope s.heap.objs.size f c')) → PE (LamX.lamCx X A outer s H E scope f c') body (t E)) (hdb : (x == ("__debug__" : Str)) = false := by decide) (hd : (a == ("__debug__" : Str)) = false := by decide) (hcd : (a == ("__classdict__" : Str)) = false := by decide) :
    PE X (.Call (.Name x p) [.Lambda params body scope lpos] [] pos) (LamX.tLam (tabsOf X.K) (tTG Ng (lamQual n) bodyR) t) := by
  obtain ⟨oc, od, dV, kV, doc, pm, an, cdv, ct, osl, rfl, lk, hcd', _, _⟩ := F.ex
  have gv := hGv cdv
  rw [← hq] at gv
  exact LamX.pe_lamcall hg hm F.kp lk hcd' hb Sg hNg hva (by rw [← hq]; exact gv) (TB n L.mem c P L.tab) (hcode.trans L.code) (by rw [hq]; exact L.inT) (fun p hp e => by rw [hq]; exact L.uniq p hp e) hr LS hdef hbind hbody hdb hd hcd
section
variable {K : Frag} {J : Jd} {δ : En} {S : Store} {P : D → Store → Prop}
theorem run_tryBody {E : XK} {act : XK → TE} {R : Out} (h : Ev K J (act E) δ S fun _ S1 => R.nx δ S1) : Run K J (tDrop (act E)) δ S R := run_drop h
end
end DL

set_option maxHeartbeats 1900000
/-! LX1: further low rules: a starred target, tuple * int of any size, an own ==, C(..) by a local name. -/
namespace LX
open PySem.Spec PyProof.Rows L2 PySem
/-! ### a, *b = a list -/
theorem items_star {prog : Program} {w : World} {A : Around} {E : Value → Shared → Prop} {s : Shared} {l : Addr} {x : Value} {rest : List Value} {Q : List Value → Shared → Prop} (hl : s.heap.IsList l (x :: rest).toArray) (hh : A.handled = none) (hz : rest.length < 16384)
    (hQ : ∀ D h' tk, s.heap.get? D = none → (∀ b o, s.heap.get? b = some o → h'.get? b = some o) → h'.get? D = some { cls := .type "list", data := .seq rest.toArray } → Q [x, .ref D] { s with heap := h', toks := tk }) :
    wpAny (model prog w) A (unpackItems (.ref l) 2 (some 1)) Q E s := by
  have ne : l ≠ s.heap.objs.size := by rcases hl with ⟨o, ho, _⟩; exact Nat.ne_of_lt (Heap.lt_size ho)
  unfold unpackItems notIterableAtAll
  apply wpAny_bind
  apply wpAny_bind
  apply wpAny_specialOf hl.typeIs PySem.F.slot_list_iter.lookup
  apply wpAny_pure
  (simp only [Bool.false_eq_true, if_false])
  apply wpAny_bind
  apply wpAny_holding
  apply wpAny_pyIter_list hl
  apply wpAny_bind
  apply wpAny_holding
  refine PySem.W.kun_draw ne 1 0 _ _ ⟨_, Heap.get?_push_size _ rfl, rfl, rfl⟩ (hl.push _) (by simp) fun h₁ it₁ b₁ => ?_
  have l₁ : h₁.IsList l (x :: rest).toArray := (hl.push _).extBut b₁.extBut ne
  rcases id it₁ with ⟨oi, hoi, _⟩
  rcases id l₁ with ⟨ol, hol, _⟩
  show wpAny _ _ (if ([x] : List Value).length < 1 then _ else _) _ _ _
  rw [if_neg (by simp)]
  apply wpAny_bind
  apply wpAny_holding
  refine PySem.W.kun_collect (s := { s with heap := h₁ }) (T := "list_iterator") (.inr (.inr (.inl rfl))) (Walks.list (A := A.in1) hh s.heap.objs.size l ne (x :: rest).toArray) (fun j u st => st.1.typeIs) (k := 1) (by simp) ⟨it₁, l₁⟩ (Heap.lt_size hoi) (Heap.lt_size hol) (fun h₂ tk hk => ?_) (by rw [sizeLine_eq]; simp; omega)
  show wpAny _ _ (if rest.length < 2 - 1 - 1 then _ else _) _ _ _
  rw [if_neg (by omega)]
  show wpAny _ _ (newList (rest.take (rest.length - 0)) >>= fun d => pure ([x] ++ [d] ++ rest.drop (rest.length - 0))) _ _ _
  rw [Nat.sub_zero, List.take_length, List.drop_length]
  apply wpAny_bind
  refine wpAny_newList ?_ (by rw [sizeLine_eq]; omega)
  apply wpAny_pure
  have keep : ∀ b o, s.heap.get? b = some o → h₂.get? b = some o := fun b o e => hk b o (Nat.ne_of_lt (Heap.lt_size e)) (b₁.extBut b o (Nat.ne_of_lt (Heap.lt_size e)) (Heap.get?_push_of_some _ e))
  have new : s.heap.get? h₂.objs.size = none := by
    cases e : s.heap.get? h₂.objs.size with
    | none => rfl
    | some o => exact absurd (Heap.lt_size (keep _ o e)) (Nat.lt_irrefl _)
  exact hQ h₂.objs.size _ _ new (fun b o e => Heap.get?_push_of_some _ (keep b o e)) (Heap.get?_push_size _ rfl)
/-- a, *b = a list: the first item, a new list of the rest -/
def gStar1 (K : PySem.W.Frag) (ga gb : TG) : TG := fun v σ H N => ∃ l x xs, v = .ref l ∧ SqL K H l (x :: xs) ∧ xs.length < 16384 ∧ ∀ D, H D = none → ga x σ (upd H D (.lst xs)) fun σ1 H1 => gb (.ref D) σ1 H1 N
theorem pg_star1 {X : Cx} {ea eb : Expr} {p2 pos : Pos} {k : Nat} {ga gb : TG} (hc : X.calm = true) (ha : PG X ea ga) (hb : PG X eb gb) (hn : assignEach [ea, .Starred eb p2] X.env = [(false, assign ea X.env), (true, assign eb X.env)] := by rfl) : PG X (.Tuple [ea, .Starred eb p2] k pos) (gStar1 X.K ga gb) := by
  constructor
  rintro pins s σ H v u N I r ⟨l, x, xs, rfl, hq, hl, hw⟩
  cases r
  rcases I.list hq with ⟨its, rv, pl, hz⟩
  cases rv with
  | @cons _ x' _ xs' rx rr =>
    (rw [PyProof.Rows.assign_Tuple])
    apply wpAny_bind
    apply wpAny_standAt
    unfold unpack
    rw [hn]
    show wpAny _ _ (holding [Value.ref l] (unpackItems (.ref l) 2 (some 1)) >>= _) _ _ _
    apply wpAny_bind
    apply wpAny_holding
    refine items_star pl.isList (I.ok.hd hc) (by rw [← Paired.length rr]; exact hl) fun D h' tk new keep at_ => ?_
    have hn : H D = none := I.hok.gone new
    have J : Inv X pins σ (upd H D (.lst xs)) { s with heap := h', toks := tk } := I.laidN keep new hn ⟨by rw [sizeLine_eq]; omega, xs', 0, rr, at_⟩
    show wpAny _ _ (assignInOrder [assign ea X.env, assign eb X.env] [x', .ref D]) _ _ _
    refine assignInOrder_cons (thn (ha.run pins _ σ _ _ _ _ J rx (hw D hn)) fun _ s1 ⟨σ1, H1, I1, q1⟩ => ?_)
    refine assignInOrder_cons (thn (hb.run pins s1 σ1 H1 (.ref D) (.ref D) _ I1 rfl q1) fun _ s2 ⟨σ2, H2, I2, q2⟩ => ?_)
    show wpAny _ _ (pure ()) _ _ _
    exact wpAny_pure ⟨σ2, H2, I2, q2⟩
/-! ### tuple * int -/
theorem rep1 (l : Addr) (items : Array Value) (n : Nat) (dd : Option Addr) (sl : Array (Option Value)) (u : Tok) : Meets (Builtin.«tuple.__mul__» ⟨[.ref l, .int 1 u], []⟩) (fun _ R s => s.heap.get? l = some { cls := .type "tuple", dict := dd, data := .seq items n, slots := sl } ∧ ∀ tk, R (.ok (.ret (.ref l))) { s with toks := tk }) :=
  .of_wp fun (prog) w A R s h => by
    rcases s with ⟨hp, g, d, tk, os⟩
    rcases h with ⟨hl, h⟩
    have f1 := AutoSeq1.idx_int
    (wp_walk using wpAny_loadPart' hl)
    repeat (first
      | (refine wpAny_ite_false (by decide) ?_; wp_walk using wpAny_loadPart' hl)
      | (refine wpAny_ite_true (by simp) ?_; wp_walk using wpAny_loadPart' hl))
    exact ⟨_, rfl, h _⟩
def rRepW (K : PySem.W.Frag) : R2 := fun x y H Q => ∃ l k xs, x = .ref l ∧ y = .int k ∧ SqT K H l xs ∧ xs ≠ [] ∧ 1 ≤ k ∧ xs.length * k.toNat ≤ 16777216 ∧ (k = 1 → Q (.ref l) H) ∧ (k ≠ 1 → ∀ p, H p = none → Q (.ref p) (upd H p (.tup (List.replicate k.toNat xs).flatten)))
theorem op_repW {X : Cx} : OpR X (binaryOp .Mult) (rRepW X.K) := by
  rintro pins s σ H x y v u Q I rx ry ⟨l, k, xs, rfl, rfl, hT, hne, h1, hz, q1, q2⟩
  cases rx
  rcases ry with ⟨t, rfl⟩
  rcases I.tuple hT with ⟨its, r, ⟨⟨cls, dd, data, sl⟩, ho, hc, n, hd⟩, hs⟩
  simp only at hc hd
  subst hc hd
  have same : its.length = xs.length := r.length.symm
  have hn : its ≠ [] := fun e => hne (List.eq_nil_of_length_eq_zero (by rw [← same, e]; rfl))
  have road : ∀ {Q' : Value → Shared → Prop}, wpAny (model X.prog X.w) X.A (call (.builtin "tuple.__mul__") [.ref l, .int k t]) Q' X.xe s → wpAny (model X.prog X.w) X.A (binaryOp .Mult (.ref l) (.int k t)) Q' X.xe s := fun {Q'} z =>
    wpAny_binaryOp_repeat_ref (T := "tuple") (U := "int") (by decide) ⟨_, ho, rfl⟩ (fun s' => typeIs_int s' k t) noFill_tuple_mul F.fills_int_mul F.slot_int_rmul repeat_tuple F.slot_int_index.lookup
      (call_meets F.slot_int_rmul (typeIs_int s k t) F.entry_int_rmul (F.args_int_rmul_2 _ _) (int_rmul_tuple k t l its.toArray n dd sl) ⟨ho, rfl, ⟨_, ho, rfl⟩, z⟩)
  rcases Classical.em (k = 1) with e1 | e1
  · subst e1
    exact road (call_meets F.slot_tuple_mul ⟨_, ho, rfl⟩ F.entry_tuple_mul (F.args_tuple_mul_2 _ _) (rep1 l its.toArray n dd sl t) ⟨ho, fun tk => ⟨.ref l, H, I.tok _, rfl, q1 rfl⟩⟩)
  · have some_ : its.toArray.isEmpty = false := by cases its with | nil => exact absurd rfl hn | cons a b => rfl
    have size : its.toArray.size = xs.length := by rw [List.size_toArray, same]
    have many : ((its.toArray.size : Nat) : Int) * k ≤ 16777216 := by
      rw [size]
      have z : ((xs.length * k.toNat : Nat) : Int) ≤ 16777216 := by omega
      rw [Int.natCast_mul, Int.toNat_of_nonneg (by omega)] at z
      exact z
    have flen : ((List.replicate k.toNat its).flatten.length ≤ sizeLine) := by
      rw [PyProof.Rows.lm_len_rep_flat, same, sizeLine_eq, Nat.mul_comm]
      exact hz
    have c0 : ((decide (k < -(2 ^ 63)) || decide (k ≥ 2 ^ 63)) = false) := by
      have x0 : 0 < xs.length := by rw [← same]; exact List.length_pos_iff.mpr hn
      have kz : k.toNat ≤ 16777216 := Nat.le_trans (Nat.le_mul_of_pos_left _ x0) hz
      (rw [decide_eq_false (by omega), decide_eq_false (by omega)] <;> rfl)
    have c1 : (its.toArray.isEmpty || k == 1) = false := by rw [some_, Bool.false_or]; exact beq_eq_false_iff_ne.mpr e1
    have c2 : (decide (k ≤ 0) || its.toArray.isEmpty) = false := by rw [some_, Bool.or_false]; exact decide_eq_false (by omega)
    have c4 : (Builtin.Tuple.tupleTooMany (((its.toArray.size : Nat) : Int) * k) = false) := by
      (unfold Builtin.Tuple.tupleTooMany)
      rw [sizeLine_eq]
      (exact decide_eq_false (by omega))
    refine road (call_meets F.slot_tuple_mul ⟨_, ho, rfl⟩ F.entry_tuple_mul (F.args_tuple_mul_2 _ _) (tuple_mulW l its.toArray n dd sl k t c0 c1 c2 (by omega) c4 (by rw [size_rep, List.size_toArray]; exact flen)) ⟨ho, ?_⟩)
    rw [size_rep]
    have fresh := I.hok.fresh (Nat.le_refl s.heap.objs.size)
    refine ⟨.ref s.heap.objs.size, _, I.laid (t' := s.toks) (o := .tup (List.replicate k.toNat xs).flatten) (fun b ob q => Heap.get?_push_of_some _ q) (Nat.le_refl _) ⟨?_, _, r.rep k.toNat, IsTup.new _ _⟩, rfl, q2 e1 _ fresh⟩
    rw [PyProof.Rows.lm_len_rep_flat, ← same, ← PyProof.Rows.lm_len_rep_flat]
    exact flen
/-! ### == by an own __eq__, both answers -/
def rOwnEq (C : Addr) (sp : Sp) : R2 := fun x y H Q => ∃ a b dx dy fs gs, x = .ref a ∧ y = .ref b ∧ H a = some (.ins C dx fs) ∧ H b = some (.ins C dy gs) ∧ sp [.ref a, .ref b] H (fun v H' => (∃ t, v = .bl t) ∧ Q v H') E0
theorem op_ownEq {X : Cx} {C f : Addr} {fd : FuncData} {ps : List Str} {sp : Sp} {k : Nat} (F : FnOk X.prog X.w X.K X.mg X.base L2.CX0 k f fd ps sp) (hr : Room k X.A) (hs : PySem.W.findIn X.K (.ref C) "__eq__" = some (some (.ref f))) (hf : PySem.W.isFn X.K (.ref f) = true) (hb : Binds X.K fd ps []) : OpR X (compareOp .Eq) (rOwnEq C sp) := by
  rintro pins s σ H x y v u Q I rx ry ⟨a, b, dx, dy, fs, gs, rfl, rfl, ha, hb', hsp⟩
  cases rx
  cases ry
  rcases ins_get I.hok ha with ⟨mA, J, _⟩
  rcases ins_get I.hok hb' with ⟨mB, J', _⟩
  rcases J.look with ⟨od, J, _⟩
  rcases J'.look with ⟨od', J', _⟩
  rcases I.fr with ⟨m, hF⟩
  show wpAny (model X.prog X.w) X.A (richCompare .Eq (.ref a) (.ref b)) (EP X pins σ Q) X.xe s
  refine PySem.W.cmp_K (op := .Eq) (tb := .ref C) hr.units0 hF I.ok.mod.kin J J'.type (by simp [PySem.W.notFirst]) hs hf ?_
  have hl := F.len _ _ _ _ hsp
  (have r2 : Vals [V.ref a, V.ref b] [Value.ref a, Value.ref b] := .cons rfl (.cons rfl .nil))
  have bnd := hb s [.ref a, .ref b] I.kIn (by simpa using hl)
  refine wpAny_call (codeAny_mono (F.run X.A X.stack s H ⟨[.ref a, .ref b], []⟩ [.ref a, .ref b] [.ref a, .ref b] _ E0 hr I.env0 (by simpa using bnd) r2 hsp) fun r s' hq => ?_)
  cases r with
  | error e => exact ((show False from hq).elim)
  | ok fl =>
    cases fl with
    | ret w =>
      rcases I.after hq with ⟨z, H', I', rz, ⟨t, rfl⟩, q⟩
      obtain rfl : w = Value.bool t := rz
      exact ⟨.bl t, H', I', rfl, q⟩
    | next => exact False.elim hq
    | brk => exact False.elim hq
    | cont => exact False.elim hq
/-! ### C(..) by a local name -/
def tMakeL (i : Nat) (C : Addr) (sp : Sp) (E : XK) (t : TA) : TE := fun σ H Q => σ[i]? = some (some (.ref C)) ∧ tMake C sp [] E t σ H Q
theorem pe_makeL {X : Cx} {CX : CXT} {k i : Nat} {f C : Addr} {fd : FuncData} {ps : List Str} {sp : Sp} {E : XK} {x : Str} {p pos : Pos} {e : Expr} {es : List Expr} {t : TA} (M : Mk X.K C f) (F : FnOk X.prog X.w X.K X.mg X.base CX k f fd ps sp) (hr : Room (k + 1) X.A) (hN : X.N[i]? = some x) (hv : Vis X.env.scope x) (hb : Binds X.K fd ps [])
    (hx : Passes CX X E) (ha : PA X (e :: es) t) (hdb : (x == ("__debug__" : Str)) = false := by decide) (hcd : (x == ("__classdict__" : Str)) = false := by decide) (he : starEach (e :: es) X.env = (false, eval e X.env) :: starEach es X.env := by rfl) (hpl : (backTo pos (starEach es X.env)).any (·.1) = false := by rfl) :
    PE X (.Call (.Name x p) (e :: es) [] pos) (tMakeL i C sp E t) := by
  constructor
  rintro pins s σ H Q I ⟨hs, ht⟩
  refine wpAny_Call_Name_kw (thn ((pe_var (pos := p) hN hv hdb hcd).run pins s σ H (fun v H1 => v = .ref C ∧ H1 = H) I ⟨.ref C, hs, rfl, rfl⟩) ?_)
  rintro u s1 ⟨v, H1, I1, r1, rfl, rfl⟩
  obtain rfl : u = Value.ref C := r1
  refine PySem.W.callWith_K (h₀ := X.base) I.ok.mod.kin M.kp (thn (ha.run pos pins s1 σ _ _ I1 ht) ?_) he hpl
  rintro us s2 ⟨vs, H2, I2, r, q⟩
  exact ⟨I2.kIn, run_make M F hr hb .nil hx I2 r q⟩
end LX
namespace DL
open PySem.Spec PyProof.Rows L2 PySem
section
variable {X : Cx} {j k i : Nat} {f C : Addr} {Cc : Ct} {x : Str} {p pos : Pos} {e : Expr} {es : List Expr} {t : TA}
theorem pe_mkdL (M : Mk X.K C f) (F : FnD X.prog X.w X.K X.mg X.base L2.CX0 k f Cc) (hr : Room j X.A) (hk : k + 1 ≤ j) (hN : X.N[i]? = some x) (hv : Vis X.env.scope x) (ha : PA X (e :: es) t) (hdb : (x == ("__debug__" : Str)) = false := by decide) (hcd : (x == ("__classdict__" : Str)) = false := by decide)
    (he : starEach (e :: es) X.env = (false, eval e X.env) :: starEach es X.env := by rfl) (hpl : (backTo pos (starEach es X.env)).any (·.1) = false := by rfl) : PE X (.Call (.Name x p) (e :: es) [] pos) (LX.tMakeL i C (spD X.K Cc) E0 t) := by
  obtain ⟨fd, ps, F1, b, kp⟩ := F.ex
  exact LX.pe_makeL M F1 (hr.mono hk) hN hv b pass0 ha hdb hcd he hpl
theorem op_ownEqD (F : FnD X.prog X.w X.K X.mg X.base L2.CX0 k f Cc) (hr : Room j X.A) (hk : k ≤ j) (hs : PySem.W.findIn X.K (.ref C) "__eq__" = some (some (.ref f))) (hf : PySem.W.isFn X.K (.ref f) = true) : OpR X (compareOp .Eq) (LX.rOwnEq C (spD X.K Cc)) := by
  obtain ⟨fd, ps, F1, b, kp⟩ := F.ex
  exact LX.op_ownEq F1 (hr.mono hk) hs hf b
end
end DL

set_option maxHeartbeats 1900000
/-! DLE: further rules over deep data. -/
namespace DL
open PySem L2 PySem.Spec PyProof.Rows
section
variable {K : Frag} {J : Jd} {δ : En} {S : Store} {P : D → Store → Prop} {G H : Hp} {Q : VK} {ta tb te : TE} {R : Out} {ds es : List D}
theorem ev_callX {C : Ct} {E : XK} {PX : PXT} {t : TA} (hX : J.X K E PX) (h : EvA K J t δ S fun ds S1 => C ds S1 P PX) : Ev K J (tCall (spD K C) [] E t) δ S P := ev_call hX h
/-- {} -/
theorem ev_dnew (h : ∀ p, S p = none → J.S p = none → P (.loc p) (S.set p (.dK []))) : Ev K J tDNewK δ S P := fun G H σ w j e Q k p hp =>
  (k.mut w j (o := .dK []) (m := .dK []) .nil h) p hp
/-- a, *b = a list -/
theorem eg_star1 {ga gb : TG} {x : D} {xs : List D} {PE : En → Store → Prop} (hl : xs.length < 16384) (h : EvG K J ga x δ S fun δ1 S1 => EvG K J gb (.lst xs) δ1 S1 PE) : EvG K J (LX.gStar1 K ga gb) (.lst (x :: xs)) δ S PE := fun G H σ v w j e r N o => by
  cases r with
  | lst hg rs =>
    cases rs with
    | @cons vx _ vr _ rx rr =>
      refine ⟨_, vx, vr, rfl, .inl (.inl (w.sub _ _ hg)), by rw [rr.length]; exact hl, fun D' hD => ?_⟩
      have w1 := w.imm (o := .lst vr) hD
      have x1 := Ext.imm (o := HO.lst vr) w hD
      have s1 := Sub.new (o := HO.lst vr) (w.free hD).1
      refine h _ _ σ vx w1 (Ext.trans j x1) (e.mono s1) (rx.mono s1) _ fun G2 H2 S2 σ2 δ2 w2 x2 e2 p => ?_
      refine p G2 H2 σ2 (.ref D') w2 ((Ext.trans j x1).trans x2) e2 (.lst (x2.gsub _ _ upd_same) ((rr.mono s1).mono x2.gsub)) N fun G3 H3 S3 σ3 δ3 w3 x3 e3 q => o G3 H3 S3 σ3 δ3 w3 ((x1.trans x2).trans x3) e3 q
/-- tuple * int -/
theorem o_repW {i : Int} (h0 : ds ≠ []) (h1 : 1 ≤ i) (h2 : ds.length * i.toNat ≤ 16777216) (p : P (.tup (List.replicate i.toNat ds).flatten) S) : Op K J (LX.rRepW K) (.tup ds) (.int i) S P := fun G H vx vy w j r1 r2 Q k => by
  cases r2
  cases r1 with
  | tup hq rs =>
    refine ⟨_, i, _, rfl, rfl, w.sub.t hq, fun z => ?_, h1, by rw [rs.length]; exact h2, fun z => ?_, fun _ => k.imm w (fun p G' s hp => .tup (.inl (.inl hp)) ((rs.rep _).mono s)) p⟩
    · subst z; cases rs; exact h0 rfl
    · subst z
      have e : (List.replicate (1 : Int).toNat ds).flatten = ds := by simp
      rw [e] at p
      exact k.now w (.tup hq rs) p
/-- == by an own __eq__ -/
theorem o_ownEq {C : Addr} {Ct : Ct} {x y : D} {fs gs : List (Str × D)} (hx : Insts S x C fs) (hy : Insts S y C gs) (h : Ct [x, y] S (fun d S1 => (∃ t, d = .bl t) ∧ P d S1) PX0) : Op K J (LX.rOwnEq C (spD K Ct)) x y S P := fun G H vx vy w j r1 r2 Q k => by
  obtain ⟨a, dx, us, e1, h1, _⟩ := hx.at w r1
  obtain ⟨b, dy, vs, e2, h2, _⟩ := hy.at w r2
  subst e1; subst e2
  refine ⟨a, b, dx, dy, us, vs, rfl, rfl, h1, h2, G, S, [x, y], _, PX0, w, .cons r1 (.cons r2 .nil), h, fun G' H' S' v d w' x' r' p => ?_, XkOk.none⟩
  obtain ⟨⟨t, rfl⟩, p⟩ := p
  cases r'
  exact ⟨⟨t, rfl⟩, k G' H' S' _ _ w' x' (.bl t) p⟩
theorem ev_makeL {i : Nat} {C : Addr} {Cc : Ct} {E : XK} {t : TA} (hi : δ[i]? = some (some (.raw C))) (h : Ev K J (tMake C (spD K Cc) [] E t) δ S P) : Ev K J (LX.tMakeL i C (spD K Cc) E t) δ S P := fun G H σ w j e Q k => by
  obtain ⟨v, h1, r⟩ := e.at_ i _ hi
  cases r
  exact ⟨h1, h G H σ w j e Q k⟩
theorem ev_makeE {C : Addr} {Cc : Ct} {t : TA} (h : EvA K J t δ S fun ds S1 => ∀ x, S1 x = none → J.S x = none → Cc (.loc x :: ds) (S1.set x (.ins C [])) (fun d S2 => d = .non ∧ (P (.loc x) S2 ∨ ∃ fs, S2 x = some (.ins C fs) ∧ P (.ins C fs) (S2.del x))) PX0) : Ev K J (tMake C (spD K Cc) [] E0 t) δ S P := ev_make (PX := PX0) XkOk.none h
/-- C.m(..), m a classmethod -/
theorem ev_cmd {C : Addr} {Cc : Ct} {E : XK} {PX : PXT} {dds : List D} {t : TA} (hX : J.X K E PX) (h : EvA K J t δ S fun xs S1 => Cc (.raw C :: (xs ++ dds)) S1 P PX) : Ev K J (ClX.tCMeth C (spDD K Cc dds) E (tC (.ref C)) t) δ S P := fun G H σ w j e Q k => by
  refine ⟨rfl, h G H σ w j e _ fun G1 H1 S1 vs xs w1 x1 r1 p => ?_⟩
  exact ⟨G1, S1, .raw C :: xs, P, PX, w1, .cons (.raw C) r1, p, k.mono x1, hX.mono (Ext.trans j x1)⟩
/-! ### isinstance of an own instance -/
theorem c_isiI {C E : Addr} {fs : List (Str × D)} {b : Bool} (c : C8.InsC K C) (e : PySem.W.kitOne K (.ref C) (.ref E) = some b) (p : P (.bl b) S) : Cb K J (rIsi K) [.ins C fs, .raw E] S P := fun G H vs w j r Q k => by
  cases r with
  | cons r rr =>
    cases rr with
    | cons r' rr =>
      cases rr
      cases r'
      cases r with
      | ins hg rf => exact ⟨_, _, .ref C, .ref E, b, rfl, .own E, .base (.ins (w.sub _ _ hg) c.cl c.ha c.hn c.htk c.hm), e, k.now w (.bl b) p⟩
/-! ### divmod, int keys -/
theorem c_divmod {a b : Int} (h : CDiv a b) (p : P (.tup [.int (a / b), .int (a % b)]) S) : Cb K J rDivmod [.int a, .int b] S P := fun G H vs w j r Q k => by
  cases r with
  | cons r rr =>
    cases rr with
    | cons r' rr =>
      cases rr; cases r; cases r'
      exact ⟨a, b, rfl, h, k.imm w (fun p G' s hp => .tup (.inl (.inl hp)) (.cons (.int _) (.cons (.int _) .nil))) p⟩
theorem RepK.val? {fs : List (Key × V)} {gs : List (Key × D)} (r : RepK K G fs gs) (k : Key) : (∃ v d, valV fs k = some v ∧ valD gs k = some d ∧ Rep K G v d) ∨ (valV fs k = none ∧ valD gs k = none) := by
  induction fs generalizing gs with
  | nil => cases r; exact .inr ⟨rfl, rfl⟩
  | cons p fs ih =>
    cases r with
    | cons q t =>
      rename_i f v' d' gs
      unfold valD valV
      rw [List.find?_cons, List.find?_cons]
      by_cases e : f = k
      · rw [decide_eq_true e]
        exact .inl ⟨v', d', rfl, rfl, q⟩
      · rw [decide_eq_false e]
        exact ih t
/-- k in d -/
theorem ev_din {td ty : TE} (h : Ev K J ty δ S fun y S1 => Ev K J td δ S1 fun x S2 => ∃ kvs k, DctAt S2 x kvs ∧ y = kD k ∧ P (.bl (valD kvs k).isSome) S2) : Ev K J (tDIn ty td) δ S P := fun G H σ w j e Q k =>
  h G H σ w j e _ fun G1 H1 S1 v d w1 x1 r1 p1 => p1 G1 H1 σ w1 (j.trans x1) (e.mono x1.gsub) _ fun G2 H2 S2 v2 d2 w2 x2 r2 ⟨kvs, key, hd, ek, p⟩ => by
    subst ek
    obtain ⟨a, fs, e1, h1, rk⟩ := hd.rep w2 r2
    refine ⟨a, valV fs key, e1, .inl ⟨fs, key, .inl h1, (r1.mono x2.gsub).kV, rfl⟩, ?_⟩
    have : (valV fs key).isSome = (valD kvs key).isSome := by
      rcases rk.val? key with ⟨v, d, h1, h2, _⟩ | ⟨h1, h2⟩ <;> rw [h1, h2] <;> rfl
    rw [this]
    exact k G2 H2 S2 _ _ w2 (x1.trans x2) (.bl _) p
theorem ev_dnotin {td ty : TE} (h : Ev K J ty δ S fun y S1 => Ev K J td δ S1 fun x S2 => ∃ kvs k, DctAt S2 x kvs ∧ y = kD k ∧ P (.bl (!(valD kvs k).isSome)) S2) : Ev K J (tDNotIn ty td) δ S P := fun G H σ w j e Q k =>
  h G H σ w j e _ fun G1 H1 S1 v d w1 x1 r1 p1 => p1 G1 H1 σ w1 (j.trans x1) (e.mono x1.gsub) _ fun G2 H2 S2 v2 d2 w2 x2 r2 ⟨kvs, key, hd, ek, p⟩ => by
    subst ek
    obtain ⟨a, fs, e1, h1, rk⟩ := hd.rep w2 r2
    refine ⟨a, valV fs key, e1, .inl ⟨fs, key, .inl h1, (r1.mono x2.gsub).kV, rfl⟩, ?_⟩
    have : (valV fs key).isSome = (valD kvs key).isSome := by
      rcases rk.val? key with ⟨v, d, h1, h2, _⟩ | ⟨h1, h2⟩ <;> rw [h1, h2] <;> rfl
    rw [this]
    exact k G2 H2 S2 _ _ w2 (x1.trans x2) (.bl _) p
end
end DL

set_option maxHeartbeats 1900000
/-! DLF: get, stores to d[k] among targets, dict(pairs), pop, insert, == within tuples. -/
namespace DL
open PySem L2 PySem.Spec PyProof.Rows
section
variable {K : Frag} {J : Jd} {δ : En} {S : Store} {P : D → Store → Prop} {G H : Hp} {Q : VK} {ta tb te td ty tx : TE} {R : Out} {ds es : List D} {x y : D}
/-- d.get(k, z) -/
theorem ev_dget2 (h : Ev K J td δ S fun x S1 => (∃ kvs, DctAt S1 x kvs) ∧ Ev K J ty δ S1 fun y S2 => Ev K J tx δ S2 fun z S3 => ∃ kvs k, DctAt S3 x kvs ∧ y = kD k ∧ P ((valD kvs k).getD z) S3) : Ev K J (tDGet2 td ty tx) δ S P := fun G H σ w j e Q k =>
  h G H σ w j e _ fun G1 H1 S1 v d w1 x1 r1 ⟨⟨kv0, h0⟩, p1⟩ => by
    obtain ⟨a, f0, e1, q1, _⟩ := h0.rep w1 r1
    refine ⟨a, e1, .inl ⟨f0, .inl q1⟩, ?_⟩
    refine p1 G1 H1 σ w1 (j.trans x1) (e.mono x1.gsub) _ fun G2 H2 S2 v2 d2 w2 x2 r2 p2 => p2 G2 H2 σ w2 ((j.trans x1).trans x2) (e.mono (x1.trans x2).gsub) _ fun G3 H3 S3 v3 d3 w3 x3 r3 ⟨kvs, key, hd, ek, p⟩ => ?_
    subst ek
    obtain ⟨a', fs, e2, h2, rk⟩ := hd.rep w3 (r1.mono (x2.trans x3).gsub)
    rw [e1] at e2
    cases e2
    refine ⟨valV fs key, .inl ⟨fs, key, .inl h2, (r2.mono x3.gsub).kV, rfl⟩, ?_⟩
    rcases rk.val? key with ⟨u, z, q1, q2, q3⟩ | ⟨q1, q2⟩
    · rw [q1]; rw [q2] at p
      exact k G3 H3 S3 u z w3 ((x1.trans x2).trans x3) q3 p
    · rw [q1]; rw [q2] at p
      exact k G3 H3 S3 v3 d3 w3 ((x1.trans x2).trans x3) r3 p
/-- d[k] as a target -/
theorem eg_dsub {to ti : TE} {v : D} {PE : En → Store → Prop} (h : Ev K J to δ S fun o S1 => Ev K J ti δ S1 fun i S2 => ∃ a kvs k, o = .loc a ∧ S2 a = some (.dK kvs) ∧ i = kD k ∧ kvs.length < sizeLine ∧ PE δ (S2.set a (.dK (putKD kvs k v)))) : EvG K J (gSub to ti rSetD) v δ S PE := fun G H σ u w j e r N o =>
  h G H σ w j e _ fun G1 H1 S1 v1 d1 w1 x1 r1 p1 => p1 G1 H1 σ w1 (j.trans x1) (e.mono x1.gsub) _ fun G2 H2 S2 v2 d2 w2 x2 r2 ⟨a, kvs, key, e1, hs, ek, hl, p⟩ => by
    subst e1; subst ek
    cases r1
    obtain ⟨_, ob, ho, rm⟩ := w2.own a _ hs
    cases ob <;> first | exact rm.elim | skip
    rename_i fs
    have rf : RepK K G2 fs kvs := rm
    refine ⟨a, _, rfl, .inl ⟨fs, key, ho, r2.kV, by rw [rf.length]; exact hl, rfl⟩, ?_⟩
    exact o G2 _ _ σ δ (w2.put (m' := .dK (putKD kvs key v)) hs (rf.put key (r.mono (x1.trans x2).gsub))) ((x1.trans x2).trans (Ext.put w2 hs)) (e.mono (x1.trans x2).gsub) p
/-- (a, b, ..) = a list -/
theorem eg_lst {gs : TGs} {n : Nat} {PE : En → Store → Prop} (hn : ds.length = n) (h : EvGs K J gs ds δ S PE) : EvG K J (gLst K n gs) (.lst ds) δ S PE := fun G H σ v w j e r N o => by
  cases r with
  | lst hs rs => exact ⟨_, _, rfl, .inl (.inl (w.sub _ _ hs)), by rw [rs.length, hn], h G H σ _ w j e rs N o⟩
/-- list(x): a mutable one -/
theorem c_listOfM (h : SqAt S x ds) (p : ∀ p, S p = none → J.S p = none → P (.loc p) (S.set p (.lst ds))) : Cb K J (rListOf K) [x] S P := fun G H vs w j r Q k => by
  cases r with
  | cons r rr =>
    cases rr
    obtain ⟨a, us, e, hs, rs⟩ := h.rep w r
    subst e
    exact ⟨a, us, rfl, hs, k.mut w j (o := .lst us) (m := .lst ds) rs p⟩
/-- l != [], l mutable -/
theorem dp_ints (w : Wd K G H S) {ns : List Int} {a : Addr} (h : S a = some (.lst (ns.map D.int))) : Dp K H (.ref a) (.list (pys (ns.map D.int))) := by
  obtain ⟨_, o, ho, rm⟩ := w.own a _ h
  cases o <;> first | exact rm.elim | skip
  rename_i vs
  have rs : Reps K G vs (ns.map D.int) := rm
  have all : ∀ {vs : List V} {ns : List Int}, Reps K G vs (ns.map D.int) → DpAll K H vs (pys (ns.map D.int)) := by
    intro vs ns
    induction ns generalizing vs with
    | nil => intro r; cases r; exact .nil
    | cons n ns ih => intro r; cases r with | cons q t => cases q; exact .cons (.int _) (ih t)
  exact .lst (.inl (.inl ho)) (all rs)
theorem o_neNilM {a : Addr} {ns : List Int} (hs : S a = some (.lst (ns.map D.int))) (p : P (.bl (!ns.isEmpty)) S) : Op K J (rNeD K) (.loc a) (.lst []) S P := fun G H vx vy w j r1 r2 Q k => by
  cases r1
  have e : (!PyData.eqv (D.lst (ns.map D.int)).py (D.lst []).py) = !ns.isEmpty := by
    simp only [D.py, PyData.eqv, pys, eqv_nil, pys_empty]
    cases ns <;> rfl
  refine ⟨_, _, dp_ints w hs, pl_dp w.sub (Pl.lst (n := 0) (fun x h => by cases h)) r2, pl_ints.shaped (by decide), (Pl.lst (n := 0) (xs := []) (fun x h => by cases h)).shaped (by decide), ?_⟩
  have e2 : (!PyData.eqv (PyData.list (pys (ns.map D.int))) (D.lst []).py) = !ns.isEmpty := e
  rw [e2]
  exact k.now w (.bl _) p
/-- dict(pairs) -/
abbrev rDictP (K : Frag) : List V → Hp → VK → Prop := fun xs H Q => ∃ (a : Addr) (ps : List Addr) (kvs : List (Key × V)), xs = [.ref a] ∧ SqL K H a (ps.map V.ref) ∧ Paired (fun p kv => SqT K H p [L2.kV kv.1, kv.2]) ps kvs ∧ ∀ p, H p = none → Q (.ref p) (upd H p (.dK (mergeK [] kvs)))
theorem pairs_rep (w : Wd K G H S) : ∀ {vs : List V} {kvs : List (Key × D)}, Reps K G vs (kvs.map fun kv => .tup [kD kv.1, kv.2]) → ∃ (ps : List Addr) (fs : List (Key × V)), vs = ps.map V.ref ∧ Paired (fun p kv => SqT K H p [L2.kV kv.1, kv.2]) ps fs ∧ RepK K G fs kvs
  | _, [], .nil => ⟨[], [], rfl, .nil, .nil⟩
  | _, (k, d) :: kvs, .cons r rs => by
    obtain ⟨ps, fs, e, p, rk⟩ := pairs_rep w rs
    cases r with
    | tup hg rr =>
      cases rr with
      | cons r1 rr => cases rr with
        | cons r2 rr =>
          cases rr
          rw [r1.kV] at hg
          exact ⟨_ :: ps, (k, _) :: fs, by rw [e]; rfl, .cons (w.sub.t hg) p, .cons r2 rk⟩
theorem c_dictP {kvs : List (Key × D)} (h : LstAt S x (kvs.map fun kv => .tup [kD kv.1, kv.2])) (p : P (.dK (mergeD [] kvs)) S) : Cb K J (rDictP K) [x] S P := fun G H vs w j r Q k => by
  cases r with
  | cons r rr =>
    cases rr
    obtain ⟨a, us, e, hs, rs⟩ := h.rep w r
    subst e
    obtain ⟨ps, fs, e2, hp, rk⟩ := pairs_rep w rs
    subst e2
    exact ⟨a, ps, fs, rfl, .inl (.inl hs), hp, k.imm w (fun p G' s hq => .dK hq (RepK.mono s (RepK.merge .nil rk))) p⟩
/-- l.insert(i, y), l.pop(i) -/
theorem m_insert {a : Addr} {i : Int} (hs : S a = some (.lst ds)) (hl : ds.length < sizeLine) (h0 : 0 ≤ i) (h1 : i < 2 ^ 63) (p : P .non (S.set a (.lst (ds.take i.toNat ++ [y] ++ ds.drop i.toNat)))) : Mb K J rInsert (.loc a) [.int i, y] S P := fun G H vx vs w j r1 r2 Q k => by
  cases r1
  cases r2 with
  | cons ri rr =>
    cases rr with
    | cons r rr =>
      cases rr; cases ri
      obtain ⟨_, o, ho, rm⟩ := w.own a _ hs
      cases o <;> first | exact rm.elim | skip
      rename_i v' us
      have rs : Reps K G us ds := rm
      exact ⟨a, us, i, _, rfl, rfl, ho, by rw [rs.length]; exact hl, h0, h1, k _ _ _ _ _ (w.put (m' := .lst (ds.take i.toNat ++ [y] ++ ds.drop i.toNat)) hs (((rs.take _).append (.cons r .nil)).append (rs.drop _))) (Ext.put w hs) .non p⟩
theorem m_popAt {a : Addr} {i : Int} {k' : Nat} (hs : S a = some (.lst ds)) (h0 : -(2 ^ 63) ≤ i) (h1 : i < 2 ^ 63) (hk : PySem.seqIndex? i ds.length = some k') (hx : ds[k']? = some x) (p : P x (S.set a (.lst (ds.eraseIdx k')))) : Mb K J rPopAt (.loc a) [.int i] S P := fun G H vx vs w j r1 r2 Q k => by
  cases r1
  cases r2 with
  | cons ri rr =>
    cases rr; cases ri
    obtain ⟨_, o, ho, rm⟩ := w.own a _ hs
    cases o <;> first | exact rm.elim | skip
    rename_i us
    have rs : Reps K G us ds := rm
    obtain ⟨u, hu, ru⟩ := rs.getD hx
    exact ⟨a, us, i, k', u, rfl, rfl, ho, h0, h1, by rw [rs.length]; exact hk, hu, k _ _ _ u x (w.put (m' := .lst (ds.eraseIdx k')) hs (rs.eraseIdx _)) (Ext.put w hs) ru p⟩
end
/-! ### == of tuples with own instances within, that are equal -/
mutual
/-- equal, by the own == of the class at C (ok: of such instances it tells that they equal themselves) -/
inductive EqOk (C : Addr) (ok : List (Str × D) → Prop) : Nat → D → D → Prop
  | non {n : Nat} : EqOk C ok n .non .non
  | bl {n : Nat} (b : Bool) : EqOk C ok n (.bl b) (.bl b)
  | int {n : Nat} (i : Int) : EqOk C ok n (.int i) (.int i)
  | str {n : Nat} (x : Str) : EqOk C ok n (.str x) (.str x)
  | ins {n : Nat} {fs : List (Str × D)} : ok fs → EqOk C ok n (.ins C fs) (.ins C fs)
  | tup {n : Nat} {xs ys : List D} : EqsOk C ok n xs ys → EqOk C ok (n + 1) (.tup xs) (.tup ys)
inductive EqsOk (C : Addr) (ok : List (Str × D) → Prop) : Nat → List D → List D → Prop
  | nil {n : Nat} : EqsOk C ok n [] []
  | cons {n : Nat} {x y : D} {xs ys : List D} : EqOk C ok n x y → EqsOk C ok n xs ys → EqsOk C ok n (x :: xs) (y :: ys)
end
theorem EqsOk.len {C : Addr} {ok : List (Str × D) → Prop} {n : Nat} : ∀ {xs ys : List D}, EqsOk C ok n xs ys → xs.length = ys.length
  | _, _, .nil => rfl
  | _, _, .cons _ r => by rw [List.length_cons, List.length_cons, r.len]
theorem EqsOk.get {C : Addr} {ok : List (Str × D) → Prop} {n : Nat} : ∀ {xs ys : List D} {i : Nat} {x y : D}, EqsOk C ok n xs ys → xs[i]? = some x → ys[i]? = some y → EqOk C ok n x y
  | _, _, _, _, _, .nil, h, _ => by simp at h
  | _, _, 0, _, _, .cons q _, h, h' => by simp at h h'; subst h; subst h'; exact q
  | _, _, i + 1, _, _, .cons _ r, h, h' => by simp at h h'; exact r.get h h'
/-- within a body X: such data are found equal -/
def EqT (X : Cx) (m : Nat) (x y : D) : Prop := ∀ (A : Around) (pins : List (Addr × Obj)) (s : Shared) (σ : L2.St) (G H : Hp) (S : Store) (u v : V) (u' v' : Value), L2.Sub X m A → Inv X pins σ H s → Wd X.K G H S → Rep X.K G u x → Rep X.K G v y → RelV u u' → RelV v v' →
  wpAny (model X.prog X.w) A (eqBool u' v') (fun r s' => r = true ∧ ∃ G' H', Inv X pins σ H' s' ∧ Wd X.K G' H' S ∧ Ext G H S G' H' S) X.xe s
section
variable {X : Cx} {C f : Addr} {fd : FuncData} {ps : List Str} {Cc : Ct} {k : Nat} {ok : List (Str × D) → Prop}
theorem eqT_flat {x : D} {u v : V} {G H : Hp} {S : Store} {A : Around} {pins : List (Addr × Obj)} {s : Shared} {σ : L2.St} {u' v' : Value} (I : Inv X pins σ H s) (w : Wd X.K G H S) (e : u = v) (fl : flatV u = true) (ru : RelV u u') (rv : RelV v v') :
    wpAny (model X.prog X.w) A (eqBool u' v') (fun r s' => r = true ∧ ∃ G' H', Inv X pins σ H' s' ∧ Wd X.K G' H' S ∧ Ext G H S G' H' S) X.xe s := by
  subst e
  have q := eqAt_V (A := A) (s := s) ru rv fl fl
  have same : eqV u u = true := by cases u <;> first | rfl | cases fl; done | (unfold eqV; simp)
  rw [same] at q
  exact q X.prog X.w X.xe _ ⟨rfl, G, H, I, w, Ext.refl w⟩
theorem eqT_ins {fs : List (Str × D)} (F : FnOk X.prog X.w X.K X.mg X.base L2.CX0 k f fd ps (spD X.K Cc)) (hs : PySem.W.findIn X.K (.ref C) "__eq__" = some (some (.ref f))) (hf : PySem.W.isFn X.K (.ref f) = true) (hb : Binds X.K fd ps [])
    (hc : ∀ (S : Store) (P : D → Store → Prop), P (.bl true) S → Cc [.ins C fs, .ins C fs] S P PX0) : EqT X k (.ins C fs) (.ins C fs) := by
  intro A pins s σ G H S u v u' v' sb I w r1 r2 ru rv
  obtain ⟨a, dx, us, rfl, ha, _⟩ := Insts.at w r1 (.inl rfl)
  obtain ⟨b, dy, vs, rfl, hb', _⟩ := Insts.at w r2 (.inl rfl)
  cases ru
  cases rv
  by_cases hab : a = b
  · subst hab
    exact SeqAt.EqAt.same (A := A) (s := s) (.ref a) X.prog X.w X.xe _ ⟨rfl, G, H, I, w, Ext.refl w⟩
  refine GQ.eqBool_refG hab ?_
  rcases ins_get I.hok ha with ⟨mA, J, _⟩
  rcases ins_get I.hok hb' with ⟨mB, J', _⟩
  rcases J.look with ⟨od, J, _⟩
  rcases J'.look with ⟨od', J', _⟩
  rcases I.fr with ⟨m, hF⟩
  (refine PySem.W.cmp_K (op := .Eq) (tb := .ref C) sb.room.units0 hF I.ok.mod.kin J J'.type (by simp [PySem.W.notFirst]) hs hf ?_)
  have hsp : spD X.K Cc [.ref a, .ref b] H (fun z H' => z = .bl true ∧ ∃ G', Wd X.K G' H' S ∧ Ext G H S G' H' S) E0 :=
    ⟨G, S, [.ins C fs, .ins C fs], fun d S' => d = .bl true ∧ S' = S, PX0, w, .cons r1 (.cons r2 .nil), hc S _ ⟨rfl, rfl⟩, fun G' H' S' z d w' x' r' ⟨e1, e2⟩ => by subst e1; subst e2; cases r'; exact ⟨rfl, G', w', x'⟩, XkOk.none⟩
  have e0 : (Env0 X.prog X.w X.K X.mg X.base A X.stack s H) := by
    have e := I.env0
    (exact ⟨by rw [sb.fr]; exact e.frames, e.mod, e.bs, e.bsz, e.funs, e.frf, e.hok, e.bare⟩)
  have hl := F.len _ _ _ _ hsp
  have rr : Vals [V.ref a, V.ref b] [Value.ref a, Value.ref b] := .cons rfl (.cons rfl .nil)
  have bnd := hb s [.ref a, .ref b] I.kIn (by simpa using hl)
  refine wpAny_call (codeAny_mono (F.run A X.stack s H ⟨[.ref a, .ref b], []⟩ [.ref a, .ref b] [.ref a, .ref b] _ E0 sb.room e0 (by simpa using bnd) rr hsp) fun r s' hq => ?_)
  cases r with
  | error e => exact ((show False from hq).elim)
  | ok fl =>
    cases fl with
    | ret z =>
      rcases I.after hq with ⟨y, H', I', rz, rfl, G', w', x'⟩
      obtain rfl : z = Value.bool true := rz
      exact ⟨true, rfl, rfl, G', H', I', w', x'⟩
    | next => exact False.elim hq
    | brk => exact False.elim hq
    | cont => exact False.elim hq
theorem eqT_tup {m : Nat} {xs ys : List D} (hl : xs.length = ys.length) (h : ∀ (i : Nat) x y, xs[i]? = some x → ys[i]? = some y → EqT X m x y) {A : Around} {pins : List (Addr × Obj)} {s : Shared} {σ : L2.St} {G H : Hp} {S : Store} {u v : V} {u' v' : Value} {Q : Value → Shared → Prop} (sb : L2.Sub X (m + 1) A) (I : Inv X pins σ H s) (w : Wd X.K G H S)
    (r1 : Rep X.K G u (.tup xs)) (r2 : Rep X.K G v (.tup ys)) (ru : RelV u u') (rv : RelV v v') (hQ : ∀ s' G' H', Inv X pins σ H' s' → Wd X.K G' H' S → Ext G H S G' H' S → Q (.bool true) s') : wpAny (model X.prog X.w) A (richCompare .Eq u' v') Q X.xe s := by
  cases r1 with
  | tup h1 q1 =>
    cases r2 with
    | tup h2 q2 =>
      rename_i a vs b ws
      cases ru
      cases rv
      obtain ⟨its, p1, t1, z1⟩ := I.tuple (w.sub.t h1)
      obtain ⟨its2, p2, t2, z2⟩ := I.tuple (w.sub.t h2)
      have sz : its.toArray.size = its2.toArray.size := by rw [List.size_toArray, List.size_toArray, ← p1.length, ← p2.length, q1.length, q2.length]; exact hl
      refine GQ.rc_tupG sz sb.room.units0 (fun _ s' => ∃ G' H', Inv X pins σ H' s' ∧ Wd X.K G' H' S ∧ Ext G H S G' H' S) t1 t2 (fun i i1 i2 s1 ⟨G1, H1, I1, w1, x1⟩ => ?_) (fun s' ⟨G', H', I', w', x'⟩ => hQ s' G' H' I' w' x') ⟨G, H, I, w, Ext.refl w⟩
      have i1' : i < its.length := by simpa using i1
      have i2' : i < its2.length := by simpa using i2
      have k1 : i < vs.length := by rw [p1.length]; exact i1'
      have k2 : i < ws.length := by rw [p2.length]; exact i2'
      obtain ⟨y1, f1, ry1⟩ := p1.get (List.getElem?_eq_getElem k1)
      obtain ⟨y2, f2, ry2⟩ := p2.get (List.getElem?_eq_getElem k2)
      have g1 : its[i]? = some its.toArray[i] := by rw [List.getElem?_eq_getElem i1'] <;> simp
      have g2 : its2[i]? = some its2.toArray[i] := by rw [List.getElem?_eq_getElem i2'] <;> simp
      rw [g1] at f1
      rw [g2] at f2
      obtain ⟨d1, e1, c1⟩ := q1.getV (List.getElem?_eq_getElem k1)
      obtain ⟨d2, e2, c2⟩ := q2.getV (List.getElem?_eq_getElem k2)
      rw [Option.some.inj f1, Option.some.inj f2]
      refine wpAny_mono (h i d1 d2 e1 e2 A.in1 pins s1 σ G1 H1 S _ _ y1 y2 sb.in1 I1 w1 (c1.mono x1.gsub) (c2.mono x1.gsub) ry1 ry2) (fun r s2 ⟨e, G2, H2, I2, w2, x2⟩ => ⟨e, G2, H2, I2, w2, x1.trans x2⟩) fun _ _ z => z
theorem EqT.mono {m n : Nat} {x y : D} (h : EqT X m x y) (hm : m ≤ n) : EqT X n x y := fun A pins s σ G H S u v u' v' sb => h A pins s σ G H S u v u' v' (sb.mono hm)
theorem eqT_of (F : FnOk X.prog X.w X.K X.mg X.base L2.CX0 k f fd ps (spD X.K Cc)) (hs : PySem.W.findIn X.K (.ref C) "__eq__" = some (some (.ref f))) (hf : PySem.W.isFn X.K (.ref f) = true) (hb : Binds X.K fd ps [])
    (hc : ∀ (fs : List (Str × D)), ok fs → ∀ (S : Store) (P : D → Store → Prop), P (.bl true) S → Cc [.ins C fs, .ins C fs] S P PX0) : ∀ {n : Nat} {x y : D}, EqOk C ok n x y → EqT X (k + n) x y
  | _, _, _, .non => fun A pins s σ G H S u v u' v' sb I w r1 r2 ru rv => by cases r1; cases r2; exact eqT_flat (x := .non) I w rfl rfl ru rv
  | _, _, _, .bl b => fun A pins s σ G H S u v u' v' sb I w r1 r2 ru rv => by cases r1; cases r2; exact eqT_flat (x := .non) I w rfl rfl ru rv
  | _, _, _, .int b => fun A pins s σ G H S u v u' v' sb I w r1 r2 ru rv => by cases r1; cases r2; exact eqT_flat (x := .non) I w rfl rfl ru rv
  | _, _, _, .str b => fun A pins s σ G H S u v u' v' sb I w r1 r2 ru rv => by cases r1; cases r2; exact eqT_flat (x := .non) I w rfl rfl ru rv
  | _, _, _, .ins h => (eqT_ins F hs hf hb (hc _ h)).mono (Nat.le_add_right _ _)
  | n + 1, _, _, .tup q => fun A pins s σ G H S u v u' v' sb I w r1 r2 ru rv => by
    have all : ∀ {xs ys : List D}, EqsOk C ok n xs ys → ∀ (i : Nat) x y, xs[i]? = some x → ys[i]? = some y → EqT X (k + n) x y := by
      intro xs ys q i
      induction i generalizing xs ys with
      | zero => intro x y e1 e2; cases q with
        | nil => simp at e1
        | cons q1 _ => simp at e1 e2; subst e1; subst e2; exact eqT_of F hs hf hb hc q1
      | succ i ih => intro x y e1 e2; cases q with
        | nil => simp at e1
        | cons _ q2 => exact ih q2 x y (by simpa using e1) (by simpa using e2)
    cases r1 with
    | @tup a _ _ h1 q1 =>
      cases r2 with
      | @tup b _ _ h2 q2 =>
        cases ru
        cases rv
        by_cases hab : a = b
        · subst hab
          exact SeqAt.EqAt.same (A := A) (s := s) (.ref a) X.prog X.w X.xe _ ⟨rfl, G, H, I, w, Ext.refl w⟩
        · exact GQ.eqBool_refG hab (eqT_tup q.len (all q) sb I w (.tup h1 q1) (.tup h2 q2) rfl rfl fun s' G' H' I' w' x' => ⟨true, rfl, rfl, G', H', I', w', x'⟩)
/-- x == y, tuples that are equal so -/
def rEqDeep (K : Frag) (C : Addr) (ok : List (Str × D) → Prop) (n : Nat) : R2 := fun u v H Q => ∃ G S xs ys, Wd K G H S ∧ Rep K G u (.tup xs) ∧ Rep K G v (.tup ys) ∧ EqsOk C ok n xs ys ∧ ∀ G' H', Wd K G' H' S → Ext G H S G' H' S → Q (.bl true) H'
theorem op_eqDeep {j n : Nat} (F : FnD X.prog X.w X.K X.mg X.base L2.CX0 k f Cc) (hr : Room j X.A) (hk : k + n + 1 ≤ j) (hs : PySem.W.findIn X.K (.ref C) "__eq__" = some (some (.ref f))) (hf : PySem.W.isFn X.K (.ref f) = true)
    (hc : ∀ (fs : List (Str × D)), ok fs → ∀ (S : Store) (P : D → Store → Prop), P (.bl true) S → Cc [.ins C fs, .ins C fs] S P PX0) : OpR X (compareOp .Eq) (rEqDeep X.K C ok n) := by
  obtain ⟨fd, ps, F1, b, kp⟩ := F.ex
  rintro pins s σ H x y v u Q I rx ry ⟨G, S, xs, ys, w, r1, r2, q, hQ⟩
  (show wpAny (model X.prog X.w) X.A (richCompare .Eq v u) (EP X pins σ Q) X.xe s)
  exact eqT_tup q.len (fun i x y e1 e2 => eqT_of F1 hs hf b hc (q.get e1 e2)) ⟨hr.mono hk, rfl⟩ I w r1 r2 rx ry fun s' G' H' I' w' x' => ⟨.bl true, H', I', rfl, hQ G' H' w' x'⟩
end
section
variable {K : Frag} {J : Jd} {δ : En} {S : Store} {P : D → Store → Prop}
theorem o_eqDeep {C : Addr} {ok : List (Str × D) → Prop} {n : Nat} {xs ys : List D} (q : EqsOk C ok n xs ys) (p : P (.bl true) S) : Op K J (rEqDeep K C ok n) (.tup xs) (.tup ys) S P := fun G H vx vy w j r1 r2 Q k =>
  ⟨G, S, xs, ys, w, r1, r2, q, fun G' H' w' x' => k G' H' S (.bl true) (.bl true) w' x' (.bl true) p⟩
end
end DL
namespace DL
open PySem L2
section
variable {K : Frag} {J : Jd} {δ : En} {S : Store} {R : Out}
theorem run_par3 {i k l : Nat} {ta : TA} (h : EvA K J ta δ S fun ds S1 => ∃ x y z, ds = [x, y, z] ∧ R.nx (((δ.set i (some x)).set k (some y)).set l (some z)) S1) : Run K J (tPar3 i k l ta) δ S R := fun G H σ D w j e o =>
  h G H σ w j e _ fun G2 H2 S2 vs ds w2 x2 r2 ⟨x, y, z, e1, p⟩ => by
    subst e1
    cases r2 with
    | cons r rr => cases rr with
      | cons r' rr => cases rr with
        | cons r'' rr => cases rr; exact ⟨_, _, _, rfl, o.nx G2 H2 S2 _ _ w2 (j.trans x2) x2.gsub ((((e.mono x2.gsub).set r i).set r' k).set r'' l) p⟩
theorem ex_int {a : Int} {Q : Int → Prop} (h : Q a) : ∃ i, D.int a = D.int i ∧ Q i := ⟨a, rfl, h⟩
theorem eqv_ints : ∀ (ns ms : List Int), PyData.eqvAll (pys (ns.map D.int)) (pys (ms.map D.int)) = decide (ns = ms)
  | [], [] => by simp [pys, PyData.eqvAll]
  | [], _ :: _ => by simp [pys, PyData.eqvAll]
  | _ :: _, [] => by simp [pys, PyData.eqvAll]
  | n :: ns, m :: ms => by
    have ih := eqv_ints ns ms
    simp only [List.map_cons, pys, D.py, PyData.eqvAll, PyData.eqv, ih]
    by_cases h1 : n = m <;> by_cases h2 : ns = ms <;> simp [h1, h2]
theorem o_eqIs {P : D → Store → Prop} {ns ms : List Int} (p : P (.bl (decide (ns = ms))) S) : Op K J (rEqD K) (.lst (ns.map .int)) (.lst (ms.map .int)) S P :=
  o_eqD pl_ints pl_ints (by simp only [D.py, PyData.eqv, eqv_ints]; exact p)
theorem o_eqIsT {P : D → Store → Prop} {ns ms : List Int} (p : P (.bl (decide (ns = ms))) S) : Op K J (rEqD K) (.tup (ns.map .int)) (.tup (ms.map .int)) S P :=
  o_eqD pl_tints pl_tints (by simp only [D.py, PyData.eqv, eqv_ints]; exact p)
theorem o_neIs {P : D → Store → Prop} {ns ms : List Int} (p : P (.bl (!decide (ns = ms))) S) : Op K J (rNeD K) (.lst (ns.map .int)) (.lst (ms.map .int)) S P :=
  o_neD pl_ints pl_ints (by simp only [D.py, PyData.eqv, eqv_ints]; exact p)
theorem sIx_none {n d : Nat} : HT.sIx n d none = d := rfl
theorem cut_from {ns : List Int} {d : Int} (h0 : 0 ≤ d) (h1 : d ≤ ns.length) : cutD (ns.map D.int) (some d) none = (ns.drop d.toNat).map D.int := by
  unfold cutD
  rw [List.map_drop]
  have e : HT.sIx (ns.map D.int).length 0 (some d) = d.toNat := by
    rw [List.length_map]; show (if _ < 0 then _ else _) = _; split <;> omega
  rw [e, sIx_none, List.take_of_length_le]
  rw [List.length_drop]; omega
theorem cut_to {ns : List Int} {d : Int} (h0 : 0 ≤ d) (h1 : d ≤ ns.length) : cutD (ns.map D.int) none (some d) = (ns.take d.toNat).map D.int := by
  unfold cutD
  rw [sIx_none, List.drop_zero, Nat.sub_zero, List.map_take]
  congr 1
  rw [List.length_map]; show (if _ < 0 then _ else _) = _; split <;> omega
theorem cut_upto {ns : List Int} {d : Int} (h0 : 0 < d) (h1 : d ≤ ns.length) : cutD (ns.map D.int) none (some (-d)) = (ns.take (ns.length - d.toNat)).map D.int := by
  unfold cutD
  rw [sIx_none, List.drop_zero, Nat.sub_zero, List.map_take]
  congr 1
  rw [List.length_map]; show (if _ < 0 then _ else _) = _; split <;> omega
end
end DL

set_option maxHeartbeats 1900000
namespace DL
open PySem L2
section
variable {K : Frag} {J : Jd} {δ : En} {S : Store} {P : D → Store → Prop} {te tl : TE}
/-- a comprehension over an own list that stays as it is -/
theorem ev_lcM {g : TG} {tt : TT} {vs : List Nat} (hk : GK vs g)
    (h : Ev K J tl δ S fun d S1 => ∃ a ds, d = .loc a ∧ S1 a = some (.lst ds) ∧ ∃ I : Nat → List DL.D → Store → Prop, I 0 [] S1 ∧ (∀ i acc S', I i acc S' → S' a = some (.lst ds)) ∧ (∀ i x acc S', ds[i]? = some x → I i acc S' → CTurn K J g tt te vs δ I i x acc S') ∧ ∀ acc S', I ds.length acc S' → P (.lst acc) S') :
    Ev K J (tLc (iList K tl) g tt te vs) δ S P := fun G H σ w j e Q k =>
  h G H σ w j e _ fun G1 H1 S1 v0 d0 w1 x1 r0 ⟨a, ds, ed, hsa, I, i0, im, hs, hd⟩ => by
    subst ed
    cases r0
    obtain ⟨_, ob, ho, rm⟩ := w1.own a _ hsa
    cases ob <;> first | exact rm.elim | skip
    refine ⟨_, rfl, ⟨_, .inl (.inl ho)⟩, ?_⟩
    intro D hD
    refine ⟨fun i m H' => m = ds.length - i ∧ i ≤ ds.length ∧ ∃ G' S' acc, Grow K G1 H1 S1 G' H' S' D acc ∧ I i acc S', ⟨_, rfl, Nat.zero_le _, G1, S1, [], Grow.start w1 hD, i0⟩, ?_⟩
    rintro i m H2 ⟨rfl, hi, G2, S2, acc, q2, i2⟩
    obtain ⟨_, ob2, ho2, rm2⟩ := q2.wd.own a _ (im i acc S2 i2)
    cases ob2 <;> first | exact rm2.elim | skip
    rename_i us
    have rm2 : Reps K G2 us ds := rm2
    by_cases hlt : i < ds.length
    · have hx : ds[i]? = some ds[i] := List.getElem?_eq_getElem hlt
      obtain ⟨v, hv, rv⟩ := rm2.getD hx
      refine .inr ⟨⟨us, v, .inl (.inl ho2), hv⟩, fun H' => ∃ G' S' acc', Grow K G1 H1 S1 G' H' S' D acc' ∧ I (i + 1) acc' S', ?_, ?_⟩
      · rintro H' q
        exact ⟨ds.length - (i + 1), by omega, rfl, hlt, q⟩
      · rintro u H3 hy
        obtain ⟨e3, y⟩ := hy
        subst e3
        have e2 := y us (.inl (.inl ho2))
        rw [hv] at e2; cases e2
        have j3 : J.at G2 H3 S2 := (Ext.trans j x1).trans q2.ext
        refine hk v σ (wipe σ vs) H3 _ wipe_wipe ?_
        refine hs i _ acc S2 hx i2 G2 H3 (wipe σ vs) v q2.wd j3 ((e.mono (x1.trans q2.ext).gsub).wipe vs) rv _ fun G4 H4 S4 σ4 δ4 w4 x4 e4 p => ?_
        have q4 := q2.step w4 x4
        have j4 : J.at G4 H4 S4 := (Ext.trans j x1).trans q4.ext
        refine p G4 H4 σ4 w4 j4 e4 _ fun G5 H5 S5 b w5 x5 p5 => ?_
        have q5 := q4.step w5 x5
        have j5 : J.at G5 H5 S5 := (Ext.trans j x1).trans q5.ext
        cases b with
        | false => exact ⟨G5, S5, acc, q5, p5.2 rfl⟩
        | true =>
          refine p5.1 rfl G5 H5 σ4 w5 j5 (e4.mono x5.gsub) _ fun G6 H6 S6 v6 d6 w6 x6 r6 ⟨p6, i6⟩ => ?_
          have q6 := q5.step w6 x6
          obtain ⟨vs6, h6, rs6⟩ := q6.at_
          exact ⟨vs6, h6, by rw [rs6.length]; exact p6, G6, S6, _, q6.push h6 r6, i6⟩
    · have e9 : i = ds.length := by omega
      subst e9
      obtain ⟨o, wf, xf, rf⟩ := q2.fin
      exact .inl ⟨⟨us, .inl (.inl ho2), by rw [rm2.length]; exact Nat.le_refl _⟩, k _ _ S2 _ _ wf (x1.trans xf) rf (hd _ _ i2)⟩
theorem ev_lcMF {g : TG} {tt : TT} {vs : List Nat} (f : Nat → D) (q : Nat → Bool) (hk : GK vs g)
    (h : Ev K J tl δ S fun d S1 => ∃ a ds, d = .loc a ∧ S1 a = some (.lst ds) ∧ ds.length ≤ PySem.sizeLine ∧ (∀ (i : Nat) (x : D), ds[i]? = some x → EvG K J g x (wipeD δ vs) S1 fun δ2 S2 => EvT K J tt δ2 S2 fun b S3 => b = q i ∧ S3 = S1 ∧ (b = true → Ev K J te δ2 S3 fun y S4 => y = f i ∧ S4 = S1)) ∧ P (.lst (((List.range ds.length).filter q).map f)) S1) :
    Ev K J (tLc (iList K tl) g tt te vs) δ S P := by
  refine ev_lcM hk fun G H σ w j e R k => h G H σ w j e R fun G' H' S' v d w' xe r ⟨a, ds, ed, hsa, hl, ht, hp⟩ => k G' H' S' v d w' xe r ⟨a, ds, ed, hsa, fun i acc S2 => acc = ((List.range i).filter q).map f ∧ S2 = S', ⟨rfl, rfl⟩, fun i acc S2 hh => by rw [hh.2]; exact hsa, ?_, ?_⟩
  · rintro i x acc S2 hx ⟨rfl, rfl⟩
    have lt := (List.getElem?_eq_some_iff.mp hx).1
    intro G2 H2 σ2 v w2 j2 e2 r N o
    refine ht i x hx G2 H2 σ2 v w2 j2 e2 r N fun G3 H3 S3 σ3 δ3 w3 x3 e3 p3 => o G3 H3 S3 σ3 δ3 w3 x3 e3 ?_
    refine p3.imp fun b S4 ⟨hb, hS, he⟩ => ?_
    subst hS
    refine ⟨fun z => (he z).imp fun y S5 hy => ?_, fun z => ?_⟩
    · obtain ⟨rfl, rfl⟩ := hy
      have l1 : (((List.range i).filter q).map f).length ≤ i := by
        rw [List.length_map]; have := List.length_filter_le q (List.range i); rw [List.length_range] at this; exact this
      refine ⟨by omega, ?_, rfl⟩
      rw [List.range_succ, List.filter_append, List.map_append]
      have : q i = true := by rw [← hb, z]
      simp [this]
    · have : q i = false := by rw [← hb, z]
      refine ⟨?_, rfl⟩
      rw [List.range_succ, List.filter_append]
      simp [this]
  · rintro acc S2 ⟨rfl, rfl⟩
    exact hp
end
end DL

set_option maxHeartbeats 1900000
/-! LX2: dicts whose keys are tuples: a display of one pair, the list of the keys. -/
namespace LX
open PySem L2 PySem.Spec PyProof.Rows
/-- {k: v}, k a tuple of ints and texts -/
def tDispT (tk tv : TE) : TE := fun σ H Q => ∀ p, H p = none → tk σ (upd H p (.dT [])) fun x H1 => tv σ H1 fun y H2 => H2 p = some (.dT []) ∧ ∃ b k, x = .ref b ∧ H2 b = some (.tup (k.map kV)) ∧ Q (.ref p) (upd H2 p (.dT [(k, y)]))
theorem pe_dispT {X : Cx} {pos : Pos} {ke ve : Expr} {tk tv : TE} (hu : X.A.units + 1 < cLine) (hk : PE X ke tk) (hv : PE X ve tv) : PE X (.Dict [some ke] [ve] pos) (tDispT tk tv) := by
  (refine ⟨fun pins s σ H Q I q => ?_⟩)
  (have hn := I.hok.fresh (Nat.le_refl s.heap.objs.size))
  have I1 := I.laid (a := s.heap.objs.size) (o := .dT []) (h' := s.heap.push { cls := .type "dict", data := .dict #[] }) (t' := s.toks) (fun _ _ q => Heap.get?_push_of_some _ q) (Nat.le_refl _) (dt_empty s.heap I.big)
  have shape := zip_pairTrees [some ke] [ve] X.env pos rfl rfl
  have len := pairTrees_length [some ke] [ve] X.env pos rfl rfl
  have room : (tupleKind (mixKind X.prog X.w)).room X.A := by
    show X.A.units < cLine
    omega
  rw [arm_eval_Dict, shape, dictDisplay_pairs (pairTrees [some ke] [ve] X.env pos) (by intro z; rw [z] at len; cases len) (by rw [len]; show 1 < 17; decide)]
  refine wpAny_bind (wpAny_standAt (wpAny_bind (wpAny_subDictH (knd := tupleKind (mixKind X.prog X.w)) (Q := fun d s' => wpAny (model X.prog X.w) X.A (pure (Value.ref d)) _ X.xe s') room (by rw [len]; show 1 ≤ 15; decide) ?_)))
  refine pairTrees_cons_walk (thn (hk.run pins _ σ _ _ I1 (q _ hn)) fun u s1 ⟨x, H1, I2, rx, q1⟩ => thn (hv.run pins s1 σ H1 _ I2 q1) fun u2 s2 ⟨y, H2, I3, ry, e, b, k, ex, hb, q2⟩ => pairTrees_nil_walk ?_)
  subst ex
  obtain rfl : u = Value.ref b := rx
  obtain ⟨z, hd, xs0, r0, dd⟩ := dt_of I3.hok e
  cases r0
  refine ⟨[(k, b, u2)], ⟨rfl, rfl, key_of I3.hok hb, trivial⟩, dd, fun h' tk' dd' hs => wpAny_pure ⟨.ref s.heap.objs.size, _, ?_, rfl, q2⟩⟩
  obtain ⟨o, es, ep, ho, h2, h3, h4, _, h5⟩ := dd'
  have ne : b ≠ s.heap.objs.size := fun z => by rw [z, e] at hb; cases hb
  refine d_write I3 (by rw [e]; exact True.intro) hs ⟨o, ho⟩ ⟨?_, hd, [(k, b, u2)], .cons ⟨rfl, ?_, ry⟩ .nil, o, es, ep, ho, h2, h3, h4, h5⟩
  · rw [sizeLine_eq]; exact (by decide : 1 ≤ 16777216)
  · rw [upd_ne ne]; exact hb
/-- list(d): the keys -/
def rListDT : List V → Hp → VK → Prop := fun xs H Q => ∃ d kvs, xs = [V.ref d] ∧ Rd H d (.dT kvs) ∧ ∀ p bs, H p = none → IsKeys H kvs bs → Q (.ref p) (upd H p (.lst (bs.map V.ref)))
theorem cr_listDT {X : Cx} (hc : X.calm = true) : CallR X (.type "list") rListDT := call_list_dT hc
end LX

set_option maxHeartbeats 1900000
/-! DLI: dicts with tuple keys. -/
namespace DL
open PySem L2 PySem.Spec PyProof.Rows
section
variable {K : Frag} {G G' H : Hp} {v : V} {d : D}
theorem RepT.val? {fs : List (List Key × V)} {gs : List (List Key × D)} (r : RepT K G fs gs) (k : List Key) : (∃ v d, valV fs k = some v ∧ valD gs k = some d ∧ Rep K G v d) ∨ (valV fs k = none ∧ valD gs k = none) := by
  induction fs generalizing gs with
  | nil => cases r; exact .inr ⟨rfl, rfl⟩
  | cons p fs ih =>
    cases r with
    | cons q t =>
      rename_i f v' d' gs
      unfold valD valV
      rw [List.find?_cons, List.find?_cons]
      by_cases e : f = k
      · rw [decide_eq_true e]
        exact .inl ⟨v', d', rfl, rfl, q⟩
      · rw [decide_eq_false e]
        exact ih t
theorem RepT.val {fs : List (List Key × V)} {gs : List (List Key × D)} (r : RepT K G fs gs) (k : List Key) (h : valD gs k = some d) : ∃ v, valV fs k = some v ∧ Rep K G v d := by
  rcases r.val? k with ⟨v, d', h1, h2, h3⟩ | ⟨_, h2⟩
  · rw [h] at h2; cases h2; exact ⟨v, h1, h3⟩
  · rw [h] at h2; cases h2
theorem RepT.append {fs fs' : List (List Key × V)} {gs gs' : List (List Key × D)} (r : RepT K G fs gs) (r' : RepT K G fs' gs') : RepT K G (fs ++ fs') (gs ++ gs') := by
  induction fs generalizing gs with
  | nil => cases r; exact r'
  | cons p fs ih => cases r with | cons q t => exact .cons q (ih t)
theorem RepT.any {fs : List (List Key × V)} {gs : List (List Key × D)} (r : RepT K G fs gs) (k : List Key) : (fs.any fun kv => decide (kv.1 = k)) = (gs.any fun kv => decide (kv.1 = k)) := by
  induction fs generalizing gs with
  | nil => cases r; rfl
  | cons p fs ih => cases r with | cons q t => rw [List.any_cons, List.any_cons, ih t]
theorem RepT.length {fs : List (List Key × V)} {gs : List (List Key × D)} (r : RepT K G fs gs) : fs.length = gs.length := by
  induction fs generalizing gs with
  | nil => cases r; rfl
  | cons p fs ih => cases r with | cons q t => rw [List.length_cons, List.length_cons, ih t]
theorem RepT.mapput {k : List Key} (q : Rep K G v d) {fs : List (List Key × V)} {gs : List (List Key × D)} (r : RepT K G fs gs) : RepT K G (fs.map fun kv => if kv.1 = k then (kv.1, v) else kv) (gs.map fun kv => if kv.1 = k then (kv.1, d) else kv) := by
  induction fs generalizing gs with
  | nil => cases r; exact .nil
  | cons p fs ih =>
    cases r with
    | cons q' t =>
      rename_i f v' d' gs
      (rw [List.map_cons, List.map_cons])
      by_cases e : f = k
      · simp only [e, if_true]; exact .cons q (ih t)
      · simp only [e, if_false]; exact .cons q' (ih t)
theorem RepT.put {fs : List (List Key × V)} {gs : List (List Key × D)} (r : RepT K G fs gs) (k : List Key) (q : Rep K G v d) : RepT K G (putK fs k v) (putKD gs k d) := by
  unfold putK putKD
  rw [r.any k]
  by_cases h : (gs.any fun kv => decide (kv.1 = k)) = true
  · rw [if_pos h, if_pos h]; exact RepT.mapput q r
  · rw [if_neg h, if_neg h]; exact r.append (.cons q .nil)
theorem reps_kV : ∀ {ks : List Key} {vs : List V}, Reps K G vs (ks.map kD) → vs = ks.map L2.kV
  | [], _, r => by cases r; rfl
  | k :: ks, _, r => by
    cases r with
    | cons q t => rw [q.kV, reps_kV t]; rfl
theorem kV_reps : ∀ ks : List Key, Reps K G (ks.map L2.kV) (ks.map kD)
  | [] => .nil
  | .inl i :: ks => .cons (.int i) (kV_reps ks)
  | .inr s :: ks => .cons (.str s) (kV_reps ks)
theorem Rep.keyT {ks : List Key} (r : Rep K G v (.key ks)) : Rep K G v (.tup (ks.map kD)) := by
  cases r with
  | key h => exact .tup (.inl (.inl h)) (kV_reps ks)
/-- tuples that are tracked are known from now on -/
theorem Wd.tups {S : Store} (w : Wd K G H S) (bs : List Addr) (h : ∀ b ∈ bs, ∃ vs, H b = some (.tup vs)) : ∃ G', Wd K G' H S ∧ Ext G H S G' H S ∧ ∀ b ∈ bs, G' b = H b := by
  refine ⟨fun b => if b ∈ bs then H b else G b, ?_, ?_, fun b hb => if_pos hb⟩
  · have gs : Sub G (fun b => if b ∈ bs then H b else G b) := fun b o e => by
      show (if b ∈ bs then H b else G b) = _
      by_cases m : b ∈ bs
      · rw [if_pos m]; exact w.sub b o e
      · rw [if_neg m]; exact e
    refine ⟨fun b o e => ?_, fun b m e => ?_, fun p hp => ?_, fun b ps e => ?_⟩
    · by_cases m : b ∈ bs
      · rw [if_pos m] at e; exact e
      · rw [if_neg m] at e; exact w.sub b o e
    · obtain ⟨e1, o, e2, r⟩ := w.own b m e
      refine ⟨?_, o, e2, r.mono gs⟩
      have nb : b ∉ bs := fun z => by
        obtain ⟨vs, e3⟩ := h b z
        rw [e2] at e3
        cases e3
        cases m <;> exact r.elim
      rw [if_neg nb]; exact e1
    · obtain ⟨t, g, s⟩ := w.tabs p hp
      refine ⟨t, ?_, s⟩
      have nb : p.1 ∉ bs := fun z => by
        obtain ⟨vs, e3⟩ := h _ z
        obtain ⟨ps, e4, _⟩ := t
        rw [e3] at e4; cases e4
      rw [if_neg nb]; exact g
    · by_cases m : b ∈ bs
      · rw [if_pos m] at e
        obtain ⟨vs, e3⟩ := h b m
        rw [e3] at e; cases e
      · rw [if_neg m] at e; exact w.nt b ps e
  · refine ⟨fun b o e => ?_, fun b o e => ?_, fun _ _ e _ _ => e, fun _ e => e, fun b m e => .inl (by rw [e]; exact fun z => by cases z), fun _ e => e⟩
    · by_cases m : b ∈ bs
      · rw [if_pos m]; exact w.sub b o e
      · rw [if_neg m]; exact e
    · by_cases m : b ∈ bs
      · rw [if_pos m] at e
        obtain ⟨vs, e3⟩ := h b m
        rw [e3] at e
        exact .inr (.inr ⟨vs, (Option.some.inj e).symm⟩)
      · rw [if_neg m] at e; exact .inl e
end
section
variable {K : Frag} {J : Jd} {δ : En} {S : Store} {P : D → Store → Prop} {ta tb te td ty tv tx : TE} {R : Out} {x y : D} {ks : List Key} {kvs : List (List Key × D)}
/-- a tuple of ints that is to be a key -/
theorem ev_tupK {t : TA} (h : EvA K J t δ S fun xs S1 => ∃ ks : List Key, xs = ks.map kD ∧ xs.length ≤ sizeLine ∧ P (.key ks) S1) : Ev K J (tTup t) δ S P := fun G H σ w j e Q k =>
  h G H σ w j e _ fun G1 H1 S1 vs ds w1 x1 r1 ⟨ks, ek, z, p⟩ => by
    subst ek
    refine ⟨by rw [r1.length]; exact z, ?_⟩
    have ev := reps_kV r1
    exact (k.mono x1).imm w1 (fun p G' s hp => .key (by rw [← ev]; exact hp)) p
theorem c_tupKey (h : SqAt S x (ks.map kD)) (nt : ∀ zs, x ≠ .tup zs) (p : P (.key ks) S) : Cb K J (rTupOf K) [x] S P := fun G H vs w j r Q k => by
  cases r with
  | cons r rr =>
    cases rr
    rcases h with h | e
    · obtain ⟨a, us, e, hs, rs⟩ := h.rep w r
      subst e
      have ev := reps_kV rs
      exact ⟨a, us, rfl, .inl ⟨.inl (.inl hs), k.imm w (fun p G' s hp => .key (by rw [← ev]; exact hp)) p⟩⟩
    · exact (nt _ e).elim
theorem o_repWK {i : Int} (h0 : ks ≠ []) (h1 : 1 ≤ i) (h2 : ks.length * i.toNat ≤ 16777216) (p : P (.key (List.replicate i.toNat ks).flatten) S) : Op K J (LX.rRepW K) (.key ks) (.int i) S P := fun G H vx vy w j r1 r2 Q k => by
  cases r2
  cases r1 with
  | key hq =>
    have fl : ∀ n : Nat, (List.replicate n (ks.map L2.kV)).flatten = ((List.replicate n ks).flatten).map L2.kV := fun n => by
      induction n with
      | zero => rfl
      | succ n ih => rw [List.replicate_succ, List.replicate_succ, List.flatten_cons, List.flatten_cons, List.map_append, ih]
    refine ⟨_, i, _, rfl, rfl, .inl (.inl (w.sub _ _ hq)), fun z => ?_, h1, by rw [List.length_map]; exact h2, fun z => ?_, fun _ => k.imm w (fun p G' s hp => .key (by rw [← fl]; exact hp)) p⟩
    · exact h0 (List.map_eq_nil_iff.mp z)
    · subst z
      have e : (List.replicate (1 : Int).toNat ks).flatten = ks := by simp
      rw [e] at p
      exact k.now w (.key hq) p
theorem cb_key {r : List V → Hp → VK → Prop} (h : Cb K J r [.tup (ks.map kD)] S P) : Cb K J r [.key ks] S P := fun G H vs w j rs Q k => by
  cases rs with
  | cons q t =>
    cases t
    exact h G H _ w j (.cons q.keyT .nil) Q k
/-- {k: v} -/
theorem ev_dispT (h : ∀ p, S p = none → J.S p = none → Ev K J ta δ (S.set p (.dT [])) fun x S1 => Ev K J tb δ S1 fun y S2 => ∃ ks, x = .key ks ∧ S2 p = some (.dT []) ∧ P (.loc p) (S2.set p (.dT [(ks, y)]))) : Ev K J (LX.tDispT ta tb) δ S P := fun G H σ w j e Q k p hp => by
  have hs := (w.free hp).2
  have w1 : Wd K G (upd H p (.dT [])) (S.set p (.dT [])) := w.mut hp (o := .dT []) (m := .dT []) .nil
  have x1 : Ext G H S G (upd H p (.dT [])) (S.set p (.dT [])) := Ext.mut w hp
  refine h p hs (j.sold p hs) G _ σ w1 (Ext.trans j x1) e _ fun G2 H2 S2 v2 d2 w2 x2 r2 p2 => p2 G2 H2 σ w2 ((Ext.trans j x1).trans x2) (e.mono (x1.trans x2).gsub) _ fun G3 H3 S3 v3 d3 w3 x3 r3 ⟨ks, e1, hn, q⟩ => ?_
  subst e1
  cases r2 with
  | key hk =>
    obtain ⟨_, ob, ho, rm⟩ := w3.own p _ hn
    cases ob <;> first | exact rm.elim | skip
    rename_i zs
    have rz : RepT K G3 zs [] := rm
    cases rz
    refine ⟨ho, _, ks, rfl, w3.sub _ _ (x3.gsub _ _ hk), ?_⟩
    exact k G3 _ _ (.ref p) (.loc p) (w3.put (o' := .dT [(ks, v3)]) (m' := .dT [(ks, d3)]) hn (RepT.cons r3 .nil)) (((x1.trans x2).trans x3).trans (Ext.put w3 hn)) (.loc p) q
/-- list(d): the keys -/
theorem c_listDT {a : Addr} (hs : S a = some (.dT kvs)) (pz : P (.lst (kvs.map fun kv => .key kv.1)) S) : Cb K J LX.rListDT [.loc a] S P := fun G H vs w j r Q k => by
  cases r with
  | cons r rr =>
    cases rr
    cases r
    obtain ⟨_, ob, ho, rm⟩ := w.own a _ hs
    cases ob <;> first | exact rm.elim | skip
    rename_i fs
    have rf : RepT K G fs kvs := rm
    refine ⟨a, fs, rfl, .inl ho, fun p bs hp ik => ?_⟩
    have all : ∀ {fs : List (List Key × V)} {kvs : List (List Key × D)} {bs : List Addr}, RepT K G fs kvs → IsKeys H fs bs → (∀ b ∈ bs, ∃ vs, H b = some (.tup vs)) ∧ ∀ G', (∀ b ∈ bs, G' b = H b) → Reps K G' (bs.map V.ref) (kvs.map fun kv => D.key kv.1) := by
      intro fs kvs bs rt ik
      unfold IsKeys at ik
      induction ik generalizing kvs with
      | nil => cases rt; exact ⟨fun b hb => (by cases hb), fun _ _ => .nil⟩
      | cons h1 t ih =>
        cases rt with
        | cons q rt =>
          obtain ⟨i1, i2⟩ := ih rt
          refine ⟨fun b hb => ?_, fun G' hg => .cons (.key (by rw [hg _ (List.mem_cons_self ..)]; exact h1)) (i2 G' fun b hb => hg b (List.mem_cons_of_mem _ hb))⟩
          (rcases List.mem_cons.mp hb with e | hb)
          · exact ⟨_, by rw [e]; exact h1⟩
          · exact i1 b hb
    obtain ⟨a1, a2⟩ := all rf ik
    obtain ⟨G', w', x', g'⟩ := w.tups bs a1
    have rs := a2 G' g'
    exact k _ _ S (.ref p) (.lst _) (w'.imm hp (o := .lst (bs.map V.ref)) (by intro _ z; cases z)) (x'.trans (Ext.imm w' hp)) (.lst upd_same (rs.mono (Sub.new (w'.free hp).1))) pz
theorem own_dT {G H : Hp} {a : Addr} (w : Wd K G H S) (hs : S a = some (.dT kvs)) : ∃ fs, H a = some (.dT fs) ∧ RepT K G fs kvs := by
  obtain ⟨_, ob, ho, rm⟩ := w.own a _ hs
  cases ob <;> first | exact rm.elim | skip
  exact ⟨_, ho, rm⟩
theorem ev_dnotinT (h : Ev K J ty δ S fun y S1 => Ev K J td δ S1 fun x S2 => ∃ a kvs ks, x = .loc a ∧ S2 a = some (.dT kvs) ∧ y = .key ks ∧ P (.bl (!(valD kvs ks).isSome)) S2) : Ev K J (tDNotIn ty td) δ S P := fun G H σ w j e Q k =>
  h G H σ w j e _ fun G1 H1 S1 v d w1 x1 r1 p1 => p1 G1 H1 σ w1 (j.trans x1) (e.mono x1.gsub) _ fun G2 H2 S2 v2 d2 w2 x2 r2 ⟨a, kvs, ks, ex, hs, ek, p⟩ => by
    subst ek; subst ex
    cases r2
    obtain ⟨fs, ho, rf⟩ := own_dT w2 hs
    cases r1 with
    | key hk =>
      refine ⟨a, valV fs ks, rfl, .inr ⟨fs, ks, _, .inl ho, rfl, w2.sub _ _ (x2.gsub _ _ hk), rfl⟩, ?_⟩
      have : (valV fs ks).isSome = (valD kvs ks).isSome := by
        rcases rf.val? ks with ⟨v, d, h1, h2, _⟩ | ⟨h1, h2⟩ <;> rw [h1, h2] <;> rfl
      rw [this]
      exact k G2 H2 S2 _ _ w2 (x1.trans x2) (.bl _) p
theorem ev_dgetT (h : Ev K J td δ S fun x S1 => Ev K J ty δ S1 fun y S2 => ∃ a kvs ks z, x = .loc a ∧ S2 a = some (.dT kvs) ∧ y = .key ks ∧ valD kvs ks = some z ∧ P z S2) : Ev K J (tDGet td ty) δ S P := fun G H σ w j e Q k =>
  h G H σ w j e _ fun G1 H1 S1 v1 d1 w1 x1 r1 p1 => p1 G1 H1 σ w1 (j.trans x1) (e.mono x1.gsub) _ fun G2 H2 S2 v2 d2 w2 x2 r2 ⟨a, kvs, ks, z, ex, hs, ek, hv, p⟩ => by
    subst ek; subst ex
    cases r1
    obtain ⟨fs, ho, rf⟩ := own_dT w2 hs
    obtain ⟨u, hu, ru⟩ := rf.val ks hv
    cases r2 with
    | key hk => exact ⟨a, u, rfl, .inr ⟨fs, ks, _, .inl ho, rfl, w2.sub _ _ hk, hu.symm⟩, k G2 H2 S2 u z w2 (x1.trans x2) ru p⟩
theorem ev_dget1T (h : Ev K J td δ S fun x S1 => ∃ a, x = .loc a ∧ (∃ kvs, S1 a = some (.dT kvs)) ∧ Ev K J ty δ S1 fun y S2 => ∃ kvs ks, S2 a = some (.dT kvs) ∧ y = .key ks ∧ P ((valD kvs ks).getD .non) S2) : Ev K J (tDGet1 td ty) δ S P := fun G H σ w j e Q k =>
  h G H σ w j e _ fun G1 H1 S1 v1 d1 w1 x1 r1 ⟨a, ex, ⟨kv0, hs0⟩, p1⟩ => by
    subst ex
    cases r1
    obtain ⟨f0, ho0, _⟩ := own_dT w1 hs0
    refine ⟨a, rfl, .inr ⟨f0, .inl ho0⟩, p1 G1 H1 σ w1 (j.trans x1) (e.mono x1.gsub) _ fun G2 H2 S2 v2 d2 w2 x2 r2 ⟨kvs, ks, hs, ek, p⟩ => ?_⟩
    subst ek
    obtain ⟨fs, ho, rf⟩ := own_dT w2 hs
    cases r2 with
    | key hk =>
      refine ⟨valV fs ks, .inr ⟨fs, ks, _, .inl ho, rfl, w2.sub _ _ hk, rfl⟩, ?_⟩
      rcases rf.val? ks with ⟨u, z, q1, q2, q3⟩ | ⟨q1, q2⟩
      · rw [q1]; rw [q2] at p
        exact k G2 H2 S2 u z w2 (x1.trans x2) q3 p
      · rw [q1]; rw [q2] at p
        exact k G2 H2 S2 _ _ w2 (x1.trans x2) .non p
theorem run_dputT (h : Ev K J tv δ S fun v S1 => Ev K J td δ S1 fun x S2 => Ev K J ty δ S2 fun y S3 => ∃ a kvs ks, x = .loc a ∧ S3 a = some (.dT kvs) ∧ y = .key ks ∧ kvs.length < sizeLine ∧ R.nx δ (S3.set a (.dT (putKD kvs ks v)))) :
    Run K J (sDPut td ty tv) δ S R := fun G H σ D w j e o =>
  h G H σ w j e _ fun G1 H1 S1 v x w1 x1 r1 p => p G1 H1 σ w1 (j.trans x1) (e.mono x1.gsub) _ fun G2 H2 S2 v2 d2 w2 x2 r2 p2 => p2 G2 H2 σ w2 ((j.trans x1).trans x2) (e.mono (x1.trans x2).gsub) _ fun G3 H3 S3 v3 d3 w3 x3 r3 ⟨a, kvs, ks, e1, hs, ek, hl, q⟩ => by
    subst e1; subst ek
    cases r2
    obtain ⟨fs, ho, rf⟩ := own_dT w3 hs
    cases r3 with
    | key hk =>
      refine ⟨a, _, rfl, .inr ⟨fs, ks, _, ho, rfl, w3.sub _ _ hk, by rw [rf.length]; exact hl, rfl⟩, ?_⟩
      exact o.nx G3 _ _ σ δ (w3.put (m' := .dT (putKD kvs ks x)) hs (rf.put ks (r1.mono (x2.trans x3).gsub))) ((((Ext.trans j x1).trans x2).trans x3).trans (Ext.put w3 hs)) ((x1.trans x2).trans x3).gsub (e.mono ((x1.trans x2).trans x3).gsub) q
end
end DL

set_option maxHeartbeats 1900000
/-! LX3: repr of a list, of None, where no repr is under way. -/
namespace LX
open PySem L2 PySem.Spec PyProof.Rows
/-- repr(x): x None or a list of data -/
def rReprG (K : PySem.W.Frag) : List V → Hp → VK → Prop := fun us H Q => (us = [.non] ∧ Q (.str "None") H) ∨ ∃ a ds, us = [.ref a] ∧ Dp K H (.ref a) (.list ds) ∧ (PyData.list ds).showable = true ∧ (PyData.list ds).hasDict = false ∧ (PyData.list ds).depth ≤ 60 ∧ (PyData.list ds).shown.length ≤ sizeLine ∧ Q (.str (PyData.list ds).shown) H
theorem call_reprG {X : Cx} (hg : X.A.guards = some []) (hu : X.A.units + 65 < cLine) : CallR X (.builtin "repr") (rReprG X.K) := by
  (intro pins s σ H xs us Q I r h)
  rcases h with ⟨rfl, q⟩ | ⟨a, ds, rfl, hd, h1, h2, h3, h4, q⟩
  · obtain ⟨u, rfl, ru⟩ := vals1 r
    cases ru
    exact PySem.P.repr_of_none ⟨.str "None", H, I.tok _, ⟨_, rfl⟩, q⟩
  · obtain ⟨u, rfl, ru⟩ := vals1 r
    obtain ⟨as, rd⟩ := Dp.reads I _ _ u hd ru
    cases ru
    refine repr_of_reads' rd h1 (fun z => by rw [h2] at z; cases z) hg (by omega) (fun _ _ e => e) (fun h' u tk hk => ⟨.str _, H, I.kept hk, ⟨_, rfl⟩, q⟩) h4
end LX
namespace DL
open PySem L2 PySem.Spec PyProof.Rows
section
variable {K : Frag} {J : Jd} {S : Store} {P : D → Store → Prop}
/-- how a list of ints is shown -/
def shownL (ns : List Int) : Str := (PyData.list (pys (ns.map D.int))).shown
theorem c_reprN (p : P (.str "None") S) : Cb K J (LX.rReprG K) [.non] S P := fun G H vs w j r Q k => by
  cases r with
  | cons r rr => cases rr; cases r; exact .inl ⟨rfl, k.now w (.str _) p⟩
theorem ints_showable : ∀ {ns : List Int}, (∀ n ∈ ns, n.natAbs.log2 < 1920) → PyData.showableAll (pys (ns.map D.int)) = true
  | [], _ => rfl
  | n :: ns, h => by
    show (decide (n.natAbs.log2 < 1920) && PyData.showableAll (pys (ns.map D.int))) = true
    rw [decide_eq_true (h n (List.mem_cons_self ..)), ints_showable fun m hm => h m (List.mem_cons_of_mem _ hm)]; rfl
theorem c_reprL {ns : List Int} (h : ∀ n ∈ ns, n.natAbs.log2 < 1920) (hd : (PyData.list (pys (ns.map D.int))).hasDict = false) (hp : (PyData.list (pys (ns.map D.int))).depth ≤ 60) (hz : (shownL ns).length ≤ PySem.sizeLine) (p : P (.str (shownL ns)) S) : Cb K J (LX.rReprG K) [.lst (ns.map .int)] S P := fun G H vs w j r Q k => by
  cases r with
  | cons r rr =>
    cases rr
    have dp := pl_dp w.sub (pl_ints (ns := ns)) r
    cases r with
    | lst hq rs => exact .inr ⟨_, _, rfl, dp, ints_showable h, hd, hp, hz, k.now w (.str _) p⟩
end
end DL

set_option maxHeartbeats 1900000
/-! DLH: the end of a law whose own text asks for the guards of repr. -/
namespace EndG
open PySem.Spec PyProof.Rows L2 PySem
/-- the script and the tables, as they are tracked -/
def hpS (K : PySem.W.Frag) (T : List Addr) (a : Addr) (oa : Obj) (xs : List V) : Hp := fun b =>
  if b ∈ T then some (.tbl #[]) else if b = a ∧ K.lookup a = none then some (.frz oa (.lst xs)) else none
section
variable {K : PySem.W.Frag} {T : List Addr} {a b : Addr} {oa : Obj} {xs : List V}
theorem hpS_t (h : b ∈ T) : hpS K T a oa xs b = some (.tbl #[]) := if_pos h
theorem hpS_a (h : a ∉ T) (k : K.lookup a = none) : hpS K T a oa xs a = some (.frz oa (.lst xs)) := (if_neg h).trans (if_pos ⟨rfl, k⟩)
theorem hpS_n (h : b ∉ T) (n : ¬(b = a ∧ K.lookup a = none)) : hpS K T a oa xs b = none := (if_neg h).trans (if_neg n)
theorem hpS_cases {u : HO} (h : hpS K T a oa xs b = some u) : (b ∈ T ∧ u = .tbl #[]) ∨ (b ∉ T ∧ b = a ∧ K.lookup a = none ∧ u = .frz oa (.lst xs)) := by
  by_cases h1 : b ∈ T
  · rw [hpS_t h1] at h; exact .inl ⟨h1, (Option.some.inj h).symm⟩
  · by_cases h2 : b = a ∧ K.lookup a = none
    · unfold hpS at h
      rw [if_neg h1, if_pos h2] at h
      exact .inr ⟨h1, h2.1, h2.2, (Option.some.inj h).symm⟩
    · rw [hpS_n h1 h2] at h; cases h
end
/-- what is asked of the law's own call at the start -/
def RunAt (P : Program) (w : World) (K : PySem.W.Frag) (mg : Str → Option Value) (CX : CXT) (fa a : Addr) (cs : List (Addr × Addr)) (ns : List Int) (s : Shared) : Prop :=
  ∀ (base : Heap) (H : Hp), K.In base → base.Ns mainGlobals mg → (∀ p ∈ cs, LamX.TabB base mg p.1 p.2) → Env0 P w K mg base callerA [] s H → (∀ p ∈ cs, H p.2 = some (.tbl #[])) → SqL K H a (ns.map V.int) →
    codeAny (model P w) callerA (.call (.ref fa) ⟨[.ref a], []⟩) (CR CX [] P w H s (fun v _ => v = .bl true) fun _ _ _ => False) s
theorem end_call {P : Program} {w : World} {K : PySem.W.Frag} {mg mb : Str → Option Value} {CX : CXT} {fa a : Addr} {cs : List (Addr × Addr)} {s : Shared} {vs : List Value} {ns : List Int}
    (KX : K.In s.heap) (g1 : s.heap.Ns mainGlobals mg) (g2 : s.heap.Ns builtinsNs mb) (g3 : ∀ x : Str, x ≠ "__name__" → mb x = bootBuiltins x) (g4 : s.heap.NoLimit) (g5 : s.gens = #[])
    (t1 : ∀ p ∈ cs, s.heap.get? p.2 = some { cls := .none, data := .fields #[] }) (t2 : ∀ p ∈ cs, K.lookup p.2 = none) (t3 : ∀ p ∈ cs, PySem.W.CodeHd s.heap p.1 p.2)
    (bm : ∃ (m : Addr) (o : Obj), mg "__builtins__" = some (.ref m) ∧ m ≠ builtinsNs ∧ s.heap.get? m = some o ∧ o.cls = .type "module" ∧ o.dict = some builtinsNs ∧ o.data = .plain)
    (ha : s.heap.get? a = some { cls := .type "list", data := .seq vs.toArray }) (hi : IntsAre vs ns) (hl : ns.length ≤ sizeLine) (F : RunAt P w K mg CX fa a cs ns s)
    (hX : ∀ H e s', CX [] H s (fun _ _ _ => False) e s' → False) :
    codeAny (model P w) callerA (.call (.ref fa) ⟨[.ref a], []⟩) (fun r s' => r = .ok (.ret (.bool true)) ∧ OldK s.heap s'.heap ∧ s'.os = s.os ∧ AllBare s'.gens) s := by
  generalize hT : cs.map (·.2) = T
  have inT : ∀ p ∈ cs, p.2 ∈ T := fun p hp => by rw [← hT]; exact List.mem_map.mpr ⟨p, hp, rfl⟩
  have ofT : ∀ b ∈ T, ∃ p ∈ cs, p.2 = b := fun b hb => by rw [← hT] at hb; exact List.mem_map.mp hb
  have empt : ∀ b ∈ T, s.heap.get? b = some { cls := .none, data := .fields #[] } := fun b hb => by
    obtain ⟨p, hp, e⟩ := ofT b hb
    rw [← e]; exact t1 p hp
  have notT : a ∉ T := fun hb => by
    have e := empt a hb
    rw [ha] at e
    have : Data.seq vs.toArray = Data.fields #[] := congrArg Obj.data (Option.some.inj e)
    cases this
  have seen := vals_ints hi
  have len := hi.length
  generalize hH : hpS K T a { cls := .type "list", data := .seq vs.toArray } (ns.map V.int) = H
  have cse : ∀ {b : Addr} {u : HO}, H b = some u → (b ∈ T ∧ u = .tbl #[]) ∨ (b ∉ T ∧ b = a ∧ K.lookup a = none ∧ u = .frz { cls := .type "list", data := .seq vs.toArray } (.lst (ns.map V.int))) := fun {b u} h => by
    rw [← hH] at h; exact hpS_cases h
  have tbl : ∀ p ∈ cs, H p.2 = some (.tbl #[]) := fun p hp => by rw [← hH]; exact hpS_t (inT p hp)
  -- what is neither a list nor a table is not tracked
  have off : ∀ {b : Addr} {o : Obj}, s.heap.get? b = some o → (∀ z n, o.data ≠ .seq z n) → o.data ≠ .fields #[] → H b = none := fun {b o} e n1 n2 => by
    cases q : H b with
    | none => rfl
    | some u =>
      rcases cse q with ⟨m, _⟩ | ⟨_, m, _⟩
      · rw [empt b m] at e
        exact (n2 (by rw [← Option.some.inj e])).elim
      · rw [m, ha] at e
        exact (n1 _ _ (by rw [← Option.some.inj e])).elim
  have bg : ∀ {b : Addr} {o : Obj}, s.heap.get? b = some o → H b = none → (hidT s.heap H).get? b = some o := fun e n => hidT_get e n
  have nsB : ∀ {b : Addr} {m : Str → Option Value}, s.heap.Ns b m → (hidT s.heap H).Ns b m := fun {b m} h => by
    obtain ⟨o, es, ep, e, d, r⟩ := h
    exact ⟨o, es, ep, bg e (off e (fun z n y => by rw [d] at y; cases y) fun y => by rw [d] at y; cases y), d, r⟩
  have kin : K.In (hidT s.heap H) := fun b o e => bg (KX b o e) (by
    cases q : H b with
    | none => rfl
    | some u =>
      rcases cse q with ⟨m, _⟩ | ⟨_, m, k, _⟩
      · obtain ⟨p, hp, ep⟩ := ofT b m
        rw [← ep, t2 p hp] at e; cases e
      · rw [m, k] at e; cases e)
  have limB : (hidT s.heap H).NoLimit := by
    obtain ⟨mc, q1, q2⟩ := g4
    exact ⟨mc, nsB q1, q2⟩
  have mod : L2.Mod K mg (hidT s.heap H) := ⟨kin, nsB g1, ⟨mb, nsB g2, g3⟩, limB⟩
  have tabB : ∀ p ∈ cs, LamX.TabB (hidT s.heap H) mg p.1 p.2 := fun p hp => by
    have hp1 := t1 p hp
    refine ⟨?_, ?_, ?_⟩
    · obtain ⟨o, us, file, tf, flags, tg, inF, text, tt, e1, e2, e3, e4, r⟩ := t3 p hp
      refine ⟨o, us, file, tf, flags, tg, inF, text, tt, bg e1 (off e1 (fun z n y => by rw [e3] at y; cases y) fun y => ?_), e2, e3, e4, r⟩
      rw [e3] at y
      cases y
      simp at e4
    · obtain ⟨m, o, b1, b2, b3, b4, b5, b6⟩ := bm
      have n1 : m ≠ mainGlobals := fun z => by
        obtain ⟨o', es, ep, e, d, _⟩ := g1
        rw [← z, b3] at e
        cases e
        rw [b6] at d; cases d
      have n2 : m ≠ p.2 := fun z => by
        rw [z, hp1] at b3
        cases b3
        cases b6
      exact ⟨m, o, b1, b2, n1, n2, bg b3 (off b3 (fun z n y => by rw [b6] at y; cases y) fun y => by rw [b6] at y; cases y), b4, b5, b6⟩
    · intro z
      obtain ⟨o', es, ep, e, d, _⟩ := g1
      rw [z, hp1] at e
      cases e
      cases d
  have hok : HOk P w H s.heap := fun b u q => by
    rcases cse q with ⟨m, e⟩ | ⟨_, m, _, e⟩
    · subst e; exact empt b m
    · subst e; subst m; exact ⟨ha, by rw [List.length_map]; exact hl, vs, _, seen, ha⟩
  have e0 : Env0 P w K mg (hidT s.heap H) callerA [] s H := ⟨rfl, mod, fun b o e => of_hidT e, Nat.le_of_eq (hidT_size _ _), trivial, fun b hb => absurd (show b ∈ ([] : List Addr) from hb) (by simp), hok, .of_eq g5⟩
  have isL : SqL K H a (ns.map V.int) := by
    cases k : K.lookup a with
    | none => exact .inl (.inr ⟨_, by rw [← hH]; exact hpS_a notT k⟩)
    | some o =>
      have e := KX a o k
      rw [ha] at e
      cases e
      exact .inr ⟨_, vs.toArray, _, k, rfl, rfl, rfl, by rw [List.size_toArray, len]; exact hl, by simpa using seen⟩
  refine codeAny_mono (F (hidT s.heap H) H kin (nsB g1) tabB e0 tbl isL) fun r s' h => ?_
  cases r with
  | error e => exact (hX H e s' h).elim
  | ok fl =>
    cases fl with
    | next | brk | cont => exact False.elim h
    | ret u =>
      obtain ⟨v, H', os, bare, un, hok', rv, q⟩ := h
      have q1 : v = .bl true := q
      subst q1
      obtain rfl : u = Value.bool true := rv
      have same : ∀ b o, b ∉ T → s.heap.get? b = some o → s'.heap.get? b = some o := fun b o nb e => by
        cases y : H b with
        | none => exact un.keep b o e y (fun z => absurd (show b ∈ ([] : List Addr) from z) (by simp)) (by simp)
        | some z =>
          rcases cse y with ⟨m, _⟩ | ⟨_, _, _, ez⟩
          · exact (nb m).elim
          · subst ez
            have f1 := (hok' b _ (un.frzs b _ _ y)).1
            rw [(hok b _ y).1] at e
            rw [← Option.some.inj e]; exact f1
      have more : ∀ p ∈ cs, ∃ ps : Array Value, s'.heap.get? p.2 = some { cls := .none, data := .fields ps } := fun p hp => by
        obtain ⟨ps, z⟩ := un.tbls p.2 #[] (tbl p hp)
        exact ⟨_, hok' p.2 _ z⟩
      (refine ⟨rfl, ⟨fun b o e => ?_, fun b o e => ?_⟩, os, bare⟩)
      · by_cases m : b ∈ T
        · obtain ⟨p, hp, ep⟩ := ofT b m
          obtain ⟨ps, z⟩ := more p hp
          subst ep
          rw [t1 p hp] at e
          cases e
          exact .inr (.inl ⟨((t3 p hp).tab (t1 p hp)).isCodeTable, rfl, #[], ps, rfl, by rw [Array.empty_append]; exact z⟩)
        · exact .inl (same b o m e)
      · by_cases m : b ∈ T
        · obtain ⟨p, hp, ep⟩ := ofT b m
          obtain ⟨ps, z⟩ := more p hp
          subst ep
          exact ⟨_, z⟩
        · exact ⟨o, same b o m e⟩
/-- the end: the law is run at the caller's own place -/
theorem walk_end {l : PySem.W.OpenLaw} {n : Nat} {q : Program} {loose : List Str} {XP : (Str → Option Value) → Heap → Prop} {YP : World → Heap → Prop} {d : DefRec} {CX : World → CXT}
    (hn : l.most = some n) (hn2 : n ≤ sizeLine) (hdf : d.params.defaults = [])
    (F : ∀ (w : World) (mg : Str → Option Value) (fa : Addr) (h : Heap), YP w h → h.Ns mainGlobals mg → mg d.name = some (.ref fa) → ∃ (K : PySem.W.Frag) (cs : List (Addr × Addr)), K.In h ∧ (∀ p ∈ cs, h.get? p.2 = some { cls := .none, data := .fields #[] }) ∧ (∀ p ∈ cs, K.lookup p.2 = none) ∧ (∀ p ∈ cs, PySem.W.CodeHd h p.1 p.2) ∧
      ∀ (s : Shared) (a : Addr) (ns : List Int), s.heap = h → ns.length ≤ n → RunAt l.prog w K mg (CX w) fa a cs ns s)
    (hX : ∀ (w : World) (H : Hp) (s : Shared) (e : Value) (s' : Shared), CX w [] H s (fun _ _ _ => False) e s' → False) :
    PySem.W.WalkO q loose XP YP l.row.toRowW d [] (fun (f) vs => PySem.call f vs) := by
  (refine Att.attach_callB hn hdf fun w s₀ s₁ mg mb fa o pm cd doc a vs ns G Y ho hd hcd hmg hobj hints hlen hbits hg => ?_)
  obtain ⟨K, cs, KX, t1, t2, t3, run⟩ := F w mg fa _ Y G.T.g hmg
  exact end_call KX G.T.g G.T.b G.T.builtins G.T.nolimit hg t1 t2 t3 G.T.bmain hobj hints (Nat.le_trans hlen hn2) (run s₁ a ns rfl hlen) fun H e s' => hX w H s₁ e s'
end EndG

set_option maxHeartbeats 1900000
/-! YC: what each def of the package promises: maps and their periods. -/
namespace Y
open PySem L2 DL PyProof.Rows YM
def pgA (K : Frag) (C m : Str) : Addr := match PySem.W.recIn K (He.ma K (He.ga K C) m) "property" with
  | some (.ref g :: _) => g
  | _ => 0
def cgA (K : Frag) (C m : Str) : Addr := match PySem.W.recIn K (He.ma K (He.ga K C) m) "classmethod" with
  | some (.ref g :: _) => g
  | _ => 0
/-! ### data -/
def intsD (ns : List Int) : D := .lst (ns.map .int)
abbrev intsM (ns : List Int) : M := .lst (ns.map .int)
def intsT (ns : List Int) : D := .tup (ns.map .int)
def intssD (xs : List (List Int)) : D := .lst (xs.map intsD)
abbrev mapA (K : Frag) : Addr := He.ga K "DayMap"
abbrev tlA (K : Frag) : Addr := He.ga K "TooLong"
def mapF (r : List Int) : List (Str × D) := [("rows", intsD r)]
def mapD (K : Frag) (r : List Int) : D := .ins (mapA K) (mapF r)
/-- the rows of a map of the package -/
def Mp (r : List Int) : Prop := Lst r ∧ r.length ≤ 200000
/-- TooLong(200000) -/
def TL (K : Frag) (PX : PXT) (S : Store) : Prop := PX (.ref (tlA K)) (some [("limit", .int 200000)]) S
/-- what of the text the runs need -/
structure Fx (K : Frag) : Prop where
  c : Cls K (mapA K)
  rows : NoAttr K (mapA K) "rows"
  ins : C8.InsC K (mapA K)
  kMap : PySem.W.kitOne K (.ref (mapA K)) (.ref (He.ga K "Map")) = some true
  kDay : PySem.W.kitOne K (.ref (mapA K)) (.ref (mapA K)) = some true
  isT : LX.IsC K (tlA K)
  kOvf : PySem.W.kitOne K (.ref (tlA K)) (.type "OverflowError") = some true
  exm : PySem.W.exmOne K (.ref (tlA K)) (.ref (tlA K)) = some true
/-! ### promises -/
def C_is_integer : Ct := fun ds S P _ => ∃ i, ds = [.int i] ∧ P (.bl true) S
def C_is_period : Ct := fun ds S P _ => ∃ n : Int, ds = [.int n] ∧ 1 ≤ n ∧ n ≤ 200000 ∧ P (.bl true) S
def C_common_divisor : Ct := fun ds S P _ => ∃ a b : Int, ds = [.int a, .int b] ∧ P (.int (Int.gcd a b)) S
def C_common_multiple : Ct := fun ds S P _ => ∃ a b : Nat, ds = [.int a, .int b] ∧ 0 < a ∧ a ≤ 200000 ∧ 0 < b ∧ b ≤ 200000 ∧ P (.int (com a b)) S
def C_common_period (K : Frag) : Ct := fun ds S P PX => ∃ a b : Nat, ds = [.int a, .int b] ∧ 0 < a ∧ a ≤ 200000 ∧ 0 < b ∧ b ≤ 200000 ∧ (com a b ≤ 200000 → P (.int (com a b)) S) ∧ (200000 < com a b → TL K PX S)
def C_least_period : Ct := fun ds S P _ => ∃ r : List Int, ds = [intsD r] ∧ 0 < r.length ∧ r.length ≤ 200000 ∧ P (.int (lp r)) S
def C_DayMap___init__ (K : Frag) : Ct := fun ds S P _ => ∃ (x : Addr) (r : List Int), ds = [.loc x, .int r.length, intsD r] ∧ S x = some (.ins (mapA K) []) ∧ 0 < r.length ∧ r.length ≤ 200000 ∧ P .non (S.set x (.ins (mapA K) (mapF (lr r))))
def C_DayMap_table (K : Frag) : Ct := fun ds S P _ => ∃ r, ds = [mapD K r] ∧ P (intsD r) S
def C_Map_offsets (K : Frag) : Ct := fun ds S P _ => ∃ r, ds = [mapD K r] ∧ Mp r ∧ P (intsT r) S
def C_Map___eq__ (K : Frag) : Ct := fun ds S P _ => ∃ r s, ds = [mapD K r, mapD K s] ∧ Mp r ∧ Mp s ∧ P (.bl (decide (r = s))) S
/-- the common period of maps -/
def coms (rs : List (List Int)) : Nat := rs.foldl (fun n r => com n r.length) 1
def valsD (r : List Int) (n : Nat) : D := intsD (row (fun x => x + ofs r x) n)
def C_shared_values (K : Frag) : Ct := fun ds S P PX => ∃ rs : List (List Int), ds = [.lst (rs.map (mapD K))] ∧ (∀ r ∈ rs, Mp r) ∧ rs.length ≤ 100 ∧ (coms rs ≤ 200000 → P (.tup [.int (coms rs), .lst (rs.map fun r => valsD r (coms rs))]) S) ∧ (200000 < coms rs → TL K PX S)
/-! ### quotients -/
section
variable (a b : Int → Int) (n : Nat)
def rsQ (d : Nat) : Int := ((d : Int) + a d) % n
def tnQ (d : Nat) : Int := ((d : Int) + a d) / n * n
def stQ (d : Nat) : Int := (d : Int) - tnQ a n d
def tgQ (d : Nat) : Int := (d : Int) + b d - tnQ a n d
/-- the first date below i with a rest -/
def fstQ (i : Nat) (ρ : Int) : Option Nat := (List.range i).find? fun d => decide (rsQ a n d = ρ)
/-- the first date that has the value of an earlier one, and another goal -/
def badQ (d : Nat) : Bool := match fstQ a n d (rsQ a n d) with
  | some e => !decide (tgQ a b n e = tgQ a b n d)
  | none => false
def conQ : Option Nat := (List.range n).find? (badQ a b n)
def folQ (ρ : Int) : Int := (match fstQ a n n ρ with | some e => tgQ a b n e | none => ρ) - ρ
/-- leading: the date of the map's value, for the goal's value at d -/
def ldtQ (d : Nat) : Option Nat := fstQ a n n (((d : Int) + b d) % n)
def lackQ : Option Nat := (List.range n).find? fun d => (ldtQ a b n d).isNone
def leaQ (x : Int) : Int := match ldtQ a b n x.toNat with
  | some e => stQ a n e + (x + b x) / n * n - x
  | none => 0
end
noncomputable def folD (K : Frag) (a b : List Int) : D :=
  let n := coms [a, b]
  match conQ (ofs a) (ofs b) n with
  | some d => .tup [.str "dates", .tup [.int (stQ (ofs a) n ((fstQ (ofs a) n d (rsQ (ofs a) n d)).getD 0)), .int (stQ (ofs a) n d)]]
  | none => .tup [.str "map", mapD K (lr (row (folQ (ofs a) (ofs b) n) n))]
noncomputable def leaD (K : Frag) (a b : List Int) : D :=
  let n := coms [a, b]
  match lackQ (ofs a) (ofs b) n with
  | some d => .tup [.str "date", .int d]
  | none => .tup [.str "map", mapD K (lr (row (leaQ (ofs a) (ofs b) n) n))]
def C_following (K : Frag) : Ct := fun ds S P PX => ∃ a b, ds = [mapD K a, mapD K b] ∧ Mp a ∧ Mp b ∧ (coms [a, b] ≤ 200000 → P (folD K a b) S) ∧ (200000 < coms [a, b] → TL K PX S)
def C_leading (K : Frag) : Ct := fun ds S P PX => ∃ a b, ds = [mapD K a, mapD K b] ∧ Mp a ∧ Mp b ∧ (coms [a, b] ≤ 200000 → P (leaD K a b) S) ∧ (200000 < coms [a, b] → TL K PX S)
/-- the attributes of a map -/
def OkF (fs : List (Str × D)) : Prop := ∃ r, fs = mapF r ∧ Mp r
theorem okF_eq {K : Frag} (fs : List (Str × D)) (h : OkF fs) (S : Store) (P : D → Store → Prop) (p : P (.bl true) S) : C_Map___eq__ K [.ins (mapA K) fs, .ins (mapA K) fs] S P PX0 := by
  obtain ⟨r, rfl, hm⟩ := h
  exact ⟨r, r, rfl, hm, hm, by rw [decide_eq_true rfl]; exact p⟩
end Y

set_option maxHeartbeats 1900000
/-! YL: what the laws' own defs promise: draws, rows of offsets. -/
namespace Y
open PySem L2 DL PyProof.Rows YM
/-- a pen that has turned t times at most -/
def PenM (m : M) (t : Int) : Prop := ∃ (cells : List Int) (t0 l : Int), m = .dK [(.inr "cells", intsD cells), (.inr "turn", .int t0), (.inr "left", .int l)] ∧ 0 ≤ t0 ∧ t0 ≤ t ∧ 0 ≤ l
theorem PenM.mono {m : M} {t t' : Int} (h : PenM m t) (l : t ≤ t') : PenM m t' := let ⟨c, t0, l0, e, h0, h1, h2⟩ := h; ⟨c, t0, l0, e, h0, Int.le_trans h1 l, h2⟩
def C__law_pen : Ct := fun ds S P _ => ∃ ns : List Int, ds = [.klst (ns.map .int)] ∧ ∀ p m, S p = none → PenM m 0 → P (.loc p) (S.set p m)
abbrev Few (n : Int) : Prop := 0 < n ∧ n < 1073741824
abbrev Lo2 (t : Int) : Prop := 0 ≤ t ∧ t < 1125899906842624
abbrev Low (t : Int) : Prop := 0 ≤ t ∧ t < 1099511627776
/-- between -/
abbrev Lo3 (t : Int) : Prop := 0 ≤ t ∧ t < 1125899000000000
abbrev Mid (t : Int) : Prop := 0 ≤ t ∧ t < 562949953421312
def C__law_draw : Ct := fun ds S P _ => ∃ a m t n, ds = [.loc a, .int n] ∧ S a = some m ∧ PenM m t ∧ Lo2 t ∧ Few n ∧ ∀ i m', 0 ≤ i → i < n → PenM m' (t + 1) → P (.int i) (S.set a m')
def C__law_pick : Ct := fun ds S P _ => ∃ a m t os, ds = [.loc a, .lst os] ∧ S a = some m ∧ PenM m t ∧ Lo2 t ∧ 0 < os.length ∧ os.length < 1000000 ∧ ∀ x m', x ∈ os → PenM m' (t + 1) → P x (S.set a m')
def C__law_shuffled : Ct := fun ds S P _ => ∃ a m t ns, ds = [.loc a, intsD ns] ∧ S a = some m ∧ PenM m t ∧ Mid t ∧ ns.length ≤ 1000 ∧ ∀ (ns' : List Int) m', ns'.length = ns.length → PenM m' (t + 1000) → P (intsD ns') (S.set a m')
def C__law_great : Ct := fun ds S P _ => ∃ a m t k, ds = [.loc a, .int k] ∧ S a = some m ∧ PenM m t ∧ Lo3 t ∧ 0 ≤ k ∧ k < 1000 ∧ ∀ i m', 0 ≤ i → PenM m' (t + k) → P (.int i) (S.set a m')
def C__law_gcd : Ct := fun ds S P _ => ∃ a b : Int, ds = [.int a, .int b] ∧ P (.int (Int.gcd a b)) S
def C__law_date : Ct := fun ds S P _ => ∃ a m t k, ds = [.loc a, .int k] ∧ S a = some m ∧ PenM m t ∧ Mid t ∧ 1 ≤ k ∧ k ≤ 100000 ∧ ∀ i m', PenM m' (t + 1000) → P (.int i) (S.set a m')
def C__law_rising_rows : Ct := fun ds S P _ => ∃ a m t k, ds = [.loc a, .int k] ∧ S a = some m ∧ PenM m t ∧ Mid t ∧ 1 ≤ k ∧ k ≤ 1000 ∧ ∀ (r : List Int) m', (r.length : Int) = k → PenM m' (t + 10000) → P (intsD r) (S.set a m')
def C__law_piece_rows : Ct := fun ds S P _ => ∃ a m t k, ds = [.loc a, .int k] ∧ S a = some m ∧ PenM m t ∧ Mid t ∧ 1 ≤ k ∧ k ≤ 1000 ∧ ∀ (r : List Int) m', (r.length : Int) = k → PenM m' (t + 10000) → P (intsD r) (S.set a m')
def C__law_rows : Ct := fun ds S P _ => ∃ a m t k, ds = [.loc a, .int k] ∧ S a = some m ∧ PenM m t ∧ Low t ∧ 1 ≤ k ∧ k ≤ 1000 ∧ ∀ (r : List Int) m', 0 < r.length → ((r.length : Int) ≤ k ∨ r.length ≤ 12) → PenM m' (t + 20000) → P (intsD r) (S.set a m')
def C__law_at : Ct := fun ds S P _ => ∃ (r : List Int) (x : Int), ds = [intsD r, .int x] ∧ 0 < r.length ∧ r.length ≤ 1000000 ∧ P (.int (x + ofs r x)) S
def C__law_least_rows : Ct := fun ds S P _ => ∃ r : List Int, ds = [intsD r] ∧ 0 < r.length ∧ r.length ≤ 1000000 ∧ P (intsD (lr r)) S
def C__law_common : Ct := fun ds S P _ => ∃ r s : List Int, ds = [intsD r, intsD s] ∧ 0 < r.length ∧ r.length ≤ 1000000 ∧ 0 < s.length ∧ s.length ≤ 1000000 ∧ P (.int (com (lp r) (lp s))) S
def C__law_then : Ct := fun ds S P _ => ∃ r s : List Int, ds = [intsD r, intsD s] ∧ 0 < r.length ∧ r.length ≤ 1000000 ∧ 0 < s.length ∧ s.length ≤ 1000000 ∧ com (lp r) (lp s) ≤ 1000000 ∧ P (intsD (row (cmp (ofs r) (ofs s)) (com (lp r) (lp s)))) S
def C__law_map (K : Frag) : Ct := fun ds S P _ => ∃ r : List Int, ds = [intsD r] ∧ 0 < r.length ∧ r.length ≤ 200000 ∧ P (mapD K (lr r)) S
/-! ### law k75 -/
def C__law_alike : Ct := fun ds S P _ => ∃ r s : List Int, ds = [intsD r, intsD s] ∧ 0 < r.length ∧ r.length ≤ 1000000 ∧ 0 < s.length ∧ s.length ≤ 1000000 ∧ (ofs r = ofs s → P (.bl true) S) ∧ (ofs r ≠ ofs s → P (.bl false) S)
def C__law_is_short (K : Frag) : Ct := fun ds S P _ => ∃ h r s : List Int, ds = [mapD K h, intsD r, intsD s] ∧ Mp h ∧ 0 < r.length ∧ r.length ≤ 1000000 ∧ 0 < s.length ∧ s.length ≤ 1000000 ∧ h.length ∣ com (lp r) (lp s) ∧ P (.bl true) S
/-- two rows that are compared -/
structure Two (r s : List Int) : Prop where
  r0 : 0 < r.length
  r1 : r.length ≤ 200000
  s0 : 0 < s.length
  s1 : s.length ≤ 200000
  c : com (lp r) (lp s) ≤ 200000
def C__law_follows : Ct := fun ds S P _ => ∃ r s : List Int, ds = [intsD r, intsD s] ∧ Two r s ∧ P (.bl (conQ (ofs r) (ofs s) (com (lp r) (lp s))).isNone) S
def C__law_following_right (K : Frag) : Ct := fun ds S P _ => ∃ r s : List Int, ds = [intsD r, intsD s] ∧ Two r s ∧ P (.bl true) S
def C__law_leading_right (K : Frag) : Ct := fun ds S P _ => ∃ r s : List Int, ds = [intsD r, intsD s] ∧ Two r s ∧ P (.bl true) S
def C__law_long_right (K : Frag) : Ct := fun ds S P _ => ∃ a m t, ds = [.loc a] ∧ S a = some m ∧ PenM m t ∧ Low t ∧ ∀ m', P (.bl true) (S.set a m')
def C__law_late_rows : Ct := fun ds S P _ => ∃ a m t, ds = [.loc a] ∧ S a = some m ∧ PenM m t ∧ Low t ∧ ∀ (r s : List Int) m', 1100 ≤ r.length → r.length ≤ 2000 → s.length = r.length → lp r = 1 → PenM m' (t + 10) → P (.tup [intsD r, intsD s]) (S.set a m')
def C_law (K : Frag) : Ct := fun ds S P _ => ∃ ns : List Int, ds = [.klst (ns.map .int)] ∧ ns.length < 2 ^ 62 ∧ ∀ S', P (.bl true) S'
end Y

set_option maxHeartbeats 1900000
/-! YM7: what the defs of law k77 promise. -/
namespace Y
open PySem L2 DL PyProof.Rows YM
def C_joined_offsets : Ct := fun ds S P _ => ∃ a b : List Int, ds = [intsD a, intsD b] ∧ 0 < b.length ∧ a.length ≤ 200000 ∧ b.length = a.length ∧ P (intsD (jo a b)) S
def C_DayMap_identity (K : Frag) : Ct := fun ds S P _ => ds = [.raw (mapA K)] ∧ P (mapD K [0]) S
def C_DayMap_shift (K : Frag) : Ct := fun ds S P _ => ∃ x : Int, ds = [.raw (mapA K), .int x] ∧ P (mapD K [x]) S
abbrev dd_DayMap_identity : List D := []
abbrev dd_DayMap_shift : List D := []
def natsD (s : List Nat) : D := .lst (s.map fun (i : Nat) => D.int (i : Int))
/-- the same function -/
noncomputable def isG (f g : Int → Int) : Bool := @decide (f = g) (Classical.propDecidable _)
theorem isG_t {f g : Int → Int} (h : f = g) : isG f g = true := by unfold isG; simp [h]
theorem isG_f {f g : Int → Int} (h : ¬ f = g) : isG f g = false := by unfold isG; simp [h]
/-- the first spelling of all up to the bound -/
noncomputable def spellQ (g : List Int) (ws : List (List Int)) (m : Nat) : Option (List Nat) := (lists ws.length m).find? fun s => isG (prodF (ws.map ofs) s) (ofs g)
noncomputable def spellD (g : List Int) (ws : List (List Int)) (m : Nat) : D := match spellQ g ws m with
  | some s => natsD s
  | none => .non
def C_spelled (K : Frag) : Ct := fun ds S P PX => ∃ (g : List Int) (ws : List (List Int)) (w : D) (m : Nat), ds = [mapD K g, w, .int m] ∧ (w = .lst (ws.map (mapD K)) ∨ w = .tup (ws.map (mapD K))) ∧ Mp g ∧ (∀ r ∈ ws, Mp r) ∧ ws.length ≤ 4 ∧ m ≤ 4 ∧
  (coms (g :: ws) ≤ 200000 → P (spellD g ws m) S) ∧ (200000 < coms (g :: ws) → TL K PX S)
def C__law_lists : Ct := fun ds S P _ => ∃ k m : Nat, ds = [.int k, .int m] ∧ k ≤ 4 ∧ m ≤ 4 ∧ P (.lst ((lists k m).map natsD)) S
def C__law_product : Ct := fun ds S P _ => ∃ (ws : List (List Int)) (s : List Nat) (n : Nat), ds = [.lst (ws.map intsD), natsD s] ∧ (∀ i ∈ s, i < ws.length) ∧ (∀ r ∈ ws, 0 < r.length ∧ r.length ≤ 1000000 ∧ lp r ∣ n) ∧ 0 < n ∧ n ≤ 1000000 ∧ ws.length ≤ 100 ∧ s.length ≤ 100 ∧
  ∀ r : List Int, Lst r → r.length ∣ n → ofs r = prodF (ws.map ofs) s → P (intsD r) S
end Y

set_option maxHeartbeats 1900000
/-! Y77A: the readings (printed by gen2.py). -/
namespace Y
open PySem L2 DL PyProof.Rows
def t_is_integer (K : Frag) : TS := (tRet (tAndV (tCB (rIsi K) (tCons (tVar 0) (tCons (tC (.ty "int")) tNil))) (tNotV (tCB (rIsi K) (tCons (tVar 0) (tCons (tC (.ty "bool")) tNil))))))
abbrev N_is_integer : List Str := ["value"]
def t_is_period (K : Frag) : TS := (tRet (tAndV (tCall (spD K C_is_integer) [] E0 (tCons (tVar 0) tNil)) (tChain rLeI rLeI (tC (.int 1)) (tVar 0) (tC (.int 200000)))))
abbrev N_is_period : List Str := ["value"]
def b1_common_divisor (K : Frag) : TS := (tPar 0 1 (tCons (tVar 1) (tCons (tOp rModI (tVar 0) (tVar 1)) tNil)))
def t_common_divisor (K : Frag) : TS := (tSeq (tPar 0 1 (tCons (tCB rAbs (tCons (tVar 0) tNil)) (tCons (tCB rAbs (tCons (tVar 1) tNil)) tNil))) (tSeq (tWhile (tTest (tOp rGtI (tVar 1) (tC (.int 0)))) (b1_common_divisor K)) (tRet (tVar 0))))
abbrev N_common_divisor : List Str := ["one", "other"]
def t_common_multiple (K : Frag) : TS := (tRet (tOp rMulI (tOp rDivI (tVar 0) (tCall (spD K C_common_divisor) [] E0 (tCons (tVar 0) (tCons (tVar 1) tNil)))) (tVar 1)))
abbrev N_common_multiple : List Str := ["one", "other"]
def t_common_period (K : Frag) (E : XK) : TS := (tSeq (tAsg (tCall (spD K C_common_multiple) [] E0 (tCons (tVar 0) (tCons (tVar 1) tNil))) (gName 2)) (tSeq (tIfS (tTest (tOp rGtI (tVar 2) (tC (.int 200000)))) (ErrB.tRaiseE (He.ga K "TooLong") "limit" (wE E) (tCons (tC (.int 200000)) tNil)) tNext) (tRet (tVar 2))))
abbrev N_common_period : List Str := ["one", "other", "found"]
def b1_least_period (K : Frag) : TS := (tIfS (tTest (tOp rEq (tOp rModI (tVar 2) (tVar 3)) (tC (.int 0)))) (tSeq (tPar 2 4 (tCons (tOp rDivI (tVar 2) (tVar 3)) (tCons (tOp rDivI (tVar 1) (tVar 3)) tNil))) (tIfS (tAnd (tTest (tOp rEq (tOp (rIxL K) (tVar 0) (tC (.int 0))) (tOp (rIxL K) (tVar 0) (tVar 4)))) (tTest (tOp (rEqD K) (tSl (rSlL K) (tVar 0) (tPart (tVar 4)) tNoPart) (tSl (rSlL K) (tVar 0) tNoPart (tPart (tUn rNeg (tVar 4))))))) (tAsg (tVar 4) (gName 1)) tNext)) (tAsg (tIf (tTest (tOp rLeI (tOp rMulI (tVar 3) (tVar 3)) (tVar 2))) (tOp rAddI (tVar 3) (tC (.int 1))) (tVar 2)) (gName 3)))
def t_least_period (K : Frag) : TS := (tSeq (tPar3 1 2 3 (tCons (tCB (rLenSeq K) (tCons (tVar 0) tNil)) (tCons (tCB (rLenSeq K) (tCons (tVar 0) tNil)) (tCons (tC (.int 2)) tNil)))) (tSeq (tWhile (tTest (tOp rGtI (tVar 2) (tC (.int 1)))) (b1_least_period K)) (tRet (tVar 1))))
abbrev N_least_period : List Str := ["rows", "found", "rest", "prime", "days"]
def t_joined_offsets (K : Frag) : TS := (tRet (tLc (iEnum K (tCons (tVar 0) tNil)) (gTup K 2 (gCons (gName 2) (gCons (gName 3) gNil))) tYes (tOp rAddI (tVar 3) (tOp (rIxL K) (tVar 1) (tOp rModI (tOp rAddI (tVar 2) (tVar 3)) (tCB (rLenSeq K) (tCons (tVar 1) tNil))))) [2, 3]))
abbrev N_joined_offsets : List Str := ["one", "other", "date", "offset"]
def t_DayMap___init__ (K : Frag) : TS := (tSeq (tIfS (tNot (tB (tCall (spD K C_is_period) [] E0 (tCons (tVar 1) tNil)))) tNever tNext) (tSeq (tIfS (tOr (tNot (tB (tCB (rIsiT K) (tCons (tVar 2) (tCons (tTup (tCons (tC (.ty "list")) (tCons (tC (.ty "tuple")) tNil))) tNil))))) (tTest (tOp rNe (tCB (rLenSeq K) (tCons (tVar 2) tNil)) (tVar 1)))) tNever tNext) (tSeq (tIfS (tNot (tB (tCB (rAll K) (tCons (tLc (iList K (tVar 2)) (gName 4) tYes (tCall (spD K C_is_integer) [] E0 (tCons (tVar 4) tNil)) [4]) tNil)))) tNever tNext) (tSeq (tAsg (tCB (rListOf K) (tCons (tVar 2) tNil)) (gName 3)) (sFld K (tVar 0) (tSl (rSlL K) (tVar 3) tNoPart (tPart (tCall (spD K C_least_period) [] E0 (tCons (tVar 3) tNil)))) "rows")))))
abbrev N_DayMap___init__ : List Str := ["self", "period", "offsets", "rows", "offset"]
def t_DayMap_table (K : Frag) : TS := (tRet (tCB (rListOf K) (tCons (tFld K (tVar 0) "rows") tNil)))
abbrev N_DayMap_table : List Str := ["self"]
def t_Map_offsets (K : Frag) : TS := (tSeq (tAsg (tMeth (He.ga K "DayMap") "table" (spD K (C_DayMap_table K)) [] E0 (tVar 0) tNil) (gName 1)) (tRet (tCB (rTupOf K) (tCons (tSl (rSlL K) (tVar 1) tNoPart (tPart (tCall (spD K C_least_period) [] E0 (tCons (tVar 1) tNil)))) tNil))))
abbrev N_Map_offsets : List Str := ["self", "rows"]
def t_Map___eq__ (K : Frag) : TS := (tRet (tAndV (tCB (rIsi K) (tCons (tVar 1) (tCons (tC (.ref (He.ga K "Map"))) tNil))) (tOp (rEqD K) (tPropD K (He.ga K "DayMap") (C_Map_offsets K) (tVar 0)) (tPropD K (He.ga K "DayMap") (C_Map_offsets K) (tVar 1)))))
abbrev N_Map___eq__ : List Str := ["self", "other"]
def t_DayMap_identity (K : Frag) : TS := (tRet (LX.tMakeL 0 (He.ga K "DayMap") (spD K (C_DayMap___init__ K)) E0 (tCons (tC (.int 1)) (tCons (tLst (tCons (tC (.int 0)) tNil)) tNil))))
abbrev N_DayMap_identity : List Str := ["cls"]
def t_DayMap_shift (K : Frag) : TS := (tRet (LX.tMakeL 0 (He.ga K "DayMap") (spD K (C_DayMap___init__ K)) E0 (tCons (tC (.int 1)) (tCons (tLst (tCons (tVar 1) tNil)) tNil))))
abbrev N_DayMap_shift : List Str := ["cls", "days"]
def b1_shared_values (K : Frag) (E : XK) : TS := (tAsg (tCall (spD K (C_common_period K)) [] E (tCons (tVar 2) (tCons (tCB (rLenSeq K) (tCons (tVar 3) tNil)) tNil))) (gName 2))
def t_shared_values (K : Frag) (E : XK) : TS := (tSeq (tAsg (tTup (tCons (tLc (iList K (tVar 0)) (gName 4) tYes (tPropD K (He.ga K "DayMap") (C_Map_offsets K) (tVar 4)) [4]) (tCons (tC (.int 1)) tNil))) (gTup K 2 (gCons (gName 1) (gCons (gName 2) gNil)))) (tSeq (tFor (iList K (tVar 1)) (gName 3) (b1_shared_values K E)) (tRet (tTup (tCons (tVar 2) (tCons (tLc (iList K (tVar 1)) (gName 3) tYes (tLc (iRng1 (tCons (tVar 2) tNil)) (gName 5) tYes (tOp rAddI (tVar 5) (tOp (rIxT K) (tVar 3) (tOp rModI (tVar 5) (tCB (rLenSeq K) (tCons (tVar 3) tNil))))) [5]) [3]) tNil))))))
abbrev N_shared_values : List Str := ["maps", "rows", "days", "offsets", "one", "date"]
def b1_spelled (K : Frag) (E : XK) : TS := (tSeq (tAsg (tCB (rTupOf K) (tCons (tCall (spD K C_joined_offsets) [] E0 (tCons (tCB (rListOf K) (tCons (tVar 12) tNil)) (tCons (tVar 14) tNil))) tNil)) (gName 15)) (tIfS (tB (tDNotIn (tVar 15) (tVar 8))) (tSeq (sDPut (tVar 8) (tVar 15) (tOp rCat (tDGet (tVar 8) (tVar 12)) (tLst (tCons (tVar 13) tNil)))) (tDrop (tBM K "list" rAppend (tVar 11) (tCons (tVar 15) tNil)))) tNext))
def b2_spelled (K : Frag) (E : XK) : TS := (tFor (iEnum K (tCons (tVar 7) tNil)) (gTup K 2 (gCons (gName 13) (gCons (gName 14) gNil))) (b1_spelled K E))
def b3_spelled (K : Frag) (E : XK) : TS := (tSeq (tAsg (tLstM tNil) (gName 11)) (tSeq (tFor (iList K (tVar 9)) (gName 12) (b2_spelled K E)) (tAsg (tVar 11) (gName 9))))
def t_spelled (K : Frag) (E : XK) : TS := (tSeq (tAsg (tCall (spD K (C_shared_values K)) [] E (tCons (tLst (tCons (tVar 0) (StX.tStar K (tVar 1) tNil))) tNil)) (gTup K 2 (gCons (gName 3) (gCons (LX.gStar1 K (gName 4) (gName 5)) gNil)))) (tSeq (tAsg (tCB (rTupOf K) (tCons (tLc (iEnum K (tCons (tVar 4) tNil)) (gTup K 2 (gCons (gName 16) (gCons (gName 17) gNil))) tYes (tOp rSubI (tVar 17) (tVar 16)) [16, 17]) tNil)) (gName 6)) (tSeq (tAsg (tLc (iList K (tVar 5)) (gName 18) tYes (tLc (iEnum K (tCons (tVar 18) tNil)) (gTup K 2 (gCons (gName 16) (gCons (gName 17) gNil))) tYes (tOp rSubI (tVar 17) (tVar 16)) [16, 17]) [18]) (gName 7)) (tSeq (tAsg (LX.tDispT (tOp (LX.rRepW K) (tTup (tCons (tC (.int 0)) tNil)) (tVar 3)) (tLst tNil)) (gName 8)) (tSeq (tAsg (tCB LX.rListDT (tCons (tVar 8) tNil)) (gName 9)) (tSeq (tFor (iRng1 (tCons (tVar 2) tNil)) (gName 10) (b3_spelled K E)) (tRet (tDGet1 (tVar 8) (tVar 6)))))))))
abbrev N_spelled : List Str := ["goal", "words", "most", "days", "wanted", "rows", "due", "steps", "found", "newest", "length", "fresh", "offsets", "index", "step", "longer", "date", "value", "values"]
def t__law_pen (K : Frag) : TS := (tRet (tDisp [((tC (.str "cells")), (tCB (rListOf K) (tCons (tSl (rSlL K) (tVar 0) tNoPart (tPart (tC (.int 63)))) tNil))), ((tC (.str "turn")), (tC (.int 0))), ((tC (.str "left")), (tC (.int 0)))]))
abbrev N__law_pen : List Str := ["_law_script"]
def t__law_draw (K : Frag) : TS := (tSeq (tIfS (tTest (tOp rGtI (tDGet (tVar 0) (tC (.str "left"))) (tC (.int 0)))) (tSeq (tAsg (tOp rModI (tDGet (tVar 0) (tC (.str "left"))) (tVar 1)) (gName 2)) (tSeq (sDPut (tVar 0) (tC (.str "left")) (tOp rDivI (tDGet (tVar 0) (tC (.str "left"))) (tVar 1))) (tRet (tVar 2)))) tNext) (tSeq (tAsg (tDGet (tVar 0) (tC (.str "turn"))) (gName 3)) (tSeq (sDPut (tVar 0) (tC (.str "turn")) (tOp rAddI (tVar 3) (tC (.int 1)))) (tSeq (tAsg (tOp rAddI (tOp rMulI (tC (.int 43)) (tVar 3)) (tC (.int 19))) (gName 4)) (tSeq (tIfS (tTest (tOp (rNeD K) (tDGet (tVar 0) (tC (.str "cells"))) (tLst tNil))) (tAsg (tOp (rIxL K) (tDGet (tVar 0) (tC (.str "cells"))) (tOp rModI (tVar 3) (tCB (rLenSeq K) (tCons (tDGet (tVar 0) (tC (.str "cells"))) tNil)))) (gName 4)) tNext) (tSeq (tIfS (tAnd (tTest (tOp rLtI (tVar 3) (tCB (rLenSeq K) (tCons (tDGet (tVar 0) (tC (.str "cells"))) tNil)))) (tTest (tOp rGeI (tCB rAbs (tCons (tVar 4) tNil)) (tOp rPowI (tC (.int 10)) (tC (.int 18)))))) (tSeq (sDPut (tVar 0) (tC (.str "left")) (tOp rDivI (tOp rSubI (tCB rAbs (tCons (tVar 4) tNil)) (tOp rPowI (tC (.int 10)) (tC (.int 18)))) (tVar 1))) (tRet (tOp rModI (tOp rSubI (tCB rAbs (tCons (tVar 4) tNil)) (tOp rPowI (tC (.int 10)) (tC (.int 18)))) (tVar 1)))) tNext) (tSeq (tAsg (tLst (tCons (tC (.int 2147483629)) (tCons (tC (.int 2147483647)) (tCons (tC (.int 2147483587)) (tCons (tC (.int 2147483563)) (tCons (tC (.int 2147483579)) tNil)))))) (gName 5)) (tSeq (tAsg (tOp (rIxL K) (tVar 5) (tOp rModI (tVar 3) (tC (.int 5)))) (gName 6)) (tSeq (tAsg (tOp rModI (tOp rAddI (tOp rAddI (tOp rAddI (tOp rMulI (tOp rModI (tVar 4) (tVar 6)) (tC (.int 39373))) (tOp rMulI (tOp rMulI (tC (.int 30011)) (tVar 3)) (tVar 3))) (tOp rMulI (tC (.int 8117)) (tVar 3))) (tC (.int 23))) (tVar 6)) (gName 7)) (tSeq (tAsg (tOp rModI (tOp rMulI (tVar 7) (tOp rAddI (tVar 7) (tC (.int 69621)))) (tOp (rIxL K) (tVar 5) (tOp rModI (tOp rAddI (tVar 3) (tC (.int 2))) (tC (.int 5))))) (gName 7)) (tRet (tOp rModI (tOp rDivI (tOp rModI (tOp rAddI (tOp rAddI (tOp rMulI (tVar 7) (tVar 7)) (tOp rMulI (tC (.int 16807)) (tVar 7))) (tVar 3)) (tC (.int 2147483549))) (tC (.int 64))) (tVar 1)))))))))))))
abbrev N__law_draw : List Str := ["_law_pen_here", "_law_many", "_law_digit", "_law_turn", "_law_cell", "_law_primes", "_law_prime", "_law_drawn"]
def t__law_pick (K : Frag) : TS := (tRet (tOp (rIxL K) (tVar 1) (tCall (spD K C__law_draw) [] E0 (tCons (tVar 0) (tCons (tCB (rLenSeq K) (tCons (tVar 1) tNil)) tNil)))))
abbrev N__law_pick : List Str := ["_law_pen_here", "_law_options"]
def b1__law_shuffled (K : Frag) : TS := (tDrop (tBM K "list" rAppend (tVar 3) (tCons (tBM K "list" rPopAt (tVar 2) (tCons (tCall (spD K C__law_draw) [] E0 (tCons (tVar 0) (tCons (tCB (rLenSeq K) (tCons (tVar 2) tNil)) tNil))) tNil)) tNil)))
def t__law_shuffled (K : Frag) : TS := (tSeq (tPar 2 3 (tCons (tCB (rListOf K) (tCons (tVar 1) tNil)) (tCons (tLstM tNil) tNil))) (tSeq (tWhile (tTest (tOp (rNeD K) (tVar 2) (tLst tNil))) (b1__law_shuffled K)) (tRet (tVar 3))))
abbrev N__law_shuffled : List Str := ["_law_pen_here", "_law_items", "_law_left", "_law_found"]
def b1__law_gcd (K : Frag) : TS := (tPar 0 1 (tCons (tVar 1) (tCons (tOp rModI (tVar 0) (tVar 1)) tNil)))
def t__law_gcd (K : Frag) : TS := (tSeq (tPar 0 1 (tCons (tCB rAbs (tCons (tVar 0) tNil)) (tCons (tCB rAbs (tCons (tVar 1) tNil)) tNil))) (tSeq (tWhile (tTest (tOp rGtI (tVar 1) (tC (.int 0)))) (b1__law_gcd K)) (tRet (tVar 0))))
abbrev N__law_gcd : List Str := ["_law_left", "_law_right"]
def b1__law_rising_rows (K : Frag) : TS := (tDrop (tBM K "list" rInsert (tVar 3) (tCons (tCB (rLenSeq K) (tCons (tLc (iList K (tVar 3)) (gName 7) (tTest (tOp rLeI (tVar 7) (tVar 5))) (tVar 7) [7]) tNil)) (tCons (tVar 5) tNil))))
def t__law_rising_rows (K : Frag) : TS := (tSeq (tAsg (tTup (tCons (tOp rSubI (tCall (spD K C__law_draw) [] E0 (tCons (tVar 0) (tCons (tOp rAddI (tOp rMulI (tC (.int 4)) (tVar 1)) (tC (.int 1))) tNil))) (tOp rMulI (tC (.int 2)) (tVar 1))) (tCons (tLstM tNil) tNil))) (gTup K 2 (gCons (gName 2) (gCons (gName 3) gNil)))) (tSeq (tAsg (tLc (iRng1 (tCons (tVar 1) tNil)) (gName 6) tYes (tCall (spD K C__law_draw) [] E0 (tCons (tVar 0) (tCons (tOp rAddI (tVar 1) (tC (.int 1))) tNil))) [6]) (gName 4)) (tSeq (tFor (iList K (tVar 4)) (gName 5) (b1__law_rising_rows K)) (tRet (tLc (iRng1 (tCons (tVar 1) tNil)) (gName 6) tYes (tOp rSubI (tOp rAddI (tVar 2) (tOp (rIxL K) (tVar 3) (tVar 6))) (tVar 6)) [6])))))
abbrev N__law_rising_rows : List Str := ["_law_pen_here", "_law_span", "_law_base", "_law_ascending", "_law_goals", "_law_item", "_law_spot", "_law_before"]
def b1__law_piece_rows (K : Frag) : TS := (tSeq (tAsg (tTup (tCons (tOp rAddI (tC (.int 1)) (tCall (spD K C__law_draw) [] E0 (tCons (tVar 0) (tCons (tOp rSubI (tVar 1) (tCB (rLenSeq K) (tCons (tVar 2) tNil))) tNil)))) (tCons (tOp rSubI (tCall (spD K C__law_draw) [] E0 (tCons (tVar 0) (tCons (tOp rAddI (tOp rMulI (tC (.int 2)) (tVar 1)) (tC (.int 1))) tNil))) (tVar 1)) tNil))) (gTup K 2 (gCons (gName 3) (gCons (gName 4) gNil)))) (tIfS (tTest (tOp rEq (tCall (spD K C__law_draw) [] E0 (tCons (tVar 0) (tCons (tC (.int 2)) tNil))) (tC (.int 0)))) (tAsg (tOp rCat (tVar 2) (tOp rRep (tLst (tCons (tVar 4) tNil)) (tVar 3))) (gName 2)) (tAsg (tOp rCat (tVar 2) (tLc (iRng1 (tCons (tVar 3) tNil)) (gName 5) tYes (tOp rSubI (tVar 4) (tVar 5)) [5])) (gName 2))))
def t__law_piece_rows (K : Frag) : TS := (tSeq (tAsg (tLst tNil) (gName 2)) (tSeq (tWhile (tTest (tOp rLtI (tCB (rLenSeq K) (tCons (tVar 2) tNil)) (tVar 1))) (b1__law_piece_rows K)) (tRet (tVar 2))))
abbrev N__law_piece_rows : List Str := ["_law_pen_here", "_law_span", "_law_rows_here", "_law_size", "_law_number", "_law_step"]
def t__law_rows (K : Frag) : TS := (tSeq (tAsg (tTup (tCons (tOp rAddI (tC (.int 1)) (tCall (spD K C__law_draw) [] E0 (tCons (tVar 0) (tCons (tVar 1) tNil)))) (tCons (tCall (spD K C__law_draw) [] E0 (tCons (tVar 0) (tCons (tC (.int 6)) tNil))) tNil))) (gTup K 2 (gCons (gName 2) (gCons (gName 3) gNil)))) (tSeq (tIfS (tTest (tOp rEq (tVar 3) (tC (.int 0)))) (tSeq (tAsg (tCall (spD K C__law_pick) [] E0 (tCons (tVar 0) (tCons (tLst (tCons (tC (.int 0)) (tCons (tC (.int 1)) (tCons (tC (.int 2)) (tCons (tVar 2) (tCons (tOp rAddI (tOp rMulI (tC (.int 3)) (tVar 2)) (tC (.int 1))) tNil)))))) tNil))) (gName 4)) (tRet (tLc (iRng1 (tCons (tVar 2) tNil)) (gName 7) tYes (tOp rSubI (tCall (spD K C__law_draw) [] E0 (tCons (tVar 0) (tCons (tOp rAddI (tOp rMulI (tC (.int 2)) (tVar 4)) (tC (.int 1))) tNil))) (tVar 4)) [7]))) tNext) (tSeq (tIfS (tTest (tOp rEq (tVar 3) (tC (.int 1)))) (tRet (tCall (spD K C__law_rising_rows) [] E0 (tCons (tVar 0) (tCons (tVar 2) tNil)))) tNext) (tSeq (tIfS (tTest (tOp rEq (tVar 3) (tC (.int 2)))) (tSeq (tAsg (tCall (spD K C__law_shuffled) [] E0 (tCons (tVar 0) (tCons (tLstRgA (tRg1 (tVar 2))) tNil))) (gName 5)) (tRet (tLc (iRng1 (tCons (tVar 2) tNil)) (gName 7) tYes (tOp rAddI (tOp rSubI (tOp (rIxL K) (tVar 5) (tVar 7)) (tVar 7)) (tOp rMulI (tVar 2) (tOp rSubI (tCall (spD K C__law_draw) [] E0 (tCons (tVar 0) (tCons (tC (.int 3)) tNil))) (tC (.int 1))))) [7]))) tNext) (tSeq (tIfS (tTest (tOp rEq (tVar 3) (tC (.int 3)))) (tSeq (tAsg (tLc (iRng1 (tCons (tOp rAddI (tC (.int 1)) (tCall (spD K C__law_draw) [] E0 (tCons (tVar 0) (tCons (tC (.int 3)) tNil)))) tNil)) (gName 7) tYes (tOp rSubI (tCall (spD K C__law_draw) [] E0 (tCons (tVar 0) (tCons (tC (.int 7)) tNil))) (tC (.int 3))) [7]) (gName 6)) (tRet (tOp rRep (tVar 6) (tOp rAddI (tC (.int 1)) (tCall (spD K C__law_draw) [] E0 (tCons (tVar 0) (tCons (tC (.int 4)) tNil))))))) tNext) (tSeq (tIfS (tTest (tOp rEq (tVar 3) (tC (.int 4)))) (tRet (tLc (iRng1 (tCons (tVar 2) tNil)) (gName 7) tYes (tCall (spD K C__law_pick) [] E0 (tCons (tVar 0) (tCons (tLst (tCons (tC (.int 1)) (tCons (tC (.int 1)) (tCons (tC (.int 1)) (tCons (tC (.int 0)) (tCons (tUn rNeg (tC (.int 1))) tNil)))))) tNil))) [7])) tNext) (tRet (tCall (spD K C__law_piece_rows) [] E0 (tCons (tVar 0) (tCons (tVar 2) tNil))))))))))
abbrev N__law_rows : List Str := ["_law_pen_here", "_law_top", "_law_span", "_law_road", "_law_far", "_law_goals", "_law_few", "_law_spot"]
def t__law_at (K : Frag) : TS := (tRet (tOp rAddI (tVar 1) (tOp (rIxL K) (tVar 0) (tOp rModI (tVar 1) (tCB (rLenSeq K) (tCons (tVar 0) tNil))))))
abbrev N__law_at : List Str := ["_law_rows_here", "_law_spot"]
def b1__law_least_rows (K : Frag) : TS := (tIfS (tAnd (tTest (tOp rEq (tOp rModI (tCB (rLenSeq K) (tCons (tVar 0) tNil)) (tVar 1)) (tC (.int 0)))) (tTest (tOp (rEqD K) (tVar 0) (tOp rRep (tSl (rSlL K) (tVar 0) tNoPart (tPart (tVar 1))) (tOp rDivI (tCB (rLenSeq K) (tCons (tVar 0) tNil)) (tVar 1)))))) (tRet (tSl (rSlL K) (tVar 0) tNoPart (tPart (tVar 1)))) tNext)
def t__law_least_rows (K : Frag) : TS := (tSeq (tFor (iRng2 (tCons (tC (.int 1)) (tCons (tOp rAddI (tCB (rLenSeq K) (tCons (tVar 0) tNil)) (tC (.int 1))) tNil))) (gName 1) (b1__law_least_rows K)) (tRet (tVar 0)))
abbrev N__law_least_rows : List Str := ["_law_rows_here", "_law_span"]
def t__law_common (K : Frag) : TS := (tSeq (tPar 2 3 (tCons (tCB (rLenSeq K) (tCons (tCall (spD K C__law_least_rows) [] E0 (tCons (tVar 0) tNil)) tNil)) (tCons (tCB (rLenSeq K) (tCons (tCall (spD K C__law_least_rows) [] E0 (tCons (tVar 1) tNil)) tNil)) tNil))) (tRet (tOp rMulI (tOp rDivI (tVar 2) (tCall (spD K C__law_gcd) [] E0 (tCons (tVar 2) (tCons (tVar 3) tNil)))) (tVar 3))))
abbrev N__law_common : List Str := ["_law_rows_here", "_law_more", "_law_left", "_law_right"]
def t__law_then (K : Frag) : TS := (tRet (tLc (iRng1 (tCons (tCall (spD K C__law_common) [] E0 (tCons (tVar 0) (tCons (tVar 1) tNil))) tNil)) (gName 2) tYes (tOp rSubI (tCall (spD K C__law_at) [] E0 (tCons (tVar 1) (tCons (tCall (spD K C__law_at) [] E0 (tCons (tVar 0) (tCons (tVar 2) tNil))) tNil))) (tVar 2)) [2]))
abbrev N__law_then : List Str := ["_law_rows_here", "_law_more", "_law_spot"]
def t__law_map (K : Frag) : TS := (tRet (tMake (He.ga K "DayMap") (spD K (C_DayMap___init__ K)) [] E0 (tCons (tCB (rLenSeq K) (tCons (tVar 0) tNil)) (tCons (tVar 0) tNil))))
abbrev N__law_map : List Str := ["_law_rows_here"]
def b1__law_lists (K : Frag) : TS := (tDrop (tBM K "list" rExtend (tVar 5) (tCons (tLc (iRng1 (tCons (tVar 0) tNil)) (gName 7) tYes (tOp rCat (tVar 6) (tLst (tCons (tVar 7) tNil))) [7]) tNil)))
def b2__law_lists (K : Frag) : TS := (tSeq (tAsg (tLstM tNil) (gName 5)) (tSeq (tFor (iList K (tVar 3)) (gName 6) (b1__law_lists K)) (tPar 2 3 (tCons (tOp rCat (tVar 2) (tVar 5)) (tCons (tVar 5) tNil)))))
def t__law_lists (K : Frag) : TS := (tSeq (tPar 2 3 (tCons (tLst (tCons (tLst tNil) tNil)) (tCons (tLst (tCons (tLst tNil) tNil)) tNil))) (tSeq (tFor (iRng1 (tCons (tVar 1) tNil)) (gName 4) (b2__law_lists K)) (tRet (tVar 2))))
abbrev N__law_lists : List Str := ["_law_many", "_law_most", "_law_found", "_law_last", "_law_k", "_law_longer", "_law_one", "_law_index"]
def b1__law_product (K : Frag) : TS := (tAsg (tCall (spD K C__law_then) [] E0 (tCons (tVar 2) (tCons (tOp (rIxL K) (tVar 0) (tVar 3)) tNil))) (gName 2))
def t__law_product (K : Frag) : TS := (tSeq (tAsg (tLst (tCons (tC (.int 0)) tNil)) (gName 2)) (tSeq (tFor (iList K (tVar 1)) (gName 3) (b1__law_product K)) (tRet (tCall (spD K C__law_least_rows) [] E0 (tCons (tVar 2) tNil)))))
abbrev N__law_product : List Str := ["_law_words", "_law_spelling", "_law_rows_here", "_law_index"]
def t__law_limit (K : Frag) (act : XK → TE) : TS := (tSeq (tAsg (tC .non) (gName 1)) (tSeq (tTryKeep K (.ref (He.ga K "TooLong")) 2 3 (fun E => tDrop (act E)) (tAsg (tVar 2) (gName 1))) (tRet (tIf (tTest (tOp rNotN (tVar 1) (tC .non))) (tTup (tCons (LX.tKf (He.ga K "TooLong") "limit" (tVar 1)) (tCons (tCB (LX.rIsK K) (tCons (tVar 1) (tCons (tC (.ty "OverflowError")) tNil))) tNil))) (tC .non)))))
abbrev N__law_limit : List Str := ["_law_call", "_law_kept", "e"]
def t__law_long_right (K : Frag) : TS := (tSeq (tAsg (tCall (spD K C__law_pick) [] E0 (tCons (tVar 0) (tCons (tLst (tCons (tTup (tCons (tC (.int 449)) (tCons (tC (.int 447)) tNil))) (tCons (tTup (tCons (tC (.int 448)) (tCons (tC (.int 449)) tNil))) (tCons (tTup (tCons (tC (.int 625)) (tCons (tC (.int 321)) tNil))) tNil)))) tNil))) (gTup K 2 (gCons (gName 1) (gCons (gName 2) gNil)))) (tSeq (tAsg (tTup (tCons (tCall (spD K C__law_draw) [] E0 (tCons (tVar 0) (tCons (tCB rMin2 (tCons (tVar 1) (tCons (tVar 2) tNil))) tNil))) (tCons (tOp rAddI (tC (.int 1)) (tCall (spD K C__law_draw) [] E0 (tCons (tVar 0) (tCons (tC (.int 9)) tNil)))) tNil))) (gTup K 2 (gCons (gName 3) (gCons (gName 4) gNil)))) (tSeq (tAsg (tMake (He.ga K "DayMap") (spD K (C_DayMap___init__ K)) [] E0 (tCons (tVar 1) (tCons (tLc (iRng1 (tCons (tVar 1) tNil)) (gName 11) tYes (tOp rMulI (tVar 4) (tCB rInt1 (tCons (tOp rEq (tVar 11) (tVar 3)) tNil))) [11]) tNil))) (gName 5)) (tSeq (tAsg (tMake (He.ga K "DayMap") (spD K (C_DayMap___init__ K)) [] E0 (tCons (tVar 2) (tCons (tLc (iRng1 (tCons (tVar 2) tNil)) (gName 11) tYes (tOp rMulI (tVar 4) (tCB rInt1 (tCons (tOp rEq (tVar 11) (tVar 3)) tNil))) [11]) tNil))) (gName 6)) (tSeq (tAsg (tTup (tCons (tCMeth0 (He.ga K "DayMap") (spDD K (C_DayMap_identity K) dd_DayMap_identity) E0 (tC (.ref (He.ga K "DayMap")))) (tCons (tCall (spD K C__law_draw) [] E0 (tCons (tVar 0) (tCons (tC (.int 3)) tNil))) tNil))) (gTup K 2 (gCons (gName 7) (gCons (gName 8) gNil)))) (tSeq (tIfS (tTest (tOp (rNeD K) (LamX.tLam (tabsOf K) (tTG N__law_limit (lamQual "_law_long_right") (t__law_limit K)) (fun E => (tCall (spD K (C_spelled K)) [] E (tCons (tVar 5) (tCons (tLst (tCons (tVar 7) (tCons (tVar 6) tNil))) (tCons (tVar 8) tNil)))))) (tTup (tCons (tC (.int 200000)) (tCons (tC (.bl true)) tNil))))) (tRet (tC (.bl false))) tNext) (tSeq (tIfS (tTest (tOp (rNeD K) (LamX.tLam (tabsOf K) (tTG N__law_limit (lamQual "_law_long_right") (t__law_limit K)) (fun E => (tCall (spD K (C_spelled K)) [] E (tCons (tVar 7) (tCons (tLst (tCons (tVar 5) (tCons (tVar 7) (tCons (tVar 6) tNil)))) (tCons (tC (.int 0)) tNil)))))) (tTup (tCons (tC (.int 200000)) (tCons (tC (.bl true)) tNil))))) (tRet (tC (.bl false))) tNext) (tSeq (tAsg (tOp rAddI (tC (.int 1100)) (tCall (spD K C__law_draw) [] E0 (tCons (tVar 0) (tCons (tC (.int 300)) tNil)))) (gName 9)) (tSeq (tAsg (tMake (He.ga K "DayMap") (spD K (C_DayMap___init__ K)) [] E0 (tCons (tOp rAddI (tVar 9) (tC (.int 9))) (tCons (tLc (iRng1 (tCons (tOp rAddI (tVar 9) (tC (.int 9))) tNil)) (gName 11) tYes (tOp rMulI (tVar 4) (tCB rInt1 (tCons (tOp rEq (tVar 11) (tVar 9)) tNil))) [11]) tNil))) (gName 10)) (tSeq (tIfS (tOr (tTest (tOp (rNeD K) (tCall (spD K (C_spelled K)) [] E0 (tCons (tVar 10) (tCons (tLst (tCons (tVar 7) (tCons (ClX.tCMeth (He.ga K "DayMap") (spDD K (C_DayMap_shift K) dd_DayMap_shift) E0 (tC (.ref (He.ga K "DayMap"))) (tCons (tVar 4) tNil)) (tCons (tVar 10) tNil)))) (tCons (tC (.int 2)) tNil)))) (tLst (tCons (tC (.int 2)) tNil)))) (tTest (tOp (rNeD K) (tCall (spD K (C_spelled K)) [] E0 (tCons (tVar 7) (tCons (tLst (tCons (tVar 10) tNil)) (tCons (tC (.int 2)) tNil)))) (tLst tNil)))) (tRet (tC (.bl false))) tNext) (tRet (tOp (rEqD K) (tCall (spD K (C_spelled K)) [] E0 (tCons (tVar 5) (tCons (tLst (tCons (tVar 5) (tCons (tVar 7) tNil))) (tCons (tVar 8) tNil)))) (tIf (tTest (tOp rGtI (tVar 8) (tC (.int 0)))) (tLst (tCons (tC (.int 0)) tNil)) (tC .non))))))))))))))
abbrev N__law_long_right : List Str := ["_law_pen_here", "_law_size", "_law_other", "_law_at_here", "_law_number", "_law_left", "_law_right", "_law_still", "_law_most", "_law_late", "_law_far", "_law_spot"]
def b1_law (K : Frag) : TS := (tIfS (tAnd (tTest (tOp rIsN (tVar 7) (tC .non))) (tTest (tOp (rEqD K) (tCall (spD K C__law_product) [] E0 (tCons (tVar 3) (tCons (tVar 8) tNil))) (tCall (spD K C__law_least_rows) [] E0 (tCons (tVar 6) tNil))))) (tAsg (tVar 8) (gName 7)) tNext)
def b2_law (K : Frag) : TS := (tSeq (tAsg (tLc (iRng1 (tCons (tOp rAddI (tC (.int 1)) (tCall (spD K C__law_draw) [] E0 (tCons (tVar 1) (tCons (tC (.int 4)) tNil)))) tNil)) (gName 10) tYes (tCall (spD K C__law_rows) [] E0 (tCons (tVar 1) (tCons (tC (.int 5)) tNil))) [10]) (gName 3)) (tSeq (tAsg (tSl (rSlL K) (tOp rCat (tVar 3) (tOp rRep (tLst (tCons (tOp (rIxL K) (tVar 3) (tC (.int 0))) tNil)) (tCB rInt1 (tCons (tOp rEq (tCall (spD K C__law_draw) [] E0 (tCons (tVar 1) (tCons (tC (.int 3)) tNil))) (tC (.int 0))) tNil)))) tNoPart (tPart (tC (.int 4)))) (gName 3)) (tSeq (tAsg (tCall (spD K C__law_draw) [] E0 (tCons (tVar 1) (tCons (tIf (tTest (tOp rEq (tCB (rLenSeq K) (tCons (tVar 3) tNil)) (tC (.int 4)))) (tC (.int 4)) (tC (.int 5))) tNil))) (gName 4)) (tSeq (tAsg (tLc (iRng1 (tCons (tCall (spD K C__law_draw) [] E0 (tCons (tVar 1) (tCons (tC (.int 6)) tNil))) tNil)) (gName 10) tYes (tCall (spD K C__law_draw) [] E0 (tCons (tVar 1) (tCons (tCB (rLenSeq K) (tCons (tVar 3) tNil)) tNil))) [10]) (gName 5)) (tSeq (tAsg (tCall (spD K C__law_pick) [] E0 (tCons (tVar 1) (tCons (tLst (tCons (tCall (spD K C__law_product) [] E0 (tCons (tVar 3) (tCons (tVar 5) tNil))) (tCons (tCall (spD K C__law_product) [] E0 (tCons (tVar 3) (tCons (tVar 5) tNil))) (tCons (tLst (tCons (tC (.int 0)) tNil)) (tCons (tCall (spD K C__law_rows) [] E0 (tCons (tVar 1) (tCons (tC (.int 6)) tNil))) tNil))))) tNil))) (gName 6)) (tSeq (tAsg (tC .non) (gName 7)) (tSeq (tFor (iList K (tCall (spD K C__law_lists) [] E0 (tCons (tCB (rLenSeq K) (tCons (tVar 3) tNil)) (tCons (tVar 4) tNil)))) (gName 8) (b1_law K)) (tSeq (tAsg (tLc (iList K (tVar 3)) (gName 11) tYes (tCall (spD K (C__law_map K)) [] E0 (tCons (tVar 11) tNil)) [11]) (gName 9)) (tSeq (tIfS (tTest (tOp rNe (tCB (LX.rReprG K) (tCons (tCall (spD K (C_spelled K)) [] E0 (tCons (tCall (spD K (C__law_map K)) [] E0 (tCons (tVar 6) tNil)) (tCons (tCall (spD K C__law_pick) [] E0 (tCons (tVar 1) (tCons (tLst (tCons (tVar 9) (tCons (tCB (rTupOf K) (tCons (tVar 9) tNil)) tNil))) tNil))) (tCons (tVar 4) tNil)))) tNil)) (tCB (LX.rReprG K) (tCons (tVar 7) tNil)))) (tRet (tC (.bl false))) tNext) (tIfS (tOr (tTest (tOp rNe (tCB (rLenSeq K) (tCons (tVar 9) tNil)) (tCB (rLenSeq K) (tCons (tVar 3) tNil)))) (tNot (tTest (tOp (LX.rOwnEq (He.ga K "DayMap") (spD K (C_Map___eq__ K))) (tOp (rIxL K) (tVar 9) (tC (.int 0))) (tCall (spD K (C__law_map K)) [] E0 (tCons (tOp (rIxL K) (tVar 3) (tC (.int 0))) tNil)))))) (tRet (tC (.bl false))) tNext))))))))))
def t_law (K : Frag) : TS := (tSeq (tAsg (tCall (spD K C__law_pen) [] E0 (tCons (tVar 0) tNil)) (gName 1)) (tSeq (tFor (iRng1 (tCons (tOp rAddI (tC (.int 3)) (tCB rMin2 (tCons (tC (.int 2)) (tCons (tCB (rLenSeq K) (tCons (tVar 0) tNil)) tNil)))) tNil)) (gName 2) (b2_law K)) (tRet (tCall (spD K (C__law_long_right K)) [] E0 (tCons (tVar 1) tNil)))))
abbrev N_law : List Str := ["_law_script", "_law_pen_here", "_law_turn", "_law_words", "_law_most", "_law_drawn", "_law_goal", "_law_due", "_law_one", "_law_maps", "_law_k", "_law_rows_here"]
end Y

set_option maxHeartbeats 410000
namespace Y
open PySem L2 DL PyProof.Rows YM
local macro_rules | `(tactic| walk_at "dw") => `(tactic| first
  | (with_reducible apply run_seq) | (with_reducible apply run_if)
  | ((with_reducible apply run_set); (try dsimp only [outD])) | ((with_reducible apply run_next); (try dsimp only [outD])) | ((with_reducible apply run_ret); (try dsimp only [outD])) | ((with_reducible apply run_retN); (try dsimp only [outD])) | ((with_reducible apply run_drop); (try dsimp only [outD]))
  | ((with_reducible apply run_brk); (try dsimp only [outD])) | ((with_reducible apply run_cont); (try dsimp only [outD])) | ((with_reducible apply run_asg); (try dsimp only [outD])) | ((with_reducible apply run_par); (try dsimp only [outD]))
  | (with_reducible apply par_mk)
  | ((with_reducible apply ev_var); · rfl)
  | (with_reducible apply ev_int) | (with_reducible apply ev_str) | (with_reducible apply ev_bl) | (with_reducible apply ev_non) | (with_reducible apply ev_ty)
  | (with_reducible apply ev_dgetS)
  | (with_reducible apply ev_op) | (with_reducible apply ev_un) | (with_reducible apply ea_cons) | (with_reducible apply ea_nil)
  | (with_reducible apply ev_isiT) | (with_reducible apply ev_cb) | (with_reducible apply ev_tup) | (with_reducible apply ev_lstM') | (with_reducible apply ev_lst)
  | (with_reducible apply o_add) | (with_reducible apply o_sub) | (with_reducible apply o_lt) | (with_reducible apply o_le) | (with_reducible apply o_gt) | (with_reducible apply o_ge) | (with_reducible apply o_eqI) | (with_reducible apply o_neI) | (with_reducible apply o_eqS) | (with_reducible apply o_neS) | (with_reducible apply u_neg)
  | (with_reducible apply et_test) | (with_reducible apply et_B) | (with_reducible apply et_not) | (with_reducible apply et_and) | (with_reducible apply et_or) | (with_reducible apply isB)
  | (with_reducible apply ev_andV) | (with_reducible apply ev_orV) | (with_reducible apply ev_notV) | (with_reducible apply ev_if) | (with_reducible apply ev_chain)
  | (with_reducible apply tt_and) | (with_reducible apply ff_and) | (with_reducible apply ntt_and)
  | (with_reducible apply ev_callE) | (with_reducible apply ev_methE) | (with_reducible apply ev_propE)
  | (with_reducible apply eg_name) | (with_reducible apply egs_nil) | (with_reducible apply egs_cons) | ((with_reducible apply eg_tup); · rfl)
  | (with_reducible apply c_abs) | (with_reducible apply c_min2) | (with_reducible apply c_max2) | (with_reducible apply c_int) | (with_reducible apply c_intB)
  | (with_reducible apply ep_cons) | (with_reducible apply ep_nil) | (with_reducible apply ev_sl) | (with_reducible apply eo_none) | (with_reducible apply eo_some) | (with_reducible apply et_yes)
  | (with_reducible apply ev_bm) | (with_reducible apply ev_m1) | (with_reducible apply ei_rng1) | (with_reducible apply ei_rng2) | (with_reducible apply ei_list) | (with_reducible apply ei_tup)
  | (with_reducible apply ev_din) | (with_reducible apply ev_dnotin) | (with_reducible apply ev_dget2) | (with_reducible apply ei_enum) | (with_reducible apply ei_zip)
  | (with_reducible apply ex_int) | ((with_reducible apply s_lst); (· exact .v)) | (with_reducible apply ev_makeE) | ((with_reducible apply run_par3); (try dsimp only [outD]))
  | ((with_reducible apply eg_lst); · rfl)
  | ((with_reducible apply o_modP); (· first | decide | omega))
  | ((with_reducible apply o_fdivP); (· first | decide | omega); (· first | decide | omega))
  | ((with_reducible apply o_mul); (· first | exact .inl ⟨by first | decide | omega, by first | decide | omega⟩ | exact .inr ⟨by first | decide | omega, by first | decide | omega⟩))
  | ((with_reducible apply c_lenSeq); (· first | exact .l | exact .t))
  | ((with_reducible apply o_ixT); (· exact atI_nn (by decide) rfl))
  | (dsimp only []))
section
variable {K : Frag} {E : XK}
theorem run_is_integer : ∀ J ds S P PX, J.S = S → C_is_integer ds S P PX → J.X K E PX → Run K J (t_is_integer K) (startD N_is_integer ds) S (outD J P) := by
  rintro J ds S P PX hS ⟨i, rfl, p⟩ hX
  unfold t_is_integer
  repeat walk_at "dw"
  refine c_isi (t := "int") (b := true) rfl (by decide +kernel) ?_
  repeat walk_at "dw"
  refine c_isi (t := "int") (b := false) rfl (by decide +kernel) ?_
  repeat walk_at "dw"
  exact .now p
theorem run_is_period : ∀ J ds S P PX, J.S = S → C_is_period ds S P PX → J.X K E PX → Run K J (t_is_period K) (startD N_is_period ds) S (outD J P) := by
  rintro J ds S P PX hS ⟨n, rfl, h1, h2, p⟩ hX
  unfold t_is_period
  repeat walk_at "dw"
  refine ⟨n, rfl, ?_⟩
  repeat walk_at "dw"
  refine dec_and (fun _ => ?_) (fun h => absurd h1 h)
  repeat walk_at "dw"
  rw [decide_eq_true h2]
  exact .now p
theorem gcd_step {x y : Int} (hx : 0 ≤ x) (hy : 0 ≤ y) : Int.gcd y (x % y) = Int.gcd x y := by
  obtain ⟨x, rfl⟩ := Int.eq_ofNat_of_zero_le hx
  obtain ⟨y, rfl⟩ := Int.eq_ofNat_of_zero_le hy
  rw [← Int.natCast_emod]
  show Nat.gcd y (x % y) = Nat.gcd x y
  rw [Nat.gcd_comm x y, Nat.gcd_rec y x, Nat.gcd_comm]
theorem abs_if (a : Int) : (if a < 0 then -a else a) = (a.natAbs : Int) := by split <;> omega
theorem run_common_divisor : ∀ J ds S P PX, J.S = S → C_common_divisor ds S P PX → J.X K E PX → Run K J (t_common_divisor K) (startD N_common_divisor ds) S (outD J P) := by
  rintro J ds S P PX hS ⟨a, b, rfl, p⟩ hX
  unfold t_common_divisor
  repeat walk_at "dw"
  rw [abs_if, abs_if]
  refine run_while (fun m δ' S' => ∃ x y : Int, 0 ≤ x ∧ 0 ≤ y ∧ Int.gcd x y = Int.gcd a b ∧ δ' = [some (.int x), some (.int y)] ∧ S' = S ∧ m = y.toNat) _ ⟨_, _, Int.natCast_nonneg _, Int.natCast_nonneg _, ?_, rfl, rfl, rfl⟩ ?_
  · show Nat.gcd _ _ = Nat.gcd _ _
    rw [Int.natAbs_natCast, Int.natAbs_natCast]
  · rintro m δ' S' ⟨x, y, hx, hy, hg, rfl, rfl, rfl⟩
    repeat walk_at "dw"
    refine dec_and (fun h => ?_) (fun h => ?_)
    · unfold b1_common_divisor
      repeat walk_at "dw"
      have l1 := Int.emod_nonneg x (show y ≠ 0 by omega)
      have l2 := Int.emod_lt_of_pos x h
      exact ⟨_, by omega, y, x % y, hy, l1, (gcd_step hx hy).trans hg, rfl, rfl, rfl⟩
    · repeat walk_at "dw"
      have e : y = 0 := by omega
      subst e
      rw [Int.gcd_zero_right] at hg
      have e2 : x = (Int.gcd a b : Int) := by rw [← hg]; omega
      rw [e2]
      exact .now p
theorem run_common_multiple : ∀ J ds S P PX, J.S = S → C_common_multiple ds S P PX → J.X K E PX → Run K J (t_common_multiple K) (startD N_common_multiple ds) S (outD J P) := by
  rintro J ds S P PX hS ⟨a, b, rfl, a0, a1, b0, b1, p⟩ hX
  unfold t_common_multiple
  repeat walk_at "dw"
  refine ⟨a, b, rfl, ?_⟩
  have g0 : 0 < Nat.gcd a b := Nat.gcd_pos_of_pos_left b a0
  have g1 := Nat.le_of_dvd a0 (Nat.gcd_dvd_left a b)
  have e : Int.gcd (a : Int) (b : Int) = Nat.gcd a b := rfl
  rw [e]
  repeat walk_at "dw"
  have e2 : (a : Int) / (Nat.gcd a b : Nat) * b = ((com a b : Nat) : Int) := by unfold com; rw [Int.natCast_mul, Int.natCast_ediv]
  rw [e2]
  exact .now p
theorem com_pos {a b : Nat} (ha : 0 < a) (hb : 0 < b) : 0 < com a b := by rw [com_lcm]; exact Nat.lcm_pos ha hb
theorem run_common_period (F : Fx K) : ∀ J ds S P PX, J.S = S → C_common_period K ds S P PX → J.X K E PX → Run K J (t_common_period K E) (startD N_common_period ds) S (outD J P) := by
  rintro J ds S P PX hS ⟨a, b, rfl, a0, a1, b0, b1, p, px⟩ hX
  unfold t_common_period
  repeat walk_at "dw"
  refine ⟨a, b, rfl, a0, a1, b0, b1, ?_⟩
  repeat walk_at "dw"
  refine dec_and (fun h => ?_) (fun h => ?_)
  · refine run_raiseE hX ?_
    repeat walk_at "dw"
    exact ⟨_, rfl, px (by omega)⟩
  · repeat walk_at "dw"
    exact .now (p (by omega))
end

end Y

set_option maxHeartbeats 410000
namespace Y
open PySem L2 DL PyProof.Rows YM
local macro_rules | `(tactic| walk_at "dw") => `(tactic| first
  | (with_reducible apply run_seq) | (with_reducible apply run_if)
  | ((with_reducible apply run_set); (try dsimp only [outD])) | ((with_reducible apply run_next); (try dsimp only [outD])) | ((with_reducible apply run_ret); (try dsimp only [outD])) | ((with_reducible apply run_retN); (try dsimp only [outD])) | ((with_reducible apply run_drop); (try dsimp only [outD]))
  | ((with_reducible apply run_brk); (try dsimp only [outD])) | ((with_reducible apply run_cont); (try dsimp only [outD])) | ((with_reducible apply run_asg); (try dsimp only [outD])) | ((with_reducible apply run_par); (try dsimp only [outD]))
  | (with_reducible apply par_mk)
  | ((with_reducible apply ev_var); · rfl)
  | (with_reducible apply ev_int) | (with_reducible apply ev_str) | (with_reducible apply ev_bl) | (with_reducible apply ev_non) | (with_reducible apply ev_ty)
  | (with_reducible apply ev_dgetS)
  | (with_reducible apply ev_op) | (with_reducible apply ev_un) | (with_reducible apply ea_cons) | (with_reducible apply ea_nil)
  | (with_reducible apply ev_isiT) | (with_reducible apply ev_cb) | (with_reducible apply ev_tup) | (with_reducible apply ev_lstM') | (with_reducible apply ev_lst)
  | (with_reducible apply o_add) | (with_reducible apply o_sub) | (with_reducible apply o_lt) | (with_reducible apply o_le) | (with_reducible apply o_gt) | (with_reducible apply o_ge) | (with_reducible apply o_eqI) | (with_reducible apply o_neI) | (with_reducible apply o_eqS) | (with_reducible apply o_neS) | (with_reducible apply u_neg)
  | (with_reducible apply et_test) | (with_reducible apply et_B) | (with_reducible apply et_not) | (with_reducible apply et_and) | (with_reducible apply et_or) | (with_reducible apply isB)
  | (with_reducible apply ev_andV) | (with_reducible apply ev_orV) | (with_reducible apply ev_notV) | (with_reducible apply ev_if) | (with_reducible apply ev_chain)
  | (with_reducible apply tt_and) | (with_reducible apply ff_and) | (with_reducible apply ntt_and)
  | (with_reducible apply ev_callE) | (with_reducible apply ev_methE) | (with_reducible apply ev_propE)
  | (with_reducible apply eg_name) | (with_reducible apply egs_nil) | (with_reducible apply egs_cons) | ((with_reducible apply eg_tup); · rfl)
  | (with_reducible apply c_abs) | (with_reducible apply c_min2) | (with_reducible apply c_max2) | (with_reducible apply c_int) | (with_reducible apply c_intB)
  | (with_reducible apply ep_cons) | (with_reducible apply ep_nil) | (with_reducible apply ev_sl) | (with_reducible apply eo_none) | (with_reducible apply eo_some) | (with_reducible apply et_yes)
  | (with_reducible apply ev_bm) | (with_reducible apply ev_m1) | (with_reducible apply ei_rng1) | (with_reducible apply ei_rng2) | (with_reducible apply ei_list) | (with_reducible apply ei_tup)
  | (with_reducible apply ev_din) | (with_reducible apply ev_dnotin) | (with_reducible apply ev_dget2) | (with_reducible apply ei_enum) | (with_reducible apply ei_zip)
  | (with_reducible apply ex_int) | ((with_reducible apply s_lst); (· exact .v)) | (with_reducible apply ev_makeE) | ((with_reducible apply run_par3); (try dsimp only [outD]))
  | ((with_reducible apply eg_lst); · rfl)
  | ((with_reducible apply o_modP); (· first | decide | omega))
  | ((with_reducible apply o_fdivP); (· first | decide | omega); (· first | decide | omega))
  | ((with_reducible apply o_mul); (· first | exact .inl ⟨by first | decide | omega, by first | decide | omega⟩ | exact .inr ⟨by first | decide | omega, by first | decide | omega⟩))
  | ((with_reducible apply c_lenSeq); (· first | exact .l | exact .t))
  | ((with_reducible apply o_ixT); (· exact atI_nn (by decide) rfl))
  | (dsimp only []))
section
variable {K : Frag} {E : XK}
theorem ints_get {ns : List Int} {i : Nat} (h : i < ns.length) : (ns.map D.int)[i]? = some (.int (ns.getD i 0)) := by
  rw [List.getElem?_map, List.getD_eq_getElem?_getD, List.getElem?_eq_getElem h]; rfl
theorem ints_atI {ns : List Int} {i : Int} (h0 : 0 ≤ i) (h1 : i < ns.length) : L2.atI (ns.map D.int) i = some (.int (ns.getD i.toNat 0)) := atI_nn h0 (ints_get (by omega))
theorem triv3 {x y z : D} {Q : D → D → D → Prop} (h : Q x y z) : ∃ a b c, [x, y, z] = [a, b, c] ∧ Q a b c := ⟨x, y, z, rfl, h⟩
theorem run_least_period : ∀ J ds S P PX, J.S = S → C_least_period ds S P PX → J.X K E PX → Run K J (t_least_period K) (startD N_least_period ds) S (outD J P) := by
  rintro J ds S P PX hS ⟨r, rfl, n0, n1, p⟩ hX
  unfold t_least_period
  repeat walk_at "dw"
  refine triv3 ?_
  rw [List.length_map]
  repeat walk_at "dw"
  refine run_while (fun m δ' S' => ∃ f rest q : Nat, ∃ z, LpI r f rest q ∧ (1 < rest → q ≤ rest) ∧ δ' = [some (intsD r), some (.int f), some (.int rest), some (.int q), z] ∧ S' = S ∧ m = rest * 400000 + (400000 - q)) _ ⟨r.length, r.length, 2, none, .start n0, fun h => h, rfl, rfl, rfl⟩ ?_
  rintro m δ' S' ⟨f, rest, q, z, I, le, rfl, rfl, rfl⟩
  have q2 := I.p2
  have restle := I.restle n0
  have fle := I.fle n0
  repeat walk_at "dw"
  refine dec_and (fun h1 => ?_) (fun h1 => ?_)
  · have ql := le (by omega)
    unfold b1_least_period
    repeat walk_at "dw"
    refine dec_and (fun hd => ?_) (fun hd => ?_)
    · have dv : q ∣ rest := by
        have : ((rest % q : Nat) : Int) = 0 := by rw [Int.natCast_emod]; exact hd
        exact Nat.dvd_of_mod_eq_zero (by omega)
      obtain ⟨pf, p0, plt, rlt, pn, yes, no⟩ := I.div n0 dv
      have e1 : (rest : Int) / q = ((rest / q : Nat) : Int) := (Int.natCast_ediv _ _).symm
      have e2 : (f : Int) / q = ((f / q : Nat) : Int) := (Int.natCast_ediv _ _).symm
      repeat walk_at "dw"
      rw [e1, e2]
      refine o_ixL .v (ints_atI (by decide) (by omega)) ?_
      repeat walk_at "dw"
      refine o_ixL .v (ints_atI (by omega) (by omega)) ?_
      repeat walk_at "dw"
      rw [Int.toNat_natCast]
      have meas : rest / q * 400000 + (400000 - q) < rest * 400000 + (400000 - q) := by omega
      have fin : ∀ (f' : Nat), LpI r f' (rest / q) q → ∃ m', m' < rest * 400000 + (400000 - q) ∧ ∃ f2 rest2 q2 : Nat, ∃ z, LpI r f2 rest2 q2 ∧ (1 < rest2 → q2 ≤ rest2) ∧ [some (intsD r), some (D.int f'), some (.int (rest / q : Nat)), some (.int q), some (.int (f / q : Nat))] = [some (intsD r), some (.int f2), some (.int rest2), some (.int q2), z] ∧ S' = S' ∧ m' = rest2 * 400000 + (400000 - q2) :=
        fun f' I' => ⟨_, meas, f', _, q, _, I', fun h => I'.le h, rfl, rfl, rfl⟩
      refine dec_and (fun h0 => ?_) (fun h0 => ?_)
      · repeat walk_at "dw"
        rw [cut_from (by omega) (by omega), cut_upto (by omega) (by omega), Int.toNat_natCast]
        refine o_eqIs ?_
        repeat walk_at "dw"
        refine dec_and (fun h2 => ?_) (fun h2 => ?_)
        · have hp : Pd (ofs r) (f / q : Nat) := (pd_test p0 pn plt).mp ⟨h0, h2⟩
          repeat walk_at "dw"
          exact fin _ (yes hp)
        · have hp : ¬ Pd (ofs r) (f / q : Nat) := fun hp => h2 ((pd_test p0 pn plt).mpr hp).2
          repeat walk_at "dw"
          exact fin _ (no hp)
      · have hp : ¬ Pd (ofs r) (f / q : Nat) := fun hp => h0 ((pd_test p0 pn plt).mpr hp).1
        repeat walk_at "dw"
        exact fin _ (no hp)
    · have dv : ¬ q ∣ rest := fun dv => hd (by
        have := Nat.mod_eq_zero_of_dvd dv
        have : ((rest % q : Nat) : Int) = 0 := by omega
        rw [Int.natCast_emod] at this; exact this)
      have qn : q ≠ rest := fun z => dv (by rw [z]; exact Nat.dvd_refl _)
      repeat walk_at "dw"
      refine dec_and (fun hs => ?_) (fun hs => ?_)
      · repeat walk_at "dw"
        refine ⟨_, ?_, f, rest, q + 1, z, I.next dv, fun h => by omega, ?_, rfl, rfl⟩
        · omega
        · rw [Int.natCast_add]; rfl
      · repeat walk_at "dw"
        have sq : rest < q * q := by
          have : ¬ ((q * q : Nat) : Int) ≤ rest := by rw [Int.natCast_mul]; exact hs
          omega
        exact ⟨_, by omega, f, rest, rest, z, I.last (by omega) dv sq, fun h => Nat.le_refl _, rfl, rfl, rfl⟩
  · have e : rest = 1 := by have := I.r0; omega
    subst e
    repeat walk_at "dw"
    rw [I.done]
    exact .now p
end

end Y

set_option maxHeartbeats 410000
namespace Y
open PySem L2 DL PyProof.Rows YM
local macro_rules | `(tactic| walk_at "dw") => `(tactic| first
  | (with_reducible apply run_seq) | (with_reducible apply run_if)
  | ((with_reducible apply run_set); (try dsimp only [outD])) | ((with_reducible apply run_next); (try dsimp only [outD])) | ((with_reducible apply run_ret); (try dsimp only [outD])) | ((with_reducible apply run_retN); (try dsimp only [outD])) | ((with_reducible apply run_drop); (try dsimp only [outD]))
  | ((with_reducible apply run_brk); (try dsimp only [outD])) | ((with_reducible apply run_cont); (try dsimp only [outD])) | ((with_reducible apply run_asg); (try dsimp only [outD])) | ((with_reducible apply run_par); (try dsimp only [outD]))
  | (with_reducible apply par_mk)
  | ((with_reducible apply ev_var); · rfl)
  | (with_reducible apply ev_int) | (with_reducible apply ev_str) | (with_reducible apply ev_bl) | (with_reducible apply ev_non) | (with_reducible apply ev_ty)
  | (with_reducible apply ev_dgetS)
  | (with_reducible apply ev_op) | (with_reducible apply ev_un) | (with_reducible apply ea_cons) | (with_reducible apply ea_nil)
  | (with_reducible apply ev_isiT) | (with_reducible apply ev_cb) | (with_reducible apply ev_tup) | (with_reducible apply ev_lstM') | (with_reducible apply ev_lst)
  | (with_reducible apply o_add) | (with_reducible apply o_sub) | (with_reducible apply o_lt) | (with_reducible apply o_le) | (with_reducible apply o_gt) | (with_reducible apply o_ge) | (with_reducible apply o_eqI) | (with_reducible apply o_neI) | (with_reducible apply o_eqS) | (with_reducible apply o_neS) | (with_reducible apply u_neg)
  | (with_reducible apply et_test) | (with_reducible apply et_B) | (with_reducible apply et_not) | (with_reducible apply et_and) | (with_reducible apply et_or) | (with_reducible apply isB)
  | (with_reducible apply ev_andV) | (with_reducible apply ev_orV) | (with_reducible apply ev_notV) | (with_reducible apply ev_if) | (with_reducible apply ev_chain)
  | (with_reducible apply tt_and) | (with_reducible apply ff_and) | (with_reducible apply ntt_and)
  | (with_reducible apply ev_callE) | (with_reducible apply ev_methE) | (with_reducible apply ev_propE)
  | (with_reducible apply eg_name) | (with_reducible apply egs_nil) | (with_reducible apply egs_cons) | ((with_reducible apply eg_tup); · rfl)
  | (with_reducible apply c_abs) | (with_reducible apply c_min2) | (with_reducible apply c_max2) | (with_reducible apply c_int) | (with_reducible apply c_intB)
  | (with_reducible apply ep_cons) | (with_reducible apply ep_nil) | (with_reducible apply ev_sl) | (with_reducible apply eo_none) | (with_reducible apply eo_some) | (with_reducible apply et_yes)
  | (with_reducible apply ev_bm) | (with_reducible apply ev_m1) | (with_reducible apply ei_rng1) | (with_reducible apply ei_rng2) | (with_reducible apply ei_list) | (with_reducible apply ei_tup)
  | (with_reducible apply ev_din) | (with_reducible apply ev_dnotin) | (with_reducible apply ev_dget2) | (with_reducible apply ei_enum) | (with_reducible apply ei_zip)
  | (with_reducible apply ex_int) | ((with_reducible apply s_lst); (· exact .v)) | (with_reducible apply ev_makeE) | ((with_reducible apply run_par3); (try dsimp only [outD]))
  | ((with_reducible apply eg_lst); · rfl)
  | ((with_reducible apply o_modP); (· first | decide | omega))
  | ((with_reducible apply o_fdivP); (· first | decide | omega); (· first | decide | omega))
  | ((with_reducible apply o_mul); (· first | exact .inl ⟨by first | decide | omega, by first | decide | omega⟩ | exact .inr ⟨by first | decide | omega, by first | decide | omega⟩))
  | ((with_reducible apply c_lenSeq); (· first | exact .l | exact .t))
  | ((with_reducible apply o_ixT); (· exact atI_nn (by decide) rfl))
  | (dsimp only []))
section
variable {K : Frag} {E : XK}
theorem sz1 {α : Type} {a : α} : [a].length ≤ PySem.sizeLine := (by show 1 ≤ PySem.sizeLine; decide)
theorem sz2 {α : Type} {a b : α} : [a, b].length ≤ PySem.sizeLine := (by show 2 ≤ PySem.sizeLine; decide)
theorem sz3 {α : Type} {a b c : α} : [a, b, c].length ≤ PySem.sizeLine := (by show 3 ≤ PySem.sizeLine; decide)
theorem all_true : ∀ n : Nat, ((List.range n).map fun _ => true).all id = true
  | 0 => rfl
  | n + 1 => by rw [List.range_succ, List.map_append, List.all_append, all_true n]; rfl
theorem take_lp {r : List Int} (h : 0 < r.length) : (r.take ((lp r : Nat) : Int).toNat) = lr r := by rw [Int.toNat_natCast]; rfl
theorem run_DayMap___init__ (F : Fx K) : ∀ J ds S P PX, J.S = S → C_DayMap___init__ K ds S P PX → J.X K E PX → Run K J (t_DayMap___init__ K) (startD N_DayMap___init__ ds) S (outD J P) := by
  rintro J ds S P PX hS ⟨x, r, rfl, hx, n0, n1, p⟩ hX
  unfold t_DayMap___init__
  repeat walk_at "dw"
  refine ⟨_, rfl, by omega, by omega, ?_⟩
  repeat walk_at "dw"
  refine ⟨["list", "tuple"], "list", true, rfl, by decide, rfl, by decide +kernel, ?_⟩
  repeat walk_at "dw"
  rw [List.length_map, decide_eq_true rfl]
  repeat walk_at "dw"
  refine ev_lcP (fun _ => D.bl true) (gk_name (List.mem_singleton.mpr rfl)) ?_
  repeat walk_at "dw"
  refine ⟨_, rfl, ?_, ?_, ?_⟩
  · rw [List.length_map, PySem.sizeLine_eq]; omega
  · intro i d hd
    obtain ⟨n, hn, rfl⟩ := map_get hd
    repeat walk_at "dw"
    exact ⟨n, rfl, rfl, rfl⟩
  · rw [List.length_map]
    have e : (List.range r.length).map (fun _ => D.bl true) = ((List.range r.length).map fun _ => true).map D.bl := by rw [List.map_map]; rfl
    rw [e]
    repeat walk_at "dw"
    refine c_all .v ?_
    rw [all_true]
    repeat walk_at "dw"
    refine c_listOf .l ?_
    repeat walk_at "dw"
    refine run_fld F.c F.rows ?_
    repeat walk_at "dw"
    refine ⟨r, rfl, n0, n1, ?_⟩
    repeat walk_at "dw"
    rw [cut_to (by omega) (by have := lp_le n0; omega), take_lp n0]
    repeat walk_at "dw"
    exact ⟨x, [], rfl, hx, by decide, .now p⟩
theorem run_DayMap_table (F : Fx K) : ∀ J ds S P PX, J.S = S → C_DayMap_table K ds S P PX → J.X K E PX → Run K J (t_DayMap_table K) (startD N_DayMap_table ds) S (outD J P) := by
  rintro J ds S P PX hS ⟨r, rfl, p⟩ hX
  unfold t_DayMap_table
  repeat walk_at "dw"
  refine ev_fld F.c F.rows ?_
  repeat walk_at "dw"
  refine ⟨_, _, .inl rfl, rfl, ?_⟩
  repeat walk_at "dw"
  refine c_listOf .l ?_
  exact .now p
theorem run_Map_offsets (F : Fx K) : ∀ J ds S P PX, J.S = S → C_Map_offsets K ds S P PX → J.X K E PX → Run K J (t_Map_offsets K) (startD N_Map_offsets ds) S (outD J P) := by
  rintro J ds S P PX hS ⟨r, rfl, ⟨hL, n1⟩, p⟩ hX
  have n0 := hL.1
  unfold t_Map_offsets
  repeat walk_at "dw"
  refine ⟨_, .inl rfl, rfl, ?_⟩
  repeat walk_at "dw"
  refine ⟨r, rfl, ?_⟩
  repeat walk_at "dw"
  refine ⟨r, rfl, n0, n1, ?_⟩
  repeat walk_at "dw"
  rw [cut_to (by omega) (by have := lp_le n0; omega), take_lp n0, hL.lr]
  refine c_tupOf .l ?_
  exact .now p
theorem run_Map___eq__ (F : Fx K) : ∀ J ds S P PX, J.S = S → C_Map___eq__ K ds S P PX → J.X K E PX → Run K J (t_Map___eq__ K) (startD N_Map___eq__ ds) S (outD J P) := by
  rintro J ds S P PX hS ⟨r, s, rfl, hr, hs, p⟩ hX
  unfold t_Map___eq__
  repeat walk_at "dw"
  refine ev_raw ?_
  repeat walk_at "dw"
  refine c_isiI F.ins F.kMap ?_
  repeat walk_at "dw"
  refine ⟨_, .inl rfl, r, rfl, hr, ?_⟩
  repeat walk_at "dw"
  refine ⟨_, .inl rfl, s, rfl, hs, ?_⟩
  refine o_eqIsT ?_
  exact .now p
theorem coms_pos {rs : List (List Int)} (h : ∀ r ∈ rs, 0 < r.length) : ∀ n, 0 < n → 0 < rs.foldl (fun n r => com n r.length) n := by
  induction rs with
  | nil => exact fun n hn => hn
  | cons r rs ih => exact fun n hn => ih (fun s hs => h s (List.mem_cons_of_mem _ hs)) _ (com_pos hn (h r (List.mem_cons_self ..)))
theorem coms_dvd {rs : List (List Int)} : ∀ n, n ∣ rs.foldl (fun n r => com n r.length) n := by
  induction rs with
  | nil => exact fun n => Nat.dvd_refl _
  | cons r rs ih => exact fun n => Nat.dvd_trans (by rw [com_lcm]; exact Nat.dvd_lcm_left _ _) (ih (com n r.length))
theorem mem_coms {rs : List (List Int)} : ∀ n, ∀ r ∈ rs, r.length ∣ rs.foldl (fun n r => com n r.length) n := by
  induction rs with
  | nil => exact fun n r h => by cases h
  | cons s rs ih =>
    intro n r h
    (rcases List.mem_cons.mp h with e | e)
    · subst e
      exact Nat.dvd_trans (by rw [com_lcm]; exact Nat.dvd_lcm_right _ _) (coms_dvd (com n r.length))
    · exact ih _ r e
theorem take_coms (rs : List (List Int)) (i : Nat) (h : i < rs.length) : coms (rs.take (i + 1)) = com (coms (rs.take i)) (rs.getD i []).length := by
  unfold coms
  rw [List.take_add_one, List.foldl_append, List.getD_eq_getElem?_getD, List.getElem?_eq_getElem h]
  rfl
theorem take_coms_dvd (rs : List (List Int)) (i : Nat) : coms (rs.take i) ∣ coms rs := by
  have : coms rs = (rs.drop i).foldl (fun n r => com n r.length) (coms (rs.take i)) := by
    unfold coms
    rw [← List.foldl_append, List.take_append_drop]
  rw [this]
  exact coms_dvd _
theorem run_shared_values (F : Fx K) : ∀ J ds S P PX, J.S = S → C_shared_values K ds S P PX → J.X K E PX → Run K J (t_shared_values K E) (startD N_shared_values ds) S (outD J P) := by
  rintro J ds S P PX hS ⟨rs, rfl, hm, many, p, px⟩ hX
  unfold t_shared_values
  repeat walk_at "dw"
  refine ev_lcP (fun i => intsT (rs.getD i [])) (gk_name (List.mem_singleton.mpr rfl)) ?_
  repeat walk_at "dw"
  refine ⟨_, rfl, by rw [List.length_map, PySem.sizeLine_eq]; omega, ?_, ?_⟩
  · intro i d hd
    obtain ⟨r, hr, rfl⟩ := map_get hd
    repeat walk_at "dw"
    refine ⟨_, .inl rfl, r, rfl, hm r (List.mem_of_getElem? hr), ?_, rfl⟩
    rw [List.getD_eq_getElem?_getD, hr]; rfl
  rw [List.length_map, range_map_get rs intsT []]
  repeat walk_at "dw"
  refine ⟨sz2, ?_⟩
  repeat walk_at "dw"
  have pos : ∀ r ∈ rs, 0 < r.length := fun r hr => (hm r hr).1.1
  refine run_for ?_
  repeat walk_at "dw"
  refine ⟨_, rfl, fun i δ' S' => i ≤ rs.length ∧ coms (rs.take i) ≤ 200000 ∧ S' = S ∧ ∃ z y, δ' = [some (.lst (rs.map (mapD K))), some (.lst (rs.map intsT)), some (.int (coms (rs.take i))), z, y, none], ⟨Nat.zero_le _, (by show (1 : Nat) ≤ 200000; decide), rfl, none, none, rfl⟩, ?_, ?_⟩
  · rintro i x δ' S' hx ⟨hi, hc, rfl, z, y, rfl⟩
    obtain ⟨r, hr, rfl⟩ := map_get hx
    have lt := (List.getElem?_eq_some_iff.mp hr).1
    have rm := List.mem_of_getElem? hr
    have rg : rs.getD i [] = r := by rw [List.getD_eq_getElem?_getD, hr]; rfl
    refine eg_name ?_
    unfold b1_shared_values
    repeat walk_at "dw"
    refine ev_callX hX ?_
    repeat walk_at "dw"
    rw [List.length_map]
    repeat walk_at "dw"
    have e := take_coms rs i lt
    rw [rg] at e
    refine ⟨_, _, rfl, coms_pos (fun s hs => pos s (List.mem_of_mem_take hs)) 1 (by decide), hc, pos r rm, (hm r rm).2, fun h => ?_, fun h => ?_⟩
    · rw [← e] at *
      repeat walk_at "dw"
      exact ⟨lt, h, rfl, _, _, rfl⟩
    · refine px (Nat.lt_of_lt_of_le h ?_)
      rw [← e]
      exact Nat.le_of_dvd (coms_pos pos 1 (by decide)) (take_coms_dvd rs _)
  · rintro δ' S' ⟨hi, hc, rfl, z, y, rfl⟩
    rw [List.length_map, List.take_length] at *
    have c0 : 0 < coms rs := coms_pos pos 1 (by decide)
    repeat walk_at "dw"
    refine ev_lcP (fun i => valsD (rs.getD i []) (coms rs)) (gk_name (List.mem_singleton.mpr rfl)) ?_
    repeat walk_at "dw"
    refine ⟨_, rfl, by rw [List.length_map, PySem.sizeLine_eq]; omega, ?_, ?_⟩
    · intro i d hd
      obtain ⟨r, hr, rfl⟩ := map_get hd
      have rm := List.mem_of_getElem? hr
      have rg : rs.getD i [] = r := by rw [List.getD_eq_getElem?_getD, hr]; rfl
      rw [rg]
      have r0 := pos r rm
      have r1 := (hm r rm).2
      repeat walk_at "dw"
      refine ev_lcP (fun x => D.int ((x : Int) + ofs r x)) (gk_name (List.mem_singleton.mpr rfl)) ?_
      repeat walk_at "dw"
      refine ⟨_, rfl, ⟨by omega, by omega⟩, ?_⟩
      rw [rgD_len, Int.toNat_natCast]
      refine ⟨by rw [PySem.sizeLine_eq]; omega, ?_, ?_⟩
      · intro x d hd
        obtain ⟨lx, rfl⟩ := rgD_get hd
        rw [Int.zero_add]
        repeat walk_at "dw"
        rw [List.length_map]
        repeat walk_at "dw"
        have m0 := Int.emod_nonneg (x : Int) (show (r.length : Int) ≠ 0 by omega)
        have m1 := Int.emod_lt_of_pos (x : Int) (show (0 : Int) < r.length by omega)
        refine o_ixT (ints_atI m0 m1) ?_
        repeat walk_at "dw"
        exact ⟨rfl, rfl⟩
      · refine ⟨?_, rfl⟩
        unfold valsD row intsD
        rw [List.map_map]
        rfl
    · rw [List.length_map, range_map_get rs (fun r => valsD r (coms rs)) []]
      repeat walk_at "dw"
      exact ⟨sz2, .now (p hc)⟩
end

end Y

set_option maxHeartbeats 410000
namespace Y
open PySem L2 DL PyProof.Rows YM
local macro_rules | `(tactic| walk_at "dw") => `(tactic| first
  | (with_reducible apply run_seq) | (with_reducible apply run_if)
  | ((with_reducible apply run_set); (try dsimp only [outD])) | ((with_reducible apply run_next); (try dsimp only [outD])) | ((with_reducible apply run_ret); (try dsimp only [outD])) | ((with_reducible apply run_retN); (try dsimp only [outD])) | ((with_reducible apply run_drop); (try dsimp only [outD]))
  | ((with_reducible apply run_brk); (try dsimp only [outD])) | ((with_reducible apply run_cont); (try dsimp only [outD])) | ((with_reducible apply run_asg); (try dsimp only [outD])) | ((with_reducible apply run_par); (try dsimp only [outD]))
  | (with_reducible apply par_mk)
  | ((with_reducible apply ev_var); · rfl)
  | (with_reducible apply ev_int) | (with_reducible apply ev_str) | (with_reducible apply ev_bl) | (with_reducible apply ev_non) | (with_reducible apply ev_ty)
  | (with_reducible apply ev_dgetS)
  | (with_reducible apply ev_op) | (with_reducible apply ev_un) | (with_reducible apply ea_cons) | (with_reducible apply ea_nil)
  | (with_reducible apply ev_isiT) | (with_reducible apply ev_cb) | (with_reducible apply ev_tup) | (with_reducible apply ev_lstM') | (with_reducible apply ev_lst)
  | (with_reducible apply o_add) | (with_reducible apply o_sub) | (with_reducible apply o_lt) | (with_reducible apply o_le) | (with_reducible apply o_gt) | (with_reducible apply o_ge) | (with_reducible apply o_eqI) | (with_reducible apply o_neI) | (with_reducible apply o_eqS) | (with_reducible apply o_neS) | (with_reducible apply u_neg)
  | (with_reducible apply et_test) | (with_reducible apply et_B) | (with_reducible apply et_not) | (with_reducible apply et_and) | (with_reducible apply et_or) | (with_reducible apply isB)
  | (with_reducible apply ev_andV) | (with_reducible apply ev_orV) | (with_reducible apply ev_notV) | (with_reducible apply ev_if) | (with_reducible apply ev_chain)
  | (with_reducible apply tt_and) | (with_reducible apply ff_and) | (with_reducible apply ntt_and)
  | (with_reducible apply ev_callE) | (with_reducible apply ev_methE) | (with_reducible apply ev_propE)
  | (with_reducible apply eg_name) | (with_reducible apply egs_nil) | (with_reducible apply egs_cons) | ((with_reducible apply eg_tup); · rfl)
  | (with_reducible apply c_abs) | (with_reducible apply c_min2) | (with_reducible apply c_max2) | (with_reducible apply c_int) | (with_reducible apply c_intB)
  | (with_reducible apply ep_cons) | (with_reducible apply ep_nil) | (with_reducible apply ev_sl) | (with_reducible apply eo_none) | (with_reducible apply eo_some) | (with_reducible apply et_yes)
  | (with_reducible apply ev_bm) | (with_reducible apply ev_m1) | (with_reducible apply ei_rng1) | (with_reducible apply ei_rng2) | (with_reducible apply ei_list) | (with_reducible apply ei_tup)
  | (with_reducible apply ev_din) | (with_reducible apply ev_dnotin) | (with_reducible apply ev_dget2) | (with_reducible apply ei_enum) | (with_reducible apply ei_zip)
  | (with_reducible apply ex_int) | ((with_reducible apply s_lst); (· exact .v)) | (with_reducible apply ev_makeE) | ((with_reducible apply run_par3); (try dsimp only [outD]))
  | ((with_reducible apply eg_lst); · rfl)
  | ((with_reducible apply o_modP); (· first | decide | omega))
  | ((with_reducible apply o_fdivP); (· first | decide | omega); (· first | decide | omega))
  | ((with_reducible apply o_mul); (· first | exact .inl ⟨by first | decide | omega, by first | decide | omega⟩ | exact .inr ⟨by first | decide | omega, by first | decide | omega⟩))
  | ((with_reducible apply c_lenSeq); (· first | exact .l | exact .t))
  | ((with_reducible apply o_ixT); (· exact atI_nn (by decide) rfl))
  | (dsimp only []))
section
variable {K : Frag} {E : XK}
theorem valD_putKD {κ : Type} [DecidableEq κ] (k k' : κ) (v : D) : ∀ kvs : List (κ × D), valD (putKD kvs k v) k' = if k' = k then some v else valD kvs k' := by
  have h1 : ∀ kvs : List (κ × D), (kvs.any fun kv => decide (kv.1 = k)) = true → valD (kvs.map fun kv => if kv.1 = k then (kv.1, v) else kv) k' = if k' = k then some v else valD kvs k' := by
    intro kvs
    induction kvs with
    | nil => intro h; simp at h
    | cons p kvs ih =>
      intro h
      obtain ⟨f, x⟩ := p
      unfold valD at *
      rw [List.map_cons, List.find?_cons, List.find?_cons]
      by_cases e : f = k
      · subst e
        rw [if_pos rfl]
        by_cases e2 : k' = f
        · subst e2; simp
        · have e3 : ¬ f = k' := fun z => e2 z.symm
          rw [if_neg e2, decide_eq_false e3]
          have same : ∀ l : List (κ × D), ((l.map fun kv => if kv.1 = f then (kv.1, v) else kv).find? fun kv => decide (kv.1 = k')).map (·.2) = (l.find? fun kv => decide (kv.1 = k')).map (·.2) := by
            intro l
            induction l with
            | nil => rfl
            | cons q l ih2 =>
              obtain ⟨g, y⟩ := q
              rw [List.map_cons, List.find?_cons, List.find?_cons]
              by_cases eg : g = f
              · subst eg
                rw [if_pos rfl, decide_eq_false e3]
                exact ih2
              · rw [if_neg eg]
                by_cases e5 : g = k'
                · rw [decide_eq_true e5]
                · rw [decide_eq_false e5]; exact ih2
          exact same kvs
      · rw [if_neg e]
        have h' : (kvs.any fun kv => decide (kv.1 = k)) = true := by
          rw [List.any_cons] at h
          simpa [e] using h
        by_cases e2 : f = k'
        · rw [decide_eq_true e2]
          have : ¬ k' = k := fun z => e (e2.trans z)
          rw [if_neg this]
        · rw [decide_eq_false e2]
          exact ih h'
  intro kvs
  unfold putKD
  by_cases h : (kvs.any fun kv => decide (kv.1 = k)) = true
  · rw [if_pos h]; exact h1 kvs h
  · rw [if_neg h]
    unfold valD
    rw [List.find?_append]
    by_cases e : k' = k
    · subst e
      rw [if_pos rfl]
      have : kvs.find? (fun kv => decide (kv.1 = k')) = none := by
        rw [List.find?_eq_none]
        intro x hx hd
        exact h (List.any_eq_true.mpr ⟨x, hx, hd⟩)
      rw [this]; simp
    · rw [if_neg e]
      have e3 : ¬ k = k' := fun z => e z.symm
      rw [List.find?_cons_of_neg (by simpa using e3), List.find?_nil, Option.or_none]
theorem len_putKD {κ : Type} [DecidableEq κ] (kvs : List (κ × D)) (k : κ) (v : D) : (putKD kvs k v).length ≤ kvs.length + 1 := by
  unfold putKD
  split
  · rw [List.length_map]; omega
  · rw [List.length_append]; exact Nat.le_refl _
theorem inl_eq {a b : Int} : ((Sum.inl a : Key) = Sum.inl b) ↔ a = b := ⟨fun h => Sum.inl.inj h, fun h => by rw [h]⟩
section
variable (a b : Int → Int) (n : Nat)
theorem fst_succ (i : Nat) (ρ : Int) : fstQ a n (i + 1) ρ = (fstQ a n i ρ).or (if rsQ a n i = ρ then some i else none) := by
  unfold fstQ
  rw [List.range_succ, List.find?_append]
  congr 1
  by_cases h : rsQ a n i = ρ
  · rw [if_pos h, List.find?_cons_of_pos (by simpa using h)]
  · rw [if_neg h, List.find?_cons_of_neg (by simpa using h)]; rfl
theorem fst_spec {i : Nat} {ρ : Int} {e : Nat} (h : fstQ a n i ρ = some e) : e < i ∧ rsQ a n e = ρ := by
  unfold fstQ at h
  exact ⟨List.mem_range.mp (List.mem_of_find?_eq_some h), by simpa using List.find?_some h⟩
theorem fst_mono {i j : Nat} (hij : i ≤ j) {ρ : Int} {e : Nat} (h : fstQ a n i ρ = some e) : fstQ a n j ρ = some e := by
  induction j with
  | zero => have : i = 0 := by omega
            subst this; exact h
  | succ j ih =>
    rcases Nat.lt_or_ge i (j + 1) with z | z
    · rw [fst_succ, ih (by omega)]; rfl
    · have : i = j + 1 := by omega
      subst this; exact h
theorem fst_some {i d : Nat} (h : d < i) : ∃ e, fstQ a n i (rsQ a n d) = some e := by
  cases q : fstQ a n i (rsQ a n d) with
  | some e => exact ⟨e, rfl⟩
  | none =>
    unfold fstQ at q
    rw [List.find?_eq_none] at q
    exact absurd (q d (List.mem_range.mpr h)) (by simp)
theorem con_none (h : ∀ d, d < n → badQ a b n d = false) : conQ a b n = none := by
  unfold conQ
  rw [List.find?_eq_none]
  intro d hd
  rw [h d (List.mem_range.mp hd)]
  exact Bool.false_ne_true
theorem find_range_first {p : Nat → Bool} {n i : Nat} (hi : i < n) (h : p i = true) (before : ∀ d, d < i → p d = false) : (List.range n).find? p = some i := by
  have e : List.range n = List.range i ++ (i :: (List.range (n - (i + 1))).map (fun z => i + 1 + z)) := by
    have : List.range n = List.range (i + 1) ++ (List.range (n - (i + 1))).map (fun z => i + 1 + z) := by
      rw [← List.range_add]; exact congrArg List.range (by omega)
    rw [this, List.range_succ, List.append_assoc]; rfl
  rw [e, List.find?_append]
  have : (List.range i).find? p = none := by
    rw [List.find?_eq_none]
    intro d hd
    rw [before d (List.mem_range.mp hd)]
    exact Bool.false_ne_true
  rw [this, Option.none_or, List.find?_cons_of_pos h]
end
theorem setset_at {S : Store} {p q : Addr} {m m' : M} (h : p ≠ q) : ((S.set p m).set q m') p = some m := by rw [Store.set_ne h, Store.set_same]
theorem set_comm {S : Store} {p q : Addr} {m m' m'' : M} (h : p ≠ q) : ((S.set p m).set q m').set p m'' = (S.set p m'').set q m' := by
  funext b
  unfold Store.set
  by_cases e1 : b = p
  · subst e1; rw [if_pos rfl, if_neg h, if_pos rfl]
  · rw [if_neg e1]
    by_cases e2 : b = q
    · rw [if_pos e2, if_pos e2]
    · rw [if_neg e2, if_neg e2, if_neg e1, if_neg e1]
theorem drop2 {J : Jd} {S : Store} {p q : Addr} {m m' : M} (hJ : J.S = S) (hp : S p = none) (hq : S q = none) (h1 : ∀ z, Drop J.S z z) : Drop J.S ((S.set p m).set q m') S := by
  subst hJ
  exact Drop.set hq hq (Drop.set hp hp (h1 _))
theorem two_vals {a b : List Int} {n : Nat} : ([a, b].map fun r => valsD r n) = [valsD a n, valsD b n] := rfl
theorem vals_at {r : List Int} {n i : Nat} (h : i < n) : L2.atI ((row (fun x => x + ofs r x) n).map D.int) (i : Int) = some (.int ((i : Int) + ofs r i)) := by
  have := ints_atI (ns := row (fun x => x + ofs r x) n) (i := (i : Int)) (by omega) (by rw [row_len]; omega)
  rw [Int.toNat_natCast, row_getD h] at this
  exact this
theorem two_all {α : Type} {p : α → Prop} {a b : α} (ha : p a) (hb : p b) : ∀ r ∈ [a, b], p r := by
  intro r hr
  rcases List.mem_cons.mp hr with e | e
  · rw [e]; exact ha
  · rw [List.mem_singleton.mp e]; exact hb
theorem drop1 {J : Jd} {S : Store} {p : Addr} {m : M} (hJ : J.S = S) (hp : S p = none) : Drop J.S (S.set p m) S := by
  subst hJ
  exact Drop.set hp hp .refl
theorem range_find_none {p : Nat → Bool} {n : Nat} (h : ∀ d, d < n → p d = false) : (List.range n).find? p = none := by
  rw [List.find?_eq_none]
  intro d hd
  rw [h d (List.mem_range.mp hd)]
  exact Bool.false_ne_true
end

end Y

set_option maxHeartbeats 410000
namespace Y
open PySem L2 DL PyProof.Rows YM
local macro_rules | `(tactic| walk_at "dw") => `(tactic| first
  | (with_reducible apply run_seq) | (with_reducible apply run_if)
  | ((with_reducible apply run_set); (try dsimp only [outD])) | ((with_reducible apply run_next); (try dsimp only [outD])) | ((with_reducible apply run_ret); (try dsimp only [outD])) | ((with_reducible apply run_retN); (try dsimp only [outD])) | ((with_reducible apply run_drop); (try dsimp only [outD]))
  | ((with_reducible apply run_brk); (try dsimp only [outD])) | ((with_reducible apply run_cont); (try dsimp only [outD])) | ((with_reducible apply run_asg); (try dsimp only [outD])) | ((with_reducible apply run_par); (try dsimp only [outD]))
  | (with_reducible apply par_mk)
  | ((with_reducible apply ev_var); · rfl)
  | (with_reducible apply ev_int) | (with_reducible apply ev_str) | (with_reducible apply ev_bl) | (with_reducible apply ev_non) | (with_reducible apply ev_ty)
  | (with_reducible apply ev_dgetS)
  | (with_reducible apply ev_op) | (with_reducible apply ev_un) | (with_reducible apply ea_cons) | (with_reducible apply ea_nil)
  | (with_reducible apply ev_isiT) | (with_reducible apply ev_cb) | (with_reducible apply ev_tup) | (with_reducible apply ev_lstM') | (with_reducible apply ev_lst)
  | (with_reducible apply o_add) | (with_reducible apply o_sub) | (with_reducible apply o_lt) | (with_reducible apply o_le) | (with_reducible apply o_gt) | (with_reducible apply o_ge) | (with_reducible apply o_eqI) | (with_reducible apply o_neI) | (with_reducible apply o_eqS) | (with_reducible apply o_neS) | (with_reducible apply u_neg)
  | (with_reducible apply et_test) | (with_reducible apply et_B) | (with_reducible apply et_not) | (with_reducible apply et_and) | (with_reducible apply et_or) | (with_reducible apply isB)
  | (with_reducible apply ev_andV) | (with_reducible apply ev_orV) | (with_reducible apply ev_notV) | (with_reducible apply ev_if) | (with_reducible apply ev_chain)
  | (with_reducible apply tt_and) | (with_reducible apply ff_and) | (with_reducible apply ntt_and)
  | (with_reducible apply ev_callE) | (with_reducible apply ev_methE) | (with_reducible apply ev_propE)
  | (with_reducible apply eg_name) | (with_reducible apply egs_nil) | (with_reducible apply egs_cons) | ((with_reducible apply eg_tup); · rfl)
  | (with_reducible apply c_abs) | (with_reducible apply c_min2) | (with_reducible apply c_max2) | (with_reducible apply c_int) | (with_reducible apply c_intB)
  | (with_reducible apply ep_cons) | (with_reducible apply ep_nil) | (with_reducible apply ev_sl) | (with_reducible apply eo_none) | (with_reducible apply eo_some) | (with_reducible apply et_yes)
  | (with_reducible apply ev_bm) | (with_reducible apply ev_m1) | (with_reducible apply ei_rng1) | (with_reducible apply ei_rng2) | (with_reducible apply ei_list) | (with_reducible apply ei_tup))
section
variable {K : Frag} {E : XK}
theorem cut_ints (ns : List Int) (lo hi : Option Int) : ∃ ms : List Int, DL.cutD (ns.map D.int) lo hi = ms.map D.int := ⟨(ns.drop (HT.sIx (ns.map D.int).length 0 lo)).take (HT.sIx (ns.map D.int).length (ns.map D.int).length hi - HT.sIx (ns.map D.int).length 0 lo), by
  unfold DL.cutD
  rw [List.map_take, List.map_drop]⟩
theorem run__law_pen : ∀ J ds S P PX, J.S = S → C__law_pen ds S P PX → J.X K E PX → Run K J (t__law_pen K) (startD N__law_pen ds) S (outD J P) := by
  rintro J ds S P PX hS ⟨ns, rfl, p⟩ hX
  unfold t__law_pen
  repeat walk_at "dw"
  refine ev_dispM fun q hq hq2 => ?_
  repeat walk_at "dw"
  refine ⟨63, rfl, ?_⟩
  refine s_klst ?_
  obtain ⟨ms, e⟩ := cut_ints ns none (some 63)
  rw [e]
  repeat walk_at "dw"
  refine c_listOf .l ?_
  repeat walk_at "dw"
  refine ⟨[(.inr "cells", intsD ms), (.inr "turn", .int 0), (.inr "left", .int 0)], rfl, (by decide : 3 ≤ 15), Store.set_same, ?_⟩
  rw [Store.set_set]
  exact .now (p q _ hq ⟨ms, 0, 0, rfl, by decide, by decide, by decide⟩)
theorem ints_at {ns : List Int} {k : Nat} (h : k < ns.length) : (ns.map D.int)[k]? = some (.int (ns.getD k 0)) := by
  rw [List.getElem?_map, List.getD_eq_getElem?_getD, List.getElem?_eq_getElem h]; rfl
theorem primes_at {i : Int} (h0 : 0 ≤ i) (h1 : i < 5) : ∃ p : Int, L2.atI [D.int 2147483629, D.int 2147483647, D.int 2147483587, D.int 2147483563, D.int 2147483579] i = some (.int p) ∧ 0 < p ∧ p < 2147483648 := by
  have e : i = 0 ∨ i = 1 ∨ i = 2 ∨ i = 3 ∨ i = 4 := by omega
  rcases e with rfl | rfl | rfl | rfl | rfl
  · exact ⟨_, atI_nn (by decide) rfl, by decide, by decide⟩
  · exact ⟨_, atI_nn (by decide) rfl, by decide, by decide⟩
  · exact ⟨_, atI_nn (by decide) rfl, by decide, by decide⟩
  · exact ⟨_, atI_nn (by decide) rfl, by decide, by decide⟩
  · exact ⟨_, atI_nn (by decide) rfl, by decide, by decide⟩
theorem run__law_draw : ∀ J ds S P PX, J.S = S → C__law_draw ds S P PX → J.X K E PX → Run K J (t__law_draw K) (startD N__law_draw ds) S (outD J P) := by
  rintro J ds S P PX hS ⟨a, m, t, n, rfl, hs, ⟨cells, t0, l, rfl, h0, h1, h2⟩, lo, few, p⟩ hX
  unfold t__law_draw
  repeat walk_at "dw"
  refine ⟨_, _, .m hs, rfl, ?_⟩
  repeat walk_at "dw"
  refine dec_and (fun hl => ?_) (fun hl => ?_)
  · repeat walk_at "dw"
    refine ⟨_, _, .m hs, rfl, ?_⟩
    repeat walk_at "dw"
    refine o_modP few.1 ?_
    repeat walk_at "dw"
    refine run_dput ?_
    repeat walk_at "dw"
    refine ⟨_, _, .m hs, rfl, ?_⟩
    repeat walk_at "dw"
    refine o_fdivP few.1 few.2 ?_
    repeat walk_at "dw"
    refine ⟨a, _, .inr "left", rfl, hs, rfl, (by decide : 3 < PySem.sizeLine), ?_⟩
    repeat walk_at "dw"
    refine .now (p _ _ (Int.emod_nonneg _ (by have := few.1; omega)) (Int.emod_lt_of_pos _ few.1) ⟨cells, t0, l / n, rfl, h0, by omega, Int.ediv_nonneg h2 (by have := few.1; omega)⟩)
  · repeat walk_at "dw"
    refine ⟨_, _, .m hs, rfl, ?_⟩
    repeat walk_at "dw"
    refine run_dput ?_
    repeat walk_at "dw"
    refine ⟨a, _, .inr "turn", rfl, hs, rfl, (by decide : 3 < PySem.sizeLine), ?_⟩
    have e1 : putKD [((.inr "cells" : Key), intsD cells), (.inr "turn", .int t0), (.inr "left", .int l)] (.inr "turn") (.int (t0 + 1)) = [(.inr "cells", intsD cells), (.inr "turn", .int (t0 + 1)), (.inr "left", .int l)] := rfl
    rw [e1]
    generalize hS1 : S.set a (.dK [(.inr "cells", intsD cells), (.inr "turn", .int (t0 + 1)), (.inr "left", .int l)]) = S1
    have hs1 : S1 a = some (.dK [(.inr "cells", intsD cells), (.inr "turn", .int (t0 + 1)), (.inr "left", .int l)]) := by rw [← hS1]; exact Store.set_same
    have fin1 : ∀ i, 0 ≤ i → i < n → P (.int i) S1 := fun i i0 i1 => by
      rw [← hS1]
      exact p i _ i0 i1 ⟨cells, t0 + 1, l, rfl, by omega, by omega, h2⟩
    have lo2 := lo.2
    repeat walk_at "dw"
    refine o_mul (.inl ⟨by decide, by decide⟩) ?_
    repeat walk_at "dw"
    have rest : ∀ cell : Int, DL.Run K J (tSeq (tIfS (tAnd (tTest (tOp rLtI (tVar 3) (tCB (rLenSeq K) (tCons (tDGet (tVar 0) (tC (.str "cells"))) tNil)))) (tTest (tOp rGeI (tCB rAbs (tCons (tVar 4) tNil)) (tOp rPowI (tC (.int 10)) (tC (.int 18)))))) (tSeq (sDPut (tVar 0) (tC (.str "left")) (tOp rDivI (tOp rSubI (tCB rAbs (tCons (tVar 4) tNil)) (tOp rPowI (tC (.int 10)) (tC (.int 18)))) (tVar 1))) (tRet (tOp rModI (tOp rSubI (tCB rAbs (tCons (tVar 4) tNil)) (tOp rPowI (tC (.int 10)) (tC (.int 18)))) (tVar 1)))) tNext) (tSeq (tAsg (tLst (tCons (tC (.int 2147483629)) (tCons (tC (.int 2147483647)) (tCons (tC (.int 2147483587)) (tCons (tC (.int 2147483563)) (tCons (tC (.int 2147483579)) tNil)))))) (gName 5)) (tSeq (tAsg (tOp (rIxL K) (tVar 5) (tOp rModI (tVar 3) (tC (.int 5)))) (gName 6)) (tSeq (tAsg (tOp rModI (tOp rAddI (tOp rAddI (tOp rAddI (tOp rMulI (tOp rModI (tVar 4) (tVar 6)) (tC (.int 39373))) (tOp rMulI (tOp rMulI (tC (.int 30011)) (tVar 3)) (tVar 3))) (tOp rMulI (tC (.int 8117)) (tVar 3))) (tC (.int 23))) (tVar 6)) (gName 7)) (tSeq (tAsg (tOp rModI (tOp rMulI (tVar 7) (tOp rAddI (tVar 7) (tC (.int 69621)))) (tOp (rIxL K) (tVar 5) (tOp rModI (tOp rAddI (tVar 3) (tC (.int 2))) (tC (.int 5))))) (gName 7)) (tRet (tOp rModI (tOp rDivI (tOp rModI (tOp rAddI (tOp rAddI (tOp rMulI (tVar 7) (tVar 7)) (tOp rMulI (tC (.int 16807)) (tVar 7))) (tVar 3)) (tC (.int 2147483549))) (tC (.int 64))) (tVar 1)))))))) [some (.loc a), some (.int n), none, some (.int t0), some (.int cell), none, none, none] S1 (outD J P) := by
      intro cell
      repeat walk_at "dw"
      refine ⟨_, _, .m hs1, rfl, ?_⟩
      repeat walk_at "dw"
      refine c_lenSeq .l ?_
      repeat walk_at "dw"
      have tail : DL.Run K J (tSeq (tAsg (tLst (tCons (tC (.int 2147483629)) (tCons (tC (.int 2147483647)) (tCons (tC (.int 2147483587)) (tCons (tC (.int 2147483563)) (tCons (tC (.int 2147483579)) tNil)))))) (gName 5)) (tSeq (tAsg (tOp (rIxL K) (tVar 5) (tOp rModI (tVar 3) (tC (.int 5)))) (gName 6)) (tSeq (tAsg (tOp rModI (tOp rAddI (tOp rAddI (tOp rAddI (tOp rMulI (tOp rModI (tVar 4) (tVar 6)) (tC (.int 39373))) (tOp rMulI (tOp rMulI (tC (.int 30011)) (tVar 3)) (tVar 3))) (tOp rMulI (tC (.int 8117)) (tVar 3))) (tC (.int 23))) (tVar 6)) (gName 7)) (tSeq (tAsg (tOp rModI (tOp rMulI (tVar 7) (tOp rAddI (tVar 7) (tC (.int 69621)))) (tOp (rIxL K) (tVar 5) (tOp rModI (tOp rAddI (tVar 3) (tC (.int 2))) (tC (.int 5))))) (gName 7)) (tRet (tOp rModI (tOp rDivI (tOp rModI (tOp rAddI (tOp rAddI (tOp rMulI (tVar 7) (tVar 7)) (tOp rMulI (tC (.int 16807)) (tVar 7))) (tVar 3)) (tC (.int 2147483549))) (tC (.int 64))) (tVar 1))))))) [some (.loc a), some (.int n), none, some (.int t0), some (.int cell), none, none, none] S1 (outD J P) := by
        obtain ⟨p1, e1, q1, q2⟩ := primes_at (Int.emod_nonneg t0 (show (5 : Int) ≠ 0 by decide)) (Int.emod_lt_of_pos t0 (show (0 : Int) < 5 by decide))
        obtain ⟨p2, e2, q3, q4⟩ := primes_at (Int.emod_nonneg (t0 + 2) (show (5 : Int) ≠ 0 by decide)) (Int.emod_lt_of_pos (t0 + 2) (show (0 : Int) < 5 by decide))
        repeat walk_at "dw"
        refine ⟨by decide, ?_⟩
        repeat walk_at "dw"
        refine o_modP (by decide) ?_
        refine o_ixL .v e1 ?_
        repeat walk_at "dw"
        refine o_modP q1 ?_
        repeat walk_at "dw"
        refine o_mul (.inr ⟨by decide, by decide⟩) ?_
        repeat walk_at "dw"
        refine o_mul (.inl ⟨by decide, by decide⟩) ?_
        repeat walk_at "dw"
        refine o_mul (.inr ⟨by omega, by omega⟩) ?_
        repeat walk_at "dw"
        refine o_mul (.inl ⟨by decide, by decide⟩) ?_
        repeat walk_at "dw"
        refine o_modP q1 ?_
        generalize hz : (cell % p1 * 39373 + 30011 * t0 * t0 + 8117 * t0 + 23) % p1 = z
        have z0 : 0 ≤ z := by rw [← hz]; exact Int.emod_nonneg _ (by omega)
        have z1 : z < p1 := by rw [← hz]; exact Int.emod_lt_of_pos _ q1
        repeat walk_at "dw"
        refine o_mul (.inl ⟨by omega, by omega⟩) ?_
        repeat walk_at "dw"
        refine o_modP (by decide) ?_
        refine o_ixL .v e2 ?_
        refine o_modP q3 ?_
        generalize hy : z * (z + 69621) % p2 = y
        have y0 : 0 ≤ y := by rw [← hy]; exact Int.emod_nonneg _ (by omega)
        have y1 : y < p2 := by rw [← hy]; exact Int.emod_lt_of_pos _ q3
        repeat walk_at "dw"
        refine o_mul (.inl ⟨by omega, by omega⟩) ?_
        repeat walk_at "dw"
        refine o_mul (.inl ⟨by decide, by decide⟩) ?_
        repeat walk_at "dw"
        refine o_modP (by decide) ?_
        repeat walk_at "dw"
        refine o_fdivP (by decide) (by decide) ?_
        repeat walk_at "dw"
        refine o_modP few.1 ?_
        exact .now (fin1 _ (Int.emod_nonneg _ (by have := few.1; omega)) (Int.emod_lt_of_pos _ few.1))
      refine dec_and (fun hl => ?_) (fun hl => ?_)
      · repeat walk_at "dw"
        refine o_pow ⟨by decide, by decide, by decide⟩ ?_
        repeat walk_at "dw"
        refine dec_and (fun hb => ?_) (fun hb => ?_)
        · repeat walk_at "dw"
          refine run_dput ?_
          repeat walk_at "dw"
          refine o_pow ⟨by decide, by decide, by decide⟩ ?_
          repeat walk_at "dw"
          refine o_fdivP few.1 few.2 ?_
          repeat walk_at "dw"
          refine ⟨a, _, .inr "left", rfl, hs1, rfl, (by decide : 3 < PySem.sizeLine), ?_⟩
          repeat walk_at "dw"
          refine o_pow ⟨by decide, by decide, by decide⟩ ?_
          repeat walk_at "dw"
          refine o_modP few.1 ?_
          rw [← hS1, Store.set_set]
          refine .now (p _ _ (Int.emod_nonneg _ (by have := few.1; omega)) (Int.emod_lt_of_pos _ few.1) ⟨cells, t0 + 1, _, rfl, by omega, by omega, Int.ediv_nonneg (by omega) (by have := few.1; omega)⟩)
        · exact run_next tail
      · exact ff_and (run_next tail)
    repeat walk_at "dw"
    refine ⟨_, _, .m hs1, rfl, ?_⟩
    repeat walk_at "dw"
    refine ⟨by decide, ?_⟩
    refine o_neNil pl_ints ?_
    repeat walk_at "dw"
    cases he : (cells.map D.int).isEmpty with
    | true => exact ntt_and (run_next (rest _))
    | false =>
      refine nff_and ?_
      repeat walk_at "dw"
      refine ⟨_, _, .m hs1, rfl, ?_⟩
      repeat walk_at "dw"
      refine ⟨_, _, .m hs1, rfl, ?_⟩
      repeat walk_at "dw"
      refine c_lenSeq .l ?_
      have pos : 0 < cells.length := by
        cases cells with
        | nil => simp at he
        | cons a l => simp
      repeat walk_at "dw"
      rw [List.length_map]
      refine o_modP (by omega) ?_
      have i0 := Int.emod_nonneg t0 (show (cells.length : Int) ≠ 0 by omega)
      have i1 := Int.emod_lt_of_pos t0 (show (0 : Int) < cells.length by omega)
      refine o_ixL .v (atI_nn i0 (ints_at (by omega))) ?_
      exact rest _
end

end Y

set_option maxHeartbeats 410000
namespace Y
open PySem L2 DL PyProof.Rows YM
local macro_rules | `(tactic| walk_at "dw") => `(tactic| first
  | (with_reducible apply run_seq) | (with_reducible apply run_if)
  | ((with_reducible apply run_set); (try dsimp only [outD])) | ((with_reducible apply run_next); (try dsimp only [outD])) | ((with_reducible apply run_ret); (try dsimp only [outD])) | ((with_reducible apply run_retN); (try dsimp only [outD])) | ((with_reducible apply run_drop); (try dsimp only [outD]))
  | ((with_reducible apply run_brk); (try dsimp only [outD])) | ((with_reducible apply run_cont); (try dsimp only [outD])) | ((with_reducible apply run_asg); (try dsimp only [outD])) | ((with_reducible apply run_par); (try dsimp only [outD]))
  | (with_reducible apply par_mk)
  | ((with_reducible apply ev_var); · rfl)
  | (with_reducible apply ev_int) | (with_reducible apply ev_str) | (with_reducible apply ev_bl) | (with_reducible apply ev_non) | (with_reducible apply ev_ty)
  | (with_reducible apply ev_dgetS)
  | (with_reducible apply ev_op) | (with_reducible apply ev_un) | (with_reducible apply ea_cons) | (with_reducible apply ea_nil)
  | (with_reducible apply ev_isiT) | (with_reducible apply ev_cb) | (with_reducible apply ev_tup) | (with_reducible apply ev_lstM') | (with_reducible apply ev_lst)
  | (with_reducible apply o_add) | (with_reducible apply o_sub) | (with_reducible apply o_lt) | (with_reducible apply o_le) | (with_reducible apply o_gt) | (with_reducible apply o_ge) | (with_reducible apply o_eqI) | (with_reducible apply o_neI) | (with_reducible apply o_eqS) | (with_reducible apply o_neS) | (with_reducible apply u_neg)
  | (with_reducible apply et_test) | (with_reducible apply et_B) | (with_reducible apply et_not) | (with_reducible apply et_and) | (with_reducible apply et_or) | (with_reducible apply isB)
  | (with_reducible apply ev_andV) | (with_reducible apply ev_orV) | (with_reducible apply ev_notV) | (with_reducible apply ev_if) | (with_reducible apply ev_chain)
  | (with_reducible apply tt_and) | (with_reducible apply ff_and) | (with_reducible apply ntt_and)
  | (with_reducible apply ev_callE) | (with_reducible apply ev_methE) | (with_reducible apply ev_propE)
  | (with_reducible apply eg_name) | (with_reducible apply egs_nil) | (with_reducible apply egs_cons) | ((with_reducible apply eg_tup); · rfl)
  | (with_reducible apply c_abs) | (with_reducible apply c_min2) | (with_reducible apply c_max2) | (with_reducible apply c_int) | (with_reducible apply c_intB)
  | (with_reducible apply ep_cons) | (with_reducible apply ep_nil) | (with_reducible apply ev_sl) | (with_reducible apply eo_none) | (with_reducible apply eo_some) | (with_reducible apply et_yes)
  | (with_reducible apply ev_bm) | (with_reducible apply ev_m1) | (with_reducible apply ei_rng1) | (with_reducible apply ei_rng2) | (with_reducible apply ei_list) | (with_reducible apply ei_tup)
  | (with_reducible apply ev_din) | (with_reducible apply ev_dnotin) | (with_reducible apply ev_dget2) | (with_reducible apply ei_enum) | (with_reducible apply ei_zip)
  | (with_reducible apply ex_int) | ((with_reducible apply s_lst); (· exact .v)) | (with_reducible apply ev_makeE) | ((with_reducible apply run_par3); (try dsimp only [outD]))
  | ((with_reducible apply eg_lst); · rfl)
  | ((with_reducible apply o_modP); (· first | decide | omega))
  | ((with_reducible apply o_fdivP); (· first | decide | omega); (· first | decide | omega))
  | ((with_reducible apply o_mul); (· first | exact .inl ⟨by first | decide | omega, by first | decide | omega⟩ | exact .inr ⟨by first | decide | omega, by first | decide | omega⟩))
  | ((with_reducible apply c_lenSeq); (· first | exact .l | exact .t))
  | ((with_reducible apply o_ixT); (· exact atI_nn (by decide) rfl))
  | (dsimp only []))
section
variable {K : Frag} {E : XK}
theorem ev_lstRg1 {ta : TE} {P : D → Store → Prop} {J : Jd} {δ : En} {S : Store} (h : Ev K J ta δ S fun x S1 => ∃ b : Int, x = .int b ∧ b.toNat ≤ 2 ^ 24 ∧ P (.lst (rgD 0 b.toNat)) S1) : Ev K J (tLstRgA (tRg1 ta)) δ S P := fun G H σ w j e Q k =>
  h G H σ w j e _ fun G2 H2 S2 v2 d2 w2 x2 r2 ⟨b, e2, hr, p⟩ => by
    subst e2
    cases r2
    refine ⟨b, rfl, by rw [Int.sub_zero]; exact hr, (k.mono x2).imm w2 (d := .lst (rgD 0 b.toNat)) (fun q G' s hq => .lst hq ?_) p⟩
    have := rg_reps (K := K) (G := G') 0 b
    rw [Int.sub_zero] at this
    exact this
theorem set_swap {S : Store} {p q : Addr} {m m' : M} (h : p ≠ q) : (S.set p m).set q m' = (S.set q m').set p m := by
  funext b
  unfold Store.set
  by_cases e1 : b = p
  · subst e1; rw [if_pos rfl, if_neg h, if_pos rfl]
  · rw [if_neg e1, if_neg e1]
theorem ev_imp {J : Jd} {te : TE} {δ : En} {S : Store} {P P' : D → Store → Prop} (h : Ev K J te δ S P) (i : ∀ d S, P d S → P' d S) : Ev K J te δ S P' := fun G H σ w j e Q k =>
  h G H σ w j e Q fun G2 H2 S2 v d w2 x2 r2 p => k G2 H2 S2 v d w2 x2 r2 (i d S2 p)
theorem eg_imp {J : Jd} {g : TG} {v : D} {δ : En} {S : Store} {P P' : En → Store → Prop} (h : EvG K J g v δ S P) (i : ∀ δ S, P δ S → P' δ S) : EvG K J g v δ S P' := fun G H σ u w j e r N o =>
  h G H σ u w j e r N fun G2 H2 S2 σ2 δ2 w2 x2 e2 p => o G2 H2 S2 σ2 δ2 w2 x2 e2 (i δ2 S2 p)
/-- a comprehension whose items are drawn -/
theorem lcRow {g : TG} {te : TE} {vs : List Nat} {δ : En} {J : Jd} {P : List D → Store → Prop} {S S1 : Store} {a : Addr} {m : M} {t c : Int} {n : Nat} (e1 : S1 = S.set a m) (pn : PenM m t) (hn : n ≤ 16777216)
    (step : ∀ (i : Nat) m', i < n → PenM m' (t + c * i) → EvG K J g (.int (i : Int)) (wipeD δ vs) (S.set a m') fun δ2 S2 => Ev K J te δ2 S2 fun y S4 => ∃ (z : Int) (m2 : M), y = .int z ∧ PenM m2 (t + c * i + c) ∧ S4 = S.set a m2)
    (fin : ∀ (xs : List Int) m', xs.length = n → PenM m' (t + c * n) → P (xs.map .int) (S.set a m')) :
    ∃ I : Nat → List D → Store → Prop, I 0 [] S1 ∧ (∀ i x acc S', (rgD 0 n)[i]? = some x → I i acc S' → CTurn K J g tYes te vs δ I i x acc S') ∧ ∀ acc S', I (rgD 0 n).length acc S' → P acc S' := by
  refine ⟨fun i acc S' => ∃ xs : List Int, acc = xs.map .int ∧ xs.length = i ∧ ∃ m', PenM m' (t + c * i) ∧ S' = S.set a m', ⟨[], rfl, rfl, m, by rw [Int.natCast_zero, Int.mul_zero, Int.add_zero]; exact pn, e1⟩, ?_, ?_⟩
  · rintro i x acc S' hx ⟨xs, rfl, hl, m', pn', rfl⟩
    obtain ⟨lt, rfl⟩ := rgD_get hx
    rw [Int.zero_add]
    refine eg_imp (step i m' lt pn') fun δ2 S2 hh => et_yes ⟨fun _ => ev_imp hh fun y S4 hy => ?_, fun z => (by cases z)⟩
    obtain ⟨z, m2, e2, pn2, e3⟩ := hy
    subst e2; subst e3
    refine ⟨by rw [List.length_map, hl, PySem.sizeLine_eq]; omega, xs ++ [z], by rw [List.map_append]; rfl, by rw [List.length_append, hl]; rfl, m2, ?_, rfl⟩
    have e4 : t + c * ((i + 1 : Nat) : Int) = t + c * i + c := by rw [Int.natCast_add, Int.mul_add]; omega
    rw [e4]; exact pn2
  · rintro acc S' ⟨xs, rfl, hl, m', pn', rfl⟩
    rw [rgD_len] at *
    exact fin xs m' hl pn'
theorem run__law_pick : ∀ J ds S P PX, J.S = S → C__law_pick ds S P PX → J.X K E PX → Run K J (t__law_pick K) (startD N__law_pick ds) S (outD J P) := by
  rintro J ds S P PX hS ⟨a, m, t, os, rfl, hs, pn, lo, pos, few, p⟩ hX
  unfold t__law_pick
  repeat walk_at "dw"
  refine ⟨a, m, t, _, rfl, hs, pn, lo, ⟨by omega, by omega⟩, fun i m' h0 h1 pn' => ?_⟩
  have lt : i.toNat < os.length := by omega
  refine o_ixL .v (atI_nn h0 (List.getElem?_eq_getElem lt)) ?_
  exact .now (p _ m' (List.getElem_mem lt) pn')
theorem map_erase {f : Int → D} : ∀ (l : List Int) (k : Nat), (l.eraseIdx k).map f = (l.map f).eraseIdx k
  | [], _ => rfl
  | _ :: _, 0 => rfl
  | x :: l, k + 1 => by rw [List.eraseIdx_cons_succ, List.map_cons, List.map_cons, List.eraseIdx_cons_succ, map_erase l k]
theorem run__law_shuffled : ∀ J ds S P PX, J.S = S → C__law_shuffled ds S P PX → J.X K E PX → Run K J (t__law_shuffled K) (startD N__law_shuffled ds) S (outD J P) := by
  rintro J ds S P PX hS ⟨a, m, t, ns, rfl, hs, pn, lo, few, p⟩ hX
  have lo1 := lo.1
  have lo2 := lo.2
  unfold t__law_shuffled
  repeat walk_at "dw"
  refine c_listOfM .l fun u hu hu2 => ?_
  repeat walk_at "dw"
  refine ⟨Nat.zero_le _, fun v hv hv2 => ?_⟩
  repeat walk_at "dw"
  have au : a ≠ u := fun z => by subst z; rw [hs] at hu; cases hu
  have uv : u ≠ v := fun z => by subst z; rw [Store.set_same] at hv; cases hv
  have hv' : S v = none := by rw [Store.set_ne (Ne.symm uv)] at hv; exact hv
  have av : a ≠ v := fun z => by subst z; rw [hs] at hv'; cases hv'
  refine run_while (fun k δ' S' => ∃ (L F : List Int) (m' : M) (t' : Int), k = L.length ∧ L.length + F.length = ns.length ∧ t' + L.length = t + ns.length ∧ PenM m' t' ∧ S' = ((S.set a m').set u (.lst (L.map .int))).set v (.lst (F.map .int)) ∧ δ' = [some (.loc a), some (intsD ns), some (.loc u), some (.loc v)]) ns.length ⟨ns, [], m, t, rfl, by simp, by omega, pn, by rw [Store.set_id hs]; rfl, rfl⟩ ?_
  rintro k δ' S' ⟨L, F, m', t', rfl, hl, ht, pn', rfl, rfl⟩
  repeat walk_at "dw"
  refine ⟨Nat.zero_le _, ?_⟩
  refine o_neNilM (ns := L) (by rw [Store.set_ne uv, Store.set_same]) ?_
  repeat walk_at "dw"
  cases L with
  | nil =>
    refine ⟨fun z => (by cases z), fun _ => ?_⟩
    refine run_frz (i := 3) rfl Store.set_same (by rw [hS] at *; exact hv') ?_
    rw [Store.del_set (by rw [Store.set_ne (Ne.symm uv), Store.set_ne (Ne.symm av)]; exact hv')]
    repeat walk_at "dw"
    refine .drop (Drop.set (by rw [hS]; exact hu) (by rw [Store.set_ne (Ne.symm au)]; exact hu) .refl) ?_
    have e0 : F.length = ns.length := by simpa using hl
    exact p F m' e0 (pn'.mono (by have : t' + ((0 : Nat) : Int) = t + ns.length := ht; omega))
  | cons x L =>
    refine ⟨fun _ => ?_, fun z => (by cases z)⟩
    unfold b1__law_shuffled
    repeat walk_at "dw"
    refine ⟨ty_list (.m Store.set_same), ?_⟩
    repeat walk_at "dw"
    refine ⟨ty_list (.m (by rw [Store.set_ne uv, Store.set_same])), ?_⟩
    repeat walk_at "dw"
    refine c_lenSeq (.m (by rw [Store.set_ne uv, Store.set_same])) ?_
    rw [List.length_map]
    repeat walk_at "dw"
    rw [List.length_cons] at hl ht
    have hst : (((S.set a m').set u (.lst ((x :: L).map .int))).set v (.lst (F.map .int))) a = some m' := by rw [Store.set_ne av, Store.set_ne au, Store.set_same]
    refine ⟨a, m', t', _, rfl, hst, pn', ⟨by have := pn'; obtain ⟨_, t0, _, _, h0, h1, _⟩ := this; omega, by omega⟩, ⟨by rw [List.length_cons]; omega, by rw [List.length_cons]; omega⟩, fun i m2 i0 i1 pn2 => ?_⟩
    rw [set_swap (Ne.symm av), set_swap (Ne.symm au), Store.set_set]
    rw [List.length_cons] at i1
    have lt : i.toNat < (x :: L).length := by rw [List.length_cons]; omega
    repeat walk_at "dw"
    refine m_popAt (k' := i.toNat) (ds := (x :: L).map D.int) (x := .int ((x :: L).getD i.toNat 0)) (by rw [Store.set_ne uv, Store.set_same]) (by omega) (by omega) ?_ (ints_at lt) ?_
    · unfold seqIndex?
      rw [List.length_map, List.length_cons]
      have : (decide (0 ≤ i) && decide (i < ((L.length + 1 : Nat) : Int))) = true := by rw [Bool.and_eq_true]; exact ⟨decide_eq_true i0, decide_eq_true i1⟩
      have hj : (if i < 0 then i + ((L.length + 1 : Nat) : Int) else i) = i := if_neg (by omega)
      simp only [hj, this, if_true]
    rw [set_swap (Ne.symm uv), Store.set_set]
    repeat walk_at "dw"
    refine m_append Store.set_same (by rw [List.length_map, PySem.sizeLine_eq]; omega) ?_
    rw [Store.set_set]
    repeat walk_at "dw"
    refine ⟨((x :: L).eraseIdx i.toNat).length, ?_, (x :: L).eraseIdx i.toNat, F ++ [(x :: L).getD i.toNat 0], m2, t' + 1, rfl, ?_, ?_, pn2, ?_, rfl⟩
    · rw [List.length_eraseIdx_of_lt lt, List.length_cons]; omega
    · rw [List.length_eraseIdx_of_lt lt, List.length_append, List.length_cons, List.length_singleton]; omega
    · rw [List.length_eraseIdx_of_lt lt, List.length_cons]; omega
    · rw [List.map_append, map_erase]; rfl
end

end Y

set_option maxHeartbeats 410000
namespace Y
open PySem L2 DL PyProof.Rows YM
local macro_rules | `(tactic| walk_at "dw") => `(tactic| first
  | (with_reducible apply run_seq) | (with_reducible apply run_if)
  | ((with_reducible apply run_set); (try dsimp only [outD])) | ((with_reducible apply run_next); (try dsimp only [outD])) | ((with_reducible apply run_ret); (try dsimp only [outD])) | ((with_reducible apply run_retN); (try dsimp only [outD])) | ((with_reducible apply run_drop); (try dsimp only [outD]))
  | ((with_reducible apply run_brk); (try dsimp only [outD])) | ((with_reducible apply run_cont); (try dsimp only [outD])) | ((with_reducible apply run_asg); (try dsimp only [outD])) | ((with_reducible apply run_par); (try dsimp only [outD]))
  | (with_reducible apply par_mk)
  | ((with_reducible apply ev_var); · rfl)
  | (with_reducible apply ev_int) | (with_reducible apply ev_str) | (with_reducible apply ev_bl) | (with_reducible apply ev_non) | (with_reducible apply ev_ty)
  | (with_reducible apply ev_dgetS)
  | (with_reducible apply ev_op) | (with_reducible apply ev_un) | (with_reducible apply ea_cons) | (with_reducible apply ea_nil)
  | (with_reducible apply ev_isiT) | (with_reducible apply ev_cb) | (with_reducible apply ev_tup) | (with_reducible apply ev_lstM') | (with_reducible apply ev_lst)
  | (with_reducible apply o_add) | (with_reducible apply o_sub) | (with_reducible apply o_lt) | (with_reducible apply o_le) | (with_reducible apply o_gt) | (with_reducible apply o_ge) | (with_reducible apply o_eqI) | (with_reducible apply o_neI) | (with_reducible apply o_eqS) | (with_reducible apply o_neS) | (with_reducible apply u_neg)
  | (with_reducible apply et_test) | (with_reducible apply et_B) | (with_reducible apply et_not) | (with_reducible apply et_and) | (with_reducible apply et_or) | (with_reducible apply isB)
  | (with_reducible apply ev_andV) | (with_reducible apply ev_orV) | (with_reducible apply ev_notV) | (with_reducible apply ev_if) | (with_reducible apply ev_chain)
  | (with_reducible apply tt_and) | (with_reducible apply ff_and) | (with_reducible apply ntt_and)
  | (with_reducible apply ev_callE) | (with_reducible apply ev_methE) | (with_reducible apply ev_propE)
  | (with_reducible apply eg_name) | (with_reducible apply egs_nil) | (with_reducible apply egs_cons) | ((with_reducible apply eg_tup); · rfl)
  | (with_reducible apply c_abs) | (with_reducible apply c_min2) | (with_reducible apply c_max2) | (with_reducible apply c_int) | (with_reducible apply c_intB)
  | (with_reducible apply ep_cons) | (with_reducible apply ep_nil) | (with_reducible apply ev_sl) | (with_reducible apply eo_none) | (with_reducible apply eo_some) | (with_reducible apply et_yes)
  | (with_reducible apply ev_bm) | (with_reducible apply ev_m1) | (with_reducible apply ei_rng1) | (with_reducible apply ei_rng2) | (with_reducible apply ei_list) | (with_reducible apply ei_tup)
  | (with_reducible apply ev_din) | (with_reducible apply ev_dnotin) | (with_reducible apply ev_dget2) | (with_reducible apply ei_enum) | (with_reducible apply ei_zip)
  | (with_reducible apply ex_int) | ((with_reducible apply s_lst); (· exact .v)) | (with_reducible apply ev_makeE) | ((with_reducible apply run_par3); (try dsimp only [outD]))
  | ((with_reducible apply eg_lst); · rfl)
  | ((with_reducible apply o_modP); (· first | decide | omega))
  | ((with_reducible apply o_fdivP); (· first | decide | omega); (· first | decide | omega))
  | ((with_reducible apply o_mul); (· first | exact .inl ⟨by first | decide | omega, by first | decide | omega⟩ | exact .inr ⟨by first | decide | omega, by first | decide | omega⟩))
  | ((with_reducible apply c_lenSeq); (· first | exact .l | exact .t))
  | ((with_reducible apply o_ixT); (· exact atI_nn (by decide) rfl))
  | (dsimp only []))
section
variable {K : Frag} {E : XK}
theorem run__law_gcd : ∀ J ds S P PX, J.S = S → C__law_gcd ds S P PX → J.X K E PX → Run K J (t__law_gcd K) (startD N__law_gcd ds) S (outD J P) := by
  rintro J ds S P PX hS ⟨a, b, rfl, p⟩ hX
  unfold t__law_gcd
  repeat walk_at "dw"
  rw [abs_if, abs_if]
  refine run_while (fun m δ' S' => ∃ x y : Int, 0 ≤ x ∧ 0 ≤ y ∧ Int.gcd x y = Int.gcd a b ∧ δ' = [some (.int x), some (.int y)] ∧ S' = S ∧ m = y.toNat) _ ⟨_, _, Int.natCast_nonneg _, Int.natCast_nonneg _, ?_, rfl, rfl, rfl⟩ ?_
  · show Nat.gcd _ _ = Nat.gcd _ _
    rw [Int.natAbs_natCast, Int.natAbs_natCast]
  · rintro m δ' S' ⟨x, y, hx, hy, hg, rfl, rfl, rfl⟩
    repeat walk_at "dw"
    refine dec_and (fun h => ?_) (fun h => ?_)
    · unfold b1__law_gcd
      repeat walk_at "dw"
      have l1 := Int.emod_nonneg x (show y ≠ 0 by omega)
      have l2 := Int.emod_lt_of_pos x h
      exact ⟨_, by omega, y, x % y, hy, l1, (gcd_step hx hy).trans hg, rfl, rfl, rfl⟩
    · repeat walk_at "dw"
      have e : y = 0 := by omega
      subst e
      rw [Int.gcd_zero_right] at hg
      have e2 : x = (Int.gcd a b : Int) := by rw [← hg]; omega
      rw [e2]
      exact .now p
theorem run__law_rising_rows : ∀ J ds S P PX, J.S = S → C__law_rising_rows ds S P PX → J.X K E PX → Run K J (t__law_rising_rows K) (startD N__law_rising_rows ds) S (outD J P) := by
  rintro J ds S P PX hS ⟨a, m, t, k, rfl, hs, pn, lo, k0, k1, p⟩ hX
  have lo1 := lo.1
  have lo2 := lo.2
  unfold t__law_rising_rows
  repeat walk_at "dw"
  refine ⟨a, m, _, _, rfl, hs, pn, ⟨by omega, by omega⟩, ⟨by omega, by omega⟩, fun b m1 b0 b1 pn1 => ?_⟩
  repeat walk_at "dw"
  refine ⟨Nat.zero_le _, fun u hu hu2 => ?_⟩
  have au : a ≠ u := fun z => by subst z; rw [Store.set_same] at hu; cases hu
  have hu' : S u = none := by rw [Store.set_ne (Ne.symm au)] at hu; exact hu
  repeat walk_at "dw"
  refine ⟨sz2, ?_⟩
  repeat walk_at "dw"
  refine ev_lc (gk_name (by decide)) ?_
  repeat walk_at "dw"
  refine ⟨k, rfl, ⟨by omega, by omega⟩, lcRow (n := k.toNat) (S := S.set u (.lst [])) (c := 1) (set_swap au) pn1 (by omega) ?_ ?_⟩
  · intro i m' lt pn'
    refine eg_name ?_
    repeat walk_at "dw"
    refine ⟨a, m', _, _, rfl, Store.set_same, pn', ⟨by omega, by omega⟩, ⟨by omega, by omega⟩, fun z m2 z0 z1 pn2 => ?_⟩
    rw [Store.set_set]
    exact ⟨z, m2, rfl, pn2, rfl⟩
  intro gs m2 hg pn2
  repeat walk_at "dw"
  refine run_for ?_
  repeat walk_at "dw"
  refine ⟨_, rfl, fun i δ' S' => i ≤ gs.length ∧ ∃ L : List Int, L.length = i ∧ S' = ((S.set u (.lst (L.map .int))).set a m2) ∧ ∃ z5 z6 z7, δ' = [some (.loc a), some (.int k), some (.int (b - 2 * k)), some (.loc u), some (intsD gs), z5, z6, z7], ⟨Nat.zero_le _, [], rfl, rfl, none, none, none, rfl⟩, ?_, ?_⟩
  · rintro i x δ' S' hx ⟨hi, L, hl, rfl, z5, z6, z7, rfl⟩
    obtain ⟨g, hg2, rfl⟩ := map_get hx
    have lt := (List.getElem?_eq_some_iff.mp hg2).1
    refine eg_name ?_
    unfold b1__law_rising_rows
    repeat walk_at "dw"
    refine ⟨ty_list (.m (by rw [Store.set_ne (Ne.symm au), Store.set_same])), ?_⟩
    repeat walk_at "dw"
    refine ev_lcMF (fun i => D.int (L.getD i 0)) (fun i => decide (L.getD i 0 ≤ g)) (gk_name (by decide)) ?_
    repeat walk_at "dw"
    refine ⟨u, L.map D.int, rfl, (by rw [Store.set_ne (Ne.symm au), Store.set_same]), by rw [List.length_map, PySem.sizeLine_eq]; omega, ?_, ?_⟩
    · intro j d hd
      obtain ⟨y, hy, rfl⟩ := map_get hd
      have ey : L.getD j 0 = y := by rw [List.getD_eq_getElem?_getD, hy]; rfl
      rw [ey]
      repeat walk_at "dw"
      exact ⟨rfl, rfl, fun _ => by repeat (first | exact ⟨rfl, rfl⟩ | walk_at "dw")⟩
    repeat walk_at "dw"
    have le : ((List.range (L.map D.int).length).filter fun i => decide (L.getD i 0 ≤ g)).length ≤ L.length := by
      have := List.length_filter_le (fun i => decide (L.getD i 0 ≤ g)) (List.range (L.map D.int).length)
      exact Nat.le_trans this (by rw [List.length_range, List.length_map]; exact Nat.le_refl _)
    rw [List.length_map]
    generalize ((List.range (L.map D.int).length).filter fun i => decide (L.getD i 0 ≤ g)).length = w at le
    refine m_insert (ds := L.map D.int) (by rw [Store.set_ne (Ne.symm au), Store.set_same]) (by rw [List.length_map, PySem.sizeLine_eq]; omega) (by omega) (by omega) ?_
    rw [set_swap au, Store.set_set]
    repeat walk_at "dw"
    refine ⟨by omega, L.take w ++ [g] ++ L.drop w, ?_, ?_, _, _, _, rfl⟩
    · rw [List.length_append, List.length_append, List.length_take, List.length_drop, List.length_singleton]; omega
    · rw [Int.toNat_natCast, List.map_append, List.map_append, List.map_take, List.map_drop]; rfl
  · rintro δ' S' ⟨hi, L, hl, rfl, z5, z6, z7, rfl⟩
    rw [List.length_map] at hl
    refine run_frz (i := 3) rfl (by rw [Store.set_ne (Ne.symm au), Store.set_same]) (by rw [hS] at *; exact hu') ?_
    rw [set_swap (Ne.symm au), Store.del_set (by rw [Store.set_ne (Ne.symm au)]; exact hu')]
    repeat walk_at "dw"
    refine ev_lcP (fun i => D.int (b - 2 * k + L.getD i 0 - i)) (gk_name (by decide)) ?_
    repeat walk_at "dw"
    refine ⟨k, rfl, ⟨by omega, by omega⟩, by rw [rgD_len, PySem.sizeLine_eq]; omega, ?_, ?_⟩
    · intro i d hd
      obtain ⟨lt, rfl⟩ := rgD_get hd
      rw [Int.zero_add]
      repeat walk_at "dw"
      refine o_ixL .v (atI_nn (Int.natCast_nonneg _) (by rw [Int.toNat_natCast]; exact ints_at (by omega))) ?_
      repeat walk_at "dw"
      exact ⟨rfl, rfl⟩
    · rw [rgD_len]
      have e : (List.range k.toNat).map (fun (i : Nat) => D.int (b - 2 * k + L.getD i 0 - i)) = ((List.range k.toNat).map fun (i : Nat) => b - 2 * k + L.getD i 0 - (i : Int)).map D.int := by rw [List.map_map]; rfl
      rw [e]
      exact .now (p _ _ (by rw [List.length_map, List.length_range]; omega) (pn2.mono (by omega)))
end

end Y

set_option maxHeartbeats 410000
namespace Y
open PySem L2 DL PyProof.Rows YM
local macro_rules | `(tactic| walk_at "dw") => `(tactic| first
  | (with_reducible apply run_seq) | (with_reducible apply run_if)
  | ((with_reducible apply run_set); (try dsimp only [outD])) | ((with_reducible apply run_next); (try dsimp only [outD])) | ((with_reducible apply run_ret); (try dsimp only [outD])) | ((with_reducible apply run_retN); (try dsimp only [outD])) | ((with_reducible apply run_drop); (try dsimp only [outD]))
  | ((with_reducible apply run_brk); (try dsimp only [outD])) | ((with_reducible apply run_cont); (try dsimp only [outD])) | ((with_reducible apply run_asg); (try dsimp only [outD])) | ((with_reducible apply run_par); (try dsimp only [outD]))
  | (with_reducible apply par_mk)
  | ((with_reducible apply ev_var); · rfl)
  | (with_reducible apply ev_int) | (with_reducible apply ev_str) | (with_reducible apply ev_bl) | (with_reducible apply ev_non) | (with_reducible apply ev_ty)
  | (with_reducible apply ev_dgetS)
  | (with_reducible apply ev_op) | (with_reducible apply ev_un) | (with_reducible apply ea_cons) | (with_reducible apply ea_nil)
  | (with_reducible apply ev_isiT) | (with_reducible apply ev_cb) | (with_reducible apply ev_tup) | (with_reducible apply ev_lstM') | (with_reducible apply ev_lst)
  | (with_reducible apply o_add) | (with_reducible apply o_sub) | (with_reducible apply o_lt) | (with_reducible apply o_le) | (with_reducible apply o_gt) | (with_reducible apply o_ge) | (with_reducible apply o_eqI) | (with_reducible apply o_neI) | (with_reducible apply o_eqS) | (with_reducible apply o_neS) | (with_reducible apply u_neg)
  | (with_reducible apply et_test) | (with_reducible apply et_B) | (with_reducible apply et_not) | (with_reducible apply et_and) | (with_reducible apply et_or) | (with_reducible apply isB)
  | (with_reducible apply ev_andV) | (with_reducible apply ev_orV) | (with_reducible apply ev_notV) | (with_reducible apply ev_if) | (with_reducible apply ev_chain)
  | (with_reducible apply tt_and) | (with_reducible apply ff_and) | (with_reducible apply ntt_and)
  | (with_reducible apply ev_callE) | (with_reducible apply ev_methE) | (with_reducible apply ev_propE)
  | (with_reducible apply eg_name) | (with_reducible apply egs_nil) | (with_reducible apply egs_cons) | ((with_reducible apply eg_tup); · rfl)
  | (with_reducible apply c_abs) | (with_reducible apply c_min2) | (with_reducible apply c_max2) | (with_reducible apply c_int) | (with_reducible apply c_intB)
  | (with_reducible apply ep_cons) | (with_reducible apply ep_nil) | (with_reducible apply ev_sl) | (with_reducible apply eo_none) | (with_reducible apply eo_some) | (with_reducible apply et_yes)
  | (with_reducible apply ev_bm) | (with_reducible apply ev_m1) | (with_reducible apply ei_rng1) | (with_reducible apply ei_rng2) | (with_reducible apply ei_list) | (with_reducible apply ei_tup)
  | (with_reducible apply ev_din) | (with_reducible apply ev_dnotin) | (with_reducible apply ev_dget2) | (with_reducible apply ei_enum) | (with_reducible apply ei_zip)
  | (with_reducible apply ex_int) | ((with_reducible apply s_lst); (· exact .v)) | (with_reducible apply ev_makeE) | ((with_reducible apply run_par3); (try dsimp only [outD]))
  | ((with_reducible apply eg_lst); · rfl)
  | ((with_reducible apply o_modP); (· first | decide | omega))
  | ((with_reducible apply o_fdivP); (· first | decide | omega); (· first | decide | omega))
  | ((with_reducible apply o_mul); (· first | exact .inl ⟨by first | decide | omega, by first | decide | omega⟩ | exact .inr ⟨by first | decide | omega, by first | decide | omega⟩))
  | ((with_reducible apply c_lenSeq); (· first | exact .l | exact .t))
  | ((with_reducible apply o_ixT); (· exact atI_nn (by decide) rfl))
  | (dsimp only []))
section
variable {K : Frag} {E : XK}
theorem sz5 {α : Type} {a b c d e : α} : [a, b, c, d, e].length ≤ PySem.sizeLine := (by show 5 ≤ PySem.sizeLine; decide)
theorem o_catI {J : Jd} {S : Store} {P : D → Store → Prop} {xs ys : List Int} (hz : xs.length + ys.length ≤ PySem.sizeLine) (p : P (intsD (xs ++ ys)) S) : Op K J rCat (.lst (xs.map .int)) (.lst (ys.map .int)) S P :=
  o_cat .v .v (by rw [List.length_map, List.length_map]; exact hz) (by rw [← List.map_append]; exact p)
theorem flat_map {xs : List Int} : ∀ k, (List.replicate k (xs.map D.int)).flatten = ((List.replicate k xs).flatten).map D.int
  | 0 => rfl
  | k + 1 => by rw [List.replicate_succ, List.replicate_succ, List.flatten_cons, List.flatten_cons, List.map_append, flat_map k]
theorem o_repI {J : Jd} {S : Store} {P : D → Store → Prop} {xs : List Int} {k : Int} (h0 : 0 ≤ k) (h1 : k < 2 ^ 63) (hz : xs.length * k.toNat ≤ PySem.sizeLine) (p : P (intsD (List.replicate k.toNat xs).flatten) S) : Op K J rRep (.lst (xs.map .int)) (.int k) S P :=
  o_rep .v (by omega) h1 (by rw [List.length_map]; exact hz) (by rw [flat_map]; exact p)
theorem o_rep1 {J : Jd} {S : Store} {P : D → Store → Prop} {x : Int} {k : Int} (h0 : 0 ≤ k) (h1 : k ≤ 1000000) (p : P (intsD (List.replicate k.toNat x)) S) : Op K J rRep (.lst [.int x]) (.int k) S P := by
  refine o_repI (xs := [x]) h0 (by omega) (by rw [PySem.sizeLine_eq, List.length_singleton]; omega) ?_
  have : ∀ n : Nat, (List.replicate n [x]).flatten = List.replicate n x := fun n => by
    induction n with
    | zero => rfl
    | succ n ih => rw [List.replicate_succ, List.flatten_cons, ih]; rfl
  rw [this]
  exact p
theorem run__law_piece_rows : ∀ J ds S P PX, J.S = S → C__law_piece_rows ds S P PX → J.X K E PX → Run K J (t__law_piece_rows K) (startD N__law_piece_rows ds) S (outD J P) := by
  rintro J ds S P PX hS ⟨a, m, t, k, rfl, hs, pn, lo, k0, k1, p⟩ hX
  have lo1 := lo.1
  have lo2 := lo.2
  unfold t__law_piece_rows
  repeat walk_at "dw"
  refine ⟨Nat.zero_le _, ?_⟩
  repeat walk_at "dw"
  refine run_while (fun w δ' S' => ∃ (L : List Int) (m' : M), (L.length : Int) ≤ k ∧ w = k.toNat - L.length ∧ PenM m' (t + 3 * L.length) ∧ S' = S.set a m' ∧ ∃ z3 z4 z5, δ' = [some (.loc a), some (.int k), some (intsD L), z3, z4, z5]) k.toNat ⟨[], m, by simp; omega, rfl, by simpa using pn, (Store.set_id hs).symm, none, none, none, rfl⟩ ?_
  rintro w δ' S' ⟨L, m', hl, rfl, pn', rfl, z3, z4, z5, rfl⟩
  repeat walk_at "dw"
  rw [List.length_map]
  refine dec_and (fun h => ?_) (fun h => ?_)
  · unfold b1__law_piece_rows
    repeat walk_at "dw"
    rw [List.length_map]
    repeat walk_at "dw"
    refine ⟨a, m', _, _, rfl, Store.set_same, pn', ⟨by omega, by omega⟩, ⟨by omega, by omega⟩, fun sz m1 s0 s1 pn1 => ?_⟩
    rw [Store.set_set]
    repeat walk_at "dw"
    refine ⟨a, m1, _, 2 * k + 1, rfl, Store.set_same, pn1, ⟨by omega, by omega⟩, ⟨by omega, by omega⟩, fun nb m2 b0 b1 pn2 => ?_⟩
    rw [Store.set_set]
    repeat walk_at "dw"
    refine ⟨sz2, ?_⟩
    repeat walk_at "dw"
    refine ⟨a, m2, _, 2, rfl, Store.set_same, pn2, ⟨by omega, by omega⟩, ⟨by decide, by decide⟩, fun cs m3 c0 c1 pn3 => ?_⟩
    rw [Store.set_set]
    repeat walk_at "dw"
    refine dec_and (fun h => ?_) (fun h => ?_)
    · repeat walk_at "dw"
      refine ⟨sz1, ?_⟩
      repeat walk_at "dw"
      refine o_rep1 (by omega) (by omega) ?_
      refine o_catI (by rw [List.length_replicate, PySem.sizeLine_eq]; omega) ?_
      repeat walk_at "dw"
      refine ⟨_, ?_, L ++ List.replicate (1 + sz).toNat (nb - k), m3, ?_, rfl, pn3.mono ?_, rfl, _, _, _, rfl⟩
      all_goals (rw [List.length_append, List.length_replicate]; omega)
    · repeat walk_at "dw"
      refine ev_lcP (fun i => D.int (nb - k - (i : Int))) (gk_name (by decide)) ?_
      repeat walk_at "dw"
      refine ⟨_, rfl, ⟨by omega, by omega⟩, by rw [rgD_len, PySem.sizeLine_eq]; omega, ?_, ?_⟩
      · intro i d hd
        obtain ⟨lt, rfl⟩ := rgD_get hd
        rw [Int.zero_add]
        repeat walk_at "dw"
        exact ⟨rfl, rfl⟩
      · rw [rgD_len]
        have e : (List.range (1 + sz).toNat).map (fun (i : Nat) => D.int (nb - k - (i : Int))) = ((List.range (1 + sz).toNat).map fun (i : Nat) => nb - k - (i : Int)).map D.int := by rw [List.map_map]; rfl
        rw [e]
        refine o_catI (by rw [List.length_map, List.length_range, PySem.sizeLine_eq]; omega) ?_
        repeat walk_at "dw"
        refine ⟨_, ?_, L ++ ((List.range (1 + sz).toNat).map fun (i : Nat) => nb - k - (i : Int)), m3, ?_, rfl, pn3.mono ?_, rfl, _, _, _, rfl⟩
        all_goals (rw [List.length_append, List.length_map, List.length_range]; omega)
  · repeat walk_at "dw"
    exact .now (p L m' (by omega) (pn'.mono (by omega)))
theorem run__law_rows : ∀ J ds S P PX, J.S = S → C__law_rows ds S P PX → J.X K E PX → Run K J (t__law_rows K) (startD N__law_rows ds) S (outD J P) := by
  rintro J ds S P PX hS ⟨a, m, t, k, rfl, hs, pn, lo, k0, k1, p⟩ hX
  have lo1 := lo.1
  have lo2 := lo.2
  unfold t__law_rows
  repeat walk_at "dw"
  refine ⟨a, m, _, k, rfl, hs, pn, ⟨by omega, by omega⟩, ⟨by omega, by omega⟩, fun s m1 s0 s1 pn1 => ?_⟩
  repeat walk_at "dw"
  refine ⟨a, m1, _, 6, rfl, Store.set_same, pn1, ⟨by omega, by omega⟩, ⟨by decide, by decide⟩, fun r m2 r0 r1 pn2 => ?_⟩
  rw [Store.set_set]
  repeat walk_at "dw"
  refine ⟨sz2, ?_⟩
  repeat walk_at "dw"
  refine dec_and (fun h => ?_) (fun h => ?_)
  · repeat walk_at "dw"
    refine ⟨sz5, ?_⟩
    repeat walk_at "dw"
    refine ⟨a, m2, _, [.int 0, .int 1, .int 2, .int (1 + s), .int (3 * (1 + s) + 1)], rfl, Store.set_same, pn2, ⟨by omega, by omega⟩, (by show 0 < 5; decide), (by show 5 < 1000000; decide), fun x m3 hx pn3 => ?_⟩
    rw [Store.set_set]
    have : ∃ e : Int, x = .int e ∧ 0 ≤ e ∧ e ≤ 4000 := by
      (simp only [List.mem_cons, List.not_mem_nil, or_false] at hx)
      rcases hx with z | z | z | z | z
      · exact ⟨_, z, by omega, by omega⟩
      · exact ⟨_, z, by omega, by omega⟩
      · exact ⟨_, z, by omega, by omega⟩
      · exact ⟨_, z, by omega, by omega⟩
      · exact ⟨_, z, by omega, by omega⟩
    obtain ⟨e, rfl, e0, e1⟩ := this
    repeat walk_at "dw"
    refine ev_lc (gk_name (by decide)) ?_
    repeat walk_at "dw"
    refine ⟨1 + s, rfl, ⟨by omega, by omega⟩, lcRow (n := (1 + s).toNat) (c := 1) rfl pn3 (by omega) ?_ ?_⟩
    · intro i m' lt pn'
      refine eg_name ?_
      repeat walk_at "dw"
      refine ⟨a, m', _, 2 * e + 1, rfl, Store.set_same, pn', ⟨by omega, by omega⟩, ⟨by omega, by omega⟩, fun z m2 z0 z1 pn2 => ?_⟩
      rw [Store.set_set]
      repeat walk_at "dw"
      exact ⟨_, m2, rfl, pn2, rfl⟩
    intro gs m4 hg pn4
    exact .now (p gs m4 (by omega) (.inl (by omega)) (pn4.mono (by omega)))
  repeat walk_at "dw"
  refine dec_and (fun h => ?_) (fun h => ?_)
  · repeat walk_at "dw"
    refine ⟨a, m2, _, 1 + s, rfl, Store.set_same, pn2, ⟨by omega, by omega⟩, by omega, by omega, fun gs m3 hg pn3 => ?_⟩
    rw [Store.set_set]
    exact .now (p gs m3 (by omega) (.inl (by omega)) (pn3.mono (by omega)))
  repeat walk_at "dw"
  refine dec_and (fun h => ?_) (fun h => ?_)
  · repeat walk_at "dw"
    refine ev_lstRg1 ?_
    repeat walk_at "dw"
    refine ⟨(by show (1 + s).toNat ≤ 16777216; omega), ?_⟩
    repeat walk_at "dw"
    have e : rgD 0 (1 + s).toNat = ((List.range (1 + s).toNat).map fun (i : Nat) => 0 + (i : Int)).map D.int := by unfold rgD; rw [List.map_map]; rfl
    rw [e]
    refine ⟨a, m2, _, _, rfl, Store.set_same, pn2, ⟨by omega, by omega⟩, by rw [List.length_map, List.length_range]; omega, fun gs m3 hg pn3 => ?_⟩
    rw [List.length_map, List.length_range] at hg
    rw [Store.set_set]
    repeat walk_at "dw"
    refine ev_lc (gk_name (by decide)) ?_
    repeat walk_at "dw"
    refine ⟨1 + s, rfl, ⟨by omega, by omega⟩, lcRow (n := (1 + s).toNat) (c := 1) rfl pn3 (by omega) ?_ ?_⟩
    · intro i m' lt pn'
      refine eg_name ?_
      repeat walk_at "dw"
      refine o_ixL .v (atI_nn (Int.natCast_nonneg _) (by rw [Int.toNat_natCast]; exact ints_at (by omega))) ?_
      repeat walk_at "dw"
      refine ⟨a, m', _, 3, rfl, Store.set_same, pn', ⟨by omega, by omega⟩, ⟨by decide, by decide⟩, fun z m2 z0 z1 pn2 => ?_⟩
      rw [Store.set_set]
      repeat walk_at "dw"
      exact ⟨_, m2, rfl, pn2, rfl⟩
    intro hs m4 hg2 pn4
    exact .now (p hs m4 (by omega) (.inl (by omega)) (pn4.mono (by omega)))
  repeat walk_at "dw"
  refine dec_and (fun h => ?_) (fun h => ?_)
  · repeat walk_at "dw"
    refine ev_lc (gk_name (by decide)) ?_
    repeat walk_at "dw"
    refine ⟨a, m2, _, 3, rfl, Store.set_same, pn2, ⟨by omega, by omega⟩, ⟨by decide, by decide⟩, fun w m3 w0 w1 pn3 => ?_⟩
    rw [Store.set_set]
    repeat walk_at "dw"
    refine ⟨1 + w, rfl, ⟨by omega, by omega⟩, lcRow (n := (1 + w).toNat) (c := 1) rfl pn3 (by omega) ?_ ?_⟩
    · intro i m' lt pn'
      refine eg_name ?_
      repeat walk_at "dw"
      refine ⟨a, m', _, 7, rfl, Store.set_same, pn', ⟨by omega, by omega⟩, ⟨by decide, by decide⟩, fun z m2 z0 z1 pn2 => ?_⟩
      rw [Store.set_set]
      repeat walk_at "dw"
      exact ⟨_, m2, rfl, pn2, rfl⟩
    intro gs m4 hg pn4
    repeat walk_at "dw"
    refine ⟨a, m4, _, 4, rfl, Store.set_same, pn4, ⟨by omega, by omega⟩, ⟨by decide, by decide⟩, fun y m5 y0 y1 pn5 => ?_⟩
    rw [Store.set_set]
    repeat walk_at "dw"
    have hz : gs.length * (1 + y).toNat ≤ 3 * 4 := Nat.mul_le_mul (by omega) (by omega)
    have h0 : 0 < gs.length * (1 + y).toNat := Nat.mul_pos (by omega) (by omega)
    refine o_repI (by omega) (by omega) (by rw [PySem.sizeLine_eq]; omega) ?_
    have el : ((List.replicate (1 + y).toNat gs).flatten).length = (1 + y).toNat * gs.length := rep_len
    rw [Nat.mul_comm] at el
    exact .now (p _ m5 (by omega) (.inr (by omega)) (pn5.mono (by omega)))
  repeat walk_at "dw"
  refine dec_and (fun h => ?_) (fun h => ?_)
  · repeat walk_at "dw"
    refine ev_lc (gk_name (by decide)) ?_
    repeat walk_at "dw"
    refine ⟨1 + s, rfl, ⟨by omega, by omega⟩, lcRow (n := (1 + s).toNat) (c := 1) rfl pn2 (by omega) ?_ ?_⟩
    · intro i m' lt pn'
      refine eg_name ?_
      repeat walk_at "dw"
      refine ⟨sz5, ?_⟩
      repeat walk_at "dw"
      refine ⟨a, m', _, [.int 1, .int 1, .int 1, .int 0, .int (-1)], rfl, Store.set_same, pn', ⟨by omega, by omega⟩, (by show 0 < 5; decide), (by show 5 < 1000000; decide), fun x m3 hx pn3 => ?_⟩
      rw [Store.set_set]
      (simp only [List.mem_cons, List.not_mem_nil, or_false] at hx)
      rcases hx with z | z | z | z | z
      all_goals exact ⟨_, m3, z, pn3, rfl⟩
    intro gs m4 hg pn4
    exact .now (p gs m4 (by omega) (.inl (by omega)) (pn4.mono (by omega)))
  · repeat walk_at "dw"
    refine ⟨a, m2, _, 1 + s, rfl, Store.set_same, pn2, ⟨by omega, by omega⟩, by omega, by omega, fun gs m3 hg pn3 => ?_⟩
    rw [Store.set_set]
    exact .now (p gs m3 (by omega) (.inl (by omega)) (pn3.mono (by omega)))
end

end Y

set_option maxHeartbeats 410000
namespace Y
open PySem L2 DL PyProof.Rows YM
local macro_rules | `(tactic| walk_at "dw") => `(tactic| first
  | (with_reducible apply run_seq) | (with_reducible apply run_if)
  | ((with_reducible apply run_set); (try dsimp only [outD])) | ((with_reducible apply run_next); (try dsimp only [outD])) | ((with_reducible apply run_ret); (try dsimp only [outD])) | ((with_reducible apply run_retN); (try dsimp only [outD])) | ((with_reducible apply run_drop); (try dsimp only [outD]))
  | ((with_reducible apply run_brk); (try dsimp only [outD])) | ((with_reducible apply run_cont); (try dsimp only [outD])) | ((with_reducible apply run_asg); (try dsimp only [outD])) | ((with_reducible apply run_par); (try dsimp only [outD]))
  | (with_reducible apply par_mk)
  | ((with_reducible apply ev_var); · rfl)
  | (with_reducible apply ev_int) | (with_reducible apply ev_str) | (with_reducible apply ev_bl) | (with_reducible apply ev_non) | (with_reducible apply ev_ty)
  | (with_reducible apply ev_dgetS)
  | (with_reducible apply ev_op) | (with_reducible apply ev_un) | (with_reducible apply ea_cons) | (with_reducible apply ea_nil)
  | (with_reducible apply ev_isiT) | (with_reducible apply ev_cb) | (with_reducible apply ev_tup) | (with_reducible apply ev_lstM') | (with_reducible apply ev_lst)
  | (with_reducible apply o_add) | (with_reducible apply o_sub) | (with_reducible apply o_lt) | (with_reducible apply o_le) | (with_reducible apply o_gt) | (with_reducible apply o_ge) | (with_reducible apply o_eqI) | (with_reducible apply o_neI) | (with_reducible apply o_eqS) | (with_reducible apply o_neS) | (with_reducible apply u_neg)
  | (with_reducible apply et_test) | (with_reducible apply et_B) | (with_reducible apply et_not) | (with_reducible apply et_and) | (with_reducible apply et_or) | (with_reducible apply isB)
  | (with_reducible apply ev_andV) | (with_reducible apply ev_orV) | (with_reducible apply ev_notV) | (with_reducible apply ev_if) | (with_reducible apply ev_chain)
  | (with_reducible apply tt_and) | (with_reducible apply ff_and) | (with_reducible apply ntt_and)
  | (with_reducible apply ev_callE) | (with_reducible apply ev_methE) | (with_reducible apply ev_propE)
  | (with_reducible apply eg_name) | (with_reducible apply egs_nil) | (with_reducible apply egs_cons) | ((with_reducible apply eg_tup); · rfl)
  | (with_reducible apply c_abs) | (with_reducible apply c_min2) | (with_reducible apply c_max2) | (with_reducible apply c_int) | (with_reducible apply c_intB)
  | (with_reducible apply ep_cons) | (with_reducible apply ep_nil) | (with_reducible apply ev_sl) | (with_reducible apply eo_none) | (with_reducible apply eo_some) | (with_reducible apply et_yes)
  | (with_reducible apply ev_bm) | (with_reducible apply ev_m1) | (with_reducible apply ei_rng1) | (with_reducible apply ei_rng2) | (with_reducible apply ei_list) | (with_reducible apply ei_tup)
  | (with_reducible apply ev_din) | (with_reducible apply ev_dnotin) | (with_reducible apply ev_dget2) | (with_reducible apply ei_enum) | (with_reducible apply ei_zip)
  | (with_reducible apply ex_int) | ((with_reducible apply s_lst); (· exact .v)) | (with_reducible apply ev_makeE) | ((with_reducible apply run_par3); (try dsimp only [outD]))
  | ((with_reducible apply eg_lst); · rfl)
  | ((with_reducible apply o_modP); (· first | decide | omega))
  | ((with_reducible apply o_fdivP); (· first | decide | omega); (· first | decide | omega))
  | ((with_reducible apply o_mul); (· first | exact .inl ⟨by first | decide | omega, by first | decide | omega⟩ | exact .inr ⟨by first | decide | omega, by first | decide | omega⟩))
  | ((with_reducible apply c_lenSeq); (· first | exact .l | exact .t))
  | ((with_reducible apply o_ixT); (· exact atI_nn (by decide) rfl))
  | (dsimp only []))
section
variable {K : Frag} {E : XK}
theorem run__law_at : ∀ J ds S P PX, J.S = S → C__law_at ds S P PX → J.X K E PX → Run K J (t__law_at K) (startD N__law_at ds) S (outD J P) := by
  rintro J ds S P PX hS ⟨r, x, rfl, n0, n1, p⟩ hX
  unfold t__law_at
  repeat walk_at "dw"
  rw [List.length_map]
  refine o_modP (by omega) ?_
  have i0 := Int.emod_nonneg x (show (r.length : Int) ≠ 0 by omega)
  have i1 := Int.emod_lt_of_pos x (show (0 : Int) < r.length by omega)
  refine o_ixL .v (atI_nn i0 (ints_at (by omega))) ?_
  repeat walk_at "dw"
  exact .now p
theorem run__law_least_rows : ∀ J ds S P PX, J.S = S → C__law_least_rows ds S P PX → J.X K E PX → Run K J (t__law_least_rows K) (startD N__law_least_rows ds) S (outD J P) := by
  rintro J ds S P PX hS ⟨r, rfl, n0, n1, p⟩ hX
  unfold t__law_least_rows
  repeat walk_at "dw"
  refine run_for ?_
  repeat walk_at "dw"
  rw [List.length_map]
  refine ⟨_, _, rfl, ⟨by omega, by omega⟩, ⟨by omega, by omega⟩, fun i δ' S' => i ≤ r.length ∧ (∀ k, 0 < k → k ≤ i → k ∣ r.length → ¬ Pd (ofs r) k) ∧ S' = S ∧ ∃ z, δ' = [some (intsD r), z], ⟨Nat.zero_le _, fun k k0 k1 => by omega, rfl, none, rfl⟩, ?_, ?_⟩
  · rintro i x δ' S' hx ⟨hi, hno, rfl, z, rfl⟩
    obtain ⟨lt, rfl⟩ := rgD_get hx
    have lt : i < r.length := by omega
    have e1 : (1 : Int) + (i : Int) = ((i + 1 : Nat) : Int) := by omega
    rw [e1]
    refine eg_name ?_
    unfold b1__law_least_rows
    repeat walk_at "dw"
    rw [List.length_map]
    repeat walk_at "dw"
    refine dec_and (fun h => ?_) (fun h => ?_)
    · have dv : (i + 1) ∣ r.length := Int.natCast_dvd_natCast.mp (Int.dvd_of_emod_eq_zero h)
      repeat walk_at "dw"
      rw [cut_to (by omega) (by omega), Int.toNat_natCast, List.length_map]
      repeat walk_at "dw"
      have en : ((r.length : Int) / ((i + 1 : Nat) : Int)) = ((r.length / (i + 1) : Nat) : Int) := (Int.natCast_ediv _ _).symm
      rw [en]
      have hle : r.length / (i + 1) ≤ r.length := Nat.div_le_self _ _
      have hl : (r.take (i + 1)).length = i + 1 := by rw [List.length_take]; omega
      have hm : (i + 1) * (r.length / (i + 1)) = r.length := Nat.mul_div_cancel' dv
      refine o_repI (Int.natCast_nonneg _) (Int.lt_of_le_of_lt (Int.ofNat_le.mpr hle) (by omega)) (by rw [hl, Int.toNat_natCast, hm, PySem.sizeLine_eq]; omega) ?_
      rw [Int.toNat_natCast]
      refine o_eqIs ?_
      repeat walk_at "dw"
      refine dec_and (fun hq => ?_) (fun hq => ?_)
      · have hp := (rep_pd (Nat.succ_pos i) dv n0).mp hq
        repeat walk_at "dw"
        rw [cut_to (by omega) (by omega), Int.toNat_natCast]
        have el : i + 1 = lp r := lp_first (Nat.succ_pos i) dv n0 hp fun k k0 k1 kd => hno k k0 (by omega) kd
        rw [el]
        exact .now p
      · repeat walk_at "dw"
        refine ⟨lt, fun k k0 k1 kd => ?_, rfl, _, rfl⟩
        rcases Nat.lt_or_eq_of_le k1 with z | z
        · exact hno k k0 (by omega) kd
        · subst z; exact fun hp => hq ((rep_pd (Nat.succ_pos i) dv n0).mpr hp)
    · refine ff_and ?_
      repeat walk_at "dw"
      refine ⟨lt, fun k k0 k1 kd => ?_, rfl, _, rfl⟩
      rcases Nat.lt_or_eq_of_le k1 with z | z
      · exact hno k k0 (by omega) kd
      · subst z; exact fun hp => h (Int.emod_eq_zero_of_dvd (Int.natCast_dvd_natCast.mpr kd))
  · rintro δ' S' ⟨hi, hno, rfl, z, rfl⟩
    rw [rgD_len] at hno
    exact absurd (ofs_pd r) (hno r.length n0 (by omega) (Nat.dvd_refl _))
theorem com_int (a b : Nat) : (a : Int) / (Int.gcd a b : Nat) * b = ((com a b : Nat) : Int) := by
  have e : Int.gcd (a : Int) (b : Int) = Nat.gcd a b := rfl
  rw [e]
  unfold com
  rw [Int.natCast_mul, Int.natCast_ediv]
theorem run__law_common : ∀ J ds S P PX, J.S = S → C__law_common ds S P PX → J.X K E PX → Run K J (t__law_common K) (startD N__law_common ds) S (outD J P) := by
  rintro J ds S P PX hS ⟨r, s, rfl, r0, r1, s0, s1, p⟩ hX
  unfold t__law_common
  repeat walk_at "dw"
  refine ⟨r, rfl, r0, r1, ?_⟩
  repeat walk_at "dw"
  refine ⟨s, rfl, s0, s1, ?_⟩
  repeat walk_at "dw"
  rw [List.length_map, List.length_map, lr_len, lr_len]
  refine ⟨_, _, rfl, ?_⟩
  have a0 := lp_pos r0
  have a1 := lp_le r0
  have b0 := lp_pos s0
  have b1 := lp_le s0
  have e : Int.gcd (lp r : Int) (lp s : Int) = Nat.gcd (lp r) (lp s) := rfl
  have g0 : 0 < Nat.gcd (lp r) (lp s) := Nat.gcd_pos_of_pos_left _ a0
  have g1 := Nat.le_of_dvd a0 (Nat.gcd_dvd_left (lp r) (lp s))
  refine o_fdivP (by omega) (by omega) ?_
  repeat walk_at "dw"
  rw [com_int]
  exact .now p
theorem run__law_then : ∀ J ds S P PX, J.S = S → C__law_then ds S P PX → J.X K E PX → Run K J (t__law_then K) (startD N__law_then ds) S (outD J P) := by
  rintro J ds S P PX hS ⟨r, s, rfl, r0, r1, s0, s1, hc, p⟩ hX
  unfold t__law_then
  repeat walk_at "dw"
  refine ev_lcP (fun i => D.int (cmp (ofs r) (ofs s) (i : Int))) (gk_name (List.mem_singleton.mpr rfl)) ?_
  repeat walk_at "dw"
  refine ⟨r, s, rfl, r0, r1, s0, s1, ?_⟩
  repeat walk_at "dw"
  refine ⟨_, rfl, ⟨by omega, by omega⟩, by rw [rgD_len, PySem.sizeLine_eq]; omega, ?_, ?_⟩
  · intro i d hd
    obtain ⟨lt, rfl⟩ := rgD_get hd
    rw [Int.zero_add]
    repeat walk_at "dw"
    refine ⟨r, _, rfl, r0, r1, ?_⟩
    repeat walk_at "dw"
    refine ⟨s, _, rfl, s0, s1, ?_⟩
    repeat walk_at "dw"
    refine ⟨congrArg D.int ?_, rfl⟩
    unfold cmp
    omega
  · rw [rgD_len, Int.toNat_natCast]
    have e : (List.range (com (lp r) (lp s))).map (fun (i : Nat) => D.int (cmp (ofs r) (ofs s) (i : Int))) = (row (cmp (ofs r) (ofs s)) (com (lp r) (lp s))).map D.int := by unfold row; rw [List.map_map]; rfl
    rw [e]
    exact .now p
theorem run__law_map (F : Fx K) : ∀ J ds S P PX, J.S = S → C__law_map K ds S P PX → J.X K E PX → Run K J (t__law_map K) (startD N__law_map ds) S (outD J P) := by
  rintro J ds S P PX hS ⟨r, rfl, n0, n1, p⟩ hX
  unfold t__law_map
  repeat walk_at "dw"
  rw [List.length_map]
  refine fun x hx hx2 => ⟨x, r, rfl, Store.set_same, n0, n1, rfl, .inr ⟨_, Store.set_same, ?_⟩⟩
  rw [Store.set_set, Store.del_set hx]
  exact .now p
end

end Y

set_option maxHeartbeats 410000
namespace Y
open PySem L2 DL PyProof.Rows YM
local macro_rules | `(tactic| walk_at "dw") => `(tactic| first
  | (with_reducible apply run_seq) | (with_reducible apply run_if)
  | ((with_reducible apply run_set); (try dsimp only [outD])) | ((with_reducible apply run_next); (try dsimp only [outD])) | ((with_reducible apply run_ret); (try dsimp only [outD])) | ((with_reducible apply run_retN); (try dsimp only [outD])) | ((with_reducible apply run_drop); (try dsimp only [outD]))
  | ((with_reducible apply run_brk); (try dsimp only [outD])) | ((with_reducible apply run_cont); (try dsimp only [outD])) | ((with_reducible apply run_asg); (try dsimp only [outD])) | ((with_reducible apply run_par); (try dsimp only [outD]))
  | (with_reducible apply par_mk)
  | ((with_reducible apply ev_var); · rfl)
  | (with_reducible apply ev_int) | (with_reducible apply ev_str) | (with_reducible apply ev_bl) | (with_reducible apply ev_non) | (with_reducible apply ev_ty)
  | (with_reducible apply ev_dgetS)
  | (with_reducible apply ev_op) | (with_reducible apply ev_un) | (with_reducible apply ea_cons) | (with_reducible apply ea_nil)
  | (with_reducible apply ev_isiT) | (with_reducible apply ev_cb) | (with_reducible apply ev_tup) | (with_reducible apply ev_lstM') | (with_reducible apply ev_lst)
  | (with_reducible apply o_add) | (with_reducible apply o_sub) | (with_reducible apply o_lt) | (with_reducible apply o_le) | (with_reducible apply o_gt) | (with_reducible apply o_ge) | (with_reducible apply o_eqI) | (with_reducible apply o_neI) | (with_reducible apply o_eqS) | (with_reducible apply o_neS) | (with_reducible apply u_neg)
  | (with_reducible apply et_test) | (with_reducible apply et_B) | (with_reducible apply et_not) | (with_reducible apply et_and) | (with_reducible apply et_or) | (with_reducible apply isB)
  | (with_reducible apply ev_andV) | (with_reducible apply ev_orV) | (with_reducible apply ev_notV) | (with_reducible apply ev_if) | (with_reducible apply ev_chain)
  | (with_reducible apply tt_and) | (with_reducible apply ff_and) | (with_reducible apply ntt_and)
  | (with_reducible apply ev_callE) | (with_reducible apply ev_methE) | (with_reducible apply ev_propE)
  | (with_reducible apply eg_name) | (with_reducible apply egs_nil) | (with_reducible apply egs_cons) | ((with_reducible apply eg_tup); · rfl)
  | (with_reducible apply c_abs) | (with_reducible apply c_min2) | (with_reducible apply c_max2) | (with_reducible apply c_int) | (with_reducible apply c_intB)
  | (with_reducible apply ep_cons) | (with_reducible apply ep_nil) | (with_reducible apply ev_sl) | (with_reducible apply eo_none) | (with_reducible apply eo_some) | (with_reducible apply et_yes)
  | (with_reducible apply ev_bm) | (with_reducible apply ev_m1) | (with_reducible apply ei_rng1) | (with_reducible apply ei_rng2) | (with_reducible apply ei_list) | (with_reducible apply ei_tup)
  | (with_reducible apply ev_din) | (with_reducible apply ev_dnotin) | (with_reducible apply ev_dget2) | (with_reducible apply ei_enum) | (with_reducible apply ei_zip)
  | (with_reducible apply ex_int) | ((with_reducible apply s_lst); (· exact .v)) | (with_reducible apply ev_makeE) | ((with_reducible apply run_par3); (try dsimp only [outD]))
  | ((with_reducible apply eg_lst); · rfl)
  | ((with_reducible apply o_modP); (· first | decide | omega))
  | ((with_reducible apply o_fdivP); (· first | decide | omega); (· first | decide | omega))
  | ((with_reducible apply o_mul); (· first | exact .inl ⟨by first | decide | omega, by first | decide | omega⟩ | exact .inr ⟨by first | decide | omega, by first | decide | omega⟩))
  | ((with_reducible apply c_lenSeq); (· first | exact .l | exact .t))
  | ((with_reducible apply o_ixT); (· exact atI_nn (by decide) rfl))
  | (dsimp only []))
section
theorem com_one (n : Nat) : com 1 n = n := by
  unfold com
  rw [Nat.gcd_one_left, Nat.div_one, Nat.one_mul]
/-- the map of a function with the period n -/
theorem map_row {f : Int → Int} {n : Nat} (n0 : 0 < n) (n1 : n ≤ 200000) : Mp (lr (row f n)) ∧ (lr (row f n)).length ∣ n ∧ ofs (lr (row f n)) = ofs (row f n) ∧ lp (lr (row f n)) = (lr (row f n)).length := by
  have h0 : 0 < (row f n).length := by rw [row_len]; exact n0
  have h1 := lp_len h0
  rw [row_len] at h1
  refine ⟨⟨lst_lr h0, ?_⟩, ?_, lr_ofs h0, ?_⟩
  · rw [lr_len]; exact Nat.le_trans (Nat.le_of_dvd n0 h1) n1
  · rw [lr_len]; exact h1
  · rw [lp_lr h0, lr_len]
theorem com_dvd {a b n : Nat} (ha : a ∣ n) (hb : b ∣ n) : com a b ∣ n := by rw [com_lcm]; exact Nat.lcm_dvd ha hb
end

end Y

set_option maxHeartbeats 410000
namespace Y
open PySem L2 DL PyProof.Rows YM
local macro_rules | `(tactic| walk_at "dw") => `(tactic| first
  | (with_reducible apply run_seq) | (with_reducible apply run_if)
  | ((with_reducible apply run_set); (try dsimp only [outD])) | ((with_reducible apply run_next); (try dsimp only [outD])) | ((with_reducible apply run_ret); (try dsimp only [outD])) | ((with_reducible apply run_retN); (try dsimp only [outD])) | ((with_reducible apply run_drop); (try dsimp only [outD]))
  | ((with_reducible apply run_brk); (try dsimp only [outD])) | ((with_reducible apply run_cont); (try dsimp only [outD])) | ((with_reducible apply run_asg); (try dsimp only [outD])) | ((with_reducible apply run_par); (try dsimp only [outD]))
  | (with_reducible apply par_mk)
  | ((with_reducible apply ev_var); · rfl)
  | (with_reducible apply ev_int) | (with_reducible apply ev_str) | (with_reducible apply ev_bl) | (with_reducible apply ev_non) | (with_reducible apply ev_ty)
  | (with_reducible apply ev_dgetS)
  | (with_reducible apply ev_op) | (with_reducible apply ev_un) | (with_reducible apply ea_cons) | (with_reducible apply ea_nil)
  | (with_reducible apply ev_isiT) | (with_reducible apply ev_cb) | (with_reducible apply ev_tup) | (with_reducible apply ev_lstM') | (with_reducible apply ev_lst)
  | (with_reducible apply o_add) | (with_reducible apply o_sub) | (with_reducible apply o_lt) | (with_reducible apply o_le) | (with_reducible apply o_gt) | (with_reducible apply o_ge) | (with_reducible apply o_eqI) | (with_reducible apply o_neI) | (with_reducible apply o_eqS) | (with_reducible apply o_neS) | (with_reducible apply u_neg)
  | (with_reducible apply et_test) | (with_reducible apply et_B) | (with_reducible apply et_not) | (with_reducible apply et_and) | (with_reducible apply et_or) | (with_reducible apply isB)
  | (with_reducible apply ev_andV) | (with_reducible apply ev_orV) | (with_reducible apply ev_notV) | (with_reducible apply ev_if) | (with_reducible apply ev_chain)
  | (with_reducible apply tt_and) | (with_reducible apply ff_and) | (with_reducible apply ntt_and)
  | (with_reducible apply ev_callE) | (with_reducible apply ev_methE) | (with_reducible apply ev_propE)
  | (with_reducible apply eg_name) | (with_reducible apply egs_nil) | (with_reducible apply egs_cons) | ((with_reducible apply eg_tup); · rfl)
  | (with_reducible apply c_abs) | (with_reducible apply c_min2) | (with_reducible apply c_max2) | (with_reducible apply c_int) | (with_reducible apply c_intB)
  | (with_reducible apply ep_cons) | (with_reducible apply ep_nil) | (with_reducible apply ev_sl) | (with_reducible apply eo_none) | (with_reducible apply eo_some) | (with_reducible apply et_yes)
  | (with_reducible apply ev_bm) | (with_reducible apply ev_m1) | (with_reducible apply ei_rng1) | (with_reducible apply ei_rng2) | (with_reducible apply ei_list) | (with_reducible apply ei_tup)
  | (with_reducible apply ev_din) | (with_reducible apply ev_dnotin) | (with_reducible apply ev_dget2) | (with_reducible apply ei_enum) | (with_reducible apply ei_zip)
  | (with_reducible apply ex_int) | ((with_reducible apply s_lst); (· exact .v)) | (with_reducible apply ev_makeE) | ((with_reducible apply run_par3); (try dsimp only [outD]))
  | ((with_reducible apply eg_lst); · rfl)
  | ((with_reducible apply o_modP); (· first | decide | omega))
  | ((with_reducible apply o_fdivP); (· first | decide | omega); (· first | decide | omega))
  | ((with_reducible apply o_mul); (· first | exact .inl ⟨by first | decide | omega, by first | decide | omega⟩ | exact .inr ⟨by first | decide | omega, by first | decide | omega⟩))
  | ((with_reducible apply c_lenSeq); (· first | exact .l | exact .t))
  | ((with_reducible apply o_ixT); (· exact atI_nn (by decide) rfl))
  | (dsimp only []))
section
theorem lp_const {r : List Int} {x : Int} (h0 : 0 < r.length) (h : ofs r = fun _ => x) : lp r = 1 := by
  have : lp r ∣ 1 := lp_dvd h0 (q := 1) (by rw [h]; exact fun _ => rfl)
  exact Nat.dvd_one.mp this
theorem ofs_rep {n : Nat} {x : Int} (h0 : 0 < n) : ofs (List.replicate n x) = fun _ => x := by
  funext y
  unfold ofs
  have l := (List.length_replicate (n := n) (a := x))
  have m0 := Int.emod_nonneg y (show (n : Int) ≠ 0 by omega)
  have m1 := Int.emod_lt_of_pos y (show (0 : Int) < n by omega)
  rw [l, List.getD_eq_getElem?_getD, List.getElem?_replicate, if_pos (by omega)]
  rfl
/-- one date otherwise -/
theorem lp_one {n k : Nat} {x : Int} (hk : k < n) (hx : x ≠ 0) : lp (row (fun z => x * (if decide (z = (k : Int)) = true then 1 else 0)) n) = n := by
  have h0 : 0 < (row (fun z => x * (if decide (z = (k : Int)) = true then 1 else 0)) n).length := by rw [row_len]; omega
  have at_ : ∀ i : Nat, i < n → ofs (row (fun z => x * (if decide (z = (k : Int)) = true then 1 else 0)) n) i = x * (if decide ((i : Int) = (k : Int)) = true then 1 else 0) := fun i hi => by rw [ofs_nat (by rw [row_len]; exact hi), row_getD hi]
  have hd := lp_len h0
  have hl := lp_le h0
  have hp := lp_pos h0
  have per := lp_pd h0
  have tot := ofs_pd (row (fun z => x * (if decide (z = (k : Int)) = true then 1 else 0)) n)
  rw [row_len] at hd hl tot
  generalize lp (row (fun z => x * (if decide (z = (k : Int)) = true then 1 else 0)) n) = p at *
  generalize ofs (row (fun z => x * (if decide (z = (k : Int)) = true then 1 else 0)) n) = f at *
  have h1 : f k = x := by rw [at_ k hk, decide_eq_true rfl, if_pos rfl, Int.mul_one]
  rcases Nat.lt_or_ge p n with z | z
  · exfalso
    have h2 : f ((k : Int) + p) = x := by rw [per, h1]
    rcases Nat.lt_or_ge (k + p) n with y | y
    · have h3 := at_ (k + p) y
      rw [Int.natCast_add, h2, decide_eq_false (by omega)] at h3
      simp at h3
      exact hx h3
    · have h3 := at_ (k + p - n) (by omega)
      have h4 : ((k + p - n : Nat) : Int) + n = (k : Int) + p := by omega
      rw [← tot, h4, h2, decide_eq_false (by omega)] at h3
      simp at h3
      exact hx h3
  · omega
theorem sz4 {α : Type} {a b c d : α} : [a, b, c, d].length ≤ PySem.sizeLine := (by show 4 ≤ PySem.sizeLine; decide)
end

end Y

set_option maxHeartbeats 410000
namespace Y
open PySem L2 DL PyProof.Rows YM
local macro_rules | `(tactic| walk_at "dw") => `(tactic| first
  | (with_reducible apply run_seq) | (with_reducible apply run_if)
  | ((with_reducible apply run_set); (try dsimp only [outD])) | ((with_reducible apply run_next); (try dsimp only [outD])) | ((with_reducible apply run_ret); (try dsimp only [outD])) | ((with_reducible apply run_retN); (try dsimp only [outD])) | ((with_reducible apply run_drop); (try dsimp only [outD]))
  | ((with_reducible apply run_brk); (try dsimp only [outD])) | ((with_reducible apply run_cont); (try dsimp only [outD])) | ((with_reducible apply run_asg); (try dsimp only [outD])) | ((with_reducible apply run_par); (try dsimp only [outD]))
  | (with_reducible apply par_mk)
  | ((with_reducible apply ev_var); · rfl)
  | (with_reducible apply ev_int) | (with_reducible apply ev_str) | (with_reducible apply ev_bl) | (with_reducible apply ev_non) | (with_reducible apply ev_ty)
  | (with_reducible apply ev_dgetS)
  | (with_reducible apply ev_op) | (with_reducible apply ev_un) | (with_reducible apply ea_cons) | (with_reducible apply ea_nil)
  | (with_reducible apply ev_isiT) | (with_reducible apply ev_cb) | (with_reducible apply ev_tup) | (with_reducible apply ev_lstM') | (with_reducible apply ev_lst)
  | (with_reducible apply o_add) | (with_reducible apply o_sub) | (with_reducible apply o_lt) | (with_reducible apply o_le) | (with_reducible apply o_gt) | (with_reducible apply o_ge) | (with_reducible apply o_eqI) | (with_reducible apply o_neI) | (with_reducible apply o_eqS) | (with_reducible apply o_neS) | (with_reducible apply u_neg)
  | (with_reducible apply et_test) | (with_reducible apply et_B) | (with_reducible apply et_not) | (with_reducible apply et_and) | (with_reducible apply et_or) | (with_reducible apply isB)
  | (with_reducible apply ev_andV) | (with_reducible apply ev_orV) | (with_reducible apply ev_notV) | (with_reducible apply ev_if) | (with_reducible apply ev_chain)
  | (with_reducible apply tt_and) | (with_reducible apply ff_and) | (with_reducible apply ntt_and)
  | (with_reducible apply ev_callE) | (with_reducible apply ev_methE) | (with_reducible apply ev_propE)
  | (with_reducible apply eg_name) | (with_reducible apply egs_nil) | (with_reducible apply egs_cons) | ((with_reducible apply eg_tup); · rfl)
  | (with_reducible apply c_abs) | (with_reducible apply c_min2) | (with_reducible apply c_max2) | (with_reducible apply c_int) | (with_reducible apply c_intB)
  | (with_reducible apply ep_cons) | (with_reducible apply ep_nil) | (with_reducible apply ev_sl) | (with_reducible apply eo_none) | (with_reducible apply eo_some) | (with_reducible apply et_yes)
  | (with_reducible apply ev_bm) | (with_reducible apply ev_m1) | (with_reducible apply ei_rng1) | (with_reducible apply ei_rng2) | (with_reducible apply ei_list) | (with_reducible apply ei_tup)
  | (with_reducible apply ev_din) | (with_reducible apply ev_dnotin) | (with_reducible apply ev_dget2) | (with_reducible apply ei_enum) | (with_reducible apply ei_zip)
  | (with_reducible apply ex_int) | ((with_reducible apply s_lst); (· exact .v)) | (with_reducible apply ev_makeE) | ((with_reducible apply run_par3); (try dsimp only [outD]))
  | ((with_reducible apply eg_lst); · rfl)
  | ((with_reducible apply o_modP); (· first | decide | omega))
  | ((with_reducible apply o_fdivP); (· first | decide | omega); (· first | decide | omega))
  | ((with_reducible apply o_mul); (· first | exact .inl ⟨by first | decide | omega, by first | decide | omega⟩ | exact .inr ⟨by first | decide | omega, by first | decide | omega⟩))
  | ((with_reducible apply c_lenSeq); (· first | exact .l | exact .t))
  | ((with_reducible apply o_ixT); (· exact atI_nn (by decide) rfl))
  | (dsimp only []))
section
variable {K : Frag} {E : XK}
/-- the limit that a lambda meets -/
theorem ev_limit (F : Fx K) {J : Jd} {δ : En} {S : Store} {P : D → Store → Prop} {q : Str} {t : XK → TE} (hB : ∀ (J' : Jd) (E : XK) (P' : D → Store → Prop) (PX : PXT), TL K PX S → J'.X K E PX → Ev K J' (t E) δ S P')
    (p : P (.tup [.int 200000, .bl true]) S) : Ev K J (LamX.tLam (tabsOf K) (tTG N__law_limit q (t__law_limit K)) t) δ S P := by
  refine ev_lam (fun S' P' PX => S' = S ∧ TL K PX S) (fun J' E S' P' PX ⟨e, h⟩ hX => by subst e; exact hB J' E P' PX h hX) fun J' act f hS' ha => ?_
  unfold t__law_limit
  repeat walk_at "dw"
  refine run_tryKeep F.exm fun J2 E2 hS2 hJ hX2 => ?_
  repeat walk_at "dw"
  refine ha J2 E2 _ _ S _ hJ hX2 rfl ⟨rfl, ?_⟩
  refine ⟨_, rfl, rfl, fun b => ?_⟩
  repeat walk_at "dw"
  have e : ∀ X : D, ((upE b X (((blank 3).set 2 (some (.raw b))).set 1 (some (.raw b)))).set 2 none) = [none, some X, none] := fun X => by simp [upE, blank, List.replicate]
  rw [e]
  repeat walk_at "dw"
  refine o_notN (.inl ⟨_, _, rfl⟩) ?_
  repeat walk_at "dw"
  refine ev_kf ?_
  repeat walk_at "dw"
  refine ⟨_, _, rfl, rfl, ?_⟩
  repeat walk_at "dw"
  refine c_isK F.isT F.kOvf ?_
  repeat walk_at "dw"
  exact ⟨sz2, .now p⟩
theorem eqv_lim : (!PyData.eqv (D.tup [.int 200000, .bl true]).py (D.tup [.int 200000, .bl true]).py) = false := by decide +kernel
theorem pl_lim : Pl 1 (.tup [.int 200000, .bl true]) := Pl.tup fun x h => by
  (rcases List.mem_cons.mp h with rfl | h)
  · exact .int
  · rw [List.mem_singleton.mp h]; exact .inr (.inl ⟨_, rfl⟩)
end

end Y

set_option maxHeartbeats 410000
namespace Y
open PySem L2 DL PyProof.Rows YM
local macro_rules | `(tactic| walk_at "dw") => `(tactic| first
  | (with_reducible apply run_seq) | (with_reducible apply run_if)
  | ((with_reducible apply run_set); (try dsimp only [outD])) | ((with_reducible apply run_next); (try dsimp only [outD])) | ((with_reducible apply run_ret); (try dsimp only [outD])) | ((with_reducible apply run_retN); (try dsimp only [outD])) | ((with_reducible apply run_drop); (try dsimp only [outD]))
  | ((with_reducible apply run_brk); (try dsimp only [outD])) | ((with_reducible apply run_cont); (try dsimp only [outD])) | ((with_reducible apply run_asg); (try dsimp only [outD])) | ((with_reducible apply run_par); (try dsimp only [outD]))
  | (with_reducible apply par_mk)
  | ((with_reducible apply ev_var); · rfl)
  | (with_reducible apply ev_int) | (with_reducible apply ev_str) | (with_reducible apply ev_bl) | (with_reducible apply ev_non) | (with_reducible apply ev_ty)
  | (with_reducible apply ev_dgetS)
  | (with_reducible apply ev_op) | (with_reducible apply ev_un) | (with_reducible apply ea_cons) | (with_reducible apply ea_nil)
  | (with_reducible apply ev_isiT) | (with_reducible apply ev_cb) | (with_reducible apply ev_tup) | (with_reducible apply ev_lstM') | (with_reducible apply ev_lst)
  | (with_reducible apply o_add) | (with_reducible apply o_sub) | (with_reducible apply o_lt) | (with_reducible apply o_le) | (with_reducible apply o_gt) | (with_reducible apply o_ge) | (with_reducible apply o_eqI) | (with_reducible apply o_neI) | (with_reducible apply o_eqS) | (with_reducible apply o_neS) | (with_reducible apply u_neg)
  | (with_reducible apply et_test) | (with_reducible apply et_B) | (with_reducible apply et_not) | (with_reducible apply et_and) | (with_reducible apply et_or) | (with_reducible apply isB)
  | (with_reducible apply ev_andV) | (with_reducible apply ev_orV) | (with_reducible apply ev_notV) | (with_reducible apply ev_if) | (with_reducible apply ev_chain)
  | (with_reducible apply tt_and) | (with_reducible apply ff_and) | (with_reducible apply ntt_and)
  | (with_reducible apply ev_callE) | (with_reducible apply ev_methE) | (with_reducible apply ev_propE)
  | (with_reducible apply eg_name) | (with_reducible apply egs_nil) | (with_reducible apply egs_cons) | ((with_reducible apply eg_tup); · rfl)
  | (with_reducible apply c_abs) | (with_reducible apply c_min2) | (with_reducible apply c_max2) | (with_reducible apply c_int) | (with_reducible apply c_intB)
  | (with_reducible apply ep_cons) | (with_reducible apply ep_nil) | (with_reducible apply ev_sl) | (with_reducible apply eo_none) | (with_reducible apply eo_some) | (with_reducible apply et_yes)
  | (with_reducible apply ev_bm) | (with_reducible apply ev_m1) | (with_reducible apply ei_rng1) | (with_reducible apply ei_rng2) | (with_reducible apply ei_list) | (with_reducible apply ei_tup)
  | (with_reducible apply ev_din) | (with_reducible apply ev_dnotin) | (with_reducible apply ev_dget2) | (with_reducible apply ei_enum) | (with_reducible apply ei_zip)
  | (with_reducible apply ex_int) | ((with_reducible apply s_lst); (· exact .v)) | (with_reducible apply ev_makeE) | ((with_reducible apply run_par3); (try dsimp only [outD]))
  | ((with_reducible apply eg_lst); · rfl)
  | ((with_reducible apply o_modP); (· first | decide | omega))
  | ((with_reducible apply o_fdivP); (· first | decide | omega); (· first | decide | omega))
  | ((with_reducible apply o_mul); (· first | exact .inl ⟨by first | decide | omega, by first | decide | omega⟩ | exact .inr ⟨by first | decide | omega, by first | decide | omega⟩))
  | ((with_reducible apply c_lenSeq); (· first | exact .l | exact .t))
  | ((with_reducible apply o_ixT); (· exact atI_nn (by decide) rfl))
  | (dsimp only []))
section
variable {K : Frag} {E : XK}
theorem enD_len {ds : List D} : (enD ds).length = ds.length := by unfold enD; rw [List.length_map, List.length_range]
theorem gk_two {i j : Nat} {vs : List Nat} (h1 : i ∈ vs) (h2 : j ∈ vs) : GK vs (gTup K 2 (gCons (gName i) (gCons (gName j) gNil))) := gk_tup (gks_cons gm_name (gk_name h1) (gks_cons gm_name (gk_name h2) gks_nil))
theorem run_joined_offsets : ∀ J ds S P PX, J.S = S → C_joined_offsets ds S P PX → J.X K E PX → Run K J (t_joined_offsets K) (startD N_joined_offsets ds) S (outD J P) := by
  rintro J ds S P PX hS ⟨a, b, rfl, b0, a1, ab, p⟩ hX
  unfold t_joined_offsets
  repeat walk_at "dw"
  refine ev_lcP (fun i => D.int (cmp (ofs a) (ofs b) (i : Int))) (gk_two (by decide) (by decide)) ?_
  repeat walk_at "dw"
  refine ⟨_, rfl, by rw [enD_len, List.length_map, PySem.sizeLine_eq]; omega, ?_, ?_⟩
  · intro i d hd
    obtain ⟨x, hx, rfl⟩ := enD_get hd
    obtain ⟨o, ho, rfl⟩ := map_get hx
    have lt := (List.getElem?_eq_some_iff.mp ho).1
    have eo : ofs a i = o := by rw [ofs_nat lt, List.getD_eq_getElem?_getD, ho]; rfl
    repeat walk_at "dw"
    rw [List.length_map]
    refine o_modP (by omega) ?_
    have i0 := Int.emod_nonneg ((i : Int) + o) (show (b.length : Int) ≠ 0 by omega)
    have i1 := Int.emod_lt_of_pos ((i : Int) + o) (show (0 : Int) < b.length by omega)
    refine o_ixL .v (atI_nn i0 (ints_at (by omega))) ?_
    repeat walk_at "dw"
    refine ⟨congrArg D.int ?_, rfl⟩
    unfold cmp
    rw [eo]
    rfl
  · rw [enD_len, List.length_map]
    have e : (List.range a.length).map (fun (i : Nat) => D.int (cmp (ofs a) (ofs b) (i : Int))) = (jo a b).map D.int := by unfold jo row; rw [List.map_map]; rfl
    rw [e]
    exact .now p
theorem lr_one (x : Int) : lr [x] = [x] := by
  have h := lp_le (r := [x]) (by show 0 < 1; decide)
  have h0 := lp_pos (r := [x]) (by show 0 < 1; decide)
  have : lp [x] = 1 := Nat.le_antisymm h h0
  unfold lr
  rw [this]; rfl
theorem run_DayMap_identity (F : Fx K) : ∀ J ds S P PX, J.S = S → C_DayMap_identity K ds S P PX → J.X K E PX → Run K J (t_DayMap_identity K) (startD N_DayMap_identity ds) S (outD J P) := by
  rintro J ds S P PX hS ⟨rfl, p⟩ hX
  unfold t_DayMap_identity
  repeat walk_at "dw"
  refine ev_makeL rfl ?_
  repeat walk_at "dw"
  refine ⟨sz1, ?_⟩
  repeat walk_at "dw"
  refine fun x hx hx2 => ⟨x, [0], rfl, Store.set_same, by decide, by decide, rfl, .inr ⟨_, Store.set_same, ?_⟩⟩
  rw [Store.set_set, Store.del_set hx, lr_one]
  exact .now p
theorem run_DayMap_shift (F : Fx K) : ∀ J ds S P PX, J.S = S → C_DayMap_shift K ds S P PX → J.X K E PX → Run K J (t_DayMap_shift K) (startD N_DayMap_shift ds) S (outD J P) := by
  rintro J ds S P PX hS ⟨y, rfl, p⟩ hX
  unfold t_DayMap_shift
  repeat walk_at "dw"
  refine ev_makeL rfl ?_
  repeat walk_at "dw"
  refine ⟨sz1, ?_⟩
  repeat walk_at "dw"
  refine fun x hx hx2 => ⟨x, [y], rfl, Store.set_same, (by show 0 < 1; decide), (by show 1 ≤ 200000; decide), rfl, .inr ⟨_, Store.set_same, ?_⟩⟩
  rw [Store.set_set, Store.del_set hx, lr_one]
  exact .now p
theorem run__law_product : ∀ J ds S P PX, J.S = S → C__law_product ds S P PX → J.X K E PX → Run K J (t__law_product K) (startD N__law_product ds) S (outD J P) := by
  rintro J ds S P PX hS ⟨ws, s, n, rfl, hs, hw, n0, n1, many, few, p⟩ hX
  unfold t__law_product
  repeat walk_at "dw"
  refine ⟨sz1, ?_⟩
  repeat walk_at "dw"
  refine run_for ?_
  repeat walk_at "dw"
  refine ⟨_, rfl, fun i δ' S' => i ≤ s.length ∧ S' = S ∧ ∃ (R : List Int) (z : Option D), 0 < R.length ∧ R.length ∣ n ∧ ofs R = prodF (ws.map ofs) (s.take i) ∧ δ' = [some (.lst (ws.map intsD)), some (natsD s), some (intsD R), z], ⟨Nat.zero_le _, rfl, [0], none, by decide, Nat.one_dvd _, ?_, rfl⟩, ?_, ?_⟩
  · funext x
    show ofs [0] x = 0
    unfold ofs
    have := Int.emod_one x
    show ([0] : List Int).getD (x % 1).toNat 0 = 0
    rw [this]; rfl
  · rintro i x δ' S' hx ⟨hi, rfl, R, z, R0, Rn, hR, rfl⟩
    rw [List.getElem?_map] at hx
    obtain ⟨j, hj, rfl⟩ := Option.map_eq_some_iff.mp hx
    have lt := (List.getElem?_eq_some_iff.mp hj).1
    have jl := hs j (List.mem_of_getElem? hj)
    have hwj : ws[j]? = some (ws.getD j []) := by rw [List.getD_eq_getElem?_getD, List.getElem?_eq_getElem jl]; rfl
    obtain ⟨w0, w1, wn⟩ := hw _ (List.mem_of_getElem? hwj)
    have Rl := Nat.le_of_dvd n0 Rn
    have lR := Nat.dvd_trans (lp_len R0) Rn
    have cd : com (lp R) (lp (ws.getD j [])) ∣ n := com_dvd lR wn
    have cl := Nat.le_of_dvd n0 cd
    have c0 := com_pos (lp_pos R0) (lp_pos w0)
    refine eg_name ?_
    unfold b1__law_product
    repeat walk_at "dw"
    refine o_ixL (d := intsD (ws.getD j [])) .v (atI_nn (Int.natCast_nonneg _) (by rw [Int.toNat_natCast, List.getElem?_map, hwj]; rfl)) ?_
    repeat walk_at "dw"
    refine ⟨R, _, rfl, R0, by omega, w0, w1, by omega, ?_⟩
    repeat walk_at "dw"
    refine ⟨lt, rfl, _, _, by rw [row_len]; exact c0, by rw [row_len]; exact cd, ?_, rfl⟩
    rw [ofs_row c0 (cmp_pd ((lp_pd R0).dvd (Int.natCast_dvd_natCast.mpr (by rw [com_lcm]; exact Nat.dvd_lcm_left _ _))) ((lp_pd w0).dvd (Int.natCast_dvd_natCast.mpr (by rw [com_lcm]; exact Nat.dvd_lcm_right _ _)))), List.take_add_one, hj]
    show _ = prodF (ws.map ofs) (s.take i ++ [j])
    rw [prodF_snoc, hR]
    congr 1
    generalize ws.getD j [] = y at *
    rw [List.getD_eq_getElem?_getD, List.getElem?_map, hwj]
    rfl
  · rintro δ' S' ⟨hi, rfl, R, z, R0, Rn, hR, rfl⟩
    have Rl := Nat.le_of_dvd n0 Rn
    rw [List.length_map, List.take_length] at hR
    repeat walk_at "dw"
    refine ⟨R, rfl, R0, by omega, ?_⟩
    exact .now (p (lr R) (lst_lr R0) (by rw [lr_len]; exact Nat.dvd_trans (lp_len R0) Rn) (by rw [lr_ofs R0]; exact hR))
end

end Y

set_option maxHeartbeats 410000
namespace Y
open PySem L2 DL PyProof.Rows YM
local macro_rules | `(tactic| walk_at "dw") => `(tactic| first
  | (with_reducible apply run_seq) | (with_reducible apply run_if)
  | ((with_reducible apply run_set); (try dsimp only [outD])) | ((with_reducible apply run_next); (try dsimp only [outD])) | ((with_reducible apply run_ret); (try dsimp only [outD])) | ((with_reducible apply run_retN); (try dsimp only [outD])) | ((with_reducible apply run_drop); (try dsimp only [outD]))
  | ((with_reducible apply run_brk); (try dsimp only [outD])) | ((with_reducible apply run_cont); (try dsimp only [outD])) | ((with_reducible apply run_asg); (try dsimp only [outD])) | ((with_reducible apply run_par); (try dsimp only [outD]))
  | (with_reducible apply par_mk)
  | ((with_reducible apply ev_var); · rfl)
  | (with_reducible apply ev_int) | (with_reducible apply ev_str) | (with_reducible apply ev_bl) | (with_reducible apply ev_non) | (with_reducible apply ev_ty)
  | (with_reducible apply ev_dgetS)
  | (with_reducible apply ev_op) | (with_reducible apply ev_un) | (with_reducible apply ea_cons) | (with_reducible apply ea_nil)
  | (with_reducible apply ev_isiT) | (with_reducible apply ev_cb) | (with_reducible apply ev_tup) | (with_reducible apply ev_lstM') | (with_reducible apply ev_lst)
  | (with_reducible apply o_add) | (with_reducible apply o_sub) | (with_reducible apply o_lt) | (with_reducible apply o_le) | (with_reducible apply o_gt) | (with_reducible apply o_ge) | (with_reducible apply o_eqI) | (with_reducible apply o_neI) | (with_reducible apply o_eqS) | (with_reducible apply o_neS) | (with_reducible apply u_neg)
  | (with_reducible apply et_test) | (with_reducible apply et_B) | (with_reducible apply et_not) | (with_reducible apply et_and) | (with_reducible apply et_or) | (with_reducible apply isB)
  | (with_reducible apply ev_andV) | (with_reducible apply ev_orV) | (with_reducible apply ev_notV) | (with_reducible apply ev_if) | (with_reducible apply ev_chain)
  | (with_reducible apply tt_and) | (with_reducible apply ff_and) | (with_reducible apply ntt_and)
  | (with_reducible apply ev_callE) | (with_reducible apply ev_methE) | (with_reducible apply ev_propE)
  | (with_reducible apply eg_name) | (with_reducible apply egs_nil) | (with_reducible apply egs_cons) | ((with_reducible apply eg_tup); · rfl)
  | (with_reducible apply c_abs) | (with_reducible apply c_min2) | (with_reducible apply c_max2) | (with_reducible apply c_int) | (with_reducible apply c_intB)
  | (with_reducible apply ep_cons) | (with_reducible apply ep_nil) | (with_reducible apply ev_sl) | (with_reducible apply eo_none) | (with_reducible apply eo_some) | (with_reducible apply et_yes)
  | (with_reducible apply ev_bm) | (with_reducible apply ev_m1) | (with_reducible apply ei_rng1) | (with_reducible apply ei_rng2) | (with_reducible apply ei_list) | (with_reducible apply ei_tup)
  | (with_reducible apply ev_din) | (with_reducible apply ev_dnotin) | (with_reducible apply ev_dget2) | (with_reducible apply ei_enum) | (with_reducible apply ei_zip)
  | (with_reducible apply ex_int) | ((with_reducible apply s_lst); (· exact .v)) | (with_reducible apply ev_makeE) | ((with_reducible apply run_par3); (try dsimp only [outD]))
  | ((with_reducible apply eg_lst); · rfl)
  | ((with_reducible apply o_modP); (· first | decide | omega))
  | ((with_reducible apply o_fdivP); (· first | decide | omega); (· first | decide | omega))
  | ((with_reducible apply o_mul); (· first | exact .inl ⟨by first | decide | omega, by first | decide | omega⟩ | exact .inr ⟨by first | decide | omega, by first | decide | omega⟩))
  | ((with_reducible apply c_lenSeq); (· first | exact .l | exact .t))
  | ((with_reducible apply o_ixT); (· exact atI_nn (by decide) rfl))
  | (dsimp only []))
section
variable {K : Frag} {E : XK}
theorem natsD_snoc (s : List Nat) (i : Nat) : natsD (s ++ [i]) = .lst (s.map (fun (i : Nat) => D.int (i : Int)) ++ [.int (i : Int)]) := by
  unfold natsD
  rw [List.map_append]; rfl
theorem lists_small2 {k m : Nat} (hk : k ≤ 4) (hm : m ≤ 4) : (lists k m).length ≤ 512 := by
  have h1 := lists_len hk m
  have h2 := Nat.pow_le_pow_right (show 0 < 4 by decide) hm
  have : 4 ^ 4 = 256 := by decide
  omega
theorem lev_small2 {k m : Nat} (hk : k ≤ 4) (hm : m ≤ 4) : (lev k m).length ≤ 256 := by
  rw [lev_len]
  have h1 := Nat.pow_le_pow_left hk m
  have h2 := Nat.pow_le_pow_right (show 0 < 4 by decide) hm
  have : 4 ^ 4 = 256 := by decide
  omega
theorem run__law_lists : ∀ J ds S P PX, J.S = S → C__law_lists ds S P PX → J.X K E PX → Run K J (t__law_lists K) (startD N__law_lists ds) S (outD J P) := by
  rintro J ds S P PX hS ⟨k, m, rfl, hk, hm, p⟩ hX
  unfold t__law_lists
  repeat walk_at "dw"
  refine ⟨Nat.zero_le _, ?_⟩
  repeat walk_at "dw"
  refine ⟨sz1, ?_⟩
  repeat walk_at "dw"
  refine ⟨Nat.zero_le _, ?_⟩
  repeat walk_at "dw"
  refine ⟨sz1, ?_⟩
  repeat walk_at "dw"
  refine run_for ?_
  repeat walk_at "dw"
  refine ⟨_, rfl, ⟨by omega, by omega⟩, ?_⟩
  rw [rgD_len, Int.toNat_natCast]
  refine ⟨fun i δ' S' => i ≤ m ∧ S' = S ∧ ∃ z4 z5 z6 z7, δ' = [some (.int k), some (.int m), some (.lst ((lists k i).map natsD)), some (.lst ((lev k i).map natsD)), z4, z5, z6, z7], ⟨Nat.zero_le _, rfl, none, none, none, none, rfl⟩, ?_, ?_⟩
  · rintro i x δ' S' hx ⟨hi, rfl, z4, z5, z6, z7, rfl⟩
    obtain ⟨lt, rfl⟩ := rgD_get hx
    have l1 := lists_small2 hk (show i ≤ 4 by omega)
    have l2 := lev_small2 hk (show i ≤ 4 by omega)
    have l3 := lev_small2 hk (show i + 1 ≤ 4 by omega)
    refine eg_name ?_
    unfold b2__law_lists
    repeat walk_at "dw"
    refine ⟨Nat.zero_le _, fun q hq hq2 => ?_⟩
    repeat walk_at "dw"
    refine run_for ?_
    repeat walk_at "dw"
    refine ⟨_, rfl, fun j δ' S2 => j ≤ (lev k i).length ∧ S2 = S'.set q (.lst ((((lev k i).take j).flatMap fun u => (List.range k).map fun r => u ++ [r]).map natsD)) ∧ ∃ z6 z7, δ' = [some (.int k), some (.int m), some (.lst ((lists k i).map natsD)), some (.lst ((lev k i).map natsD)), some (.int (0 + (i : Int))), some (.loc q), z6, z7], ⟨Nat.zero_le _, rfl, _, _, rfl⟩, ?_, ?_⟩
    · rintro j x δ' S2 hx ⟨hj, rfl, z6, z7, rfl⟩
      rw [List.getElem?_map] at hx
      obtain ⟨u, hu, rfl⟩ := Option.map_eq_some_iff.mp hx
      have ltj := (List.getElem?_eq_some_iff.mp hu).1
      have ul := (lev_small k i u (List.mem_of_getElem? hu)).1
      refine eg_name ?_
      unfold b1__law_lists
      repeat walk_at "dw"
      refine ⟨ty_list (.m Store.set_same), ?_⟩
      repeat walk_at "dw"
      refine ev_lcP (fun r => natsD (u ++ [r])) (gk_name (List.mem_singleton.mpr rfl)) ?_
      repeat walk_at "dw"
      refine ⟨_, rfl, ⟨by omega, by omega⟩, by rw [rgD_len, PySem.sizeLine_eq]; omega, ?_, ?_⟩
      · intro r d hd
        obtain ⟨lr, rfl⟩ := rgD_get hd
        rw [Int.zero_add]
        repeat walk_at "dw"
        refine ⟨sz1, ?_⟩
        refine o_cat .v .v (by rw [List.length_map, List.length_singleton, PySem.sizeLine_eq]; omega) ?_
        exact ⟨(natsD_snoc u r).symm, rfl⟩
      · rw [rgD_len, Int.toNat_natCast]
        have tot : (((lev k i).take j).flatMap fun u => (List.range k).map fun r => u ++ [r]).length ≤ 1024 := by
          have : ∀ l : List (List Nat), (l.flatMap fun u => (List.range k).map fun r => u ++ [r]).length = l.length * k := by
            intro l
            induction l with
            | nil => simp
            | cons a l ih => rw [List.flatMap_cons, List.length_append, ih, List.length_map, List.length_range, List.length_cons, Nat.succ_mul, Nat.add_comm]
          rw [this, List.length_take]
          have := Nat.mul_le_mul (Nat.le_trans (Nat.min_le_right j (lev k i).length) l2) hk
          omega
        repeat walk_at "dw"
        refine m_extend Store.set_same .v ?_ ?_
        · rw [List.length_map, List.length_map, List.length_range, PySem.sizeLine_eq]; omega
        rw [Store.set_set]
        repeat walk_at "dw"
        refine ⟨ltj, congrArg (fun l => S'.set q (M.lst l)) ?_, _, _, rfl⟩
        rw [List.take_add_one, hu, List.flatMap_append, List.map_append]
        congr 1
        show _ = (List.flatMap (fun u => (List.range k).map fun r => u ++ [r]) [u]).map natsD
        rw [List.flatMap_cons, List.flatMap_nil, List.append_nil, List.map_map]
        rfl
    · rintro δ' S2 ⟨hj, rfl, z6, z7, rfl⟩
      (rw [List.length_map, List.take_length])
      have e2 : ((lev k i).flatMap fun u => (List.range k).map fun r => u ++ [r]) = lev k (i + 1) := rfl
      rw [e2]
      refine run_frz (i := 5) rfl Store.set_same (by rw [hS] at *; exact hq) ?_
      rw [Store.del_set hq]
      repeat walk_at "dw"
      refine o_cat .v .v (by rw [List.length_map, List.length_map, PySem.sizeLine_eq]; omega) ?_
      rw [← List.map_append]
      repeat walk_at "dw"
      exact ⟨lt, rfl, _, _, _, _, rfl⟩
  · rintro δ' S' ⟨hi, rfl, z4, z5, z6, z7, rfl⟩
    repeat walk_at "dw"
    exact .now p
end

end Y

set_option maxHeartbeats 410000
namespace Y
open PySem L2 DL PyProof.Rows YM
local macro_rules | `(tactic| walk_at "dw") => `(tactic| first
  | (with_reducible apply run_seq) | (with_reducible apply run_if)
  | ((with_reducible apply run_set); (try dsimp only [outD])) | ((with_reducible apply run_next); (try dsimp only [outD])) | ((with_reducible apply run_ret); (try dsimp only [outD])) | ((with_reducible apply run_retN); (try dsimp only [outD])) | ((with_reducible apply run_drop); (try dsimp only [outD]))
  | ((with_reducible apply run_brk); (try dsimp only [outD])) | ((with_reducible apply run_cont); (try dsimp only [outD])) | ((with_reducible apply run_asg); (try dsimp only [outD])) | ((with_reducible apply run_par); (try dsimp only [outD]))
  | (with_reducible apply par_mk)
  | ((with_reducible apply ev_var); · rfl)
  | (with_reducible apply ev_int) | (with_reducible apply ev_str) | (with_reducible apply ev_bl) | (with_reducible apply ev_non) | (with_reducible apply ev_ty)
  | (with_reducible apply ev_dgetS)
  | (with_reducible apply ev_op) | (with_reducible apply ev_un) | (with_reducible apply ea_cons) | (with_reducible apply ea_nil)
  | (with_reducible apply ev_isiT) | (with_reducible apply ev_cb) | (with_reducible apply ev_tup) | (with_reducible apply ev_lstM') | (with_reducible apply ev_lst)
  | (with_reducible apply o_add) | (with_reducible apply o_sub) | (with_reducible apply o_lt) | (with_reducible apply o_le) | (with_reducible apply o_gt) | (with_reducible apply o_ge) | (with_reducible apply o_eqI) | (with_reducible apply o_neI) | (with_reducible apply o_eqS) | (with_reducible apply o_neS) | (with_reducible apply u_neg)
  | (with_reducible apply et_test) | (with_reducible apply et_B) | (with_reducible apply et_not) | (with_reducible apply et_and) | (with_reducible apply et_or) | (with_reducible apply isB)
  | (with_reducible apply ev_andV) | (with_reducible apply ev_orV) | (with_reducible apply ev_notV) | (with_reducible apply ev_if) | (with_reducible apply ev_chain)
  | (with_reducible apply tt_and) | (with_reducible apply ff_and) | (with_reducible apply ntt_and)
  | (with_reducible apply ev_callE) | (with_reducible apply ev_methE) | (with_reducible apply ev_propE)
  | (with_reducible apply eg_name) | (with_reducible apply egs_nil) | (with_reducible apply egs_cons) | ((with_reducible apply eg_tup); · rfl)
  | (with_reducible apply c_abs) | (with_reducible apply c_min2) | (with_reducible apply c_max2) | (with_reducible apply c_int) | (with_reducible apply c_intB)
  | (with_reducible apply ep_cons) | (with_reducible apply ep_nil) | (with_reducible apply ev_sl) | (with_reducible apply eo_none) | (with_reducible apply eo_some) | (with_reducible apply et_yes)
  | (with_reducible apply ev_bm) | (with_reducible apply ev_m1) | (with_reducible apply ei_rng1) | (with_reducible apply ei_rng2) | (with_reducible apply ei_list) | (with_reducible apply ei_tup)
  | (with_reducible apply ev_din) | (with_reducible apply ev_dnotin) | (with_reducible apply ev_dget2) | (with_reducible apply ei_enum) | (with_reducible apply ei_zip)
  | (with_reducible apply ex_int) | ((with_reducible apply s_lst); (· exact .v)) | (with_reducible apply ev_makeE) | ((with_reducible apply run_par3); (try dsimp only [outD]))
  | ((with_reducible apply eg_lst); · rfl)
  | ((with_reducible apply o_modP); (· first | decide | omega))
  | ((with_reducible apply o_fdivP); (· first | decide | omega); (· first | decide | omega))
  | ((with_reducible apply o_mul); (· first | exact .inl ⟨by first | decide | omega, by first | decide | omega⟩ | exact .inr ⟨by first | decide | omega, by first | decide | omega⟩))
  | ((with_reducible apply c_lenSeq); (· first | exact .l | exact .t))
  | ((with_reducible apply o_ixT); (· exact atI_nn (by decide) rfl))
  | (dsimp only []))
section
variable {K : Frag} {E : XK}
def keyF (f : Int → Int) (n : Nat) : List Key := (row f n).map Sum.inl
theorem keyF_kD (f : Int → Int) (n : Nat) : (keyF f n).map kD = (row f n).map D.int := by unfold keyF; rw [List.map_map]; rfl
theorem keyF_inj {f g : Int → Int} {n : Nat} (h0 : 0 < n) (hf : Pd f n) (hg : Pd g n) (h : keyF f n = keyF g n) : f = g := by
  refine row_inj h0 hf hg ?_
  have e := congrArg (List.map fun (k : Key) => match k with | .inl i => i | .inr _ => (0 : Int)) h
  unfold keyF at e
  (rw [List.map_map, List.map_map] at e)
  have id1 : ∀ l : List Int, l.map ((fun (k : Key) => match k with | .inl i => i | .inr _ => (0 : Int)) ∘ Sum.inl) = l := fun l => by
    induction l with
    | nil => rfl
    | cons a l ih => rw [List.map_cons, ih]; rfl
  rw [id1, id1] at e
  exact e
theorem keyF_zero (n : Nat) : (List.replicate n [(Sum.inl 0 : Key)]).flatten = keyF zf n := by
  unfold keyF row
  rw [List.map_map]
  induction n with
  | zero => rfl
  | succ n ih =>
    rw [List.range_succ, List.map_append, ← ih]
    rw [List.replicate_succ', List.flatten_append]
    rfl
section
variable (κ : List Nat → List Key)
/-- what is found, as the dict holds it -/
def dctF (F : List (List Nat)) : List (List Key × D) := F.map fun s => (κ s, natsD s)
theorem dctF_val (F : List (List Nat)) (k : List Key) : valD (dctF κ F) k = (F.find? fun s => decide (κ s = k)).map natsD := by
  unfold dctF valD
  rw [List.find?_map, Option.map_map]
  rfl
theorem dctF_has (F : List (List Nat)) (w : List Nat) : (valD (dctF κ F) (κ w)).isSome = true ↔ Has κ F w := by
  rw [dctF_val, Option.isSome_map, List.find?_isSome]
  exact ⟨fun ⟨u, h1, h2⟩ => ⟨u, h1, of_decide_eq_true h2⟩, fun ⟨u, h1, h2⟩ => ⟨u, h1, decide_eq_true h2⟩⟩
def OneK (F : List (List Nat)) : Prop := ∀ u ∈ F, ∀ v ∈ F, κ u = κ v → u = v
theorem OneK.add {F : List (List Nat)} (h : OneK κ F) (w : List Nat) : OneK κ (addK κ F w) := by
  by_cases y : Has κ F w
  · rw [addK_has y]; exact h
  · rw [addK_not y]
    intro u hu v hv e
    rcases List.mem_append.mp hu with a | a
    · rcases List.mem_append.mp hv with b | b
      · exact h u a v b e
      · rw [List.mem_singleton] at b; subst b; exact (y ⟨u, a, e⟩).elim
    · rw [List.mem_singleton] at a; subst a
      rcases List.mem_append.mp hv with b | b
      · exact (y ⟨v, b, e.symm⟩).elim
      · rw [List.mem_singleton] at b; exact b.symm
theorem OneK.fold : ∀ (l : List (List Nat)) {F : List (List Nat)}, OneK κ F → OneK κ (l.foldl (addK κ) F)
  | [], _, h => h
  | w :: l, _, h => OneK.fold l (h.add κ w)
theorem OneK.val {F : List (List Nat)} (h : OneK κ F) {u : List Nat} (hu : u ∈ F) : valD (dctF κ F) (κ u) = some (natsD u) := by
  rw [dctF_val]
  cases q : F.find? fun s => decide (κ s = κ u) with
  | none =>
    rw [List.find?_eq_none] at q
    exact absurd (q u hu) (by simp)
  | some s =>
    have e := h s (List.mem_of_find?_eq_some q) u hu (by simpa using List.find?_some q)
    rw [e]; rfl
theorem dctF_put {F : List (List Nat)} {w : List Nat} (h : ¬ Has κ F w) : putKD (dctF κ F) (κ w) (natsD w) = dctF κ (addK κ F w) := by
  rw [addK_not h]
  unfold putKD
  have : ¬ ((dctF κ F).any fun kv => decide (kv.1 = κ w)) = true := fun z => by
    obtain ⟨kv, h1, h2⟩ := List.any_eq_true.mp z
    unfold dctF at h1
    obtain ⟨u, h3, rfl⟩ := List.mem_map.mp h1
    exact h ⟨u, h3, of_decide_eq_true h2⟩
  rw [if_neg this]
  unfold dctF
  rw [List.map_append]; rfl
theorem addK_len (F : List (List Nat)) (w : List Nat) : F.length ≤ (addK κ F w).length ∧ (addK κ F w).length ≤ F.length + 1 := by
  by_cases y : Has κ F w
  · rw [addK_has y]; omega
  · rw [addK_not y, List.length_append]
    show F.length ≤ F.length + 1 ∧ F.length + 1 ≤ F.length + 1
    omega
end
local macro_rules | `(tactic| walk_at "dt") => `(tactic| first
  | (with_reducible apply run_seq) | (with_reducible apply run_if) | ((with_reducible apply run_set); (try dsimp only [outD])) | ((with_reducible apply run_asg); (try dsimp only [outD])) | (with_reducible apply ea_nil)
  | (with_reducible apply et_B) | (with_reducible apply eg_name) | (dsimp only []))
theorem run_spelled (F : Fx K) : ∀ J ds S P PX, J.S = S → C_spelled K ds S P PX → J.X K E PX → Run K J (t_spelled K E) (startD N_spelled ds) S (outD J P) := by
  rintro J ds S P PX hS ⟨g, ws, wd, m, rfl, hwd, hg, hw, many, hm, p, px⟩ hX
  have sq : SqAt S wd (ws.map (mapD K)) := by rcases hwd with rfl | rfl; exact .l; exact .t
  unfold t_spelled
  repeat walk_at "dw"
  refine ev_callX hX ?_
  repeat walk_at "dw"
  refine ea_star ?_
  repeat walk_at "dw"
  refine ⟨_, sq, ?_⟩
  repeat walk_at "dw"
  rw [List.append_nil]
  refine ⟨by rw [List.length_cons, List.length_map, PySem.sizeLine_eq]; omega, ?_⟩
  repeat walk_at "dw"
  have hall : ∀ r ∈ g :: ws, Mp r := fun r hr => by
    rcases List.mem_cons.mp hr with e | e
    · rw [e]; exact hg
    · exact hw r e
  refine ⟨g :: ws, rfl, hall, by rw [List.length_cons]; omega, fun hc => ?_, px⟩
  have p := p hc
  have n0 : 0 < coms (g :: ws) := coms_pos (rs := g :: ws) (fun r hr => (hall r hr).1.1) 1 (by decide)
  have dv : ∀ r ∈ g :: ws, r.length ∣ coms (g :: ws) := fun r hr => mem_coms (rs := g :: ws) 1 r hr
  generalize coms (g :: ws) = n at *
  have pd : ∀ r ∈ g :: ws, Pd (ofs r) n := fun r hr => (ofs_pd r).dvd (Int.natCast_dvd_natCast.mpr (dv r hr))
  have pg := pd g (List.mem_cons_self ..)
  have pw : ∀ f ∈ ws.map ofs, Pd f n := fun f hf => by
    obtain ⟨r, hr, rfl⟩ := List.mem_map.mp hf
    exact pd r (List.mem_cons_of_mem _ hr)
  rw [List.map_cons]
  repeat walk_at "dw"
  refine eg_star1 (by rw [List.length_map]; omega) ?_
  repeat walk_at "dw"
  refine ev_lcP (fun i => D.int (ofs g (i : Int))) (gk_two (by decide) (by decide)) ?_
  repeat walk_at "dw"
  have enV : ∀ (r : List Int) (i : Nat) (x : D), (enD ((row (fun x => x + ofs r x) n).map D.int))[i]? = some x → i < n ∧ x = .tup [.int (i : Int), .int ((i : Int) + ofs r i)] := fun r i x hx => by
    obtain ⟨y, hy, rfl⟩ := enD_get hx
    obtain ⟨o, ho, rfl⟩ := map_get hy
    have lt := (List.getElem?_eq_some_iff.mp ho).1
    rw [row_len] at lt
    rw [row_get lt] at ho
    rw [← Option.some.inj ho]
    exact ⟨lt, rfl⟩
  have enL : ∀ r : List Int, (enD ((row (fun x => x + ofs r x) n).map D.int)).length = n := fun r => by rw [enD_len, List.length_map, row_len]
  refine ⟨_, rfl, by rw [enL, PySem.sizeLine_eq]; omega, ?_, ?_⟩
  · intro i x hx
    obtain ⟨lt, rfl⟩ := enV g i x hx
    repeat walk_at "dw"
    refine ⟨congrArg D.int (by omega), rfl⟩
  rw [enL]
  have eg : (List.range n).map (fun (i : Nat) => D.int (ofs g (i : Int))) = (keyF (ofs g) n).map kD := by rw [keyF_kD]; unfold row; rw [List.map_map]; rfl
  rw [eg]
  repeat walk_at "dw"
  refine c_tupKey .l (fun zs z => by cases z) ?_
  repeat walk_at "dw"
  refine ev_lcP (fun i => intsD (row (ofs (ws.getD i [])) n)) (gk_name (by decide)) ?_
  repeat walk_at "dw"
  refine ⟨_, rfl, by rw [List.length_map, PySem.sizeLine_eq]; omega, ?_, ?_⟩
  · intro j d hd
    obtain ⟨r, hr, rfl⟩ := map_get hd
    have er : ws.getD j [] = r := by rw [List.getD_eq_getElem?_getD, hr]; rfl
    rw [er]
    repeat walk_at "dw"
    refine ev_lcP (fun i => D.int (ofs r (i : Int))) (gk_two (by decide) (by decide)) ?_
    repeat walk_at "dw"
    refine ⟨_, rfl, by rw [enL, PySem.sizeLine_eq]; omega, ?_, ?_⟩
    · intro i x hx
      obtain ⟨lt, rfl⟩ := enV r i x hx
      repeat walk_at "dw"
      refine ⟨congrArg D.int (by omega), rfl⟩
    rw [enL]
    have er2 : (List.range n).map (fun (i : Nat) => D.int (ofs r (i : Int))) = (row (ofs r) n).map D.int := by unfold row; rw [List.map_map]; rfl
    rw [er2]
    exact ⟨rfl, rfl⟩
  rw [List.length_map, range_map_get ws (fun r => intsD (row (ofs r) n)) []]
  repeat walk_at "dw"
  refine ev_dispT fun u hu hu2 => ?_
  refine ev_op ?_
  refine ev_tupK ?_
  repeat walk_at "dw"
  refine ⟨[.inl 0], rfl, sz1, ?_⟩
  repeat walk_at "dw"
  refine o_repWK (by simp) (by omega) (by rw [List.length_singleton]; omega) ?_
  rw [Int.toNat_natCast, keyF_zero]
  repeat walk_at "dw"
  refine ⟨Nat.zero_le _, keyF zf n, rfl, Store.set_same, ?_⟩
  rw [Store.set_set]
  repeat walk_at "dw"
  refine c_listDT Store.set_same ?_
  repeat walk_at "dw"
  -- the search
  generalize hκ : (fun s : List Nat => keyF (prodF (ws.map ofs) s) n) = κ
  have hκs : ∀ s, κ s = keyF (prodF (ws.map ofs) s) n := fun s => by rw [← hκ]
  have κpd : ∀ s, Pd (prodF (ws.map ofs) s) n := fun s => prodF_pd pw s
  have κinj : ∀ a b, κ a = κ b → prodF (ws.map ofs) a = prodF (ws.map ofs) b := fun a b h => by
    rw [hκs, hκs] at h
    exact keyF_inj n0 (κpd a) (κpd b) h
  have κsn : ∀ a b i, κ a = κ b → κ (a ++ [i]) = κ (b ++ [i]) := fun a b i h => by
    rw [hκs, hκs, prodF_snoc, prodF_snoc, κinj a b h]
  have e0 : ([(keyF zf n, D.lst [])] : List (List Key × D)) = dctF κ [[]] := by
    unfold dctF
    rw [List.map_cons, List.map_nil, hκs]
    rfl
  rw [e0]
  refine run_for ?_
  repeat walk_at "dw"
  refine ⟨_, rfl, ⟨by omega, by omega⟩, ?_⟩
  rw [rgD_len, Int.toNat_natCast]
  refine ⟨fun i δ' S' => i ≤ m ∧ ∃ F N, Bfs κ ws.length i F N ∧ OneK κ F ∧ S' = S.set u (.dT (dctF κ F)) ∧ ∃ z10 z11 z12 z13 z14 z15, δ' = [some (mapD K g), some wd, some (.int m), some (.int n), some (valsD g n), some (.lst (ws.map fun r => valsD r n)), some (.key (keyF (ofs g) n)), some (.lst (ws.map fun r => intsD (row (ofs r) n))), some (.loc u), some (.lst (N.map fun s => .key (κ s))), z10, z11, z12, z13, z14, z15, none, none, none],
    ⟨Nat.zero_le _, [[]], [[]], Bfs.start, ?_, rfl, none, none, none, none, none, none, ?_⟩, ?_, ?_⟩
  · intro a ha b hb _
    rw [List.mem_singleton.mp ha, List.mem_singleton.mp hb]
  · unfold dctF
    rfl
  · rintro i x δ' S' hx ⟨hi, F, N, B, hO, rfl, z10, z11, z12, z13, z14, z15, rfl⟩
    obtain ⟨lt, rfl⟩ := rgD_get hx
    refine eg_name ?_
    unfold b3_spelled
    repeat walk_at "dw"
    obtain ⟨F', hFN, _, _⟩ := B.ex
    have sub : ∀ s ∈ N, s ∈ F := fun s hs => by rw [hFN]; exact List.mem_append_right _ hs
    have Fl : F.length ≤ 512 := by
      rw [B.all]
      exact Nat.le_trans (dd_len _) (lists_small2 many (by omega))
    have Nl : N.length ≤ 512 := by
      have : N.length ≤ F.length := by rw [hFN, List.length_append]; omega
      omega
    refine ⟨Nat.zero_le _, fun q hq hq2 => ?_⟩
    have uq : u ≠ q := fun z => by subst z; rw [Store.set_same] at hq; cases hq
    have hq' : S q = none := by rw [Store.set_ne (Ne.symm uq)] at hq; exact hq
    repeat walk_at "dw"
    refine run_for ?_
    repeat walk_at "dw"
    refine ⟨_, rfl, fun a δ' S2 => a ≤ N.length ∧ ∃ e, (N.take a).foldl (extK κ ws.length) F = F ++ e ∧ e.length ≤ 4 * a ∧ OneK κ (F ++ e) ∧ S2 = (S.set u (.dT (dctF κ (F ++ e)))).set q (.lst (e.map fun s => .key (κ s))) ∧
      ∃ z12 z13 z14 z15, δ' = [some (mapD K g), some wd, some (.int m), some (.int n), some (valsD g n), some (.lst (ws.map fun r => valsD r n)), some (.key (keyF (ofs g) n)), some (.lst (ws.map fun r => intsD (row (ofs r) n))), some (.loc u), some (.lst (N.map fun s => .key (κ s))), some (.int (0 + (i : Int))), some (.loc q), z12, z13, z14, z15, none, none, none],
      ⟨Nat.zero_le _, [], by rw [List.append_nil]; rfl, Nat.zero_le _, by rw [List.append_nil]; exact hO, by rw [List.append_nil]; rfl, _, _, _, _, rfl⟩, ?_, ?_⟩
    · rintro a x δ' S2 hx ⟨ha, e, hf, el, hOe, rfl, z12, z13, z14, z15, rfl⟩
      rw [List.getElem?_map] at hx
      obtain ⟨us, hus, rfl⟩ := Option.map_eq_some_iff.mp hx
      have lta := (List.getElem?_eq_some_iff.mp hus).1
      have usF := sub us (List.mem_of_getElem? hus)
      have usl : us.length ≤ 4 := by
        have h1 := dd_mem (κ := κ) (lists ws.length i) us (by rw [← B.all]; exact usF)
        have h2 := (lists_small ws.length i us h1).1
        omega
      refine eg_name ?_
      unfold b2_spelled
      refine run_for ?_
      repeat walk_at "dw"
      refine ⟨_, rfl, fun b δ' S3 => b ≤ ws.length ∧ ∃ e', (List.range b).foldl (fun F j => addK κ F (us ++ [j])) (F ++ e) = F ++ e' ∧ e'.length ≤ 4 * a + b ∧ OneK κ (F ++ e') ∧ S3 = (S.set u (.dT (dctF κ (F ++ e')))).set q (.lst (e'.map fun s => .key (κ s))) ∧
        ∃ z13 z14 z15, δ' = [some (mapD K g), some wd, some (.int m), some (.int n), some (valsD g n), some (.lst (ws.map fun r => valsD r n)), some (.key (keyF (ofs g) n)), some (.lst (ws.map fun r => intsD (row (ofs r) n))), some (.loc u), some (.lst (N.map fun s => .key (κ s))), some (.int (0 + (i : Int))), some (.loc q), some (.key (κ us)), z13, z14, z15, none, none, none],
        ⟨Nat.zero_le _, e, rfl, by omega, hOe, rfl, _, _, _, rfl⟩, ?_, ?_⟩
      · rintro b x δ' S3 hx ⟨hb, e', hf', el', hOe', rfl, z13, z14, z15, rfl⟩
        obtain ⟨y, hy, rfl⟩ := enD_get hx
        rw [List.getElem?_map] at hy
        obtain ⟨w, hw2, rfl⟩ := Option.map_eq_some_iff.mp hy
        have ltb := (List.getElem?_eq_some_iff.mp hw2).1
        have pww := pd w (List.mem_cons_of_mem _ (List.mem_of_getElem? hw2))
        have snoc : cmp (prodF (ws.map ofs) us) (ofs w) = prodF (ws.map ofs) (us ++ [b]) := by
          rw [prodF_snoc]
          congr 1
          rw [List.getD_eq_getElem?_getD, List.getElem?_map, hw2]
          rfl
        have hsu : ((S.set u (.dT (dctF κ (F ++ e')))).set q (.lst (e'.map fun s => .key (κ s)))) u = some (.dT (dctF κ (F ++ e'))) := by rw [Store.set_ne uq, Store.set_same]
        repeat walk_at "dw"
        unfold b1_spelled
        repeat walk_at "dw"
        refine cb_key (c_listOf .t ?_)
        rw [hκs us, keyF_kD]
        repeat walk_at "dw"
        refine ⟨row (prodF (ws.map ofs) us) n, row (ofs w) n, rfl, by rw [row_len]; exact n0, by rw [row_len]; exact hc, by rw [row_len, row_len], ?_⟩
        rw [jo_row n0 (κpd us) pww, snoc]
        repeat walk_at "dw"
        have ek : intsD (row (prodF (ws.map ofs) (us ++ [b])) n) = .lst ((κ (us ++ [b])).map kD) := by rw [hκs, keyF_kD]; rfl
        rw [ek]
        refine c_tupKey .l (fun zs z => by cases z) ?_
        rw [← hκs us]
        repeat walk_at "dt"
        refine ev_dnotinT ?_
        repeat walk_at "dw"
        refine ⟨u, _, _, rfl, hsu, rfl, ?_⟩
        by_cases has : Has κ (F ++ e') (us ++ [b])
        · rw [(dctF_has κ _ _).mpr has]
          repeat walk_at "dw"
          refine ⟨ltb, e', ?_, by omega, hOe', rfl, _, _, _, rfl⟩
          rw [List.range_succ, List.foldl_append, hf']
          exact addK_has has
        · have no : (valD (dctF κ (F ++ e')) (κ (us ++ [b]))).isSome = false := by
            cases z : (valD (dctF κ (F ++ e')) (κ (us ++ [b]))).isSome with
            | false => rfl
            | true => exact absurd ((dctF_has κ _ _).mp z) has
          rw [no]
          repeat walk_at "dw"
          try refine nff_and ?_
          repeat walk_at "dw"
          refine run_dputT ?_
          repeat walk_at "dw"
          refine ev_dgetT ?_
          repeat walk_at "dw"
          refine ⟨u, _, κ us, natsD us, rfl, hsu, rfl, hOe'.val κ (List.mem_append_left _ usF), ?_⟩
          repeat walk_at "dw"
          refine ⟨sz1, ?_⟩
          refine o_cat .v .v (by rw [List.length_map, List.length_singleton, PySem.sizeLine_eq]; omega) ?_
          rw [← natsD_snoc]
          repeat walk_at "dw"
          refine ⟨u, _, κ (us ++ [b]), rfl, hsu, rfl, by unfold dctF; rw [List.length_map, List.length_append, PySem.sizeLine_eq]; omega, ?_⟩
          rw [set_swap (Ne.symm uq), Store.set_set, dctF_put κ has]
          have hadd := addK_not has
          rw [hadd]
          repeat walk_at "dw"
          refine ⟨ty_list (.m Store.set_same), ?_⟩
          repeat walk_at "dw"
          refine m_append Store.set_same (by rw [List.length_map, PySem.sizeLine_eq]; omega) ?_
          rw [Store.set_set]
          repeat walk_at "dw"
          refine ⟨ltb, e' ++ [us ++ [b]], ?_, by rw [List.length_append, List.length_singleton]; omega, ?_, ?_, _, _, _, rfl⟩
          · rw [List.range_succ, List.foldl_append, hf', ← List.append_assoc]
            exact hadd
          · rw [← List.append_assoc, ← hadd]; exact hOe'.add κ _
          · rw [← List.append_assoc, List.map_append]; rfl
      · rintro δ' S3 ⟨hb, e', hf', el', hOe', rfl, z13, z14, z15, rfl⟩
        rw [enD_len, List.length_map] at hf' el'
        refine ⟨lta, e', ?_, by omega, hOe', rfl, _, _, _, _, rfl⟩
        rw [List.take_add_one, hus, List.foldl_append, hf]
        exact hf'
    · rintro δ' S2 ⟨ha, e, hf, el, hOe, rfl, z12, z13, z14, z15, rfl⟩
      rw [List.length_map, List.take_length] at hf
      refine run_frz (i := 11) rfl Store.set_same (by rw [hS] at *; exact hq') ?_
      rw [Store.del_set (by rw [Store.set_ne (Ne.symm uq)]; exact hq')]
      repeat walk_at "dw"
      have B2 := B.next κsn
      rw [hf, List.drop_left] at B2
      exact ⟨lt, F ++ e, e, B2, hOe, rfl, _, _, _, _, _, _, rfl⟩
  · rintro δ' S' ⟨hi, F, N, B, hO, rfl, z10, z11, z12, z13, z14, z15, rfl⟩
    repeat walk_at "dw"
    refine ev_dget1T ?_
    repeat walk_at "dw"
    refine ⟨u, rfl, ⟨_, Store.set_same⟩, ?_⟩
    repeat walk_at "dw"
    refine ⟨_, _, Store.set_same, rfl, ?_⟩
    refine .drop (drop1 hS hu) ?_
    have e1 : ((valD (dctF κ F) (keyF (ofs g) n)).getD .non) = spellD g ws m := by
      rw [dctF_val, B.all, dd_find (fun s => decide (κ s = keyF (ofs g) n)) (fun a b h => by rw [h])]
      unfold spellD spellQ
      have e2 : (fun s => decide (κ s = keyF (ofs g) n)) = fun s => isG (prodF (ws.map ofs) s) (ofs g) := by
        funext s
        rw [hκs]
        by_cases h : prodF (ws.map ofs) s = ofs g
        · rw [isG_t h, h, decide_eq_true rfl]
        · have : ¬ keyF (prodF (ws.map ofs) s) n = keyF (ofs g) n := fun z => h (keyF_inj n0 (κpd s) pg z)
          rw [isG_f h, decide_eq_false this]
      rw [e2]
      cases (lists ws.length m).find? fun s => isG (prodF (ws.map ofs) s) (ofs g) <;> rfl
    rw [e1]
    exact p hc
end

end Y

set_option maxHeartbeats 410000
namespace Y
open PySem L2 DL PyProof.Rows YM
local macro_rules | `(tactic| walk_at "dw") => `(tactic| first
  | (with_reducible apply run_seq) | (with_reducible apply run_if)
  | ((with_reducible apply run_set); (try dsimp only [outD])) | ((with_reducible apply run_next); (try dsimp only [outD])) | ((with_reducible apply run_ret); (try dsimp only [outD])) | ((with_reducible apply run_retN); (try dsimp only [outD])) | ((with_reducible apply run_drop); (try dsimp only [outD]))
  | ((with_reducible apply run_brk); (try dsimp only [outD])) | ((with_reducible apply run_cont); (try dsimp only [outD])) | ((with_reducible apply run_asg); (try dsimp only [outD])) | ((with_reducible apply run_par); (try dsimp only [outD]))
  | (with_reducible apply par_mk)
  | ((with_reducible apply ev_var); · rfl)
  | (with_reducible apply ev_int) | (with_reducible apply ev_str) | (with_reducible apply ev_bl) | (with_reducible apply ev_non) | (with_reducible apply ev_ty)
  | (with_reducible apply ev_dgetS)
  | (with_reducible apply ev_op) | (with_reducible apply ev_un) | (with_reducible apply ea_cons) | (with_reducible apply ea_nil)
  | (with_reducible apply ev_isiT) | (with_reducible apply ev_cb) | (with_reducible apply ev_tup) | (with_reducible apply ev_lstM') | (with_reducible apply ev_lst)
  | (with_reducible apply o_add) | (with_reducible apply o_sub) | (with_reducible apply o_lt) | (with_reducible apply o_le) | (with_reducible apply o_gt) | (with_reducible apply o_ge) | (with_reducible apply o_eqI) | (with_reducible apply o_neI) | (with_reducible apply o_eqS) | (with_reducible apply o_neS) | (with_reducible apply u_neg)
  | (with_reducible apply et_test) | (with_reducible apply et_B) | (with_reducible apply et_not) | (with_reducible apply et_and) | (with_reducible apply et_or) | (with_reducible apply isB)
  | (with_reducible apply ev_andV) | (with_reducible apply ev_orV) | (with_reducible apply ev_notV) | (with_reducible apply ev_if) | (with_reducible apply ev_chain)
  | (with_reducible apply tt_and) | (with_reducible apply ff_and) | (with_reducible apply ntt_and)
  | (with_reducible apply ev_callE) | (with_reducible apply ev_methE) | (with_reducible apply ev_propE)
  | (with_reducible apply eg_name) | (with_reducible apply egs_nil) | (with_reducible apply egs_cons) | ((with_reducible apply eg_tup); · rfl)
  | (with_reducible apply c_abs) | (with_reducible apply c_min2) | (with_reducible apply c_max2) | (with_reducible apply c_int) | (with_reducible apply c_intB)
  | (with_reducible apply ep_cons) | (with_reducible apply ep_nil) | (with_reducible apply ev_sl) | (with_reducible apply eo_none) | (with_reducible apply eo_some) | (with_reducible apply et_yes)
  | (with_reducible apply ev_bm) | (with_reducible apply ev_m1) | (with_reducible apply ei_rng1) | (with_reducible apply ei_rng2) | (with_reducible apply ei_list) | (with_reducible apply ei_tup)
  | (with_reducible apply ev_din) | (with_reducible apply ev_dnotin) | (with_reducible apply ev_dget2) | (with_reducible apply ei_enum) | (with_reducible apply ei_zip)
  | (with_reducible apply ex_int) | ((with_reducible apply s_lst); (· exact .v)) | (with_reducible apply ev_makeE) | ((with_reducible apply run_par3); (try dsimp only [outD]))
  | ((with_reducible apply eg_lst); · rfl)
  | ((with_reducible apply o_modP); (· first | decide | omega))
  | ((with_reducible apply o_fdivP); (· first | decide | omega); (· first | decide | omega))
  | ((with_reducible apply o_mul); (· first | exact .inl ⟨by first | decide | omega, by first | decide | omega⟩ | exact .inr ⟨by first | decide | omega, by first | decide | omega⟩))
  | ((with_reducible apply c_lenSeq); (· first | exact .l | exact .t))
  | ((with_reducible apply o_ixT); (· exact atI_nn (by decide) rfl))
  | (dsimp only []))
section
variable {K : Frag} {E : XK}
theorem dvd_all {p : Nat} (h0 : 0 < p) (h : p ≤ 12) : p ∣ 27720 := by
  have : ∀ q : Fin 13, 0 < q.val → q.val ∣ 27720 := by decide +kernel
  exact this ⟨p, by omega⟩ h0
theorem cut4 (l : List D) : DL.cutD l none (some 4) = l.take 4 := by
  unfold DL.cutD
  rw [HT.sIx_none, List.drop_zero, Nat.sub_zero]
  have e : HT.sIx l.length l.length (some ((4 : Nat) : Int)) = min 4 l.length := HT.sIx_nat _ _ _
  show l.take (HT.sIx l.length l.length (some ((4 : Nat) : Int))) = _
  rw [e]
  rcases Nat.le_total 4 l.length with z | z
  · rw [Nat.min_eq_left z]
  · rw [Nat.min_eq_right z, List.take_length, List.take_of_length_le z]
/-- the words of a turn -/
structure Wds (ws : List (List Int)) : Prop where
  one : 0 < ws.length
  few : ws.length ≤ 4
  all : ∀ r ∈ ws, 0 < r.length ∧ r.length ≤ 12
theorem Wds.lp {ws : List (List Int)} (h : Wds ws) : ∀ r ∈ ws, 0 < r.length ∧ r.length ≤ 1000000 ∧ lp r ∣ 27720 := fun r hr => by
  obtain ⟨a, b⟩ := h.all r hr
  exact ⟨a, by omega, dvd_all (lp_pos a) (Nat.le_trans (lp_le a) b)⟩
theorem lr_map_ofs {ws : List (List Int)} (h : ∀ r ∈ ws, 0 < r.length) : (ws.map lr).map ofs = ws.map ofs := by
  rw [List.map_map]
  exact List.map_congr_left fun r hr => lr_ofs (h r hr)
theorem coms_all {rs : List (List Int)} (h : ∀ r ∈ rs, r.length ∣ 27720) : coms rs ∣ 27720 := by
  have : ∀ (rs : List (List Int)) (n : Nat), n ∣ 27720 → (∀ r ∈ rs, r.length ∣ 27720) → rs.foldl (fun n r => com n r.length) n ∣ 27720 := by
    intro rs
    induction rs with
    | nil => exact fun n hn _ => hn
    | cons r rs ih => exact fun n hn hr => ih _ (com_dvd hn (hr r (List.mem_cons_self ..))) fun s hs => hr s (List.mem_cons_of_mem _ hs)
  exact this rs 1 (Nat.one_dvd _) h
/-- what a spelling is shown as -/
theorem show_small {s : List Nat} (h1 : s.length ≤ 4) (h2 : ∀ i ∈ s, i < 4) : (shownL (s.map fun (i : Nat) => (i : Int))).length ≤ 200 := by
  have f0 : (shownL []).length ≤ 200 := by decide +kernel
  have f1 : ∀ a : Fin 4, (shownL [((a.val : Nat) : Int)]).length ≤ 200 := by decide +kernel
  have f2 : ∀ a b : Fin 4, (shownL [((a.val : Nat) : Int), ((b.val : Nat) : Int)]).length ≤ 200 := by decide +kernel
  have f3 : ∀ a b c : Fin 4, (shownL [((a.val : Nat) : Int), ((b.val : Nat) : Int), ((c.val : Nat) : Int)]).length ≤ 200 := by decide +kernel
  have f4 : ∀ a b c d : Fin 4, (shownL [((a.val : Nat) : Int), ((b.val : Nat) : Int), ((c.val : Nat) : Int), ((d.val : Nat) : Int)]).length ≤ 200 := by decide +kernel
  match s, h1, h2 with
  | [], _, _ => exact f0
  | [a], _, h => exact f1 ⟨a, h a (by simp)⟩
  | [a, b], _, h => exact f2 ⟨a, h a (by simp)⟩ ⟨b, h b (by simp)⟩
  | [a, b, c], _, h => exact f3 ⟨a, h a (by simp)⟩ ⟨b, h b (by simp)⟩ ⟨c, h c (by simp)⟩
  | [a, b, c, d], _, h => exact f4 ⟨a, h a (by simp)⟩ ⟨b, h b (by simp)⟩ ⟨c, h c (by simp)⟩ ⟨d, h d (by simp)⟩
  | _ :: _ :: _ :: _ :: _ :: _, h, _ => simp at h
theorem ints_hasDict : ∀ ns : List Int, (PyData.list (pys (ns.map D.int))).hasDict = false ∧ (PyData.list (pys (ns.map D.int))).depth ≤ 2 := by
  intro ns
  have h := (pl_ints (ns := ns)).shape
  exact ⟨PyData.hasDict_of_canLay _ h.1, Nat.le_trans h.2 (by decide)⟩
/-- how what spelled tells is shown -/
def showQ : D → Str
  | .non => "None"
  | .lst xs => (PyData.list (pys xs)).shown
  | _ => ""
/-- repr of what spelled tells -/
theorem c_reprQ {J : Jd} {S : Store} {P : D → Store → Prop} {d : D} (h : d = .non ∨ ∃ s : List Nat, d = natsD s ∧ s.length ≤ 4 ∧ ∀ i ∈ s, i < 4) (p : P (.str (showQ d)) S) : Cb K J (LX.rReprG K) [d] S P := by
  rcases h with rfl | ⟨s, rfl, h1, h2⟩
  · exact c_reprN p
  · have e : natsD s = .lst ((s.map fun (i : Nat) => (i : Int)).map D.int) := by unfold natsD; rw [List.map_map]; rfl
    rw [e] at p ⊢
    refine c_reprL (fun n hn => ?_) (ints_hasDict _).1 (Nat.le_trans (ints_hasDict _).2 (by decide)) (Nat.le_trans (show_small h1 h2) (by rw [PySem.sizeLine_eq]; decide)) p
    obtain ⟨i, hi, rfl⟩ := List.mem_map.mp hn
    have hl := h2 i hi
    have : ∀ a : Fin 4, (((a.val : Nat) : Int)).natAbs.log2 < 1920 := by decide +kernel
    exact this ⟨i, hl⟩
end

end Y

set_option maxHeartbeats 410000
namespace Y
open PySem L2 DL PyProof.Rows YM
local macro_rules | `(tactic| walk_at "dw") => `(tactic| first
  | (with_reducible apply run_seq) | (with_reducible apply run_if)
  | ((with_reducible apply run_set); (try dsimp only [outD])) | ((with_reducible apply run_next); (try dsimp only [outD])) | ((with_reducible apply run_ret); (try dsimp only [outD])) | ((with_reducible apply run_retN); (try dsimp only [outD])) | ((with_reducible apply run_drop); (try dsimp only [outD]))
  | ((with_reducible apply run_brk); (try dsimp only [outD])) | ((with_reducible apply run_cont); (try dsimp only [outD])) | ((with_reducible apply run_asg); (try dsimp only [outD])) | ((with_reducible apply run_par); (try dsimp only [outD]))
  | (with_reducible apply par_mk)
  | ((with_reducible apply ev_var); · rfl)
  | (with_reducible apply ev_int) | (with_reducible apply ev_str) | (with_reducible apply ev_bl) | (with_reducible apply ev_non) | (with_reducible apply ev_ty)
  | (with_reducible apply ev_dgetS)
  | (with_reducible apply ev_op) | (with_reducible apply ev_un) | (with_reducible apply ea_cons) | (with_reducible apply ea_nil)
  | (with_reducible apply ev_isiT) | (with_reducible apply ev_cb) | (with_reducible apply ev_tup) | (with_reducible apply ev_lstM') | (with_reducible apply ev_lst)
  | (with_reducible apply o_add) | (with_reducible apply o_sub) | (with_reducible apply o_lt) | (with_reducible apply o_le) | (with_reducible apply o_gt) | (with_reducible apply o_ge) | (with_reducible apply o_eqI) | (with_reducible apply o_neI) | (with_reducible apply o_eqS) | (with_reducible apply o_neS) | (with_reducible apply u_neg)
  | (with_reducible apply et_test) | (with_reducible apply et_B) | (with_reducible apply et_not) | (with_reducible apply et_and) | (with_reducible apply et_or) | (with_reducible apply isB)
  | (with_reducible apply ev_andV) | (with_reducible apply ev_orV) | (with_reducible apply ev_notV) | (with_reducible apply ev_if) | (with_reducible apply ev_chain)
  | (with_reducible apply tt_and) | (with_reducible apply ff_and) | (with_reducible apply ntt_and)
  | (with_reducible apply ev_callE) | (with_reducible apply ev_methE) | (with_reducible apply ev_propE)
  | (with_reducible apply eg_name) | (with_reducible apply egs_nil) | (with_reducible apply egs_cons) | ((with_reducible apply eg_tup); · rfl)
  | (with_reducible apply c_abs) | (with_reducible apply c_min2) | (with_reducible apply c_max2) | (with_reducible apply c_int) | (with_reducible apply c_intB)
  | (with_reducible apply ep_cons) | (with_reducible apply ep_nil) | (with_reducible apply ev_sl) | (with_reducible apply eo_none) | (with_reducible apply eo_some) | (with_reducible apply et_yes)
  | (with_reducible apply ev_bm) | (with_reducible apply ev_m1) | (with_reducible apply ei_rng1) | (with_reducible apply ei_rng2) | (with_reducible apply ei_list) | (with_reducible apply ei_tup)
  | (with_reducible apply ev_din) | (with_reducible apply ev_dnotin) | (with_reducible apply ev_dget2) | (with_reducible apply ei_enum) | (with_reducible apply ei_zip)
  | (with_reducible apply ex_int) | ((with_reducible apply s_lst); (· exact .v)) | (with_reducible apply ev_makeE) | ((with_reducible apply run_par3); (try dsimp only [outD]))
  | ((with_reducible apply eg_lst); · rfl)
  | ((with_reducible apply o_modP); (· first | decide | omega))
  | ((with_reducible apply o_fdivP); (· first | decide | omega); (· first | decide | omega))
  | ((with_reducible apply o_mul); (· first | exact .inl ⟨by first | decide | omega, by first | decide | omega⟩ | exact .inr ⟨by first | decide | omega, by first | decide | omega⟩))
  | ((with_reducible apply c_lenSeq); (· first | exact .l | exact .t))
  | ((with_reducible apply o_ixT); (· exact atI_nn (by decide) rfl))
  | (dsimp only []))
section
variable {K : Frag} {E : XK}
local macro_rules | `(tactic| walk_at "dt") => `(tactic| first
  | (with_reducible apply run_seq) | ((with_reducible apply run_set); (try dsimp only [outD])) | ((with_reducible apply run_asg); (try dsimp only [outD])) | (with_reducible apply eg_name) | (with_reducible apply eo_none) | (with_reducible apply eo_some) | (with_reducible apply ep_cons) | (with_reducible apply ep_nil) | (with_reducible apply ev_sl) | (with_reducible apply ev_int) | (with_reducible apply ex_int) | ((with_reducible apply s_lst); (· exact .v)) | (dsimp only []))
/-- the first spelling among the first i -/
noncomputable def dueQ (ws : List (List Int)) (g : List Int) (l : List (List Nat)) (i : Nat) : D := match (l.take i).find? fun s => isG (prodF (ws.map ofs) s) (ofs g) with
  | some s => natsD s
  | none => .non
theorem o_repB {J : Jd} {S : Store} {P : D → Store → Prop} {b : Bool} {r : List Int} (p : ∀ w' : List (List Int), (∀ s ∈ w', s = r) → w'.length ≤ 1 → P (.lst (w'.map intsD)) S) : Op K J rRep (.lst [intsD r]) (.int (if b = true then 1 else 0)) S P := by
  cases b with
  | true => exact o_rep .v (by decide) (by decide) (by rw [PySem.sizeLine_eq]; show 1 * 1 ≤ 16777216; decide) (p [r] (fun s hs => List.mem_singleton.mp hs) (by show 1 ≤ 1; decide))
  | false => exact o_rep .v (by decide) (by decide) (by rw [PySem.sizeLine_eq]; show 1 * 0 ≤ 16777216; decide) (p [] (fun s hs => (by cases hs)) (by decide))
theorem ev_if45 {J : Jd} {S : Store} {δ : En} {P : D → Store → Prop} {c : TT} (hc : EvT K J c δ S fun b S1 => S1 = S) (h : ∀ x : Int, 4 ≤ x → x ≤ 5 → P (.int x) S) : Ev K J (tIf c (tC (.int 4)) (tC (.int 5))) δ S P :=
  ev_if (hc.imp fun b S1 e => by subst e; exact ⟨fun _ => ev_int (h 4 (by decide) (by decide)), fun _ => ev_int (h 5 (by decide) (by decide))⟩)
theorem run_law (F : Fx K) : ∀ J ds S P PX, J.S = S → C_law K ds S P PX → J.X K E PX → Run K J (t_law K) (startD N_law ds) S (outD J P) := by
  rintro J ds S P PX hS ⟨ns, rfl, nl, p⟩ hX
  unfold t_law
  repeat walk_at "dw"
  refine ⟨ns, rfl, fun a m ha pn => ?_⟩
  repeat walk_at "dw"
  refine run_for ?_
  repeat walk_at "dw"
  refine c_lenK ?_
  rw [List.length_map]
  repeat walk_at "dw"
  obtain ⟨T, hT, T1⟩ : ∃ T : Nat, (3 : Int) + (if (ns.length : Int) < 2 then (ns.length : Int) else 2) = (T : Int) ∧ T ≤ 5 := by
    by_cases z : (ns.length : Int) < 2
    · exact ⟨3 + ns.length, by rw [if_pos z]; omega, by omega⟩
    · exact ⟨5, by rw [if_neg z]; rfl, by omega⟩
  rw [hT]
  refine ⟨_, rfl, ⟨by omega, by omega⟩, ?_⟩
  rw [Int.toNat_natCast]
  refine ⟨fun i δ' S' => i ≤ T ∧ ∃ m', PenM m' (1000000 * i) ∧ S' = S.set a m' ∧ ∃ z2 z3 z4 z5 z6 z7 z8 z9, δ' = [some (.klst (ns.map .int)), some (.loc a), z2, z3, z4, z5, z6, z7, z8, z9, none, none], ⟨Nat.zero_le _, m, by simpa using pn, rfl, none, none, none, none, none, none, none, none, rfl⟩, ?_, ?_⟩
  · rintro i x δ' S' hx ⟨hi, m0, pn0, rfl, z2, z3, z4, z5, z6, z7, z8, z9, rfl⟩
    obtain ⟨lt, rfl⟩ := rgD_get hx
    refine eg_name ?_
    unfold b2_law
    repeat walk_at "dw"
    refine ev_lc (gk_name (by decide)) ?_
    repeat walk_at "dw"
    refine ⟨a, m0, _, 4, rfl, Store.set_same, pn0, ⟨by omega, by omega⟩, ⟨by decide, by decide⟩, fun c m1 c0 c1 pn1 => ?_⟩
    rw [Store.set_set]
    repeat walk_at "dw"
    refine ⟨_, rfl, ⟨by omega, by omega⟩, fun j acc S2 => ∃ ws : List (List Int), acc = ws.map intsD ∧ ws.length = j ∧ j ≤ 4 ∧ (∀ r ∈ ws, 0 < r.length ∧ r.length ≤ 12) ∧ ∃ m', PenM m' (1000000 * i + 1 + 20000 * j) ∧ S2 = S.set a m', ⟨[], rfl, rfl, Nat.zero_le _, fun r h => (by cases h), m1, pn1.mono (by omega), rfl⟩, ?_, ?_⟩
    · rintro j y acc S2 hy ⟨ws, rfl, wl, hj, wa, m2, pn2, rfl⟩
      have ltj := (rgD_get hy).1
      refine eg_name ?_
      refine et_yes ⟨fun _ => ?_, fun z => (by cases z)⟩
      repeat walk_at "dw"
      refine ⟨a, m2, _, 5, rfl, Store.set_same, pn2, ⟨by omega, by omega⟩, by decide, by decide, fun r m3 r0 r1 pn3 => ?_⟩
      rw [Store.set_set]
      refine ⟨by rw [List.length_map, PySem.sizeLine_eq]; omega, ws ++ [r], by rw [List.map_append]; rfl, by rw [List.length_append, wl]; rfl, by omega, fun s hs => ?_, m3, pn3.mono (by omega), rfl⟩
      rcases List.mem_append.mp hs with h | h
      · exact wa s h
      · rw [List.mem_singleton.mp h]; exact ⟨r0, by omega⟩
    rintro acc S2 ⟨w1, rfl, wl, hj, wa, m2, pn2, rfl⟩
    rw [rgD_len] at wl hj pn2
    have wl1 : 1 ≤ w1.length := by omega
    have wl4 : w1.length ≤ 4 := by omega
    have pn2 := pn2.mono (show _ ≤ (1000000 : Int) * i + 100000 by omega)
    repeat walk_at "dw"
    have hw0 : w1[0]? = some (w1.getD 0 []) := by rw [List.getD_eq_getElem?_getD, List.getElem?_eq_getElem (by omega)]; rfl
    refine o_ixL (d := intsD (w1.getD 0 [])) .v (atI_nn (by decide) (by show (w1.map intsD)[0]? = _; rw [List.getElem?_map, hw0]; rfl)) ?_
    repeat walk_at "dw"
    refine ⟨sz1, ?_⟩
    repeat walk_at "dw"
    refine ⟨a, m2, _, 3, rfl, Store.set_same, pn2, ⟨by omega, by omega⟩, ⟨by decide, by decide⟩, fun e m3 e0 e1 pn3 => ?_⟩
    rw [Store.set_set]
    repeat walk_at "dw"
    refine o_repB fun w' hw' wl' => ?_
    refine o_cat .v .v (by rw [List.length_map, List.length_map, PySem.sizeLine_eq]; omega) ?_
    rw [← List.map_append]
    repeat walk_at "dt"
    rw [cut4, ← List.map_take]
    obtain ⟨ws, hws⟩ : ∃ ws, (w1 ++ w').take 4 = ws := ⟨_, rfl⟩
    have W : Wds ws := by
      subst hws
      refine ⟨by rw [List.length_take, List.length_append]; omega, by rw [List.length_take]; omega, fun r hr => ?_⟩
      rcases List.mem_append.mp (List.mem_of_mem_take hr) with h | h
      · exact wa r h
      · rw [hw' r h]; exact wa _ (List.mem_of_getElem? hw0)
    rw [hws]
    clear hws hw' wl' wa wl hj hw0 wl1 wl4
    have wfew := W.few
    have wone := W.one
    repeat walk_at "dt"
    refine ev_callE ?_
    refine ea_cons ?_
    refine ev_var rfl ?_
    refine ea_cons ?_
    refine ev_if45 ?_ fun v v0 v1 => ?_
    · repeat walk_at "dw"
      try rfl
    repeat walk_at "dw"
    refine ⟨a, m3, _, v, rfl, Store.set_same, pn3, ⟨by omega, by omega⟩, ⟨by omega, by omega⟩, fun mo m4 mo0 mo1 pn4 => ?_⟩
    rw [Store.set_set]
    obtain ⟨mo, rfl⟩ := Int.eq_ofNat_of_zero_le mo0
    have mo4 : mo ≤ 4 := by omega
    repeat walk_at "dw"
    refine ev_lc (gk_name (by decide)) ?_
    repeat walk_at "dw"
    refine ⟨a, m4, _, 6, rfl, Store.set_same, pn4, ⟨by omega, by omega⟩, ⟨by decide, by decide⟩, fun c2 m5 d0 d1 pn5 => ?_⟩
    rw [Store.set_set]
    repeat walk_at "dw"
    refine ⟨_, rfl, ⟨by omega, by omega⟩, fun j acc S2 => ∃ xs : List Nat, acc = xs.map (fun (i : Nat) => D.int (i : Int)) ∧ xs.length = j ∧ j ≤ 6 ∧ (∀ k ∈ xs, k < ws.length) ∧ ∃ m', PenM m' (1000000 * i + 100003 + j) ∧ S2 = S.set a m', ⟨[], rfl, rfl, Nat.zero_le _, fun r h => (by cases h), m5, pn5.mono (by omega), rfl⟩, ?_, ?_⟩
    · rintro j y acc S2 hy ⟨xs, rfl, xl, hj, xa, m6, pn6, rfl⟩
      have ltj := (rgD_get hy).1
      refine eg_name ?_
      refine et_yes ⟨fun _ => ?_, fun z => (by cases z)⟩
      repeat walk_at "dw"
      rw [List.length_map]
      repeat walk_at "dw"
      refine ⟨a, m6, _, ws.length, rfl, Store.set_same, pn6, ⟨by omega, by omega⟩, ⟨by omega, by omega⟩, fun r m7 r0 r1 pn7 => ?_⟩
      rw [Store.set_set]
      obtain ⟨r, rfl⟩ := Int.eq_ofNat_of_zero_le r0
      refine ⟨by rw [List.length_map, PySem.sizeLine_eq]; omega, xs ++ [r], by rw [List.map_append]; rfl, by rw [List.length_append, xl]; rfl, by omega, fun s hs => ?_, m7, pn7.mono (by omega), rfl⟩
      rcases List.mem_append.mp hs with h | h
      · exact xa s h
      · rw [List.mem_singleton.mp h]; omega
    rintro acc S2 ⟨xs, rfl, xl, hj, xa, m6, pn6, rfl⟩
    rw [rgD_len] at xl hj pn6
    have pn6 := pn6.mono (show _ ≤ (1000000 : Int) * i + 100100 by omega)
    repeat walk_at "dw"
    have prod : ∀ (zs : List Nat) (S : Store) (P : D → Store → Prop), zs.length ≤ 10 → (∀ k ∈ zs, k < ws.length) → (∀ r : List Int, Lst r → r.length ∣ 27720 → ofs r = prodF (ws.map ofs) zs → P (intsD r) S) → C__law_product [.lst (ws.map intsD), natsD zs] S P PX0 := fun zs S P h1 h2 h3 => ⟨ws, zs, 27720, rfl, h2, W.lp, by decide, by decide, by omega, by omega, h3⟩
    refine prod xs _ _ (by omega) xa fun r1 l1 d1 o1 => ?_
    repeat walk_at "dw"
    refine prod xs _ _ (by omega) xa fun r2 l2 d2 o2 => ?_
    repeat walk_at "dw"
    refine ⟨sz1, ?_⟩
    repeat walk_at "dw"
    refine ⟨a, m6, _, 6, rfl, Store.set_same, pn6, ⟨by omega, by omega⟩, by decide, by decide, fun r3 m7 r30 r31 pn7 => ?_⟩
    rw [Store.set_set]
    repeat walk_at "dw"
    refine ⟨sz4, ?_⟩
    repeat walk_at "dw"
    refine ⟨a, m7, _, _, rfl, Store.set_same, pn7, ⟨by omega, by omega⟩, (by show 0 < 4; decide), (by show 4 < 1000000; decide), fun x m8 hx8 pn8 => ?_⟩
    rw [Store.set_set]
    have le27 : ∀ {z : Nat}, z ∣ 27720 → z ≤ 27720 := fun h => Nat.le_of_dvd (by decide) h
    obtain ⟨g, rfl, g0, g1, gd⟩ : ∃ g : List Int, x = intsD g ∧ 0 < g.length ∧ g.length ≤ 27720 ∧ lp g ∣ 27720 := by
      simp only [List.mem_cons, List.not_mem_nil, or_false] at hx8
      rcases hx8 with rfl | rfl | rfl | rfl
      · exact ⟨r1, rfl, l1.1, le27 d1, by rw [l1.2]; exact d1⟩
      · exact ⟨r2, rfl, l2.1, le27 d2, by rw [l2.2]; exact d2⟩
      · exact ⟨[0], rfl, by decide, by decide, dvd_all (lp_pos (by decide)) (Nat.le_trans (lp_le (by decide)) (by decide))⟩
      · exact ⟨r3, rfl, r30, by omega, dvd_all (lp_pos r30) (Nat.le_trans (lp_le r30) (by omega))⟩
    clear hx8
    repeat walk_at "dw"
    refine run_for ?_
    repeat walk_at "dw"
    rw [List.length_map]
    refine ⟨ws.length, mo, rfl, wfew, mo4, ?_⟩
    repeat walk_at "dw"
    generalize hL : lists ws.length mo = L
    have Lsm : ∀ s ∈ L, s.length ≤ 4 ∧ ∀ k ∈ s, k < ws.length := fun s hs => by
      rw [← hL] at hs
      obtain ⟨h1, h2⟩ := lists_small ws.length mo s hs
      exact ⟨by omega, h2⟩
    refine ⟨_, rfl, fun j δ' S2 => j ≤ L.length ∧ S2 = S.set a m8 ∧ ∃ z8, δ' = [some (.klst (ns.map .int)), some (.loc a), some (.int (0 + (i : Int))), some (.lst (ws.map intsD)), some (.int (mo : Int)), some (natsD xs), some (intsD g), some (dueQ ws g L j), z8, z9, none, none], ⟨Nat.zero_le _, rfl, _, rfl⟩, ?_, ?_⟩
    · rintro j y δ' S2 hy ⟨hj, rfl, z8, rfl⟩
      rw [List.getElem?_map] at hy
      obtain ⟨s, hs, rfl⟩ := Option.map_eq_some_iff.mp hy
      have ltj := (List.getElem?_eq_some_iff.mp hs).1
      obtain ⟨sl, sk⟩ := Lsm s (List.mem_of_getElem? hs)
      have step : dueQ ws g L (j + 1) = match (L.take j).find? fun s => isG (prodF (ws.map ofs) s) (ofs g) with
          | some u => natsD u
          | none => if isG (prodF (ws.map ofs) s) (ofs g) = true then natsD s else .non := by
        have tk : L.take (j + 1) = L.take j ++ [s] := by rw [List.take_add_one, hs]; rfl
        unfold dueQ
        rw [tk, List.find?_append]
        cases (L.take j).find? fun s => isG (prodF (ws.map ofs) s) (ofs g) with
        | some u => rfl
        | none =>
          rw [Option.none_or, List.find?_cons, List.find?_nil]
          cases h : isG (prodF (ws.map ofs) s) (ofs g) <;> rfl
      refine eg_name ?_
      unfold b1_law
      have cur : dueQ ws g L j = match (L.take j).find? fun s => isG (prodF (ws.map ofs) s) (ofs g) with
          | some u => natsD u
          | none => .non := rfl
      cases hf : (L.take j).find? fun s => isG (prodF (ws.map ofs) s) (ofs g) with
      | some u =>
        rw [hf] at step cur
        dsimp only at step cur
        rw [cur]
        repeat walk_at "dw"
        refine o_isN (.inr (.inr (.inl ⟨_, rfl⟩))) ?_
        repeat walk_at "dw"
        refine ff_and ?_
        repeat walk_at "dw"
        exact ⟨ltj, rfl, _, by rw [step]; rfl⟩
      | none =>
        rw [hf] at step cur
        dsimp only at step cur
        rw [cur]
        repeat walk_at "dw"
        refine o_isN (.inr (.inl rfl)) ?_
        repeat walk_at "dw"
        try refine tt_and ?_
        repeat walk_at "dw"
        refine prod s _ _ (by omega) sk fun r hr hd ho => ?_
        repeat walk_at "dw"
        refine ⟨g, rfl, g0, by omega, ?_⟩
        refine o_eqIs ?_
        repeat walk_at "dw"
        have iff : r = lr g ↔ prodF (ws.map ofs) s = ofs g := by
          rw [← ho, ← lr_eq hr.1 g0, hr.lr]
        refine dec_and (fun h => ?_) (fun h => ?_)
        · repeat walk_at "dw"
          exact ⟨ltj, rfl, _, by rw [step, if_pos (isG_t (iff.mp h))]; rfl⟩
        · repeat walk_at "dw"
          refine ⟨ltj, rfl, natsD s, ?_⟩
          rw [step, isG_f (fun z => h (iff.mpr z)), if_neg (by decide)]
          rfl
    rintro δ' S2 ⟨_, rfl, z8, rfl⟩
    rw [List.length_map]
    have eD : dueQ ws g L L.length = spellD (lr g) (ws.map lr) mo := by
      unfold dueQ spellD spellQ
      rw [List.take_length, List.length_map, hL, lr_map_ofs (fun r hr => (W.all r hr).1), lr_ofs g0]
      all_goals rfl
    rw [eD]
    have Dsm : spellD (lr g) (ws.map lr) mo = .non ∨ ∃ s : List Nat, spellD (lr g) (ws.map lr) mo = natsD s ∧ s.length ≤ 4 ∧ ∀ k ∈ s, k < 4 := by
      unfold spellD
      cases h : spellQ (lr g) (ws.map lr) mo with
      | none => exact .inl rfl
      | some s =>
        refine .inr ⟨s, rfl, ?_⟩
        unfold spellQ at h
        rw [List.length_map, hL] at h
        obtain ⟨h1, h2⟩ := Lsm s (List.mem_of_find?_eq_some h)
        exact ⟨h1, fun k hk => by have := h2 k hk; omega⟩
    repeat walk_at "dw"
    refine ev_lcP (fun j => mapD K (lr (ws.getD j []))) (gk_name (by decide)) ?_
    repeat walk_at "dw"
    refine ⟨_, rfl, by rw [List.length_map, PySem.sizeLine_eq]; omega, ?_, ?_⟩
    · intro j d hd
      obtain ⟨r, hr, rfl⟩ := map_get hd
      have er : ws.getD j [] = r := by rw [List.getD_eq_getElem?_getD, hr]; rfl
      obtain ⟨q0, q1⟩ := W.all r (List.mem_of_getElem? hr)
      rw [er]
      repeat walk_at "dw"
      exact ⟨r, rfl, q0, by omega, rfl, rfl⟩
    rw [List.length_map, range_map_get ws (fun r => mapD K (lr r)) []]
    have eM : (ws.map fun r => mapD K (lr r)) = (ws.map lr).map (mapD K) := by rw [List.map_map]; rfl
    rw [eM]
    repeat walk_at "dw"
    refine ⟨g, rfl, g0, by omega, ?_⟩
    repeat walk_at "dw"
    refine c_tupOf .l ?_
    repeat walk_at "dw"
    refine ⟨sz2, ?_⟩
    repeat walk_at "dw"
    refine ⟨a, m8, _, _, rfl, Store.set_same, pn8, ⟨by omega, by omega⟩, (by show 0 < 2; decide), (by show 2 < 1000000; decide), fun wd m9 hwd pn9 => ?_⟩
    rw [Store.set_set]
    have hwd2 : wd = .lst ((ws.map lr).map (mapD K)) ∨ wd = .tup ((ws.map lr).map (mapD K)) := by
      rcases List.mem_cons.mp hwd with h | h
      · exact .inl h
      · (exact .inr (List.mem_singleton.mp h))
    have mpW : ∀ r ∈ ws.map lr, Mp r := fun r hr => by
      obtain ⟨s, hs, rfl⟩ := List.mem_map.mp hr
      obtain ⟨q0, q1⟩ := W.all s hs
      exact ⟨lst_lr q0, by rw [lr_len]; have := lp_le q0; omega⟩
    have mpG : Mp (lr g) := ⟨lst_lr g0, by rw [lr_len]; have := lp_le g0; omega⟩
    have cD : coms (lr g :: ws.map lr) ∣ 27720 := coms_all fun r hr => by
      rcases List.mem_cons.mp hr with h | h
      · rw [h, lr_len]; exact gd
      · obtain ⟨s, hs, rfl⟩ := List.mem_map.mp h
        rw [lr_len]; exact (W.lp s hs).2.2
    have cL := le27 cD
    repeat walk_at "dw"
    refine ⟨lr g, ws.map lr, wd, mo, rfl, hwd2, mpG, mpW, by rw [List.length_map]; exact wfew, mo4, fun _ => ?_, fun z => by omega⟩
    repeat walk_at "dw"
    refine c_reprQ Dsm ?_
    repeat walk_at "dw"
    refine c_reprQ Dsm ?_
    repeat walk_at "dw"
    rw [decide_eq_true rfl]
    refine ff_and ?_
    repeat walk_at "dw"
    rw [List.length_map, List.length_map, List.length_map]
    repeat walk_at "dw"
    rw [decide_eq_true rfl]
    refine ff_and ?_
    repeat walk_at "dw"
    have h0 : ws[0]? = some (ws.getD 0 []) := by rw [List.getD_eq_getElem?_getD, List.getElem?_eq_getElem wone]; rfl
    obtain ⟨q0, q1⟩ := W.all _ (List.mem_of_getElem? h0)
    refine o_ixL (d := mapD K (lr (ws.getD 0 []))) .v (atI_nn (by decide) (by show ((ws.map lr).map (mapD K))[0]? = _; rw [List.getElem?_map, List.getElem?_map, h0]; rfl)) ?_
    repeat walk_at "dw"
    refine o_ixL (d := intsD (ws.getD 0 [])) .v (atI_nn (by decide) (by show (ws.map intsD)[0]? = _; rw [List.getElem?_map, h0]; rfl)) ?_
    repeat walk_at "dw"
    refine ⟨_, rfl, q0, by omega, ?_⟩
    have mp0 : Mp (lr (ws.getD 0 [])) := ⟨lst_lr q0, by rw [lr_len]; have := lp_le q0; omega⟩
    refine o_ownEq (.inl rfl) (.inl rfl) ⟨_, _, rfl, mp0, mp0, ⟨_, rfl⟩, ?_⟩
    rw [decide_eq_true rfl]
    repeat walk_at "dw"
    exact ⟨lt, m9, pn9.mono (by omega), rfl, _, _, _, _, _, _, _, _, rfl⟩
  · rintro δ' S' ⟨hi, m0, pn0, rfl, z2, z3, z4, z5, z6, z7, z8, z9, rfl⟩
    rw [rgD_len] at pn0
    repeat walk_at "dw"
    refine ⟨a, m0, _, rfl, Store.set_same, pn0, ⟨by omega, by omega⟩, fun m2 => ?_⟩
    exact .now (p _)
end

end Y

set_option maxHeartbeats 410000
namespace Y
open PySem L2 DL PyProof.Rows YM
local macro_rules | `(tactic| walk_at "dw") => `(tactic| first
  | (with_reducible apply run_seq) | (with_reducible apply run_if)
  | ((with_reducible apply run_set); (try dsimp only [outD])) | ((with_reducible apply run_next); (try dsimp only [outD])) | ((with_reducible apply run_ret); (try dsimp only [outD])) | ((with_reducible apply run_retN); (try dsimp only [outD])) | ((with_reducible apply run_drop); (try dsimp only [outD]))
  | ((with_reducible apply run_brk); (try dsimp only [outD])) | ((with_reducible apply run_cont); (try dsimp only [outD])) | ((with_reducible apply run_asg); (try dsimp only [outD])) | ((with_reducible apply run_par); (try dsimp only [outD]))
  | (with_reducible apply par_mk)
  | ((with_reducible apply ev_var); · rfl)
  | (with_reducible apply ev_int) | (with_reducible apply ev_str) | (with_reducible apply ev_bl) | (with_reducible apply ev_non) | (with_reducible apply ev_ty)
  | (with_reducible apply ev_dgetS)
  | (with_reducible apply ev_op) | (with_reducible apply ev_un) | (with_reducible apply ea_cons) | (with_reducible apply ea_nil)
  | (with_reducible apply ev_isiT) | (with_reducible apply ev_cb) | (with_reducible apply ev_tup) | (with_reducible apply ev_lstM') | (with_reducible apply ev_lst)
  | (with_reducible apply o_add) | (with_reducible apply o_sub) | (with_reducible apply o_lt) | (with_reducible apply o_le) | (with_reducible apply o_gt) | (with_reducible apply o_ge) | (with_reducible apply o_eqI) | (with_reducible apply o_neI) | (with_reducible apply o_eqS) | (with_reducible apply o_neS) | (with_reducible apply u_neg)
  | (with_reducible apply et_test) | (with_reducible apply et_B) | (with_reducible apply et_not) | (with_reducible apply et_and) | (with_reducible apply et_or) | (with_reducible apply isB)
  | (with_reducible apply ev_andV) | (with_reducible apply ev_orV) | (with_reducible apply ev_notV) | (with_reducible apply ev_if) | (with_reducible apply ev_chain)
  | (with_reducible apply tt_and) | (with_reducible apply ff_and) | (with_reducible apply ntt_and)
  | (with_reducible apply ev_callE) | (with_reducible apply ev_methE) | (with_reducible apply ev_propE)
  | (with_reducible apply eg_name) | (with_reducible apply egs_nil) | (with_reducible apply egs_cons) | ((with_reducible apply eg_tup); · rfl)
  | (with_reducible apply c_abs) | (with_reducible apply c_min2) | (with_reducible apply c_max2) | (with_reducible apply c_int) | (with_reducible apply c_intB)
  | (with_reducible apply ep_cons) | (with_reducible apply ep_nil) | (with_reducible apply ev_sl) | (with_reducible apply eo_none) | (with_reducible apply eo_some) | (with_reducible apply et_yes)
  | (with_reducible apply ev_bm) | (with_reducible apply ev_m1) | (with_reducible apply ei_rng1) | (with_reducible apply ei_rng2) | (with_reducible apply ei_list) | (with_reducible apply ei_tup)
  | (with_reducible apply ev_din) | (with_reducible apply ev_dnotin) | (with_reducible apply ev_dget2) | (with_reducible apply ei_enum) | (with_reducible apply ei_zip)
  | (with_reducible apply ex_int) | ((with_reducible apply s_lst); (· exact .v)) | (with_reducible apply ev_makeE) | ((with_reducible apply run_par3); (try dsimp only [outD]))
  | ((with_reducible apply eg_lst); · rfl)
  | ((with_reducible apply o_modP); (· first | decide | omega))
  | ((with_reducible apply o_fdivP); (· first | decide | omega); (· first | decide | omega))
  | ((with_reducible apply o_mul); (· first | exact .inl ⟨by first | decide | omega, by first | decide | omega⟩ | exact .inr ⟨by first | decide | omega, by first | decide | omega⟩))
  | ((with_reducible apply c_lenSeq); (· first | exact .l | exact .t))
  | ((with_reducible apply o_ixT); (· exact atI_nn (by decide) rfl))
  | (dsimp only []))
section
variable {K : Frag} {E : XK}
structure Pair2 (u v : Nat) : Prop where
  u0 : 7 ≤ u
  u1 : u ≤ 30000
  v0 : 7 ≤ v
  v1 : v ≤ 30000
  c : 200000 < com u v
theorem pick_sizes {x : D} (h : x ∈ [D.tup [.int 449, .int 447], .tup [.int 448, .int 449], .tup [.int 625, .int 321]]) : ∃ u v : Nat, x = .tup [.int u, .int v] ∧ Pair2 u v := by
  simp only [List.mem_cons, List.not_mem_nil, or_false] at h
  rcases h with rfl | rfl | rfl
  · exact ⟨449, 447, rfl, by decide, by decide, by decide, by decide, by decide +kernel⟩
  · exact ⟨448, 449, rfl, by decide, by decide, by decide, by decide, by decide +kernel⟩
  · exact ⟨625, 321, rfl, by decide, by decide, by decide, by decide, by decide +kernel⟩
theorem coms2 (a b : List Int) : coms [a, b] = com a.length b.length := by
  show com (com 1 a.length) b.length = _
  rw [com_one]
theorem com_oner (n : Nat) : com n 1 = n := by rw [com_lcm, Nat.lcm_one_right]
theorem ofs_zero : ofs [0] = zf := by
  funext x
  show ofs [0] x = 0
  unfold ofs
  have := Int.emod_one x
  show ([0] : List Int).getD (x % 1).toNat 0 = 0
  rw [this]; rfl
theorem cmp_zf (f : Int → Int) : cmp zf f = f := by
  funext x
  show 0 + f (x + 0) = f x
  rw [Int.zero_add, Int.add_zero]
theorem lst_one (x : Int) : Mp [x] := by
  have h := lp_le (r := [x]) (by show 0 < 1; decide)
  have h0 := lp_pos (r := [x]) (by show 0 < 1; decide)
  have : lp [x] = 1 := Nat.le_antisymm h h0
  exact ⟨⟨by show 0 < 1; decide, this⟩, by show 1 ≤ 200000; decide⟩
/-- a map of one late day is no constant -/
theorem one_not {n : Nat} {X : List Int} {k : Nat} {N : Int} (hX : X = row (fun z => N * (if decide (z = (k : Int)) = true then 1 else 0)) n) (hk : k < n) (N0 : N ≠ 0) : ofs X k = N ∧ ∀ j : Nat, j < n → j ≠ k → ofs X j = 0 := by
  subst hX
  have at_ : ∀ i : Nat, i < n → ofs (row (fun z => N * (if decide (z = (k : Int)) = true then 1 else 0)) n) i = N * (if decide ((i : Int) = (k : Int)) = true then 1 else 0) := fun i hi => by rw [ofs_nat (by rw [row_len]; exact hi), row_getD hi]
  refine ⟨by rw [at_ k hk, decide_eq_true rfl, if_pos rfl, Int.mul_one], fun j hj hn => ?_⟩
  rw [at_ j hj, decide_eq_false (by omega)]
  simp
theorem spell_far {Z : List Int} {N : Int} (h1 : ¬ ofs Z = zf) (h2 : ¬ ofs Z = fun _ => N) : spellD Z [[0], [N], Z] 2 = natsD [2] := by
  have e0 : prodF ([[0], [N], Z].map ofs) [] = zf := rfl
  have e1 : prodF ([[0], [N], Z].map ofs) [0] = zf := by show cmp zf (ofs [0]) = zf; rw [cmp_zf, ofs_zero]
  have e2 : prodF ([[0], [N], Z].map ofs) [1] = fun _ => N := by show cmp zf (ofs [N]) = _; rw [cmp_zf]; exact ofs_rep (n := 1) (by decide)
  have e3 : prodF ([[0], [N], Z].map ofs) [2] = ofs Z := by show cmp zf (ofs Z) = _; rw [cmp_zf]
  have el : ∃ r, lists 3 2 = [] :: [0] :: [1] :: [2] :: r := ⟨_, rfl⟩
  obtain ⟨r, el⟩ := el
  unfold spellD spellQ
  show (match (lists 3 2).find? _ with | some s => natsD s | none => D.non) = _
  rw [el, List.find?_cons_of_neg (by rw [e0, isG_f (fun z => h1 z.symm)]; simp), List.find?_cons_of_neg (by rw [e1, isG_f (fun z => h1 z.symm)]; simp), List.find?_cons_of_neg (by rw [e2, isG_f (fun z => h2 z.symm)]; simp), List.find?_cons_of_pos (by rw [e3, isG_t rfl])]
theorem spell_still (Z : List Int) : spellD [0] [Z] 2 = natsD [] := by
  have e0 : prodF ([Z].map ofs) [] = zf := rfl
  have el : ∃ r, lists 1 2 = [] :: r := ⟨_, rfl⟩
  obtain ⟨r, el⟩ := el
  unfold spellD spellQ
  show (match (lists 1 2).find? _ with | some s => natsD s | none => D.non) = _
  rw [el, List.find?_cons_of_pos (by rw [e0, isG_t ofs_zero.symm])]
theorem spell_left {X : List Int} (h1 : ¬ ofs X = zf) : spellD X [X, [0]] 0 = .non ∧ spellD X [X, [0]] 1 = natsD [0] ∧ spellD X [X, [0]] 2 = natsD [0] := by
  have e0 : prodF ([X, [0]].map ofs) [] = zf := rfl
  have e1 : prodF ([X, [0]].map ofs) [0] = ofs X := by show cmp zf (ofs X) = _; rw [cmp_zf]
  refine ⟨?_, ?_, ?_⟩
  · unfold spellD spellQ
    show (match (lists 2 0).find? _ with | some s => natsD s | none => D.non) = _
    have el : lists 2 0 = [[]] := rfl
    rw [el, List.find?_cons_of_neg (by rw [e0, isG_f (fun z => h1 z.symm)]; simp), List.find?_nil]
  · unfold spellD spellQ
    show (match (lists 2 1).find? _ with | some s => natsD s | none => D.non) = _
    have el : ∃ r, lists 2 1 = [] :: [0] :: r := ⟨_, rfl⟩
    obtain ⟨r, el⟩ := el
    rw [el, List.find?_cons_of_neg (by rw [e0, isG_f (fun z => h1 z.symm)]; simp), List.find?_cons_of_pos (by rw [e1, isG_t rfl])]
  · unfold spellD spellQ
    show (match (lists 2 2).find? _ with | some s => natsD s | none => D.non) = _
    have el : ∃ r, lists 2 2 = [] :: [0] :: r := ⟨_, rfl⟩
    obtain ⟨r, el⟩ := el
    rw [el, List.find?_cons_of_neg (by rw [e0, isG_f (fun z => h1 z.symm)]; simp), List.find?_cons_of_pos (by rw [e1, isG_t rfl])]
theorem run__law_long_right (F : Fx K) : ∀ J ds S P PX, J.S = S → C__law_long_right K ds S P PX → J.X K E PX → Run K J (t__law_long_right K) (startD N__law_long_right ds) S (outD J P) := by
  rintro J ds S P PX hS ⟨a, m, t, rfl, hs, pn, lo, p⟩ hX
  have lo1 := lo.1
  have lo2 := lo.2
  unfold t__law_long_right
  repeat walk_at "dw"
  refine ⟨sz2, ?_⟩
  repeat walk_at "dw"
  refine ⟨sz2, ?_⟩
  repeat walk_at "dw"
  refine ⟨sz2, ?_⟩
  repeat walk_at "dw"
  refine ⟨sz3, ?_⟩
  repeat walk_at "dw"
  refine ⟨a, m, _, _, rfl, hs, pn, ⟨by omega, by omega⟩, (by show 0 < 3; decide), (by show 3 < 1000000; decide), fun x m1 hx pn1 => ?_⟩
  obtain ⟨u, v, rfl, pq⟩ := pick_sizes hx
  have u0 := pq.u0
  have u1 := pq.u1
  have v0 := pq.v0
  have v1 := pq.v1
  repeat walk_at "dw"
  have mn : ∃ w : Nat, (if (v : Int) < (u : Int) then (v : Int) else (u : Int)) = (w : Int) ∧ 7 ≤ w ∧ w ≤ 30000 ∧ w ≤ u ∧ w ≤ v := by
    by_cases z : (v : Int) < (u : Int)
    · exact ⟨v, if_pos z, v0, v1, by omega, Nat.le_refl _⟩
    · exact ⟨u, if_neg z, u0, u1, Nat.le_refl _, by omega⟩
  obtain ⟨w, ew, w0, w1, wu, wv⟩ := mn
  rw [ew]
  refine ⟨a, m1, _, w, rfl, Store.set_same, pn1, ⟨by omega, by omega⟩, ⟨by omega, by omega⟩, fun k m2 k0 k1 pn2 => ?_⟩
  obtain ⟨k, rfl⟩ := Int.eq_ofNat_of_zero_le k0
  rw [Store.set_set]
  repeat walk_at "dw"
  refine ⟨a, m2, _, 9, rfl, Store.set_same, pn2, ⟨by omega, by omega⟩, ⟨by decide, by decide⟩, fun c m3 c0 c1 pn3 => ?_⟩
  rw [Store.set_set]
  repeat walk_at "dw"
  refine ⟨sz2, ?_⟩
  repeat walk_at "dw"
  generalize hN : 1 + c = N
  have N0 : N ≠ 0 := by omega
  have N1 : -100 ≤ N ∧ N ≤ 100 := by omega
  clear hx pn1 pn2 hs pn
  -- the two maps of one late day
  have lc : ∀ (n : Nat), (List.range n).map (fun (i : Nat) => D.int (N * (if decide ((i : Int) = (k : Int)) = true then 1 else 0))) = (row (fun z => N * (if decide (z = (k : Int)) = true then 1 else 0)) n).map D.int := fun n => by unfold row; rw [List.map_map]; rfl
  have Lst_ : ∀ n : Nat, k < n → Lst (row (fun z => N * (if decide (z = (k : Int)) = true then 1 else 0)) n) := fun n hn => ⟨by rw [row_len]; omega, by rw [lp_one hn N0, row_len]⟩
  have hk : k < w := by omega
  obtain ⟨X, eX, hXr, lu, Lu⟩ : ∃ X : List Int, (List.range u).map (fun (i : Nat) => D.int (N * (if decide ((i : Int) = (k : Int)) = true then 1 else 0))) = X.map D.int ∧ X = row (fun z => N * (if decide (z = (k : Int)) = true then 1 else 0)) u ∧ X.length = u ∧ Lst X := ⟨_, lc u, rfl, row_len, Lst_ u (by omega)⟩
  obtain ⟨Y, eY, lv, Lv⟩ : ∃ X : List Int, (List.range v).map (fun (i : Nat) => D.int (N * (if decide ((i : Int) = (k : Int)) = true then 1 else 0))) = X.map D.int ∧ X.length = v ∧ Lst X := ⟨_, lc v, row_len, Lst_ v (by omega)⟩
  refine ev_lcP (fun (i : Nat) => D.int (N * (if decide ((i : Int) = (k : Int)) = true then 1 else 0))) (gk_name (List.mem_singleton.mpr rfl)) ?_
  repeat walk_at "dw"
  refine ⟨_, rfl, ⟨by omega, by omega⟩, by rw [rgD_len, PySem.sizeLine_eq]; omega, ?_, ?_⟩
  · intro i d hd
    obtain ⟨lt, rfl⟩ := rgD_get hd
    rw [Int.zero_add]
    repeat walk_at "dw"
    exact ⟨rfl, rfl⟩
  rw [rgD_len, Int.toNat_natCast, eX]
  repeat walk_at "dw"
  refine fun y hy hy2 => ⟨y, X, by rw [lu]; rfl, Store.set_same, by rw [lu]; omega, by rw [lu]; omega, rfl, .inr ⟨_, Store.set_same, ?_⟩⟩
  rw [Store.set_set, Store.del_set hy, Lu.lr]
  repeat walk_at "dw"
  refine ev_lcP (fun (i : Nat) => D.int (N * (if decide ((i : Int) = (k : Int)) = true then 1 else 0))) (gk_name (List.mem_singleton.mpr rfl)) ?_
  repeat walk_at "dw"
  refine ⟨_, rfl, ⟨by omega, by omega⟩, by rw [rgD_len, PySem.sizeLine_eq]; omega, ?_, ?_⟩
  · intro i d hd
    obtain ⟨lt, rfl⟩ := rgD_get hd
    rw [Int.zero_add]
    repeat walk_at "dw"
    exact ⟨rfl, rfl⟩
  rw [rgD_len, Int.toNat_natCast, eY]
  repeat walk_at "dw"
  refine fun y hy hy2 => ⟨y, Y, by rw [lv]; rfl, Store.set_same, by rw [lv]; omega, by rw [lv]; omega, rfl, .inr ⟨_, Store.set_same, ?_⟩⟩
  rw [Store.set_set, Store.del_set hy, Lv.lr]
  have mX : Mp X := ⟨Lu, by omega⟩
  have mY : Mp Y := ⟨Lv, by omega⟩
  have big : 200000 < coms [X, Y] := by rw [coms2, lu, lv]; exact pq.c
  have m0 : Mp [0] := lst_one 0
  have nz : ∀ (Z : List Int) (n j : Nat), Z = row (fun z => N * (if decide (z = (j : Int)) = true then 1 else 0)) n → j < n → ¬ ofs Z = zf := fun Z n j e hj h => by
    have := (one_not e hj N0).1
    rw [h] at this
    exact N0 this.symm
  have nX : ¬ ofs X = zf := nz X u k hXr (by omega)
  repeat walk_at "dw"
  refine ev_cmd0 (PX := PX0) XkOk.none ⟨rfl, ?_⟩
  repeat walk_at "dw"
  refine ⟨a, m3, _, 3, rfl, Store.set_same, pn3, ⟨by omega, by omega⟩, ⟨by decide, by decide⟩, fun mo m4 mo0 mo1 pn4 => ?_⟩
  obtain ⟨mo, rfl⟩ := Int.eq_ofNat_of_zero_le mo0
  rw [Store.set_set]
  repeat walk_at "dw"
  refine ⟨sz2, ?_⟩
  repeat walk_at "dw"
  refine ev_limit F (fun J' E P' PX h hX => ?_) ?_
  · refine ev_callX hX ?_
    repeat walk_at "dw"
    refine ⟨sz2, ?_⟩
    repeat walk_at "dw"
    have big3 : 200000 < coms [X, [0], Y] := by
      show 200000 < com (com (com 1 X.length) 1) Y.length
      rw [com_one, com_oner, lu, lv]; exact pq.c
    exact ⟨X, [[0], Y], _, mo, rfl, .inl rfl, mX, two_all m0 mY, (by show 2 ≤ 4; decide), by omega, fun z => by omega, fun _ => h⟩
  repeat walk_at "dw"
  refine ⟨sz2, ?_⟩
  refine o_neD pl_lim pl_lim ?_
  rw [eqv_lim]
  repeat walk_at "dw"
  refine ev_limit F (fun J' E P' PX h hX => ?_) ?_
  · refine ev_callX hX ?_
    repeat walk_at "dw"
    refine ⟨sz3, ?_⟩
    repeat walk_at "dw"
    have big4 : 200000 < coms [[0], X, [0], Y] := by
      show 200000 < com (com (com (com 1 1) X.length) 1) Y.length
      rw [com_one, com_one, com_oner, lu, lv]; exact pq.c
    refine ⟨[0], [X, [0], Y], _, 0, rfl, .inl rfl, m0, fun r hr => ?_, (by show 3 ≤ 4; decide), by decide, fun z => by omega, fun _ => h⟩
    rcases List.mem_cons.mp hr with e | e
    · rw [e]; exact mX
    · exact two_all m0 mY r e
  repeat walk_at "dw"
  refine ⟨sz2, ?_⟩
  refine o_neD pl_lim pl_lim ?_
  rw [eqv_lim]
  repeat walk_at "dw"
  refine ⟨a, m4, _, 300, rfl, Store.set_same, pn4, ⟨by omega, by omega⟩, ⟨by decide, by decide⟩, fun lt0 m5 la0 la1 pn5 => ?_⟩
  rw [Store.set_set]
  obtain ⟨late, hla⟩ : ∃ late : Nat, (1100 : Int) + lt0 = (late : Int) := ⟨(1100 + lt0).toNat, by omega⟩
  have lat0 : 1100 ≤ late := by omega
  have lat1 : late < 1400 := by omega
  repeat walk_at "dw"
  rw [hla]
  obtain ⟨Z, eZ, hZr, lz, Lz⟩ : ∃ Z : List Int, (List.range (late + 9)).map (fun (i : Nat) => D.int (N * (if decide ((i : Int) = (late : Int)) = true then 1 else 0))) = Z.map D.int ∧ Z = row (fun z => N * (if decide (z = (late : Int)) = true then 1 else 0)) (late + 9) ∧ Z.length = late + 9 ∧ Lst Z :=
    ⟨_, by unfold row; rw [List.map_map]; rfl, rfl, row_len, ⟨by rw [row_len]; omega, by rw [lp_one (show late < late + 9 by omega) N0, row_len]⟩⟩
  refine ev_lcP (fun (i : Nat) => D.int (N * (if decide ((i : Int) = (late : Int)) = true then 1 else 0))) (gk_name (List.mem_singleton.mpr rfl)) ?_
  repeat walk_at "dw"
  refine ⟨_, rfl, ⟨by omega, by omega⟩, by rw [rgD_len, PySem.sizeLine_eq]; omega, ?_, ?_⟩
  · intro i d hd
    obtain ⟨lt, rfl⟩ := rgD_get hd
    rw [Int.zero_add]
    repeat walk_at "dw"
    exact ⟨rfl, rfl⟩
  have e9 : ((late : Int) + 9).toNat = late + 9 := by omega
  rw [rgD_len, e9, eZ]
  repeat walk_at "dw"
  refine fun y hy hy2 => ⟨y, Z, by rw [lz]; rfl, Store.set_same, by rw [lz]; omega, by rw [lz]; omega, rfl, .inr ⟨_, Store.set_same, ?_⟩⟩
  rw [Store.set_set, Store.del_set hy, Lz.lr]
  have mZ : Mp Z := ⟨Lz, by omega⟩
  have zZ : ¬ ofs Z = zf := nz Z (late + 9) late hZr (by omega)
  have zN : ¬ ofs Z = fun _ => N := fun h => by
    have := (one_not hZr (by omega) N0).2 0 (by omega) (by omega)
    rw [h] at this
    exact N0 this
  repeat walk_at "dw"
  refine ev_cmd (PX := PX0) XkOk.none ?_
  repeat walk_at "dw"
  refine ⟨N, rfl, ?_⟩
  repeat walk_at "dw"
  refine ⟨sz3, ?_⟩
  repeat walk_at "dw"
  have c1 : coms [Z, [0], [N], Z] ≤ 200000 := by
    show com (com (com (com 1 Z.length) 1) 1) Z.length ≤ 200000
    rw [com_one, com_oner, com_oner, com_lcm, Nat.lcm_self]; omega
  refine ⟨Z, [[0], [N], Z], _, 2, rfl, .inl rfl, mZ, fun r hr => ?_, (by show 3 ≤ 4; decide), by decide, fun _ => ?_, fun z => by omega⟩
  · rcases List.mem_cons.mp hr with e | e
    · rw [e]; exact m0
    · exact two_all (lst_one N) mZ r e
  rw [spell_far zZ zN]
  repeat walk_at "dw"
  refine ⟨sz1, ?_⟩
  refine o_neIs (ns := [2]) (ms := [2]) ?_
  rw [decide_eq_true rfl]
  repeat walk_at "dw"
  refine ⟨sz1, ?_⟩
  repeat walk_at "dw"
  have c2 : coms [[0], Z] ≤ 200000 := by
    show com (com 1 1) Z.length ≤ 200000
    rw [com_one, com_one]; omega
  refine ⟨[0], [Z], _, 2, rfl, .inl rfl, m0, fun r hr => ?_, (by show 1 ≤ 4; decide), by decide, fun _ => ?_, fun z => by omega⟩
  · rw [List.mem_singleton.mp hr]; exact mZ
  rw [spell_still]
  repeat walk_at "dw"
  refine ⟨Nat.zero_le _, ?_⟩
  refine o_neIs (ns := []) (ms := []) ?_
  rw [decide_eq_true rfl]
  repeat walk_at "dw"
  refine ⟨sz2, ?_⟩
  repeat walk_at "dw"
  have c3 : coms [X, X, [0]] ≤ 200000 := by
    show com (com (com 1 X.length) X.length) 1 ≤ 200000
    rw [com_one, com_oner, com_lcm, Nat.lcm_self]; omega
  refine ⟨X, [X, [0]], _, mo, rfl, .inl rfl, mX, two_all mX m0, (by show 2 ≤ 4; decide), by omega, fun _ => ?_, fun z => by omega⟩
  obtain ⟨f0, f1, f2⟩ := spell_left nX
  have fin : P (.bl true) (S.set a m5) := p m5
  rcases mo with _ | _ | _ | mo
  · rw [f0]
    repeat walk_at "dw"
    try refine ff_and ?_
    repeat walk_at "dw"
    refine o_eqD (n := 1) (m := 1) (.inl rfl) (.inl rfl) ?_
    exact .now fin
  · rw [f1]
    repeat walk_at "dw"
    try refine tt_and ?_
    repeat walk_at "dw"
    refine ⟨sz1, ?_⟩
    refine o_eqIs (ns := [0]) (ms := [0]) ?_
    exact .now fin
  · rw [f2]
    repeat walk_at "dw"
    try refine tt_and ?_
    repeat walk_at "dw"
    refine ⟨sz1, ?_⟩
    refine o_eqIs (ns := [0]) (ms := [0]) ?_
    exact .now fin
  · omega
end

end Y

set_option maxHeartbeats 0
/-! Y77G: what the head looks at (printed by walk2.py). -/
namespace Y
open PySem PySem.Spec PyProof.Rows L2 DL
def top (i : Nat) : Stmt := PySem.Challenge.pw_dayrecipes_k77_maps_spelled.main.body.getD i (.Pass ⟨0, 0, 0, 0⟩)
abbrev s_is_integer : Stmt := top 8
abbrev s_is_period : Stmt := top 9
abbrev s_common_divisor : Stmt := top 10
abbrev s_common_multiple : Stmt := top 11
abbrev s_common_period : Stmt := top 12
abbrev s_least_period : Stmt := top 13
abbrev s_joined_offsets : Stmt := top 16
abbrev s_DayMap___init__ : Stmt := inClass (top 21) 0
abbrev s_DayMap_table : Stmt := inClass (top 21) 5
abbrev s_Map_offsets : Stmt := inClass (top 20) 5
abbrev s_Map___eq__ : Stmt := inClass (top 20) 1
abbrev s_DayMap_identity : Stmt := inClass (top 21) 2
abbrev s_DayMap_shift : Stmt := inClass (top 21) 3
abbrev s_shared_values : Stmt := top 23
abbrev s_spelled : Stmt := top 25
abbrev s__law_pen : Stmt := top 27
abbrev s__law_draw : Stmt := top 28
abbrev s__law_pick : Stmt := top 29
abbrev s__law_shuffled : Stmt := top 30
abbrev s__law_gcd : Stmt := top 31
abbrev s__law_rising_rows : Stmt := top 32
abbrev s__law_piece_rows : Stmt := top 33
abbrev s__law_rows : Stmt := top 34
abbrev s__law_at : Stmt := top 35
abbrev s__law_least_rows : Stmt := top 36
abbrev s__law_common : Stmt := top 37
abbrev s__law_then : Stmt := top 38
abbrev s__law_map : Stmt := top 39
abbrev s__law_lists : Stmt := top 40
abbrev s__law_product : Stmt := top 41
abbrev s__law_limit : Stmt := top 42
abbrev s__law_long_right : Stmt := top 43
abbrev s_law : Stmt := top 44
abbrev s_TooLong___init__ : Stmt := inClass (top 5) 0
/-- a def that stands at an address found by a path of one's own -/
structure DefA where
  ad : Frag → Addr
  name : Str
  qual : Str
  params : Arguments
  body : List Stmt
  scope : Scope
  dfl : List He.Dv := []
  kwd : List (Str × He.Dv) := []
def seenA (K : Frag) (a : Addr) : He.FnW := match K.lookup a with
  | some ⟨_, _, .func f, _⟩ => some (f.name, f.qualname, f.params, f.body, f.scope, f.globals, f.closure, f.builtins)
  | _ => none
def DefA.wanted (d : DefA) : He.FnW := some (d.name, d.qual, d.params, .stmts d.body, d.scope, mainGlobals, [], builtinsNs)
def DefA.fits (K : Frag) (d : DefA) : Bool := PySem.W.keepIn K (.ref (d.ad K)) && (match K.lookup (d.ad K) with
  | some ⟨_, _, .func f, _⟩ => PySem.W.codeIn K f.code d.qual && (He.dflB K f.defaults (d.dfl.map (He.Dv.v K)) && He.kwdB K f.kwdefaults (d.kwd.map fun z => (z.1, z.2.v K)))
  | _ => false)
theorem DefA.fun_ {K : Frag} {d : DefA} (same : seenA K (d.ad K) = d.wanted) (fit : d.fits K = true) : ∃ fd, FunD K d.name d.qual d.params d.body d.scope (d.dfl.map (He.Dv.v K)) (d.kwd.map fun z => (z.1, z.2.v K)) (d.ad K) fd := by
  obtain ⟨kp, rest⟩ := He.ba fit
  unfold seenA at same
  rcases q : K.lookup (d.ad K) with _ | ⟨oc, od, dt, osl⟩
  · rw [q] at rest; cases rest
  rw [q] at rest same
  cases dt <;> first | cases rest; done | skip
  rename_i f
  obtain ⟨n1, n2, n3, n4, n5, n6, n7, n8, n9, n10, n11, n12, n13, n14, n15⟩ := f
  have eqs : (some (n1, n2, n3, n4, n5, n6, n7, n15) : He.FnW) = some (d.name, d.qual, d.params, .stmts d.body, d.scope, mainGlobals, [], builtinsNs) := same
  simp only [Option.some.injEq, Prod.mk.injEq] at eqs
  obtain ⟨rfl, rfl, rfl, e4, rfl, rfl, rfl, rfl⟩ := eqs
  subst e4
  obtain ⟨c1, c2⟩ := He.ba (show (PySem.W.codeIn K n13 d.qual && (He.dflB K n8 (d.dfl.map (He.Dv.v K)) && He.kwdB K n9 (d.kwd.map fun z => (z.1, z.2.v K)))) = true from rest)
  obtain ⟨c3, c4⟩ := He.ba c2
  exact ⟨_, ⟨oc, od, n8, n9, n10, n11, n12, n13, n14, osl, rfl, q, c1, He.dflB_ok c3, He.kwdB_ok c4⟩, kp⟩
/-- no defaults at all -/
def noDflB (K : Frag) (a : Addr) : Bool := match K.lookup a with
  | some ⟨_, _, .func f, _⟩ => (match f.defaults, f.kwdefaults with
    | .none, .none => true
    | _, _ => false)
  | _ => false
theorem noDfl {K : Frag} {a : Addr} {x qual : Str} {params : Arguments} {body : List Stmt} {scope : Scope} {dV kV doc pm cdv ct oc : Value} {an od : Option Addr} {osl : Array (Option Value)} (h : noDflB K a = true) (lk : K.lookup a = some ⟨oc, od, .func (PySem.W.fnOf x qual params body scope dV kV doc pm an cdv ct), osl⟩) : dV = .none ∧ kV = .none := by
  unfold noDflB at h
  rw [lk] at h
  cases dV <;> cases kV <;> first | exact ⟨rfl, rfl⟩ | exact absurd h Bool.false_ne_true
def excA (K : Frag) (C : Addr) (tail : List Value) (new : String) : Bool := match K.lookup C with
  | some ⟨.type t, _, .cls cd, sl⟩ => decide (t = "type") && (cd.hasDict && (!cd.hasDel && (decide (cd.mro = .ref C :: tail) && (match sl.toList with
    | [_, _, _, _, some (.builtin n), _] => decide (n = new)
    | _ => false))))
  | _ => false
theorem excA_ok {K : Frag} {C : Addr} {tail : List Value} {new : String} (h : excA K C tail new = true) : ∃ nm q N bs sn sub ab col dd k0 k1 k2 k3 k5, K.lookup C = some (excClassObj nm q C N bs tail true sn sub ab col dd k0 k1 k2 k3 k5 new) := by
  unfold excA at h
  split at h
  · rename_i t dd cd sl ho
    obtain ⟨h1, h⟩ := He.ba h
    obtain ⟨h2, h⟩ := He.ba h
    obtain ⟨h3, h⟩ := He.ba h
    obtain ⟨h4, h5⟩ := He.ba h
    split at h5
    · rename_i k0 k1 k2 k3 n k5 hs
      (obtain ⟨nm, bs, mro, ns, qn, hd, sn, sub, ab, col, del⟩ := cd)
      have e1 := of_decide_eq_true h1
      have e4 := of_decide_eq_true h4
      (have e5 := of_decide_eq_true h5)
      dsimp only at h2 h3 e4
      rw [Bool.not_eq_true'] at h3
      subst e1 h2 h3 e4 e5
      have hsl : (sl = #[k0, k1, k2, k3, some (.builtin n), k5]) := by
        obtain ⟨l⟩ := sl
        simp only at hs
        rw [hs]
      subst hsl
      exact ⟨nm, qn, ns, bs, sn, sub, ab, col, dd, k0, k1, k2, k3, k5, ho⟩
    · cases h5
  · cases h
def propA (K : Frag) (C B m : Str) : Bool := He.eqO (PySem.W.findIn K (.ref (He.ga K C)) m) (some (some (.ref (He.ma K (He.ga K B) m)))) && (He.eqO (PySem.W.specialIn K (.ref (He.ma K (He.ga K B) m)) "__get__") (some (some (.builtin "property.__get__"))) &&
  (decide (PySem.W.takesIn K (.ref (He.ma K (He.ga K B) m)) = some true) && (match PySem.W.recIn K (He.ma K (He.ga K B) m) "property" with
    | some (.ref g :: _) => decide (g = pgA K B m)
    | _ => false)))
theorem propA_ok {K : Frag} {C B m : Str} (h : propA K C B m = true) : PropOf K (He.ga K C) m (He.ma K (He.ga K B) m) (pgA K B m) := by
  obtain ⟨h1, h2⟩ := He.ba h
  obtain ⟨h3, h4⟩ := He.ba h2
  obtain ⟨h5, h6⟩ := He.ba h4
  refine ⟨He.eqO_ok h1, He.eqO_ok h3, of_decide_eq_true h5, ?_⟩
  split at h6
  · rename_i g rest q
    exact ⟨rest, by rw [q, of_decide_eq_true h6]⟩
  · cases h6
def crA (K : Frag) (C : Str) : Bool := PySem.W.readsIn K (He.ga K C) (.type "type") && He.eqO (PySem.W.specialIn K (.ref (He.ga K C)) "__getattribute__") (some (some (.builtin "type.__getattribute__")))
theorem crA_ok {K : Frag} {C : Str} (h : crA K C = true) : ClX.CRead K (He.ga K C) (.type "type") := by
  obtain ⟨h1, h2⟩ := He.ba h
  exact ⟨h1, He.eqO_ok h2⟩
def cmA (K : Frag) (C m : Str) : Bool := (match PySem.W.findCls K (.ref (He.ga K C)) (.type "type") m with
    | some (.get (.builtin b) (.ref p) .none (.ref D)) => decide (b = "classmethod.__get__") && (decide (p = He.ma K (He.ga K C) m) && decide (D = He.ga K C))
    | _ => false) && ((match PySem.W.recIn K (He.ma K (He.ga K C) m) "classmethod" with
    | some (.ref g :: _) => decide (g = cgA K C m)
    | _ => false) && PySem.W.fnIn K (cgA K C m))
theorem cmA_ok {K : Frag} {C m : Str} (h : cmA K C m = true) : ClX.CMet K (He.ga K C) (.type "type") m (He.ma K (He.ga K C) m) (cgA K C m) := by
  obtain ⟨h5, h6⟩ := He.ba h
  obtain ⟨h7, h8⟩ := He.ba h6
  refine ⟨?_, ?_, h8⟩
  · split at h5
    · rename_i b p D q
      obtain ⟨k1, k2⟩ := He.ba h5
      obtain ⟨k3, k4⟩ := He.ba k2
      rw [q, of_decide_eq_true k1, of_decide_eq_true k3, of_decide_eq_true k4]
    · cases h5
  · split at h7
    · rename_i g rest q
      exact ⟨rest, by rw [q, of_decide_eq_true h7]⟩
    · cases h7
def insA (K : Frag) (C : Addr) : Bool := He.eqO (PySem.W.findIn K (.ref C) "__class__") (some (some (.builtin "object.__class__"))) && (He.eqO (PySem.W.specialIn K (.builtin "object.__class__") "__get__") (some (some (.builtin "getset_descriptor.__get__"))) &&
  (decide (PySem.W.takesIn K (.builtin "object.__class__") = some true) && (decide (PySem.W.mroIn K C (.type "object") = some true) && decide (PySem.W.kitOne K (.ref C) (.ref C) = some true))))
theorem insA_ok {K : Frag} {C : Addr} (c : Cls K C) (h : insA K C = true) : C8.InsC K C := by
  obtain ⟨h1, h⟩ := He.ba h
  obtain ⟨h2, h⟩ := He.ba h
  obtain ⟨h3, h⟩ := He.ba h
  obtain ⟨h4, h5⟩ := He.ba h
  exact ⟨c, He.eqO_ok h1, He.eqO_ok h2, of_decide_eq_true h3, of_decide_eq_true h4, of_decide_eq_true h5⟩
def iscA (K : Frag) (C : Addr) : Bool := (PySem.W.clsIn K C).isSome && (He.eqO (PySem.W.findIn K (.ref C) "__getattribute__") (some (some (.builtin "BaseException.__getattribute__"))) && ((PySem.W.findIn K (.ref C) "__getattr__").isSome && (decide (PySem.W.subIn K (.ref C) (.type "BaseException") = some true) &&
  (He.eqO (PySem.W.findIn K (.ref C) "__class__") (some (some (.builtin "object.__class__"))) && (He.eqO (PySem.W.specialIn K (.builtin "object.__class__") "__get__") (some (some (.builtin "getset_descriptor.__get__"))) && (decide (PySem.W.takesIn K (.builtin "object.__class__") = some true) && decide (PySem.W.mroIn K C (.type "object") = some true)))))))
theorem iscA_ok {K : Frag} {C : Addr} (h : iscA K C = true) : LX.IsC K C := by
  obtain ⟨h1, h⟩ := He.ba h
  obtain ⟨h2, h⟩ := He.ba h
  obtain ⟨h3, h⟩ := He.ba h
  obtain ⟨h4, h⟩ := He.ba h
  obtain ⟨h5, h⟩ := He.ba h
  obtain ⟨h6, h⟩ := He.ba h
  obtain ⟨h7, h8⟩ := He.ba h
  exact ⟨h1, He.eqO_ok h2, Option.isSome_iff_exists.mp h3, of_decide_eq_true h4, He.eqO_ok h5, He.eqO_ok h6, of_decide_eq_true h7, of_decide_eq_true h8⟩
/-- the code objects of defs that make lambdas, their tables -/
def lamCs (K : Frag) : List (Addr × Addr) := lamNames.filterMap fun n => PySem.W.tabIn K n
def lamA (K : Frag) (n : Str) : Bool := match PySem.W.tabIn K n with
  | some (c, P) => (match DL.codeOf K (He.ga K n) with
    | .ref c' => c' == c
    | _ => false) && (tabsOf K).all fun p => !(p.1 == P) || decide (p.2 = lamQual n)
  | none => false
theorem lamA_ok {K : Frag} {n : Str} (m : n ∈ lamNames) (h : lamA K n = true) : ∃ lc lP, LamD K n (He.ga K n) lc lP := by
  unfold lamA at h
  split at h
  · rename_i c P q
    obtain ⟨h1, h2⟩ := He.ba h
    split at h1
    · rename_i c' e
      have ec : c' = c := beq_iff_eq.mp h1
      subst ec
      refine ⟨c', P, ⟨m, q, e, fun p hp hP => ?_⟩⟩
      have h3 := List.all_eq_true.mp h2 p hp
      rw [hP, beq_self_eq_true] at h3
      simpa using h3
    · cases h1
  · cases h
def tabA (g : Addr → Option Obj) (K : Frag) : Bool := (lamCs K).all fun p => PySem.W.codeHdIn K p.1 p.2 && (match g p.2 with
  | some o => He.emptyTab o
  | none => false)
/-- what the head looks at -/
def asA (g : Addr → Option Obj) : Nat → List Addr
  | 0 => [mainGlobals, cStatics]
  | n + 1 => He.growD g (asA g n)
def obsA (fa : List He.Fa) (ex : Frag → List Bool) (fn : List DefA) (K : Frag) : He.AlD := ((fa.all fun f => f.ok K) && ((ex K).all id && fn.all fun d => d.fits K), fn.map fun d => seenA K (d.ad K))
def valA (fn : List DefA) : He.AlD := (true, fn.map DefA.wanted)
abbrev AlA : Type := He.AlD × Bool
def obsAG (n : Nat) (fa : List He.Fa) (ex : Frag → List Bool) (fn : List DefA) (g : Addr → Option Obj) : AlA := (obsA fa ex fn (He.frT g (asA g n)), tabA g (He.frT g (asA g n)))
structure SaysA (fa : List He.Fa) (ex : Frag → List Bool) (fn : List DefA) (h : Heap) (K : Frag) : Prop where
  t : obsA fa ex fn K = valA fn
  hd : ∀ p ∈ lamCs K, PySem.W.codeHdIn K p.1 p.2 = true
  out : ∀ p ∈ lamCs K, K.lookup p.2 = none
  empty : ∀ p ∈ lamCs K, h.get? p.2 = some { cls := .none, data := .fields #[] }
theorem saysA_of {n : Nat} {fa : List He.Fa} {ex : Frag → List Bool} {fn : List DefA} {h : Heap} (e : obsAG n fa ex fn h.get? = (valA fn, true)) : SaysA fa ex fn h (He.frT h.get? (asA h.get? n)) := by
  have e1 : obsA fa ex fn (He.frT h.get? (asA h.get? n)) = valA fn := congrArg (fun z : AlA => z.1) e
  have e2 : tabA h.get? (He.frT h.get? (asA h.get? n)) = true := congrArg (fun z : AlA => z.2) e
  have key : ∀ p ∈ lamCs (He.frT h.get? (asA h.get? n)), PySem.W.codeHdIn (He.frT h.get? (asA h.get? n)) p.1 p.2 = true ∧ ∃ o, h.get? p.2 = some o ∧ He.emptyTab o = true := fun p hp => by
    obtain ⟨h3, h4⟩ := He.ba (List.all_eq_true.mp e2 p hp)
    refine ⟨h3, ?_⟩
    cases q : h.get? p.2 with
    | none => rw [q] at h4; cases h4
    | some o => rw [q] at h4; exact ⟨o, rfl, h4⟩
  exact ⟨e1, fun p hp => (key p hp).1, fun p hp => by
    (obtain ⟨_, o, q, z⟩ := key p hp)
    exact He.frT_none q z, fun p hp => by
    (obtain ⟨_, o, q, z⟩ := key p hp)
    rw [q, He.emptyTab_eq z]⟩
def hookA (n : Nat) (fa : List He.Fa) (ex : Frag → List Bool) (fn : List DefA) : PySem.W.Hook where
  α := AlA
  obs := fun s => obsAG n fa ex fn s.heap.get?
  val := fun _ => (valA fn, true)
  says := fun _ h => ∃ K : Frag, K.In h ∧ SaysA fa ex fn h K
  of := fun _ _ e => ⟨_, He.frT_in, saysA_of e⟩
  keeps := fun _ _ _ ⟨K, hK, c⟩ k => ⟨K, PySem.W.Frag.In.keeps hK k, ⟨c.t, c.hd, c.out, fun p hp => k _ _ (c.empty p hp)⟩⟩
section
variable {fa : List He.Fa} {ex : Frag → List Bool} {fn : List DefA} {K : Frag}
theorem saysA_all (c : obsA fa ex fn K = valA fn) : ((fa.all fun f => f.ok K) && ((ex K).all id && fn.all fun d => d.fits K)) = true := congrArg (·.1) c
theorem saysA_fa (c : obsA fa ex fn K = valA fn) {f : He.Fa} (h : f ∈ fa) : f.ok K = true := List.all_eq_true.mp (He.ba (saysA_all c)).1 f h
theorem saysA_ex (c : obsA fa ex fn K = valA fn) {i : Nat} {b : Bool} (h : (ex K)[i]? = some b) : b = true := List.all_eq_true.mp (He.ba (He.ba (saysA_all c)).2).1 b (List.mem_of_getElem? h)
theorem saysA_fn (c : obsA fa ex fn K = valA fn) (i : Nat) {d : DefA} (h : fn[i]? = some d) : ∃ fd, FunD K d.name d.qual d.params d.body d.scope (d.dfl.map (He.Dv.v K)) (d.kwd.map fun z => (z.1, z.2.v K)) (d.ad K) fd := by
  have fit := List.all_eq_true.mp (He.ba (He.ba (saysA_all c)).2).2 d (List.mem_of_getElem? h)
  have e : fn.map (fun d => seenA K (d.ad K)) = fn.map DefA.wanted := congrArg (·.2) c
  have e2 : (fn.map fun d => seenA K (d.ad K))[i]? = (fn.map DefA.wanted)[i]? := by rw [e]
  (rw [List.getElem?_map, List.getElem?_map, h] at e2)
  exact DefA.fun_ (Option.some.inj e2) fit
end
def fns : List DefA := [
  ⟨fun K => (He.ga K "is_integer"), "is_integer", "is_integer", defArgs s_is_integer, defBody s_is_integer, defScope s_is_integer, [], []⟩,
  ⟨fun K => (He.ga K "is_period"), "is_period", "is_period", defArgs s_is_period, defBody s_is_period, defScope s_is_period, [], []⟩,
  ⟨fun K => (He.ga K "common_divisor"), "common_divisor", "common_divisor", defArgs s_common_divisor, defBody s_common_divisor, defScope s_common_divisor, [], []⟩,
  ⟨fun K => (He.ga K "common_multiple"), "common_multiple", "common_multiple", defArgs s_common_multiple, defBody s_common_multiple, defScope s_common_multiple, [], []⟩,
  ⟨fun K => (He.ga K "common_period"), "common_period", "common_period", defArgs s_common_period, defBody s_common_period, defScope s_common_period, [], []⟩,
  ⟨fun K => (He.ga K "least_period"), "least_period", "least_period", defArgs s_least_period, defBody s_least_period, defScope s_least_period, [], []⟩,
  ⟨fun K => (He.ga K "joined_offsets"), "joined_offsets", "joined_offsets", defArgs s_joined_offsets, defBody s_joined_offsets, defScope s_joined_offsets, [], []⟩,
  ⟨fun K => (He.ma K (He.ga K "DayMap") "__init__"), "__init__", "DayMap.__init__", defArgs s_DayMap___init__, defBody s_DayMap___init__, defScope s_DayMap___init__, [], []⟩,
  ⟨fun K => (He.ma K (He.ga K "DayMap") "table"), "table", "DayMap.table", defArgs s_DayMap_table, defBody s_DayMap_table, defScope s_DayMap_table, [], []⟩,
  ⟨fun K => (pgA K "Map" "offsets"), "offsets", "Map.offsets", defArgs s_Map_offsets, defBody s_Map_offsets, defScope s_Map_offsets, [], []⟩,
  ⟨fun K => (He.ma K (He.ga K "Map") "__eq__"), "__eq__", "Map.__eq__", defArgs s_Map___eq__, defBody s_Map___eq__, defScope s_Map___eq__, [], []⟩,
  ⟨fun K => (cgA K "DayMap" "identity"), "identity", "DayMap.identity", defArgs s_DayMap_identity, defBody s_DayMap_identity, defScope s_DayMap_identity, [], []⟩,
  ⟨fun K => (cgA K "DayMap" "shift"), "shift", "DayMap.shift", defArgs s_DayMap_shift, defBody s_DayMap_shift, defScope s_DayMap_shift, [], []⟩,
  ⟨fun K => (He.ga K "shared_values"), "shared_values", "shared_values", defArgs s_shared_values, defBody s_shared_values, defScope s_shared_values, [], []⟩,
  ⟨fun K => (He.ga K "spelled"), "spelled", "spelled", defArgs s_spelled, defBody s_spelled, defScope s_spelled, [], []⟩,
  ⟨fun K => (He.ga K "_law_pen"), "_law_pen", "_law_pen", defArgs s__law_pen, defBody s__law_pen, defScope s__law_pen, [], []⟩,
  ⟨fun K => (He.ga K "_law_draw"), "_law_draw", "_law_draw", defArgs s__law_draw, defBody s__law_draw, defScope s__law_draw, [], []⟩,
  ⟨fun K => (He.ga K "_law_pick"), "_law_pick", "_law_pick", defArgs s__law_pick, defBody s__law_pick, defScope s__law_pick, [], []⟩,
  ⟨fun K => (He.ga K "_law_shuffled"), "_law_shuffled", "_law_shuffled", defArgs s__law_shuffled, defBody s__law_shuffled, defScope s__law_shuffled, [], []⟩,
  ⟨fun K => (He.ga K "_law_gcd"), "_law_gcd", "_law_gcd", defArgs s__law_gcd, defBody s__law_gcd, defScope s__law_gcd, [], []⟩,
  ⟨fun K => (He.ga K "_law_rising_rows"), "_law_rising_rows", "_law_rising_rows", defArgs s__law_rising_rows, defBody s__law_rising_rows, defScope s__law_rising_rows, [], []⟩,
  ⟨fun K => (He.ga K "_law_piece_rows"), "_law_piece_rows", "_law_piece_rows", defArgs s__law_piece_rows, defBody s__law_piece_rows, defScope s__law_piece_rows, [], []⟩,
  ⟨fun K => (He.ga K "_law_rows"), "_law_rows", "_law_rows", defArgs s__law_rows, defBody s__law_rows, defScope s__law_rows, [], []⟩,
  ⟨fun K => (He.ga K "_law_at"), "_law_at", "_law_at", defArgs s__law_at, defBody s__law_at, defScope s__law_at, [], []⟩,
  ⟨fun K => (He.ga K "_law_least_rows"), "_law_least_rows", "_law_least_rows", defArgs s__law_least_rows, defBody s__law_least_rows, defScope s__law_least_rows, [], []⟩,
  ⟨fun K => (He.ga K "_law_common"), "_law_common", "_law_common", defArgs s__law_common, defBody s__law_common, defScope s__law_common, [], []⟩,
  ⟨fun K => (He.ga K "_law_then"), "_law_then", "_law_then", defArgs s__law_then, defBody s__law_then, defScope s__law_then, [], []⟩,
  ⟨fun K => (He.ga K "_law_map"), "_law_map", "_law_map", defArgs s__law_map, defBody s__law_map, defScope s__law_map, [], []⟩,
  ⟨fun K => (He.ga K "_law_lists"), "_law_lists", "_law_lists", defArgs s__law_lists, defBody s__law_lists, defScope s__law_lists, [], []⟩,
  ⟨fun K => (He.ga K "_law_product"), "_law_product", "_law_product", defArgs s__law_product, defBody s__law_product, defScope s__law_product, [], []⟩,
  ⟨fun K => (He.ga K "_law_limit"), "_law_limit", "_law_limit", defArgs s__law_limit, defBody s__law_limit, defScope s__law_limit, [], []⟩,
  ⟨fun K => (He.ga K "_law_long_right"), "_law_long_right", "_law_long_right", defArgs s__law_long_right, defBody s__law_long_right, defScope s__law_long_right, [], []⟩,
  ⟨fun K => (He.ga K "law"), "law", "law", defArgs s_law, defBody s_law, defScope s_law, [], []⟩,
  ⟨fun K => (He.ma K (He.ga K "TooLong") "__init__"), "__init__", "TooLong.__init__", defArgs s_TooLong___init__, defBody s_TooLong___init__, defScope s_TooLong___init__, [], []⟩]
def fas : List He.Fa := [.cls "DayMap", .glo "DayMap", .glo "Map", .glo "TooLong", .glo "_law_at", .glo "_law_common", .glo "_law_draw", .glo "_law_gcd", .glo "_law_least_rows", .glo "_law_limit", .glo "_law_lists", .glo "_law_long_right", .glo "_law_map", .glo "_law_pen", .glo "_law_pick", .glo "_law_piece_rows", .glo "_law_product", .glo "_law_rising_rows", .glo "_law_rows", .glo "_law_shuffled", .glo "_law_then", .glo "common_divisor", .glo "common_multiple", .glo "common_period", .glo "is_integer", .glo "is_period", .glo "joined_offsets", .glo "least_period", .glo "shared_values", .glo "spelled", .int "MAX_PERIOD" 200000, .meth "DayMap" "table", .mkr "DayMap", .free "OverflowError", .free "abs", .free "all", .free "bool", .free "enumerate", .free "int", .free "isinstance", .free "len", .free "list", .free "min", .free "range", .free "repr", .free "tuple", .noat "DayMap" "rows", .glo "law"]
def exs (K : Frag) : List Bool := [
  cmA K "DayMap" "identity",
  cmA K "DayMap" "shift",
  crA K "DayMap",
  He.eqO (PySem.W.findIn K (.ref (He.ga K "DayMap")) "__eq__") (some (some (.ref (He.ma K (He.ga K "Map") "__eq__")))),
  PySem.W.isFn K (.ref (He.ma K (He.ga K "Map") "__eq__")),
  He.eqO (PySem.W.findIn K (.ref (He.ga K "TooLong")) "limit") (some none),
  propA K "DayMap" "Map" "offsets",
  L2.xfB K (He.ga K "TooLong"),
  insA K (He.ga K "DayMap"),
  decide (PySem.W.kitOne K (.ref (He.ga K "DayMap")) (.ref (He.ga K "Map")) = some true),
  decide (PySem.W.kitOne K (.ref (He.ga K "DayMap")) (.ref (He.ga K "DayMap")) = some true),
  iscA K (He.ga K "TooLong"),
  decide (PySem.W.kitOne K (.ref (He.ga K "TooLong")) (.type "OverflowError") = some true),
  decide (PySem.W.exmOne K (.ref (He.ga K "TooLong")) (.ref (He.ga K "TooLong")) = some true),
  noDflB K (He.ma K (He.ga K "TooLong") "__init__"),
  excA K (He.ga K "TooLong") [.type "OverflowError", .type "ArithmeticError", .type "Exception", .type "BaseException", .type "object"] "OverflowError.__new__",
  He.eqO (PySem.W.findIn K (.ref (He.ga K "TooLong")) "__setattr__") (some (some (.builtin "object.__setattr__"))),
  He.eqO (PySem.W.findIn K (.ref (He.ga K "TooLong")) "__init__") (some (some (.ref (He.ma K (He.ga K "TooLong") "__init__")))),
  decide (PySem.W.typeIn K (.ref (He.ma K (He.ga K "TooLong") "__init__")) = some (.type "function")),
  PySem.W.keepIn K (.ref (He.ga K "TooLong")),
  decide (PySem.W.subIn K (.ref (He.ga K "TooLong")) (.type "BaseException") = some true),
  decide (PySem.W.typeIn K (.ref (He.ga K "TooLong")) = some (.type "type")),
  lamA K "_law_long_right"]
end Y

set_option maxHeartbeats 4100000
/-! Y77T: the walk over the text (printed by walk2.py). -/
namespace Y
open PySem L2 DL PyProof.Rows
/-- what the head tells of the module -/
structure Tx (K : Frag) (mg : Str → Option Value) : Prop where
  c_DayMap : Cls K (He.ga K "DayMap")
  cm_DayMap_identity : ClX.CMet K (He.ga K "DayMap") (.type "type") "identity" (He.ma K (He.ga K "DayMap") "identity") (cgA K "DayMap" "identity")
  cm_DayMap_shift : ClX.CMet K (He.ga K "DayMap") (.type "type") "shift" (He.ma K (He.ga K "DayMap") "shift") (cgA K "DayMap" "shift")
  cr_DayMap : ClX.CRead K (He.ga K "DayMap") (.type "type")
  e_TooLong : Err.TooLong.Txt K (He.ga K "TooLong") (He.ma K (He.ga K "TooLong") "__init__")
  eq_DayMap : PySem.W.findIn K (.ref (He.ga K "DayMap")) "__eq__" = some (some (.ref (He.ma K (He.ga K "Map") "__eq__")))
  fe_DayMap : PySem.W.isFn K (.ref (He.ma K (He.ga K "Map") "__eq__")) = true
  g_DayMap : mg "DayMap" = some (.ref (He.ga K "DayMap"))
  g_Map : mg "Map" = some (.ref (He.ga K "Map"))
  g_TooLong : mg "TooLong" = some (.ref (He.ga K "TooLong"))
  g__law_at : mg "_law_at" = some (.ref (He.ga K "_law_at"))
  g__law_common : mg "_law_common" = some (.ref (He.ga K "_law_common"))
  g__law_draw : mg "_law_draw" = some (.ref (He.ga K "_law_draw"))
  g__law_gcd : mg "_law_gcd" = some (.ref (He.ga K "_law_gcd"))
  g__law_least_rows : mg "_law_least_rows" = some (.ref (He.ga K "_law_least_rows"))
  g__law_limit : mg "_law_limit" = some (.ref (He.ga K "_law_limit"))
  g__law_lists : mg "_law_lists" = some (.ref (He.ga K "_law_lists"))
  g__law_long_right : mg "_law_long_right" = some (.ref (He.ga K "_law_long_right"))
  g__law_map : mg "_law_map" = some (.ref (He.ga K "_law_map"))
  g__law_pen : mg "_law_pen" = some (.ref (He.ga K "_law_pen"))
  g__law_pick : mg "_law_pick" = some (.ref (He.ga K "_law_pick"))
  g__law_piece_rows : mg "_law_piece_rows" = some (.ref (He.ga K "_law_piece_rows"))
  g__law_product : mg "_law_product" = some (.ref (He.ga K "_law_product"))
  g__law_rising_rows : mg "_law_rising_rows" = some (.ref (He.ga K "_law_rising_rows"))
  g__law_rows : mg "_law_rows" = some (.ref (He.ga K "_law_rows"))
  g__law_shuffled : mg "_law_shuffled" = some (.ref (He.ga K "_law_shuffled"))
  g__law_then : mg "_law_then" = some (.ref (He.ga K "_law_then"))
  g_common_divisor : mg "common_divisor" = some (.ref (He.ga K "common_divisor"))
  g_common_multiple : mg "common_multiple" = some (.ref (He.ga K "common_multiple"))
  g_common_period : mg "common_period" = some (.ref (He.ga K "common_period"))
  g_is_integer : mg "is_integer" = some (.ref (He.ga K "is_integer"))
  g_is_period : mg "is_period" = some (.ref (He.ga K "is_period"))
  g_joined_offsets : mg "joined_offsets" = some (.ref (He.ga K "joined_offsets"))
  g_least_period : mg "least_period" = some (.ref (He.ga K "least_period"))
  g_shared_values : mg "shared_values" = some (.ref (He.ga K "shared_values"))
  g_spelled : mg "spelled" = some (.ref (He.ga K "spelled"))
  k_MAX_PERIOD : ∃ u, mg "MAX_PERIOD" = some u ∧ RelV (.int 200000) u
  m_DayMap_table : Meth K (He.ga K "DayMap") "table" (He.ma K (He.ga K "DayMap") "table")
  mk_DayMap : Mk K (He.ga K "DayMap") (He.ma K (He.ga K "DayMap") "__init__")
  n_OverflowError : mg "OverflowError" = none
  n_abs : mg "abs" = none
  n_all : mg "all" = none
  n_bool : mg "bool" = none
  n_enumerate : mg "enumerate" = none
  n_int : mg "int" = none
  n_isinstance : mg "isinstance" = none
  n_len : mg "len" = none
  n_list : mg "list" = none
  n_min : mg "min" = none
  n_range : mg "range" = none
  n_repr : mg "repr" = none
  n_tuple : mg "tuple" = none
  nf_TooLong_limit : PySem.W.findIn K (.ref (He.ga K "TooLong")) "limit" = some none
  p_DayMap_offsets : PropOf K (He.ga K "DayMap") "offsets" (He.ma K (He.ga K "Map") "offsets") (pgA K "Map" "offsets")
  xf_TooLong : L2.XfC K (He.ga K "TooLong")
  a_DayMap_rows : NoAttr K (He.ga K "DayMap") "rows"
  ins_DayMap : C8.InsC K (He.ga K "DayMap")
  kit_DayMap_Map : PySem.W.kitOne K (.ref (He.ga K "DayMap")) (.ref (He.ga K "Map")) = some true
  kit_DayMap_DayMap : PySem.W.kitOne K (.ref (He.ga K "DayMap")) (.ref (He.ga K "DayMap")) = some true
  isc_TooLong : LX.IsC K (He.ga K "TooLong")
  kitB_TooLong_OverflowError : PySem.W.kitOne K (.ref (He.ga K "TooLong")) (.type "OverflowError") = some true
  exm_TooLong_TooLong : PySem.W.exmOne K (.ref (He.ga K "TooLong")) (.ref (He.ga K "TooLong")) = some true
  d_is_integer : ∃ fd, FunD K "is_integer" "is_integer" (defArgs s_is_integer) (defBody s_is_integer) (defScope s_is_integer) [] [] (He.ga K "is_integer") fd
  d_is_period : ∃ fd, FunD K "is_period" "is_period" (defArgs s_is_period) (defBody s_is_period) (defScope s_is_period) [] [] (He.ga K "is_period") fd
  d_common_divisor : ∃ fd, FunD K "common_divisor" "common_divisor" (defArgs s_common_divisor) (defBody s_common_divisor) (defScope s_common_divisor) [] [] (He.ga K "common_divisor") fd
  d_common_multiple : ∃ fd, FunD K "common_multiple" "common_multiple" (defArgs s_common_multiple) (defBody s_common_multiple) (defScope s_common_multiple) [] [] (He.ga K "common_multiple") fd
  d_common_period : ∃ fd, FunD K "common_period" "common_period" (defArgs s_common_period) (defBody s_common_period) (defScope s_common_period) [] [] (He.ga K "common_period") fd
  d_least_period : ∃ fd, FunD K "least_period" "least_period" (defArgs s_least_period) (defBody s_least_period) (defScope s_least_period) [] [] (He.ga K "least_period") fd
  d_joined_offsets : ∃ fd, FunD K "joined_offsets" "joined_offsets" (defArgs s_joined_offsets) (defBody s_joined_offsets) (defScope s_joined_offsets) [] [] (He.ga K "joined_offsets") fd
  d_DayMap___init__ : ∃ fd, FunD K "__init__" "DayMap.__init__" (defArgs s_DayMap___init__) (defBody s_DayMap___init__) (defScope s_DayMap___init__) [] [] (He.ma K (He.ga K "DayMap") "__init__") fd
  d_DayMap_table : ∃ fd, FunD K "table" "DayMap.table" (defArgs s_DayMap_table) (defBody s_DayMap_table) (defScope s_DayMap_table) [] [] (He.ma K (He.ga K "DayMap") "table") fd
  d_Map_offsets : ∃ fd, FunD K "offsets" "Map.offsets" (defArgs s_Map_offsets) (defBody s_Map_offsets) (defScope s_Map_offsets) [] [] (pgA K "Map" "offsets") fd
  d_Map___eq__ : ∃ fd, FunD K "__eq__" "Map.__eq__" (defArgs s_Map___eq__) (defBody s_Map___eq__) (defScope s_Map___eq__) [] [] (He.ma K (He.ga K "Map") "__eq__") fd
  d_DayMap_identity : ∃ fd, FunD K "identity" "DayMap.identity" (defArgs s_DayMap_identity) (defBody s_DayMap_identity) (defScope s_DayMap_identity) [] [] (cgA K "DayMap" "identity") fd
  d_DayMap_shift : ∃ fd, FunD K "shift" "DayMap.shift" (defArgs s_DayMap_shift) (defBody s_DayMap_shift) (defScope s_DayMap_shift) [] [] (cgA K "DayMap" "shift") fd
  d_shared_values : ∃ fd, FunD K "shared_values" "shared_values" (defArgs s_shared_values) (defBody s_shared_values) (defScope s_shared_values) [] [] (He.ga K "shared_values") fd
  d_spelled : ∃ fd, FunD K "spelled" "spelled" (defArgs s_spelled) (defBody s_spelled) (defScope s_spelled) [] [] (He.ga K "spelled") fd
  d__law_pen : ∃ fd, FunD K "_law_pen" "_law_pen" (defArgs s__law_pen) (defBody s__law_pen) (defScope s__law_pen) [] [] (He.ga K "_law_pen") fd
  d__law_draw : ∃ fd, FunD K "_law_draw" "_law_draw" (defArgs s__law_draw) (defBody s__law_draw) (defScope s__law_draw) [] [] (He.ga K "_law_draw") fd
  d__law_pick : ∃ fd, FunD K "_law_pick" "_law_pick" (defArgs s__law_pick) (defBody s__law_pick) (defScope s__law_pick) [] [] (He.ga K "_law_pick") fd
  d__law_shuffled : ∃ fd, FunD K "_law_shuffled" "_law_shuffled" (defArgs s__law_shuffled) (defBody s__law_shuffled) (defScope s__law_shuffled) [] [] (He.ga K "_law_shuffled") fd
  d__law_gcd : ∃ fd, FunD K "_law_gcd" "_law_gcd" (defArgs s__law_gcd) (defBody s__law_gcd) (defScope s__law_gcd) [] [] (He.ga K "_law_gcd") fd
  d__law_rising_rows : ∃ fd, FunD K "_law_rising_rows" "_law_rising_rows" (defArgs s__law_rising_rows) (defBody s__law_rising_rows) (defScope s__law_rising_rows) [] [] (He.ga K "_law_rising_rows") fd
  d__law_piece_rows : ∃ fd, FunD K "_law_piece_rows" "_law_piece_rows" (defArgs s__law_piece_rows) (defBody s__law_piece_rows) (defScope s__law_piece_rows) [] [] (He.ga K "_law_piece_rows") fd
  d__law_rows : ∃ fd, FunD K "_law_rows" "_law_rows" (defArgs s__law_rows) (defBody s__law_rows) (defScope s__law_rows) [] [] (He.ga K "_law_rows") fd
  d__law_at : ∃ fd, FunD K "_law_at" "_law_at" (defArgs s__law_at) (defBody s__law_at) (defScope s__law_at) [] [] (He.ga K "_law_at") fd
  d__law_least_rows : ∃ fd, FunD K "_law_least_rows" "_law_least_rows" (defArgs s__law_least_rows) (defBody s__law_least_rows) (defScope s__law_least_rows) [] [] (He.ga K "_law_least_rows") fd
  d__law_common : ∃ fd, FunD K "_law_common" "_law_common" (defArgs s__law_common) (defBody s__law_common) (defScope s__law_common) [] [] (He.ga K "_law_common") fd
  d__law_then : ∃ fd, FunD K "_law_then" "_law_then" (defArgs s__law_then) (defBody s__law_then) (defScope s__law_then) [] [] (He.ga K "_law_then") fd
  d__law_map : ∃ fd, FunD K "_law_map" "_law_map" (defArgs s__law_map) (defBody s__law_map) (defScope s__law_map) [] [] (He.ga K "_law_map") fd
  d__law_lists : ∃ fd, FunD K "_law_lists" "_law_lists" (defArgs s__law_lists) (defBody s__law_lists) (defScope s__law_lists) [] [] (He.ga K "_law_lists") fd
  d__law_product : ∃ fd, FunD K "_law_product" "_law_product" (defArgs s__law_product) (defBody s__law_product) (defScope s__law_product) [] [] (He.ga K "_law_product") fd
  d__law_limit : ∃ fd, FunD K "_law_limit" "_law_limit" (defArgs s__law_limit) (defBody s__law_limit) (defScope s__law_limit) [] [] (He.ga K "_law_limit") fd
  d__law_long_right : ∃ fd, FunD K "_law_long_right" "_law_long_right" (defArgs s__law_long_right) (defBody s__law_long_right) (defScope s__law_long_right) [] [] (He.ga K "_law_long_right") fd
  d_law : ∃ fd, FunD K "law" "law" (defArgs s_law) (defBody s_law) (defScope s_law) [] [] (He.ga K "law") fd
  lam__law_long_right : ∃ lc lP, LamD K "_law_long_right" (He.ga K "_law_long_right") lc lP
section
variable {P : Program} {w : World} {K : Frag} {mg : Str → Option Value} {base : Heap}
theorem units65 {k : Nat} {A : Around} (hr : Room k A) : A.units + 65 < cLine := by have := hr.un; omega
theorem Tx.fx (T : Tx K mg) : Fx K := ⟨T.c_DayMap, T.a_DayMap_rows, T.ins_DayMap, T.kit_DayMap_Map, T.kit_DayMap_DayMap, T.isc_TooLong, T.kitB_TooLong_OverflowError, T.exm_TooLong_TooLong⟩
theorem sc_is_integer : FnScope N_is_integer ["value"] (defScope s_is_integer) := ⟨rfl, rfl, rfl, by decide +kernel, rfl, by decide +kernel, by decide +kernel⟩
theorem ty_is_integer (T : Tx K mg) {A : Around} {outer : List Env} {s : Shared} {H : Hp} {E : XK} {cdv : Value} {f : Addr} (hr : Room 0 (A.deeper (envOfC "is_integer" (defScope s_is_integer) s.heap.objs.size f cdv))) :
    PSs (cxOf CX0 P w K mg base N_is_integer "is_integer" (defScope s_is_integer) f cdv A outer s H E).nox (defBody s_is_integer) (t_is_integer K) := by
  unfold t_is_integer
  exact (pss_one (ps_ret (pe_and (pe_callB call_isi (by rfl) T.n_isinstance (by decide +kernel) (pa_cons (pv 0) (pa_cons (pe_bltn (by rfl) T.n_int (by decide +kernel) rfl) pa_nil))) (pe_one (pe_not (pe_callB call_isi (by rfl) T.n_isinstance (by decide +kernel) (pa_cons (pv 0) (pa_cons (pe_bltn (by rfl) T.n_bool (by decide +kernel) rfl) pa_nil))))))))
theorem ok_is_integer (T : Tx K mg) : FnD P w K mg base CX0 1 (He.ga K "is_integer") C_is_integer := by
  obtain ⟨fd, F⟩ := T.d_is_integer
  exact ⟨⟨fd, ["value"], F.ok sc_is_integer (spD_len (C := C_is_integer) (n := 1) fun ds S P PX h => by obtain ⟨_, rfl, _⟩ := h; rfl) (fun cdv A outer s H vs Q E hr h => ⟨t_is_integer K, PSs.nox (ty_is_integer T hr), bodyD (run_is_integer) h⟩), F.bindsN fun _ _ _ _ _ _ us hl => match us, hl with | [_], _ => rfl, F.kp⟩⟩
theorem sc_is_period : FnScope N_is_period ["value"] (defScope s_is_period) := ⟨rfl, rfl, rfl, by decide +kernel, rfl, by decide +kernel, by decide +kernel⟩
theorem ty_is_period (T : Tx K mg) {A : Around} {outer : List Env} {s : Shared} {H : Hp} {E : XK} {cdv : Value} {f : Addr} (hr : Room 1 (A.deeper (envOfC "is_period" (defScope s_is_period) s.heap.objs.size f cdv))) :
    PSs (cxOf CX0 P w K mg base N_is_period "is_period" (defScope s_is_period) f cdv A outer s H E).nox (defBody s_is_period) (t_is_period K) := by
  unfold t_is_period
  exact (pss_one (ps_ret (pe_and (pe_cd (ok_is_integer T) hr (by decide) (by rfl) T.g_is_integer (pa_cons (pv 0) pa_nil)) (pe_one (pe_chain op_le op_le pe_int (pv 0) (pe_gk (by rfl) T.k_MAX_PERIOD))))))
theorem ok_is_period (T : Tx K mg) : FnD P w K mg base CX0 2 (He.ga K "is_period") C_is_period := by
  obtain ⟨fd, F⟩ := T.d_is_period
  exact ⟨⟨fd, ["value"], F.ok sc_is_period (spD_len (C := C_is_period) (n := 1) fun ds S P PX h => by obtain ⟨_, rfl, _⟩ := h; rfl) (fun cdv A outer s H vs Q E hr h => ⟨t_is_period K, PSs.nox (ty_is_period T hr), bodyD (run_is_period) h⟩), F.bindsN fun _ _ _ _ _ _ us hl => match us, hl with | [_], _ => rfl, F.kp⟩⟩
theorem sc_common_divisor : FnScope N_common_divisor ["one", "other"] (defScope s_common_divisor) := ⟨rfl, rfl, rfl, by decide +kernel, rfl, by decide +kernel, by decide +kernel⟩
theorem ty_common_divisor (T : Tx K mg) {A : Around} {outer : List Env} {s : Shared} {H : Hp} {E : XK} {cdv : Value} {f : Addr} (hr : Room 0 (A.deeper (envOfC "common_divisor" (defScope s_common_divisor) s.heap.objs.size f cdv))) :
    PSs (cxOf CX0 P w K mg base N_common_divisor "common_divisor" (defScope s_common_divisor) f cdv A outer s H E).nox (defBody s_common_divisor) (t_common_divisor K) := by
  unfold t_common_divisor
  exact (pss_cons (ps_par (i := 0) (j := 1) rfl sc_common_divisor.nd rfl rfl (by decide) rfl rfl (pa_cons (pe_callB call_abs (by rfl) T.n_abs (by decide +kernel) (pa_cons (pv 0) pa_nil)) (pa_cons (pe_callB call_abs (by rfl) T.n_abs (by decide +kernel) (pa_cons (pv 1) pa_nil)) pa_nil)) (by rfl)) (pss_cons (ps_while PassesOwn.never (pt_cmpR op_gt (pv 1) pe_int (nomark _)) (pss_one (ps_par (i := 0) (j := 1) rfl sc_common_divisor.nd rfl rfl (by decide) rfl rfl (pa_cons (pv 1) (pa_cons (pe_op op_modN (pv 0) (pv 1)) pa_nil)) (by rfl)))) (pss_one (ps_ret (pv 0)))))
theorem ok_common_divisor (T : Tx K mg) : FnD P w K mg base CX0 1 (He.ga K "common_divisor") C_common_divisor := by
  obtain ⟨fd, F⟩ := T.d_common_divisor
  exact ⟨⟨fd, ["one", "other"], F.ok sc_common_divisor (spD_len (C := C_common_divisor) (n := 2) fun ds S P PX h => by obtain ⟨_, _, rfl, _⟩ := h; rfl) (fun cdv A outer s H vs Q E hr h => ⟨t_common_divisor K, PSs.nox (ty_common_divisor T hr), bodyD (run_common_divisor) h⟩), F.bindsN fun _ _ _ _ _ _ us hl => match us, hl with | [_, _], _ => rfl, F.kp⟩⟩
theorem sc_common_multiple : FnScope N_common_multiple ["one", "other"] (defScope s_common_multiple) := ⟨rfl, rfl, rfl, by decide +kernel, rfl, by decide +kernel, by decide +kernel⟩
theorem ty_common_multiple (T : Tx K mg) {A : Around} {outer : List Env} {s : Shared} {H : Hp} {E : XK} {cdv : Value} {f : Addr} (hr : Room 1 (A.deeper (envOfC "common_multiple" (defScope s_common_multiple) s.heap.objs.size f cdv))) :
    PSs (cxOf CX0 P w K mg base N_common_multiple "common_multiple" (defScope s_common_multiple) f cdv A outer s H E).nox (defBody s_common_multiple) (t_common_multiple K) := by
  unfold t_common_multiple
  exact (pss_one (ps_ret (pe_op op_mul (pe_op op_fdivN (pv 0) (pe_cd (ok_common_divisor T) hr (by decide) (by rfl) T.g_common_divisor (pa_cons (pv 0) (pa_cons (pv 1) pa_nil)))) (pv 1))))
theorem ok_common_multiple (T : Tx K mg) : FnD P w K mg base CX0 2 (He.ga K "common_multiple") C_common_multiple := by
  obtain ⟨fd, F⟩ := T.d_common_multiple
  exact ⟨⟨fd, ["one", "other"], F.ok sc_common_multiple (spD_len (C := C_common_multiple) (n := 2) fun ds S P PX h => by obtain ⟨_, _, rfl, _⟩ := h; rfl) (fun cdv A outer s H vs Q E hr h => ⟨t_common_multiple K, PSs.nox (ty_common_multiple T hr), bodyD (run_common_multiple) h⟩), F.bindsN fun _ _ _ _ _ _ us hl => match us, hl with | [_, _], _ => rfl, F.kp⟩⟩
theorem sc_common_period : FnScope N_common_period ["one", "other"] (defScope s_common_period) := ⟨rfl, rfl, rfl, by decide +kernel, rfl, by decide +kernel, by decide +kernel⟩
theorem ty_common_period (T : Tx K mg) {A : Around} {outer : List Env} {s : Shared} {H : Hp} {E : XK} {cdv : Value} {f : Addr} (hr : Room 2 (A.deeper (envOfC "common_period" (defScope s_common_period) s.heap.objs.size f cdv))) :
    PSs (cxOf (L2.CX P w) P w K mg base N_common_period "common_period" (defScope s_common_period) f cdv A outer s H E) (defBody s_common_period) (t_common_period K E) := by
  unfold t_common_period
  exact (pss_cons (ps_set (i := 2) sc_common_period.nd rfl (by first | exact Or.inl rfl | exact Or.inr rfl) (pe_cd (ok_common_multiple T) hr (by decide) (by rfl) T.g_common_multiple (pa_cons (pv 0) (pa_cons (pv 1) pa_nil)))) (pss_cons (ps_if (pt_cmpR op_gt (pv 2) (pe_gk (by rfl) T.k_MAX_PERIOD) (nomark _)) (pss_one (Err.TooLong.ps_raise rfl T.e_TooLong T.g_TooLong hr (takes_of rfl rfl rfl rfl) (pa_cons (pe_gk (by rfl) T.k_MAX_PERIOD) pa_nil))) pss_nil) (pss_one (ps_ret (pv 2)))))
theorem ok_common_period (T : Tx K mg) : FnD P w K mg base (L2.CX P w) 3 (He.ga K "common_period") (C_common_period K) := by
  obtain ⟨fd, F⟩ := T.d_common_period
  exact ⟨⟨fd, ["one", "other"], F.ok (CX := L2.CX P w) sc_common_period (spD_len (C := (C_common_period K)) (n := 2) fun ds S P PX h => by obtain ⟨_, _, rfl, _⟩ := h; rfl) (fun cdv A outer s H vs Q E hr h => ⟨t_common_period K E, ty_common_period T hr, bodyD (run_common_period T.fx) h⟩), F.bindsN fun _ _ _ _ _ _ us hl => match us, hl with | [_, _], _ => rfl, F.kp⟩⟩
theorem sc_least_period : FnScope N_least_period ["rows"] (defScope s_least_period) := ⟨rfl, rfl, rfl, by decide +kernel, rfl, by decide +kernel, by decide +kernel⟩
theorem ty_least_period (T : Tx K mg) {A : Around} {outer : List Env} {s : Shared} {H : Hp} {E : XK} {cdv : Value} {f : Addr} (hr : Room 0 (A.deeper (envOfC "least_period" (defScope s_least_period) s.heap.objs.size f cdv))) :
    PSs (cxOf CX0 P w K mg base N_least_period "least_period" (defScope s_least_period) f cdv A outer s H E).nox (defBody s_least_period) (t_least_period K) := by
  unfold t_least_period
  exact (pss_cons (ps_par3 (i := 1) (j := 2) (l := 3) rfl sc_least_period.nd rfl rfl rfl (by decide) (by decide) (by decide) rfl rfl rfl (pa_cons (pe_callB call_len_seq (by rfl) T.n_len (by decide +kernel) (pa_cons (pv 0) pa_nil)) (pa_cons (pe_callB call_len_seq (by rfl) T.n_len (by decide +kernel) (pa_cons (pv 0) pa_nil)) (pa_cons pe_int pa_nil))) (by rfl)) (pss_cons (ps_while PassesOwn.never (pt_cmpR op_gt (pv 2) pe_int (nomark _)) (pss_one (ps_if (pt_cmpR op_eq (pe_op op_modN (pv 2) (pv 3)) pe_int (nomark _)) (pss_cons (ps_par (i := 2) (j := 4) rfl sc_least_period.nd rfl rfl (by decide) rfl rfl (pa_cons (pe_op op_fdivN (pv 2) (pv 3)) (pa_cons (pe_op op_fdivN (pv 1) (pv 3)) pa_nil)) (by rfl)) (pss_one (ps_if (PW.pt (pw_and (pt_cmpR op_eq (pe_ix ix_list (pv 0) pe_int (fun _ _ => rfl)) (pe_ix ix_list (pv 0) (pv 4) (fun _ _ => rfl)) (nomark _)) (pw_and1 (pt_cmpR (op_eqD (DL.unitsOf hr)) (pe_slice sl_list (pv 0) (po_some (pv 4)) po_none) (pe_slice sl_list (pv 0) po_none (po_some (pe_un un_neg (pv 4)))) (nomark _))))) (pss_one (ps_set (i := 1) sc_least_period.nd rfl (by first | exact Or.inl rfl | exact Or.inr rfl) (pv 4))) pss_nil))) (pss_one (ps_set (i := 3) sc_least_period.nd rfl (by first | exact Or.inl rfl | exact Or.inr rfl) (pe_ifExp (pt_cmpR op_le (pe_op op_mul (pv 3) (pv 3)) (pv 2) (nomark _)) (pe_op op_add (pv 3) pe_int) (pv 2))))))) (pss_one (ps_ret (pv 1)))))
theorem ok_least_period (T : Tx K mg) : FnD P w K mg base CX0 1 (He.ga K "least_period") C_least_period := by
  obtain ⟨fd, F⟩ := T.d_least_period
  exact ⟨⟨fd, ["rows"], F.ok sc_least_period (spD_len (C := C_least_period) (n := 1) fun ds S P PX h => by obtain ⟨_, rfl, _⟩ := h; rfl) (fun cdv A outer s H vs Q E hr h => ⟨t_least_period K, PSs.nox (ty_least_period T hr), bodyD (run_least_period) h⟩), F.bindsN fun _ _ _ _ _ _ us hl => match us, hl with | [_], _ => rfl, F.kp⟩⟩
theorem sc_joined_offsets : FnScope N_joined_offsets ["one", "other"] (defScope s_joined_offsets) := ⟨rfl, rfl, rfl, by decide +kernel, rfl, by decide +kernel, by decide +kernel⟩
theorem ty_joined_offsets (T : Tx K mg) {A : Around} {outer : List Env} {s : Shared} {H : Hp} {E : XK} {cdv : Value} {f : Addr} (hr : Room 0 (A.deeper (envOfC "joined_offsets" (defScope s_joined_offsets) s.heap.objs.size f cdv))) :
    PSs (cxOf CX0 P w K mg base N_joined_offsets "joined_offsets" (defScope s_joined_offsets) f cdv A outer s H E).nox (defBody s_joined_offsets) (t_joined_offsets K) := by
  unfold t_joined_offsets
  exact (pss_one (ps_ret (pe_lc (own := [("date", 2), ("offset", 3)]) (g := gTup K 2 (gCons (gName 2) (gCons (gName 3) gNil))) rfl sc_joined_offsets.nd (pi_enum (by rfl) T.n_enumerate (pa_cons (pv 0) pa_nil)) (blkOk_by (N := N_joined_offsets) (sc := defScope s_joined_offsets) (by decide +kernel)) (fun _ _ _ _ _ => pg_tup rfl (pgs_cons (pg_name (i := 2) sc_joined_offsets.nd rfl (by first | exact Or.inl rfl | exact Or.inr rfl)) (pgs_cons (pg_name (i := 3) sc_joined_offsets.nd rfl (by first | exact Or.inl rfl | exact Or.inr rfl)) pgs_nil))) (fun _ _ _ _ _ => pts_nil) (fun _ _ _ _ _ => (pe_op op_add (pv 3) (pe_ix ix_list (pv 1) (pe_op op_modN (pe_op op_add (pv 2) (pv 3)) (pe_callB call_len_seq (by rfl) T.n_len (by decide +kernel) (pa_cons (pv 1) pa_nil))) (fun _ _ => rfl)))))))
theorem ok_joined_offsets (T : Tx K mg) : FnD P w K mg base CX0 1 (He.ga K "joined_offsets") C_joined_offsets := by
  obtain ⟨fd, F⟩ := T.d_joined_offsets
  exact ⟨⟨fd, ["one", "other"], F.ok sc_joined_offsets (spD_len (C := C_joined_offsets) (n := 2) fun ds S P PX h => by obtain ⟨_, _, rfl, _⟩ := h; rfl) (fun cdv A outer s H vs Q E hr h => ⟨t_joined_offsets K, PSs.nox (ty_joined_offsets T hr), bodyD (run_joined_offsets) h⟩), F.bindsN fun _ _ _ _ _ _ us hl => match us, hl with | [_, _], _ => rfl, F.kp⟩⟩
theorem sc_DayMap___init__ : FnScope N_DayMap___init__ ["self", "period", "offsets"] (defScope s_DayMap___init__) := ⟨rfl, rfl, rfl, by decide +kernel, rfl, by decide +kernel, by decide +kernel⟩
theorem ty_DayMap___init__ (T : Tx K mg) {A : Around} {outer : List Env} {s : Shared} {H : Hp} {E : XK} {cdv : Value} {f : Addr} (hr : Room 2 (A.deeper (envOfC "DayMap.__init__" (defScope s_DayMap___init__) s.heap.objs.size f cdv))) :
    PSs (cxOf CX0 P w K mg base N_DayMap___init__ "DayMap.__init__" (defScope s_DayMap___init__) f cdv A outer s H E).nox (defBody s_DayMap___init__) (t_DayMap___init__ K) := by
  unfold t_DayMap___init__
  exact (pss_cons (ps_if (pt_not (pt_val (pe_cd (ok_is_period T) hr (by decide) (by rfl) T.g_is_period (pa_cons (pv 1) pa_nil)))) (pss_one (ps_never)) pss_nil) (pss_cons (ps_if (PW.pt (pw_or (pt_not (pt_val (pe_callB call_isiT (by rfl) T.n_isinstance (by decide +kernel) (pa_cons (pv 2) (pa_cons (pe_tup (pa_cons (pe_bltn (by rfl) T.n_list (by decide +kernel) rfl) (pa_cons (pe_bltn (by rfl) T.n_tuple (by decide +kernel) rfl) pa_nil))) pa_nil))))) (pw_or1 (pt_cmpR op_ne (pe_callB call_len_seq (by rfl) T.n_len (by decide +kernel) (pa_cons (pv 2) pa_nil)) (pv 1) (nomark _))))) (pss_one (ps_never)) pss_nil) (pss_cons (ps_if (pt_not (pt_val (pe_callB (cr_all rfl) (by rfl) T.n_all (by decide +kernel) (pa_cons (pe_lc (own := [("offset", 4)]) (g := gName 4) rfl sc_DayMap___init__.nd (pi_list (pv 2)) (blkOk_by (N := N_DayMap___init__) (sc := defScope s_DayMap___init__) (by decide +kernel)) (fun _ _ _ _ _ => pg_name (i := 4) sc_DayMap___init__.nd rfl (by first | exact Or.inl rfl | exact Or.inr rfl)) (fun _ _ _ _ _ => pts_nil) (fun _ _ _ _ _ => (pe_cd (ok_is_integer T) hr (by decide) (by rfl) T.g_is_integer (pa_cons (pv 4) pa_nil)))) pa_nil)))) (pss_one (ps_never)) pss_nil) (pss_cons (ps_set (i := 3) sc_DayMap___init__.nd rfl (by first | exact Or.inl rfl | exact Or.inr rfl) (pe_callTy call_list_of (by rfl) T.n_list (by decide +kernel) (pa_cons (pv 2) pa_nil))) (pss_one (ps_fld (pv 0) (pe_slice sl_list (pv 3) po_none (po_some (pe_cd (ok_least_period T) hr (by decide) (by rfl) T.g_least_period (pa_cons (pv 3) pa_nil)))) rfl))))))
theorem ok_DayMap___init__ (T : Tx K mg) : FnD P w K mg base CX0 3 (He.ma K (He.ga K "DayMap") "__init__") (C_DayMap___init__ K) := by
  obtain ⟨fd, F⟩ := T.d_DayMap___init__
  exact ⟨⟨fd, ["self", "period", "offsets"], F.ok sc_DayMap___init__ (spD_len (C := (C_DayMap___init__ K)) (n := 3) fun ds S P PX h => by obtain ⟨_, _, rfl, _⟩ := h; rfl) (fun cdv A outer s H vs Q E hr h => ⟨t_DayMap___init__ K, PSs.nox (ty_DayMap___init__ T hr), bodyD (run_DayMap___init__ T.fx) h⟩), F.bindsN fun _ _ _ _ _ _ us hl => match us, hl with | [_, _, _], _ => rfl, F.kp⟩⟩
theorem sc_DayMap_table : FnScope N_DayMap_table ["self"] (defScope s_DayMap_table) := ⟨rfl, rfl, rfl, by decide +kernel, rfl, by decide +kernel, by decide +kernel⟩
theorem ty_DayMap_table (T : Tx K mg) {A : Around} {outer : List Env} {s : Shared} {H : Hp} {E : XK} {cdv : Value} {f : Addr} (hr : Room 0 (A.deeper (envOfC "DayMap.table" (defScope s_DayMap_table) s.heap.objs.size f cdv))) :
    PSs (cxOf CX0 P w K mg base N_DayMap_table "DayMap.table" (defScope s_DayMap_table) f cdv A outer s H E).nox (defBody s_DayMap_table) (t_DayMap_table K) := by
  unfold t_DayMap_table
  exact (pss_one (ps_ret (pe_callTy call_list_of (by rfl) T.n_list (by decide +kernel) (pa_cons (pe_fld (pv 0) rfl) pa_nil))))
theorem ok_DayMap_table (T : Tx K mg) : FnD P w K mg base CX0 1 (He.ma K (He.ga K "DayMap") "table") (C_DayMap_table K) := by
  obtain ⟨fd, F⟩ := T.d_DayMap_table
  exact ⟨⟨fd, ["self"], F.ok sc_DayMap_table (spD_len (C := (C_DayMap_table K)) (n := 1) fun ds S P PX h => by obtain ⟨_, rfl, _⟩ := h; rfl) (fun cdv A outer s H vs Q E hr h => ⟨t_DayMap_table K, PSs.nox (ty_DayMap_table T hr), bodyD (run_DayMap_table T.fx) h⟩), F.bindsN fun _ _ _ _ _ _ us hl => match us, hl with | [_], _ => rfl, F.kp⟩⟩
theorem sc_Map_offsets : FnScope N_Map_offsets ["self"] (defScope s_Map_offsets) := ⟨rfl, rfl, rfl, by decide +kernel, rfl, by decide +kernel, by decide +kernel⟩
theorem ty_Map_offsets (T : Tx K mg) {A : Around} {outer : List Env} {s : Shared} {H : Hp} {E : XK} {cdv : Value} {f : Addr} (hr : Room 1 (A.deeper (envOfC "Map.offsets" (defScope s_Map_offsets) s.heap.objs.size f cdv))) :
    PSs (cxOf CX0 P w K mg base N_Map_offsets "Map.offsets" (defScope s_Map_offsets) f cdv A outer s H E).nox (defBody s_Map_offsets) (t_Map_offsets K) := by
  unfold t_Map_offsets
  exact (pss_cons (ps_set (i := 1) sc_Map_offsets.nd rfl (by first | exact Or.inl rfl | exact Or.inr rfl) (pe_md0 (pv 0) T.c_DayMap T.m_DayMap_table (ok_DayMap_table T) hr (by decide))) (pss_one (ps_ret (pe_callTy call_tuple_of (by rfl) T.n_tuple (by decide +kernel) (pa_cons (pe_slice sl_list (pv 1) po_none (po_some (pe_cd (ok_least_period T) hr (by decide) (by rfl) T.g_least_period (pa_cons (pv 1) pa_nil)))) pa_nil)))))
theorem ok_Map_offsets (T : Tx K mg) : FnD P w K mg base CX0 2 (pgA K "Map" "offsets") (C_Map_offsets K) := by
  obtain ⟨fd, F⟩ := T.d_Map_offsets
  exact ⟨⟨fd, ["self"], F.ok sc_Map_offsets (spD_len (C := (C_Map_offsets K)) (n := 1) fun ds S P PX h => by obtain ⟨_, rfl, _⟩ := h; rfl) (fun cdv A outer s H vs Q E hr h => ⟨t_Map_offsets K, PSs.nox (ty_Map_offsets T hr), bodyD (run_Map_offsets T.fx) h⟩), F.bindsN fun _ _ _ _ _ _ us hl => match us, hl with | [_], _ => rfl, F.kp⟩⟩
theorem sc_Map___eq__ : FnScope N_Map___eq__ ["self", "other"] (defScope s_Map___eq__) := ⟨rfl, rfl, rfl, by decide +kernel, rfl, by decide +kernel, by decide +kernel⟩
theorem ty_Map___eq__ (T : Tx K mg) {A : Around} {outer : List Env} {s : Shared} {H : Hp} {E : XK} {cdv : Value} {f : Addr} (hr : Room 3 (A.deeper (envOfC "Map.__eq__" (defScope s_Map___eq__) s.heap.objs.size f cdv))) :
    PSs (cxOf CX0 P w K mg base N_Map___eq__ "Map.__eq__" (defScope s_Map___eq__) f cdv A outer s H E).nox (defBody s_Map___eq__) (t_Map___eq__ K) := by
  unfold t_Map___eq__
  exact (pss_one (ps_ret (pe_and (pe_callB call_isi (by rfl) T.n_isinstance (by decide +kernel) (pa_cons (pv 1) (pa_cons (pe_gk (by rfl) ⟨_, T.g_Map, rfl⟩) pa_nil))) (pe_one (pe_cmpR (op_eqD (DL.unitsOf hr)) (pe_propD (pv 0) T.c_DayMap T.p_DayMap_offsets (ok_Map_offsets T) hr (by decide)) (pe_propD (pv 1) T.c_DayMap T.p_DayMap_offsets (ok_Map_offsets T) hr (by decide)) (nomark _))))))
theorem ok_Map___eq__ (T : Tx K mg) : FnD P w K mg base CX0 4 (He.ma K (He.ga K "Map") "__eq__") (C_Map___eq__ K) := by
  obtain ⟨fd, F⟩ := T.d_Map___eq__
  exact ⟨⟨fd, ["self", "other"], F.ok sc_Map___eq__ (spD_len (C := (C_Map___eq__ K)) (n := 2) fun ds S P PX h => by obtain ⟨_, _, rfl, _⟩ := h; rfl) (fun cdv A outer s H vs Q E hr h => ⟨t_Map___eq__ K, PSs.nox (ty_Map___eq__ T hr), bodyD (run_Map___eq__ T.fx) h⟩), F.bindsN fun _ _ _ _ _ _ us hl => match us, hl with | [_, _], _ => rfl, F.kp⟩⟩
theorem sc_DayMap_identity : FnScope N_DayMap_identity ["cls"] (defScope s_DayMap_identity) := ⟨rfl, rfl, rfl, by decide +kernel, rfl, by decide +kernel, by decide +kernel⟩
theorem ty_DayMap_identity (T : Tx K mg) {A : Around} {outer : List Env} {s : Shared} {H : Hp} {E : XK} {cdv : Value} {f : Addr} (hr : Room 4 (A.deeper (envOfC "DayMap.identity" (defScope s_DayMap_identity) s.heap.objs.size f cdv))) :
    PSs (cxOf CX0 P w K mg base N_DayMap_identity "DayMap.identity" (defScope s_DayMap_identity) f cdv A outer s H E).nox (defBody s_DayMap_identity) (t_DayMap_identity K) := by
  unfold t_DayMap_identity
  exact (pss_one (ps_ret (pe_mkdL T.mk_DayMap (ok_DayMap___init__ T) hr (by decide) rfl (by first | exact Or.inl rfl | exact Or.inr (Or.inl rfl) | exact Or.inr (Or.inr rfl)) (pa_cons pe_int (pa_cons (pe_lst (pa_cons pe_int pa_nil)) pa_nil)))))
theorem ok_DayMap_identity (T : Tx K mg) : FnR P w K mg base CX0 5 (cgA K "DayMap" "identity") (spDD K (C_DayMap_identity K) dd_DayMap_identity) := by
  obtain ⟨fd, F⟩ := T.d_DayMap_identity
  exact spDD_of (dds := dd_DayMap_identity) (dvs := []) (us := []) (F.ok sc_DayMap_identity (spD_len (C := (C_DayMap_identity K)) (n := 1) fun ds S P PX h => by obtain ⟨rfl, _⟩ := h; rfl) (fun cdv A outer s H vs Q E hr h => ⟨t_DayMap_identity K, PSs.nox (ty_DayMap_identity T hr), bodyD (run_DayMap_identity T.fx) h⟩)) (F.bindsN fun _ _ _ _ _ _ us hl => match us, hl with | [_], _ => rfl) .nil fun G => .nil
theorem sc_DayMap_shift : FnScope N_DayMap_shift ["cls", "days"] (defScope s_DayMap_shift) := ⟨rfl, rfl, rfl, by decide +kernel, rfl, by decide +kernel, by decide +kernel⟩
theorem ty_DayMap_shift (T : Tx K mg) {A : Around} {outer : List Env} {s : Shared} {H : Hp} {E : XK} {cdv : Value} {f : Addr} (hr : Room 4 (A.deeper (envOfC "DayMap.shift" (defScope s_DayMap_shift) s.heap.objs.size f cdv))) :
    PSs (cxOf CX0 P w K mg base N_DayMap_shift "DayMap.shift" (defScope s_DayMap_shift) f cdv A outer s H E).nox (defBody s_DayMap_shift) (t_DayMap_shift K) := by
  unfold t_DayMap_shift
  exact (pss_one (ps_ret (pe_mkdL T.mk_DayMap (ok_DayMap___init__ T) hr (by decide) rfl (by first | exact Or.inl rfl | exact Or.inr (Or.inl rfl) | exact Or.inr (Or.inr rfl)) (pa_cons pe_int (pa_cons (pe_lst (pa_cons (pv 1) pa_nil)) pa_nil)))))
theorem ok_DayMap_shift (T : Tx K mg) : FnR P w K mg base CX0 5 (cgA K "DayMap" "shift") (spDD K (C_DayMap_shift K) dd_DayMap_shift) := by
  obtain ⟨fd, F⟩ := T.d_DayMap_shift
  exact spDD_of (dds := dd_DayMap_shift) (dvs := []) (us := []) (F.ok sc_DayMap_shift (spD_len (C := (C_DayMap_shift K)) (n := 2) fun ds S P PX h => by obtain ⟨_, rfl, _⟩ := h; rfl) (fun cdv A outer s H vs Q E hr h => ⟨t_DayMap_shift K, PSs.nox (ty_DayMap_shift T hr), bodyD (run_DayMap_shift T.fx) h⟩)) (F.bindsN fun _ _ _ _ _ _ us hl => match us, hl with | [_, _], _ => rfl) .nil fun G => .nil
theorem sc_shared_values : FnScope N_shared_values ["maps"] (defScope s_shared_values) := ⟨rfl, rfl, rfl, by decide +kernel, rfl, by decide +kernel, by decide +kernel⟩
theorem ty_shared_values (T : Tx K mg) {A : Around} {outer : List Env} {s : Shared} {H : Hp} {E : XK} {cdv : Value} {f : Addr} (hr : Room 3 (A.deeper (envOfC "shared_values" (defScope s_shared_values) s.heap.objs.size f cdv))) :
    PSs (cxOf (L2.CX P w) P w K mg base N_shared_values "shared_values" (defScope s_shared_values) f cdv A outer s H E) (defBody s_shared_values) (t_shared_values K E) := by
  unfold t_shared_values
  exact (pss_cons (ps_asg (pe_tup (pa_cons (pe_lc (own := [("one", 4)]) (g := gName 4) rfl sc_shared_values.nd (pi_list (pv 0)) (blkOk_by (N := N_shared_values) (sc := defScope s_shared_values) (by decide +kernel)) (fun _ _ _ _ _ => pg_name (i := 4) sc_shared_values.nd rfl (by first | exact Or.inl rfl | exact Or.inr rfl)) (fun _ _ _ _ _ => pts_nil) (fun _ _ _ _ _ => (pe_propD (pv 4) T.c_DayMap T.p_DayMap_offsets (ok_Map_offsets T) hr (by decide)))) (pa_cons pe_int pa_nil))) (pg_tup rfl (pgs_cons (pg_name (i := 1) sc_shared_values.nd rfl (by first | exact Or.inl rfl | exact Or.inr rfl)) (pgs_cons (pg_name (i := 2) sc_shared_values.nd rfl (by first | exact Or.inl rfl | exact Or.inr rfl)) pgs_nil)))) (pss_cons (ps_for (passes_of rfl) rfl (pi_list (pv 1)) (pg_name (i := 3) sc_shared_values.nd rfl (by first | exact Or.inl rfl | exact Or.inr rfl)) (pss_one (ps_set (i := 2) sc_shared_values.nd rfl (by first | exact Or.inl rfl | exact Or.inr rfl) (pe_cdX (ok_common_period T) hr (by decide) (by rfl) T.g_common_period (takes_of rfl rfl rfl rfl) (pa_cons (pv 2) (pa_cons (pe_callB call_len_seq (by rfl) T.n_len (by decide +kernel) (pa_cons (pv 3) pa_nil)) pa_nil)))))) (pss_one (ps_ret (pe_tup (pa_cons (pv 2) (pa_cons (pe_lc (own := [("offsets", 3)]) (g := gName 3) rfl sc_shared_values.nd (pi_list (pv 1)) (blkOk_by (N := N_shared_values) (sc := defScope s_shared_values) (by decide +kernel)) (fun _ _ _ _ _ => pg_name (i := 3) sc_shared_values.nd rfl (by first | exact Or.inl rfl | exact Or.inr rfl)) (fun _ _ _ _ _ => pts_nil) (fun _ _ _ _ _ => (pe_lc (own := [("date", 5)]) (g := gName 5) rfl sc_shared_values.nd (pi_range1 (by rfl) T.n_range (pa_cons (pv 2) pa_nil)) (blkOk_by (by kernel_rfl)) (fun _ _ _ _ _ => pg_name (i := 5) sc_shared_values.nd rfl (by first | exact Or.inl rfl | exact Or.inr rfl)) (fun _ _ _ _ _ => pts_nil) (fun _ _ _ _ _ => (pe_op op_add (pv 5) (pe_ix ix_tup (pv 3) (pe_op op_modN (pv 5) (pe_callB call_len_seq (by rfl) T.n_len (by decide +kernel) (pa_cons (pv 3) pa_nil))) (fun _ _ => rfl))))))) pa_nil)))))))
theorem ok_shared_values (T : Tx K mg) : FnD P w K mg base (L2.CX P w) 4 (He.ga K "shared_values") (C_shared_values K) := by
  obtain ⟨fd, F⟩ := T.d_shared_values
  exact ⟨⟨fd, ["maps"], F.ok (CX := L2.CX P w) sc_shared_values (spD_len (C := (C_shared_values K)) (n := 1) fun ds S P PX h => by obtain ⟨_, rfl, _⟩ := h; rfl) (fun cdv A outer s H vs Q E hr h => ⟨t_shared_values K E, ty_shared_values T hr, bodyD (run_shared_values T.fx) h⟩), F.bindsN fun _ _ _ _ _ _ us hl => match us, hl with | [_], _ => rfl, F.kp⟩⟩
theorem sc_spelled : FnScope N_spelled ["goal", "words", "most"] (defScope s_spelled) := ⟨rfl, rfl, rfl, by decide +kernel, rfl, by decide +kernel, by decide +kernel⟩
theorem ty_spelled (T : Tx K mg) {A : Around} {outer : List Env} {s : Shared} {H : Hp} {E : XK} {cdv : Value} {f : Addr} (hr : Room 4 (A.deeper (envOfC "spelled" (defScope s_spelled) s.heap.objs.size f cdv))) :
    PSs (cxOf (L2.CX P w) P w K mg base N_spelled "spelled" (defScope s_spelled) f cdv A outer s H E) (defBody s_spelled) (t_spelled K E) := by
  unfold t_spelled
  exact (pss_cons (ps_asg (pe_cdX (ok_shared_values T) hr (by decide) (by rfl) T.g_shared_values (takes_of rfl rfl rfl rfl) (pa_cons (pe_lst (pa_cons (pv 0) (StX.pa_star (pv 1) pa_nil))) pa_nil)) (pg_tup rfl (pgs_cons (pg_name (i := 3) sc_spelled.nd rfl (by first | exact Or.inl rfl | exact Or.inr rfl)) (pgs_cons (LX.pg_star1 rfl (pg_name (i := 4) sc_spelled.nd rfl (by first | exact Or.inl rfl | exact Or.inr rfl)) (pg_name (i := 5) sc_spelled.nd rfl (by first | exact Or.inl rfl | exact Or.inr rfl))) pgs_nil)))) (pss_cons (ps_set (i := 6) sc_spelled.nd rfl (by first | exact Or.inl rfl | exact Or.inr rfl) (pe_callTy call_tuple_of (by rfl) T.n_tuple (by decide +kernel) (pa_cons (pe_lc (own := [("date", 16), ("value", 17)]) (g := gTup K 2 (gCons (gName 16) (gCons (gName 17) gNil))) rfl sc_spelled.nd (pi_enum (by rfl) T.n_enumerate (pa_cons (pv 4) pa_nil)) (blkOk_by (N := N_spelled) (sc := defScope s_spelled) (by decide +kernel)) (fun _ _ _ _ _ => pg_tup rfl (pgs_cons (pg_name (i := 16) sc_spelled.nd rfl (by first | exact Or.inl rfl | exact Or.inr rfl)) (pgs_cons (pg_name (i := 17) sc_spelled.nd rfl (by first | exact Or.inl rfl | exact Or.inr rfl)) pgs_nil))) (fun _ _ _ _ _ => pts_nil) (fun _ _ _ _ _ => (pe_op op_sub (pv 17) (pv 16)))) pa_nil))) (pss_cons (ps_setLc (i := 7) (own := [("values", 18)]) (g := gName 18) rfl sc_spelled.nd rfl rfl (sw_true rfl rfl rfl (by decide +kernel)) (pi_list (pv 5)) (blkOk_by (N := N_spelled) (sc := defScope s_spelled) (by decide +kernel)) (fun _ _ _ _ _ => pg_name (i := 18) sc_spelled.nd rfl (by first | exact Or.inl rfl | exact Or.inr rfl)) (fun _ _ _ _ _ => pts_nil) (fun _ _ _ _ _ => (pe_lc (own := [("date", 16), ("value", 17)]) (g := gTup K 2 (gCons (gName 16) (gCons (gName 17) gNil))) rfl sc_spelled.nd (pi_enum (by rfl) T.n_enumerate (pa_cons (pv 18) pa_nil)) (blkOk_by (by kernel_rfl)) (fun _ _ _ _ _ => pg_tup rfl (pgs_cons (pg_name (i := 16) sc_spelled.nd rfl (by first | exact Or.inl rfl | exact Or.inr rfl)) (pgs_cons (pg_name (i := 17) sc_spelled.nd rfl (by first | exact Or.inl rfl | exact Or.inr rfl)) pgs_nil))) (fun _ _ _ _ _ => pts_nil) (fun _ _ _ _ _ => (pe_op op_sub (pv 17) (pv 16)))))) (pss_cons (ps_set (i := 8) sc_spelled.nd rfl (by first | exact Or.inl rfl | exact Or.inr rfl) (LX.pe_dispT (hu_of hr) (pe_op LX.op_repW (pe_tup (pa_cons pe_int pa_nil)) (pv 3)) (pe_lst pa_nil))) (pss_cons (ps_set (i := 9) sc_spelled.nd rfl (by first | exact Or.inl rfl | exact Or.inr rfl) (pe_callTy (LX.cr_listDT rfl) (by rfl) T.n_list (by decide +kernel) (pa_cons (pv 8) pa_nil))) (pss_cons (ps_for (passes_of rfl) rfl (pi_range1 (by rfl) T.n_range (pa_cons (pv 2) pa_nil)) (pg_name (i := 10) sc_spelled.nd rfl (by first | exact Or.inl rfl | exact Or.inr rfl)) (pss_cons (ps_set (i := 11) sc_spelled.nd rfl (by first | exact Or.inl rfl | exact Or.inr rfl) (pe_lst pa_nil)) (pss_cons (ps_for (passes_of rfl) rfl (pi_list (pv 9)) (pg_name (i := 12) sc_spelled.nd rfl (by first | exact Or.inl rfl | exact Or.inr rfl)) (pss_one (ps_for (passes_of rfl) rfl (pi_enum (by rfl) T.n_enumerate (pa_cons (pv 7) pa_nil)) (pg_tup rfl (pgs_cons (pg_name (i := 13) sc_spelled.nd rfl (by first | exact Or.inl rfl | exact Or.inr rfl)) (pgs_cons (pg_name (i := 14) sc_spelled.nd rfl (by first | exact Or.inl rfl | exact Or.inr rfl)) pgs_nil))) (pss_cons (ps_set (i := 15) sc_spelled.nd rfl (by first | exact Or.inl rfl | exact Or.inr rfl) (pe_callTy call_tuple_of (by rfl) T.n_tuple (by decide +kernel) (pa_cons (pe_cd (ok_joined_offsets T) hr (by decide) (by rfl) T.g_joined_offsets (pa_cons (pe_callTy call_list_of (by rfl) T.n_list (by decide +kernel) (pa_cons (pv 12) pa_nil)) (pa_cons (pv 14) pa_nil))) pa_nil))) (pss_one (ps_if (pt_cmp (pc_dnotin (hu_of hr) (pv 15) (pv 8)) (by rfl)) (pss_cons (ps_dput (hu_of hr) (pv 8) (pv 15) (pe_op op_cat (pe_dget (hu_of hr) (pv 8) (pv 12) (fun _ _ => rfl)) (pe_lst (pa_cons (pv 13) pa_nil))) rfl) (pss_one (ps_expr (pe_bm PySem.F.plainAttrs_list PySem.F.slot_list_append PySem.F.type_list_append mt_append (pv 11) (pa_cons (pv 15) pa_nil))))) pss_nil)))))) (pss_one (ps_set (i := 9) sc_spelled.nd rfl (by first | exact Or.inl rfl | exact Or.inr rfl) (pv 11)))))) (pss_one (ps_ret (pe_dget1 (hu_of hr) (pv 8) (pv 6) ⟨rfl, rfl, rfl, rfl⟩)))))))))
theorem ok_spelled (T : Tx K mg) : FnD P w K mg base (L2.CX P w) 5 (He.ga K "spelled") (C_spelled K) := by
  obtain ⟨fd, F⟩ := T.d_spelled
  exact ⟨⟨fd, ["goal", "words", "most"], F.ok (CX := L2.CX P w) sc_spelled (spD_len (C := (C_spelled K)) (n := 3) fun ds S P PX h => by obtain ⟨_, _, _, _, rfl, _⟩ := h; rfl) (fun cdv A outer s H vs Q E hr h => ⟨t_spelled K E, ty_spelled T hr, bodyD (run_spelled T.fx) h⟩), F.bindsN fun _ _ _ _ _ _ us hl => match us, hl with | [_, _, _], _ => rfl, F.kp⟩⟩
theorem sc__law_pen : FnScope N__law_pen ["_law_script"] (defScope s__law_pen) := ⟨rfl, rfl, rfl, by decide +kernel, rfl, by decide +kernel, by decide +kernel⟩
theorem ty__law_pen (T : Tx K mg) {A : Around} {outer : List Env} {s : Shared} {H : Hp} {E : XK} {cdv : Value} {f : Addr} (hr : Room 0 (A.deeper (envOfC "_law_pen" (defScope s__law_pen) s.heap.objs.size f cdv))) :
    PSs (cxOf CX0 P w K mg base N__law_pen "_law_pen" (defScope s__law_pen) f cdv A outer s H E).nox (defBody s__law_pen) (t__law_pen K) := by
  unfold t__law_pen
  exact (pss_one (ps_ret (pe_disp (pps_cons pe_str (pe_callTy call_list_of (by rfl) T.n_list (by decide +kernel) (pa_cons (pe_slice sl_list (pv 0) po_none (po_some pe_int)) pa_nil)) (pps_cons pe_str pe_int (pps_cons pe_str pe_int pps_nil))) (by rfl) (by rfl) (fun z => by cases z) (by decide))))
theorem ok__law_pen (T : Tx K mg) : FnD P w K mg base CX0 1 (He.ga K "_law_pen") C__law_pen := by
  obtain ⟨fd, F⟩ := T.d__law_pen
  exact ⟨⟨fd, ["_law_script"], F.ok sc__law_pen (spD_len (C := C__law_pen) (n := 1) fun ds S P PX h => by obtain ⟨_, rfl, _⟩ := h; rfl) (fun cdv A outer s H vs Q E hr h => ⟨t__law_pen K, PSs.nox (ty__law_pen T hr), bodyD (run__law_pen) h⟩), F.bindsN fun _ _ _ _ _ _ us hl => match us, hl with | [_], _ => rfl, F.kp⟩⟩
theorem sc__law_draw : FnScope N__law_draw ["_law_pen_here", "_law_many"] (defScope s__law_draw) := ⟨rfl, rfl, rfl, by decide +kernel, rfl, by decide +kernel, by decide +kernel⟩
theorem ty__law_draw (T : Tx K mg) {A : Around} {outer : List Env} {s : Shared} {H : Hp} {E : XK} {cdv : Value} {f : Addr} (hr : Room 0 (A.deeper (envOfC "_law_draw" (defScope s__law_draw) s.heap.objs.size f cdv))) :
    PSs (cxOf CX0 P w K mg base N__law_draw "_law_draw" (defScope s__law_draw) f cdv A outer s H E).nox (defBody s__law_draw) (t__law_draw K) := by
  unfold t__law_draw
  exact (pss_cons (ps_if (pt_cmpR op_gt (pe_dget (hu_of hr) (pv 0) pe_str (fun _ _ => rfl)) pe_int (nomark _)) (pss_cons (ps_set (i := 2) sc__law_draw.nd rfl (by first | exact Or.inl rfl | exact Or.inr rfl) (pe_op op_modN (pe_dget (hu_of hr) (pv 0) pe_str (fun _ _ => rfl)) (pv 1))) (pss_cons (ps_dput (hu_of hr) (pv 0) pe_str (pe_op op_fdivN (pe_dget (hu_of hr) (pv 0) pe_str (fun _ _ => rfl)) (pv 1)) rfl) (pss_one (ps_ret (pv 2))))) pss_nil) (pss_cons (ps_set (i := 3) sc__law_draw.nd rfl (by first | exact Or.inl rfl | exact Or.inr rfl) (pe_dget (hu_of hr) (pv 0) pe_str (fun _ _ => rfl))) (pss_cons (ps_dput (hu_of hr) (pv 0) pe_str (pe_op op_add (pv 3) pe_int) rfl) (pss_cons (ps_set (i := 4) sc__law_draw.nd rfl (by first | exact Or.inl rfl | exact Or.inr rfl) (pe_op op_add (pe_op op_mul pe_int (pv 3)) pe_int)) (pss_cons (ps_if (pt_cmpR (op_neD (DL.unitsOf hr)) (pe_dget (hu_of hr) (pv 0) pe_str (fun _ _ => rfl)) (pe_lst pa_nil) (nomark _)) (pss_one (ps_set (i := 4) sc__law_draw.nd rfl (by first | exact Or.inl rfl | exact Or.inr rfl) (pe_ix ix_list (pe_dget (hu_of hr) (pv 0) pe_str (fun _ _ => rfl)) (pe_op op_modN (pv 3) (pe_callB call_len_seq (by rfl) T.n_len (by decide +kernel) (pa_cons (pe_dget (hu_of hr) (pv 0) pe_str (fun _ _ => rfl)) pa_nil))) (fun _ _ => rfl)))) pss_nil) (pss_cons (ps_if (PW.pt (pw_and (pt_cmpR op_lt (pv 3) (pe_callB call_len_seq (by rfl) T.n_len (by decide +kernel) (pa_cons (pe_dget (hu_of hr) (pv 0) pe_str (fun _ _ => rfl)) pa_nil)) (nomark _)) (pw_and1 (pt_cmpR op_ge (pe_callB call_abs (by rfl) T.n_abs (by decide +kernel) (pa_cons (pv 4) pa_nil)) (pe_op op_pow pe_int pe_int) (nomark _))))) (pss_cons (ps_dput (hu_of hr) (pv 0) pe_str (pe_op op_fdivN (pe_op op_sub (pe_callB call_abs (by rfl) T.n_abs (by decide +kernel) (pa_cons (pv 4) pa_nil)) (pe_op op_pow pe_int pe_int)) (pv 1)) rfl) (pss_one (ps_ret (pe_op op_modN (pe_op op_sub (pe_callB call_abs (by rfl) T.n_abs (by decide +kernel) (pa_cons (pv 4) pa_nil)) (pe_op op_pow pe_int pe_int)) (pv 1))))) pss_nil) (pss_cons (ps_set (i := 5) sc__law_draw.nd rfl (by first | exact Or.inl rfl | exact Or.inr rfl) (pe_lst (pa_cons pe_int (pa_cons pe_int (pa_cons pe_int (pa_cons pe_int (pa_cons pe_int pa_nil))))))) (pss_cons (ps_set (i := 6) sc__law_draw.nd rfl (by first | exact Or.inl rfl | exact Or.inr rfl) (pe_ix ix_list (pv 5) (pe_op op_modN (pv 3) pe_int) (fun _ _ => rfl))) (pss_cons (ps_set (i := 7) sc__law_draw.nd rfl (by first | exact Or.inl rfl | exact Or.inr rfl) (pe_op op_modN (pe_op op_add (pe_op op_add (pe_op op_add (pe_op op_mul (pe_op op_modN (pv 4) (pv 6)) pe_int) (pe_op op_mul (pe_op op_mul pe_int (pv 3)) (pv 3))) (pe_op op_mul pe_int (pv 3))) pe_int) (pv 6))) (pss_cons (ps_set (i := 7) sc__law_draw.nd rfl (by first | exact Or.inl rfl | exact Or.inr rfl) (pe_op op_modN (pe_op op_mul (pv 7) (pe_op op_add (pv 7) pe_int)) (pe_ix ix_list (pv 5) (pe_op op_modN (pe_op op_add (pv 3) pe_int) pe_int) (fun _ _ => rfl)))) (pss_one (ps_ret (pe_op op_modN (pe_op op_fdivN (pe_op op_modN (pe_op op_add (pe_op op_add (pe_op op_mul (pv 7) (pv 7)) (pe_op op_mul pe_int (pv 7))) (pv 3)) pe_int) pe_int) (pv 1))))))))))))))
theorem ok__law_draw (T : Tx K mg) : FnD P w K mg base CX0 1 (He.ga K "_law_draw") C__law_draw := by
  obtain ⟨fd, F⟩ := T.d__law_draw
  exact ⟨⟨fd, ["_law_pen_here", "_law_many"], F.ok sc__law_draw (spD_len (C := C__law_draw) (n := 2) fun ds S P PX h => by obtain ⟨_, _, _, _, rfl, _⟩ := h; rfl) (fun cdv A outer s H vs Q E hr h => ⟨t__law_draw K, PSs.nox (ty__law_draw T hr), bodyD (run__law_draw) h⟩), F.bindsN fun _ _ _ _ _ _ us hl => match us, hl with | [_, _], _ => rfl, F.kp⟩⟩
theorem sc__law_pick : FnScope N__law_pick ["_law_pen_here", "_law_options"] (defScope s__law_pick) := ⟨rfl, rfl, rfl, by decide +kernel, rfl, by decide +kernel, by decide +kernel⟩
theorem ty__law_pick (T : Tx K mg) {A : Around} {outer : List Env} {s : Shared} {H : Hp} {E : XK} {cdv : Value} {f : Addr} (hr : Room 1 (A.deeper (envOfC "_law_pick" (defScope s__law_pick) s.heap.objs.size f cdv))) :
    PSs (cxOf CX0 P w K mg base N__law_pick "_law_pick" (defScope s__law_pick) f cdv A outer s H E).nox (defBody s__law_pick) (t__law_pick K) := by
  unfold t__law_pick
  exact (pss_one (ps_ret (pe_ix ix_list (pv 1) (pe_cd (ok__law_draw T) hr (by decide) (by rfl) T.g__law_draw (pa_cons (pv 0) (pa_cons (pe_callB call_len_seq (by rfl) T.n_len (by decide +kernel) (pa_cons (pv 1) pa_nil)) pa_nil))) (fun _ _ => rfl))))
theorem ok__law_pick (T : Tx K mg) : FnD P w K mg base CX0 2 (He.ga K "_law_pick") C__law_pick := by
  obtain ⟨fd, F⟩ := T.d__law_pick
  exact ⟨⟨fd, ["_law_pen_here", "_law_options"], F.ok sc__law_pick (spD_len (C := C__law_pick) (n := 2) fun ds S P PX h => by obtain ⟨_, _, _, _, rfl, _⟩ := h; rfl) (fun cdv A outer s H vs Q E hr h => ⟨t__law_pick K, PSs.nox (ty__law_pick T hr), bodyD (run__law_pick) h⟩), F.bindsN fun _ _ _ _ _ _ us hl => match us, hl with | [_, _], _ => rfl, F.kp⟩⟩
theorem sc__law_shuffled : FnScope N__law_shuffled ["_law_pen_here", "_law_items"] (defScope s__law_shuffled) := ⟨rfl, rfl, rfl, by decide +kernel, rfl, by decide +kernel, by decide +kernel⟩
theorem ty__law_shuffled (T : Tx K mg) {A : Around} {outer : List Env} {s : Shared} {H : Hp} {E : XK} {cdv : Value} {f : Addr} (hr : Room 1 (A.deeper (envOfC "_law_shuffled" (defScope s__law_shuffled) s.heap.objs.size f cdv))) :
    PSs (cxOf CX0 P w K mg base N__law_shuffled "_law_shuffled" (defScope s__law_shuffled) f cdv A outer s H E).nox (defBody s__law_shuffled) (t__law_shuffled K) := by
  unfold t__law_shuffled
  exact (pss_cons (ps_par (i := 2) (j := 3) rfl sc__law_shuffled.nd rfl rfl (by decide) rfl rfl (pa_cons (pe_callTy call_list_of (by rfl) T.n_list (by decide +kernel) (pa_cons (pv 1) pa_nil)) (pa_cons (pe_lst pa_nil) pa_nil)) (by rfl)) (pss_cons (ps_while PassesOwn.never (pt_cmpR (op_neD (DL.unitsOf hr)) (pv 2) (pe_lst pa_nil) (nomark _)) (pss_one (ps_expr (pe_bm PySem.F.plainAttrs_list PySem.F.slot_list_append PySem.F.type_list_append mt_append (pv 3) (pa_cons (pe_bm PySem.F.plainAttrs_list PySem.F.slot_list_pop PySem.F.type_list_pop mt_popAt (pv 2) (pa_cons (pe_cd (ok__law_draw T) hr (by decide) (by rfl) T.g__law_draw (pa_cons (pv 0) (pa_cons (pe_callB call_len_seq (by rfl) T.n_len (by decide +kernel) (pa_cons (pv 2) pa_nil)) pa_nil))) pa_nil)) pa_nil))))) (pss_one (ps_ret (pv 3)))))
theorem ok__law_shuffled (T : Tx K mg) : FnD P w K mg base CX0 2 (He.ga K "_law_shuffled") C__law_shuffled := by
  obtain ⟨fd, F⟩ := T.d__law_shuffled
  exact ⟨⟨fd, ["_law_pen_here", "_law_items"], F.ok sc__law_shuffled (spD_len (C := C__law_shuffled) (n := 2) fun ds S P PX h => by obtain ⟨_, _, _, _, rfl, _⟩ := h; rfl) (fun cdv A outer s H vs Q E hr h => ⟨t__law_shuffled K, PSs.nox (ty__law_shuffled T hr), bodyD (run__law_shuffled) h⟩), F.bindsN fun _ _ _ _ _ _ us hl => match us, hl with | [_, _], _ => rfl, F.kp⟩⟩
theorem sc__law_gcd : FnScope N__law_gcd ["_law_left", "_law_right"] (defScope s__law_gcd) := ⟨rfl, rfl, rfl, by decide +kernel, rfl, by decide +kernel, by decide +kernel⟩
theorem ty__law_gcd (T : Tx K mg) {A : Around} {outer : List Env} {s : Shared} {H : Hp} {E : XK} {cdv : Value} {f : Addr} (hr : Room 0 (A.deeper (envOfC "_law_gcd" (defScope s__law_gcd) s.heap.objs.size f cdv))) :
    PSs (cxOf CX0 P w K mg base N__law_gcd "_law_gcd" (defScope s__law_gcd) f cdv A outer s H E).nox (defBody s__law_gcd) (t__law_gcd K) := by
  unfold t__law_gcd
  exact (pss_cons (ps_par (i := 0) (j := 1) rfl sc__law_gcd.nd rfl rfl (by decide) rfl rfl (pa_cons (pe_callB call_abs (by rfl) T.n_abs (by decide +kernel) (pa_cons (pv 0) pa_nil)) (pa_cons (pe_callB call_abs (by rfl) T.n_abs (by decide +kernel) (pa_cons (pv 1) pa_nil)) pa_nil)) (by rfl)) (pss_cons (ps_while PassesOwn.never (pt_cmpR op_gt (pv 1) pe_int (nomark _)) (pss_one (ps_par (i := 0) (j := 1) rfl sc__law_gcd.nd rfl rfl (by decide) rfl rfl (pa_cons (pv 1) (pa_cons (pe_op op_modN (pv 0) (pv 1)) pa_nil)) (by rfl)))) (pss_one (ps_ret (pv 0)))))
theorem ok__law_gcd (T : Tx K mg) : FnD P w K mg base CX0 1 (He.ga K "_law_gcd") C__law_gcd := by
  obtain ⟨fd, F⟩ := T.d__law_gcd
  exact ⟨⟨fd, ["_law_left", "_law_right"], F.ok sc__law_gcd (spD_len (C := C__law_gcd) (n := 2) fun ds S P PX h => by obtain ⟨_, _, rfl, _⟩ := h; rfl) (fun cdv A outer s H vs Q E hr h => ⟨t__law_gcd K, PSs.nox (ty__law_gcd T hr), bodyD (run__law_gcd) h⟩), F.bindsN fun _ _ _ _ _ _ us hl => match us, hl with | [_, _], _ => rfl, F.kp⟩⟩
theorem sc__law_rising_rows : FnScope N__law_rising_rows ["_law_pen_here", "_law_span"] (defScope s__law_rising_rows) := ⟨rfl, rfl, rfl, by decide +kernel, rfl, by decide +kernel, by decide +kernel⟩
theorem ty__law_rising_rows (T : Tx K mg) {A : Around} {outer : List Env} {s : Shared} {H : Hp} {E : XK} {cdv : Value} {f : Addr} (hr : Room 1 (A.deeper (envOfC "_law_rising_rows" (defScope s__law_rising_rows) s.heap.objs.size f cdv))) :
    PSs (cxOf CX0 P w K mg base N__law_rising_rows "_law_rising_rows" (defScope s__law_rising_rows) f cdv A outer s H E).nox (defBody s__law_rising_rows) (t__law_rising_rows K) := by
  unfold t__law_rising_rows
  exact (pss_cons (ps_asg (pe_tup (pa_cons (pe_op op_sub (pe_cd (ok__law_draw T) hr (by decide) (by rfl) T.g__law_draw (pa_cons (pv 0) (pa_cons (pe_op op_add (pe_op op_mul pe_int (pv 1)) pe_int) pa_nil))) (pe_op op_mul pe_int (pv 1))) (pa_cons (pe_lst pa_nil) pa_nil))) (pg_tup rfl (pgs_cons (pg_name (i := 2) sc__law_rising_rows.nd rfl (by first | exact Or.inl rfl | exact Or.inr rfl)) (pgs_cons (pg_name (i := 3) sc__law_rising_rows.nd rfl (by first | exact Or.inl rfl | exact Or.inr rfl)) pgs_nil)))) (pss_cons (ps_setLc (i := 4) (own := [("_law_spot", 6)]) (g := gName 6) rfl sc__law_rising_rows.nd rfl rfl (sw_true rfl rfl rfl (by decide +kernel)) (pi_range1 (by rfl) T.n_range (pa_cons (pv 1) pa_nil)) (blkOk_by (N := N__law_rising_rows) (sc := defScope s__law_rising_rows) (by decide +kernel)) (fun _ _ _ _ _ => pg_name (i := 6) sc__law_rising_rows.nd rfl (by first | exact Or.inl rfl | exact Or.inr rfl)) (fun _ _ _ _ _ => pts_nil) (fun _ _ _ _ _ => (pe_cd (ok__law_draw T) hr (by decide) (by rfl) T.g__law_draw (pa_cons (pv 0) (pa_cons (pe_op op_add (pv 1) pe_int) pa_nil))))) (pss_cons (ps_for PassesOwn.never rfl (pi_list (pv 4)) (pg_name (i := 5) sc__law_rising_rows.nd rfl (by first | exact Or.inl rfl | exact Or.inr rfl)) (pss_one (ps_expr (pe_bm PySem.F.plainAttrs_list PySem.F.slot_list_insert PySem.F.type_list_insert mt_insert (pv 3) (pa_cons (pe_callB call_len_seq (by rfl) T.n_len (by decide +kernel) (pa_cons (pe_lc (own := [("_law_before", 7)]) (g := gName 7) rfl sc__law_rising_rows.nd (pi_list (pv 3)) (blkOk_by (N := N__law_rising_rows) (sc := defScope s__law_rising_rows) (by decide +kernel)) (fun _ _ _ _ _ => pg_name (i := 7) sc__law_rising_rows.nd rfl (by first | exact Or.inl rfl | exact Or.inr rfl)) (fun _ _ _ _ _ => (pts_one (pt_cmpR op_le (pv 7) (pv 5) (nomark _)))) (fun _ _ _ _ _ => (pv 7))) pa_nil)) (pa_cons (pv 5) pa_nil)))))) (pss_one (ps_ret (pe_lc (own := [("_law_spot", 6)]) (g := gName 6) rfl sc__law_rising_rows.nd (pi_range1 (by rfl) T.n_range (pa_cons (pv 1) pa_nil)) (blkOk_by (N := N__law_rising_rows) (sc := defScope s__law_rising_rows) (by decide +kernel)) (fun _ _ _ _ _ => pg_name (i := 6) sc__law_rising_rows.nd rfl (by first | exact Or.inl rfl | exact Or.inr rfl)) (fun _ _ _ _ _ => pts_nil) (fun _ _ _ _ _ => (pe_op op_sub (pe_op op_add (pv 2) (pe_ix ix_list (pv 3) (pv 6) (fun _ _ => rfl))) (pv 6)))))))))
theorem ok__law_rising_rows (T : Tx K mg) : FnD P w K mg base CX0 2 (He.ga K "_law_rising_rows") C__law_rising_rows := by
  obtain ⟨fd, F⟩ := T.d__law_rising_rows
  exact ⟨⟨fd, ["_law_pen_here", "_law_span"], F.ok sc__law_rising_rows (spD_len (C := C__law_rising_rows) (n := 2) fun ds S P PX h => by obtain ⟨_, _, _, _, rfl, _⟩ := h; rfl) (fun cdv A outer s H vs Q E hr h => ⟨t__law_rising_rows K, PSs.nox (ty__law_rising_rows T hr), bodyD (run__law_rising_rows) h⟩), F.bindsN fun _ _ _ _ _ _ us hl => match us, hl with | [_, _], _ => rfl, F.kp⟩⟩
theorem sc__law_piece_rows : FnScope N__law_piece_rows ["_law_pen_here", "_law_span"] (defScope s__law_piece_rows) := ⟨rfl, rfl, rfl, by decide +kernel, rfl, by decide +kernel, by decide +kernel⟩
theorem ty__law_piece_rows (T : Tx K mg) {A : Around} {outer : List Env} {s : Shared} {H : Hp} {E : XK} {cdv : Value} {f : Addr} (hr : Room 1 (A.deeper (envOfC "_law_piece_rows" (defScope s__law_piece_rows) s.heap.objs.size f cdv))) :
    PSs (cxOf CX0 P w K mg base N__law_piece_rows "_law_piece_rows" (defScope s__law_piece_rows) f cdv A outer s H E).nox (defBody s__law_piece_rows) (t__law_piece_rows K) := by
  unfold t__law_piece_rows
  exact (pss_cons (ps_set (i := 2) sc__law_piece_rows.nd rfl (by first | exact Or.inl rfl | exact Or.inr rfl) (pe_lst pa_nil)) (pss_cons (ps_while PassesOwn.never (pt_cmpR op_lt (pe_callB call_len_seq (by rfl) T.n_len (by decide +kernel) (pa_cons (pv 2) pa_nil)) (pv 1) (nomark _)) (pss_cons (ps_asg (pe_tup (pa_cons (pe_op op_add pe_int (pe_cd (ok__law_draw T) hr (by decide) (by rfl) T.g__law_draw (pa_cons (pv 0) (pa_cons (pe_op op_sub (pv 1) (pe_callB call_len_seq (by rfl) T.n_len (by decide +kernel) (pa_cons (pv 2) pa_nil))) pa_nil)))) (pa_cons (pe_op op_sub (pe_cd (ok__law_draw T) hr (by decide) (by rfl) T.g__law_draw (pa_cons (pv 0) (pa_cons (pe_op op_add (pe_op op_mul pe_int (pv 1)) pe_int) pa_nil))) (pv 1)) pa_nil))) (pg_tup rfl (pgs_cons (pg_name (i := 3) sc__law_piece_rows.nd rfl (by first | exact Or.inl rfl | exact Or.inr rfl)) (pgs_cons (pg_name (i := 4) sc__law_piece_rows.nd rfl (by first | exact Or.inl rfl | exact Or.inr rfl)) pgs_nil)))) (pss_one (ps_if (pt_cmpR op_eq (pe_cd (ok__law_draw T) hr (by decide) (by rfl) T.g__law_draw (pa_cons (pv 0) (pa_cons pe_int pa_nil))) pe_int (nomark _)) (pss_one (ps_set (i := 2) sc__law_piece_rows.nd rfl (by first | exact Or.inl rfl | exact Or.inr rfl) (pe_op op_cat (pv 2) (pe_op op_rep (pe_lst (pa_cons (pv 4) pa_nil)) (pv 3))))) (pss_one (ps_set (i := 2) sc__law_piece_rows.nd rfl (by first | exact Or.inl rfl | exact Or.inr rfl) (pe_op op_cat (pv 2) (pe_lc (own := [("_law_step", 5)]) (g := gName 5) rfl sc__law_piece_rows.nd (pi_range1 (by rfl) T.n_range (pa_cons (pv 3) pa_nil)) (blkOk_by (N := N__law_piece_rows) (sc := defScope s__law_piece_rows) (by decide +kernel)) (fun _ _ _ _ _ => pg_name (i := 5) sc__law_piece_rows.nd rfl (by first | exact Or.inl rfl | exact Or.inr rfl)) (fun _ _ _ _ _ => pts_nil) (fun _ _ _ _ _ => (pe_op op_sub (pv 4) (pv 5))))))))))) (pss_one (ps_ret (pv 2)))))
theorem ok__law_piece_rows (T : Tx K mg) : FnD P w K mg base CX0 2 (He.ga K "_law_piece_rows") C__law_piece_rows := by
  obtain ⟨fd, F⟩ := T.d__law_piece_rows
  exact ⟨⟨fd, ["_law_pen_here", "_law_span"], F.ok sc__law_piece_rows (spD_len (C := C__law_piece_rows) (n := 2) fun ds S P PX h => by obtain ⟨_, _, _, _, rfl, _⟩ := h; rfl) (fun cdv A outer s H vs Q E hr h => ⟨t__law_piece_rows K, PSs.nox (ty__law_piece_rows T hr), bodyD (run__law_piece_rows) h⟩), F.bindsN fun _ _ _ _ _ _ us hl => match us, hl with | [_, _], _ => rfl, F.kp⟩⟩
theorem sc__law_rows : FnScope N__law_rows ["_law_pen_here", "_law_top"] (defScope s__law_rows) := ⟨rfl, rfl, rfl, by decide +kernel, rfl, by decide +kernel, by decide +kernel⟩
theorem ty__law_rows (T : Tx K mg) {A : Around} {outer : List Env} {s : Shared} {H : Hp} {E : XK} {cdv : Value} {f : Addr} (hr : Room 2 (A.deeper (envOfC "_law_rows" (defScope s__law_rows) s.heap.objs.size f cdv))) :
    PSs (cxOf CX0 P w K mg base N__law_rows "_law_rows" (defScope s__law_rows) f cdv A outer s H E).nox (defBody s__law_rows) (t__law_rows K) := by
  unfold t__law_rows
  exact (pss_cons (ps_asg (pe_tup (pa_cons (pe_op op_add pe_int (pe_cd (ok__law_draw T) hr (by decide) (by rfl) T.g__law_draw (pa_cons (pv 0) (pa_cons (pv 1) pa_nil)))) (pa_cons (pe_cd (ok__law_draw T) hr (by decide) (by rfl) T.g__law_draw (pa_cons (pv 0) (pa_cons pe_int pa_nil))) pa_nil))) (pg_tup rfl (pgs_cons (pg_name (i := 2) sc__law_rows.nd rfl (by first | exact Or.inl rfl | exact Or.inr rfl)) (pgs_cons (pg_name (i := 3) sc__law_rows.nd rfl (by first | exact Or.inl rfl | exact Or.inr rfl)) pgs_nil)))) (pss_cons (ps_if (pt_cmpR op_eq (pv 3) pe_int (nomark _)) (pss_cons (ps_set (i := 4) sc__law_rows.nd rfl (by first | exact Or.inl rfl | exact Or.inr rfl) (pe_cd (ok__law_pick T) hr (by decide) (by rfl) T.g__law_pick (pa_cons (pv 0) (pa_cons (pe_lst (pa_cons pe_int (pa_cons pe_int (pa_cons pe_int (pa_cons (pv 2) (pa_cons (pe_op op_add (pe_op op_mul pe_int (pv 2)) pe_int) pa_nil)))))) pa_nil)))) (pss_one (ps_ret (pe_lc (own := [("_law_spot", 7)]) (g := gName 7) rfl sc__law_rows.nd (pi_range1 (by rfl) T.n_range (pa_cons (pv 2) pa_nil)) (blkOk_by (N := N__law_rows) (sc := defScope s__law_rows) (by decide +kernel)) (fun _ _ _ _ _ => pg_name (i := 7) sc__law_rows.nd rfl (by first | exact Or.inl rfl | exact Or.inr rfl)) (fun _ _ _ _ _ => pts_nil) (fun _ _ _ _ _ => (pe_op op_sub (pe_cd (ok__law_draw T) hr (by decide) (by rfl) T.g__law_draw (pa_cons (pv 0) (pa_cons (pe_op op_add (pe_op op_mul pe_int (pv 4)) pe_int) pa_nil))) (pv 4))))))) pss_nil) (pss_cons (ps_if (pt_cmpR op_eq (pv 3) pe_int (nomark _)) (pss_one (ps_ret (pe_cd (ok__law_rising_rows T) hr (by decide) (by rfl) T.g__law_rising_rows (pa_cons (pv 0) (pa_cons (pv 2) pa_nil))))) pss_nil) (pss_cons (ps_if (pt_cmpR op_eq (pv 3) pe_int (nomark _)) (pss_cons (ps_set (i := 5) sc__law_rows.nd rfl (by first | exact Or.inl rfl | exact Or.inr rfl) (pe_cd (ok__law_shuffled T) hr (by decide) (by rfl) T.g__law_shuffled (pa_cons (pv 0) (pa_cons (pe_listRgA rfl (by rfl) T.n_list (prg_1 (by rfl) T.n_range (pv 2))) pa_nil)))) (pss_one (ps_ret (pe_lc (own := [("_law_spot", 7)]) (g := gName 7) rfl sc__law_rows.nd (pi_range1 (by rfl) T.n_range (pa_cons (pv 2) pa_nil)) (blkOk_by (N := N__law_rows) (sc := defScope s__law_rows) (by decide +kernel)) (fun _ _ _ _ _ => pg_name (i := 7) sc__law_rows.nd rfl (by first | exact Or.inl rfl | exact Or.inr rfl)) (fun _ _ _ _ _ => pts_nil) (fun _ _ _ _ _ => (pe_op op_add (pe_op op_sub (pe_ix ix_list (pv 5) (pv 7) (fun _ _ => rfl)) (pv 7)) (pe_op op_mul (pv 2) (pe_op op_sub (pe_cd (ok__law_draw T) hr (by decide) (by rfl) T.g__law_draw (pa_cons (pv 0) (pa_cons pe_int pa_nil))) pe_int)))))))) pss_nil) (pss_cons (ps_if (pt_cmpR op_eq (pv 3) pe_int (nomark _)) (pss_cons (ps_setLc (i := 6) (own := [("_law_spot", 7)]) (g := gName 7) rfl sc__law_rows.nd rfl rfl (sw_true rfl rfl rfl (by decide +kernel)) (pi_range1 (by rfl) T.n_range (pa_cons (pe_op op_add pe_int (pe_cd (ok__law_draw T) hr (by decide) (by rfl) T.g__law_draw (pa_cons (pv 0) (pa_cons pe_int pa_nil)))) pa_nil)) (blkOk_by (N := N__law_rows) (sc := defScope s__law_rows) (by decide +kernel)) (fun _ _ _ _ _ => pg_name (i := 7) sc__law_rows.nd rfl (by first | exact Or.inl rfl | exact Or.inr rfl)) (fun _ _ _ _ _ => pts_nil) (fun _ _ _ _ _ => (pe_op op_sub (pe_cd (ok__law_draw T) hr (by decide) (by rfl) T.g__law_draw (pa_cons (pv 0) (pa_cons pe_int pa_nil))) pe_int))) (pss_one (ps_ret (pe_op op_rep (pv 6) (pe_op op_add pe_int (pe_cd (ok__law_draw T) hr (by decide) (by rfl) T.g__law_draw (pa_cons (pv 0) (pa_cons pe_int pa_nil)))))))) pss_nil) (pss_cons (ps_if (pt_cmpR op_eq (pv 3) pe_int (nomark _)) (pss_one (ps_ret (pe_lc (own := [("_law_spot", 7)]) (g := gName 7) rfl sc__law_rows.nd (pi_range1 (by rfl) T.n_range (pa_cons (pv 2) pa_nil)) (blkOk_by (N := N__law_rows) (sc := defScope s__law_rows) (by decide +kernel)) (fun _ _ _ _ _ => pg_name (i := 7) sc__law_rows.nd rfl (by first | exact Or.inl rfl | exact Or.inr rfl)) (fun _ _ _ _ _ => pts_nil) (fun _ _ _ _ _ => (pe_cd (ok__law_pick T) hr (by decide) (by rfl) T.g__law_pick (pa_cons (pv 0) (pa_cons (pe_lst (pa_cons pe_int (pa_cons pe_int (pa_cons pe_int (pa_cons pe_int (pa_cons (pe_un un_neg pe_int) pa_nil)))))) pa_nil))))))) pss_nil) (pss_one (ps_ret (pe_cd (ok__law_piece_rows T) hr (by decide) (by rfl) T.g__law_piece_rows (pa_cons (pv 0) (pa_cons (pv 2) pa_nil)))))))))))
theorem ok__law_rows (T : Tx K mg) : FnD P w K mg base CX0 3 (He.ga K "_law_rows") C__law_rows := by
  obtain ⟨fd, F⟩ := T.d__law_rows
  exact ⟨⟨fd, ["_law_pen_here", "_law_top"], F.ok sc__law_rows (spD_len (C := C__law_rows) (n := 2) fun ds S P PX h => by obtain ⟨_, _, _, _, rfl, _⟩ := h; rfl) (fun cdv A outer s H vs Q E hr h => ⟨t__law_rows K, PSs.nox (ty__law_rows T hr), bodyD (run__law_rows) h⟩), F.bindsN fun _ _ _ _ _ _ us hl => match us, hl with | [_, _], _ => rfl, F.kp⟩⟩
theorem sc__law_at : FnScope N__law_at ["_law_rows_here", "_law_spot"] (defScope s__law_at) := ⟨rfl, rfl, rfl, by decide +kernel, rfl, by decide +kernel, by decide +kernel⟩
theorem ty__law_at (T : Tx K mg) {A : Around} {outer : List Env} {s : Shared} {H : Hp} {E : XK} {cdv : Value} {f : Addr} (hr : Room 0 (A.deeper (envOfC "_law_at" (defScope s__law_at) s.heap.objs.size f cdv))) :
    PSs (cxOf CX0 P w K mg base N__law_at "_law_at" (defScope s__law_at) f cdv A outer s H E).nox (defBody s__law_at) (t__law_at K) := by
  unfold t__law_at
  exact (pss_one (ps_ret (pe_op op_add (pv 1) (pe_ix ix_list (pv 0) (pe_op op_modN (pv 1) (pe_callB call_len_seq (by rfl) T.n_len (by decide +kernel) (pa_cons (pv 0) pa_nil))) (fun _ _ => rfl)))))
theorem ok__law_at (T : Tx K mg) : FnD P w K mg base CX0 1 (He.ga K "_law_at") C__law_at := by
  obtain ⟨fd, F⟩ := T.d__law_at
  exact ⟨⟨fd, ["_law_rows_here", "_law_spot"], F.ok sc__law_at (spD_len (C := C__law_at) (n := 2) fun ds S P PX h => by obtain ⟨_, _, rfl, _⟩ := h; rfl) (fun cdv A outer s H vs Q E hr h => ⟨t__law_at K, PSs.nox (ty__law_at T hr), bodyD (run__law_at) h⟩), F.bindsN fun _ _ _ _ _ _ us hl => match us, hl with | [_, _], _ => rfl, F.kp⟩⟩
theorem sc__law_least_rows : FnScope N__law_least_rows ["_law_rows_here"] (defScope s__law_least_rows) := ⟨rfl, rfl, rfl, by decide +kernel, rfl, by decide +kernel, by decide +kernel⟩
theorem ty__law_least_rows (T : Tx K mg) {A : Around} {outer : List Env} {s : Shared} {H : Hp} {E : XK} {cdv : Value} {f : Addr} (hr : Room 0 (A.deeper (envOfC "_law_least_rows" (defScope s__law_least_rows) s.heap.objs.size f cdv))) :
    PSs (cxOf CX0 P w K mg base N__law_least_rows "_law_least_rows" (defScope s__law_least_rows) f cdv A outer s H E).nox (defBody s__law_least_rows) (t__law_least_rows K) := by
  unfold t__law_least_rows
  exact (pss_cons (ps_for PassesOwn.never rfl (pi_range2 (by rfl) T.n_range (pa_cons pe_int (pa_cons (pe_op op_add (pe_callB call_len_seq (by rfl) T.n_len (by decide +kernel) (pa_cons (pv 0) pa_nil)) pe_int) pa_nil))) (pg_name (i := 1) sc__law_least_rows.nd rfl (by first | exact Or.inl rfl | exact Or.inr rfl)) (pss_one (ps_if (PW.pt (pw_and (pt_cmpR op_eq (pe_op op_modN (pe_callB call_len_seq (by rfl) T.n_len (by decide +kernel) (pa_cons (pv 0) pa_nil)) (pv 1)) pe_int (nomark _)) (pw_and1 (pt_cmpR (op_eqD (DL.unitsOf hr)) (pv 0) (pe_op op_rep (pe_slice sl_list (pv 0) po_none (po_some (pv 1))) (pe_op op_fdivN (pe_callB call_len_seq (by rfl) T.n_len (by decide +kernel) (pa_cons (pv 0) pa_nil)) (pv 1))) (nomark _))))) (pss_one (ps_ret (pe_slice sl_list (pv 0) po_none (po_some (pv 1))))) pss_nil))) (pss_one (ps_ret (pv 0))))
theorem ok__law_least_rows (T : Tx K mg) : FnD P w K mg base CX0 1 (He.ga K "_law_least_rows") C__law_least_rows := by
  obtain ⟨fd, F⟩ := T.d__law_least_rows
  exact ⟨⟨fd, ["_law_rows_here"], F.ok sc__law_least_rows (spD_len (C := C__law_least_rows) (n := 1) fun ds S P PX h => by obtain ⟨_, rfl, _⟩ := h; rfl) (fun cdv A outer s H vs Q E hr h => ⟨t__law_least_rows K, PSs.nox (ty__law_least_rows T hr), bodyD (run__law_least_rows) h⟩), F.bindsN fun _ _ _ _ _ _ us hl => match us, hl with | [_], _ => rfl, F.kp⟩⟩
theorem sc__law_common : FnScope N__law_common ["_law_rows_here", "_law_more"] (defScope s__law_common) := ⟨rfl, rfl, rfl, by decide +kernel, rfl, by decide +kernel, by decide +kernel⟩
theorem ty__law_common (T : Tx K mg) {A : Around} {outer : List Env} {s : Shared} {H : Hp} {E : XK} {cdv : Value} {f : Addr} (hr : Room 1 (A.deeper (envOfC "_law_common" (defScope s__law_common) s.heap.objs.size f cdv))) :
    PSs (cxOf CX0 P w K mg base N__law_common "_law_common" (defScope s__law_common) f cdv A outer s H E).nox (defBody s__law_common) (t__law_common K) := by
  unfold t__law_common
  exact (pss_cons (ps_par (i := 2) (j := 3) rfl sc__law_common.nd rfl rfl (by decide) rfl rfl (pa_cons (pe_callB call_len_seq (by rfl) T.n_len (by decide +kernel) (pa_cons (pe_cd (ok__law_least_rows T) hr (by decide) (by rfl) T.g__law_least_rows (pa_cons (pv 0) pa_nil)) pa_nil)) (pa_cons (pe_callB call_len_seq (by rfl) T.n_len (by decide +kernel) (pa_cons (pe_cd (ok__law_least_rows T) hr (by decide) (by rfl) T.g__law_least_rows (pa_cons (pv 1) pa_nil)) pa_nil)) pa_nil)) (by rfl)) (pss_one (ps_ret (pe_op op_mul (pe_op op_fdivN (pv 2) (pe_cd (ok__law_gcd T) hr (by decide) (by rfl) T.g__law_gcd (pa_cons (pv 2) (pa_cons (pv 3) pa_nil)))) (pv 3)))))
theorem ok__law_common (T : Tx K mg) : FnD P w K mg base CX0 2 (He.ga K "_law_common") C__law_common := by
  obtain ⟨fd, F⟩ := T.d__law_common
  exact ⟨⟨fd, ["_law_rows_here", "_law_more"], F.ok sc__law_common (spD_len (C := C__law_common) (n := 2) fun ds S P PX h => by obtain ⟨_, _, rfl, _⟩ := h; rfl) (fun cdv A outer s H vs Q E hr h => ⟨t__law_common K, PSs.nox (ty__law_common T hr), bodyD (run__law_common) h⟩), F.bindsN fun _ _ _ _ _ _ us hl => match us, hl with | [_, _], _ => rfl, F.kp⟩⟩
theorem sc__law_then : FnScope N__law_then ["_law_rows_here", "_law_more"] (defScope s__law_then) := ⟨rfl, rfl, rfl, by decide +kernel, rfl, by decide +kernel, by decide +kernel⟩
theorem ty__law_then (T : Tx K mg) {A : Around} {outer : List Env} {s : Shared} {H : Hp} {E : XK} {cdv : Value} {f : Addr} (hr : Room 2 (A.deeper (envOfC "_law_then" (defScope s__law_then) s.heap.objs.size f cdv))) :
    PSs (cxOf CX0 P w K mg base N__law_then "_law_then" (defScope s__law_then) f cdv A outer s H E).nox (defBody s__law_then) (t__law_then K) := by
  unfold t__law_then
  exact (pss_one (ps_ret (pe_lc (own := [("_law_spot", 2)]) (g := gName 2) rfl sc__law_then.nd (pi_range1 (by rfl) T.n_range (pa_cons (pe_cd (ok__law_common T) hr (by decide) (by rfl) T.g__law_common (pa_cons (pv 0) (pa_cons (pv 1) pa_nil))) pa_nil)) (blkOk_by (N := N__law_then) (sc := defScope s__law_then) (by decide +kernel)) (fun _ _ _ _ _ => pg_name (i := 2) sc__law_then.nd rfl (by first | exact Or.inl rfl | exact Or.inr rfl)) (fun _ _ _ _ _ => pts_nil) (fun _ _ _ _ _ => (pe_op op_sub (pe_cd (ok__law_at T) hr (by decide) (by rfl) T.g__law_at (pa_cons (pv 1) (pa_cons (pe_cd (ok__law_at T) hr (by decide) (by rfl) T.g__law_at (pa_cons (pv 0) (pa_cons (pv 2) pa_nil))) pa_nil))) (pv 2))))))
theorem ok__law_then (T : Tx K mg) : FnD P w K mg base CX0 3 (He.ga K "_law_then") C__law_then := by
  obtain ⟨fd, F⟩ := T.d__law_then
  exact ⟨⟨fd, ["_law_rows_here", "_law_more"], F.ok sc__law_then (spD_len (C := C__law_then) (n := 2) fun ds S P PX h => by obtain ⟨_, _, rfl, _⟩ := h; rfl) (fun cdv A outer s H vs Q E hr h => ⟨t__law_then K, PSs.nox (ty__law_then T hr), bodyD (run__law_then) h⟩), F.bindsN fun _ _ _ _ _ _ us hl => match us, hl with | [_, _], _ => rfl, F.kp⟩⟩
theorem sc__law_map : FnScope N__law_map ["_law_rows_here"] (defScope s__law_map) := ⟨rfl, rfl, rfl, by decide +kernel, rfl, by decide +kernel, by decide +kernel⟩
theorem ty__law_map (T : Tx K mg) {A : Around} {outer : List Env} {s : Shared} {H : Hp} {E : XK} {cdv : Value} {f : Addr} (hr : Room 4 (A.deeper (envOfC "_law_map" (defScope s__law_map) s.heap.objs.size f cdv))) :
    PSs (cxOf CX0 P w K mg base N__law_map "_law_map" (defScope s__law_map) f cdv A outer s H E).nox (defBody s__law_map) (t__law_map K) := by
  unfold t__law_map
  exact (pss_one (ps_ret (pe_mkd T.mk_DayMap (ok_DayMap___init__ T) hr (by decide) (by rfl) T.g_DayMap (pa_cons (pe_callB call_len_seq (by rfl) T.n_len (by decide +kernel) (pa_cons (pv 0) pa_nil)) (pa_cons (pv 0) pa_nil)))))
theorem ok__law_map (T : Tx K mg) : FnD P w K mg base CX0 5 (He.ga K "_law_map") (C__law_map K) := by
  obtain ⟨fd, F⟩ := T.d__law_map
  exact ⟨⟨fd, ["_law_rows_here"], F.ok sc__law_map (spD_len (C := (C__law_map K)) (n := 1) fun ds S P PX h => by obtain ⟨_, rfl, _⟩ := h; rfl) (fun cdv A outer s H vs Q E hr h => ⟨t__law_map K, PSs.nox (ty__law_map T hr), bodyD (run__law_map T.fx) h⟩), F.bindsN fun _ _ _ _ _ _ us hl => match us, hl with | [_], _ => rfl, F.kp⟩⟩
theorem sc__law_lists : FnScope N__law_lists ["_law_many", "_law_most"] (defScope s__law_lists) := ⟨rfl, rfl, rfl, by decide +kernel, rfl, by decide +kernel, by decide +kernel⟩
theorem ty__law_lists (T : Tx K mg) {A : Around} {outer : List Env} {s : Shared} {H : Hp} {E : XK} {cdv : Value} {f : Addr} (hr : Room 0 (A.deeper (envOfC "_law_lists" (defScope s__law_lists) s.heap.objs.size f cdv))) :
    PSs (cxOf CX0 P w K mg base N__law_lists "_law_lists" (defScope s__law_lists) f cdv A outer s H E).nox (defBody s__law_lists) (t__law_lists K) := by
  unfold t__law_lists
  exact (pss_cons (ps_par (i := 2) (j := 3) rfl sc__law_lists.nd rfl rfl (by decide) rfl rfl (pa_cons (pe_lst (pa_cons (pe_lst pa_nil) pa_nil)) (pa_cons (pe_lst (pa_cons (pe_lst pa_nil) pa_nil)) pa_nil)) (by rfl)) (pss_cons (ps_for PassesOwn.never rfl (pi_range1 (by rfl) T.n_range (pa_cons (pv 1) pa_nil)) (pg_name (i := 4) sc__law_lists.nd rfl (by first | exact Or.inl rfl | exact Or.inr rfl)) (pss_cons (ps_set (i := 5) sc__law_lists.nd rfl (by first | exact Or.inl rfl | exact Or.inr rfl) (pe_lst pa_nil)) (pss_cons (ps_for PassesOwn.never rfl (pi_list (pv 3)) (pg_name (i := 6) sc__law_lists.nd rfl (by first | exact Or.inl rfl | exact Or.inr rfl)) (pss_one (ps_expr (pe_bm PySem.F.plainAttrs_list PySem.F.slot_list_extend PySem.F.type_list_extend mt_extend (pv 5) (pa_cons (pe_lc (own := [("_law_index", 7)]) (g := gName 7) rfl sc__law_lists.nd (pi_range1 (by rfl) T.n_range (pa_cons (pv 0) pa_nil)) (blkOk_by (N := N__law_lists) (sc := defScope s__law_lists) (by decide +kernel)) (fun _ _ _ _ _ => pg_name (i := 7) sc__law_lists.nd rfl (by first | exact Or.inl rfl | exact Or.inr rfl)) (fun _ _ _ _ _ => pts_nil) (fun _ _ _ _ _ => (pe_op op_cat (pv 6) (pe_lst (pa_cons (pv 7) pa_nil))))) pa_nil))))) (pss_one (ps_par (i := 2) (j := 3) rfl sc__law_lists.nd rfl rfl (by decide) rfl rfl (pa_cons (pe_op op_cat (pv 2) (pv 5)) (pa_cons (pv 5) pa_nil)) (by rfl)))))) (pss_one (ps_ret (pv 2)))))
theorem ok__law_lists (T : Tx K mg) : FnD P w K mg base CX0 1 (He.ga K "_law_lists") C__law_lists := by
  obtain ⟨fd, F⟩ := T.d__law_lists
  exact ⟨⟨fd, ["_law_many", "_law_most"], F.ok sc__law_lists (spD_len (C := C__law_lists) (n := 2) fun ds S P PX h => by obtain ⟨_, _, rfl, _⟩ := h; rfl) (fun cdv A outer s H vs Q E hr h => ⟨t__law_lists K, PSs.nox (ty__law_lists T hr), bodyD (run__law_lists) h⟩), F.bindsN fun _ _ _ _ _ _ us hl => match us, hl with | [_, _], _ => rfl, F.kp⟩⟩
theorem sc__law_product : FnScope N__law_product ["_law_words", "_law_spelling"] (defScope s__law_product) := ⟨rfl, rfl, rfl, by decide +kernel, rfl, by decide +kernel, by decide +kernel⟩
theorem ty__law_product (T : Tx K mg) {A : Around} {outer : List Env} {s : Shared} {H : Hp} {E : XK} {cdv : Value} {f : Addr} (hr : Room 3 (A.deeper (envOfC "_law_product" (defScope s__law_product) s.heap.objs.size f cdv))) :
    PSs (cxOf CX0 P w K mg base N__law_product "_law_product" (defScope s__law_product) f cdv A outer s H E).nox (defBody s__law_product) (t__law_product K) := by
  unfold t__law_product
  exact (pss_cons (ps_set (i := 2) sc__law_product.nd rfl (by first | exact Or.inl rfl | exact Or.inr rfl) (pe_lst (pa_cons pe_int pa_nil))) (pss_cons (ps_for PassesOwn.never rfl (pi_list (pv 1)) (pg_name (i := 3) sc__law_product.nd rfl (by first | exact Or.inl rfl | exact Or.inr rfl)) (pss_one (ps_set (i := 2) sc__law_product.nd rfl (by first | exact Or.inl rfl | exact Or.inr rfl) (pe_cd (ok__law_then T) hr (by decide) (by rfl) T.g__law_then (pa_cons (pv 2) (pa_cons (pe_ix ix_list (pv 0) (pv 3) (fun _ _ => rfl)) pa_nil)))))) (pss_one (ps_ret (pe_cd (ok__law_least_rows T) hr (by decide) (by rfl) T.g__law_least_rows (pa_cons (pv 2) pa_nil))))))
theorem ok__law_product (T : Tx K mg) : FnD P w K mg base CX0 4 (He.ga K "_law_product") C__law_product := by
  obtain ⟨fd, F⟩ := T.d__law_product
  exact ⟨⟨fd, ["_law_words", "_law_spelling"], F.ok sc__law_product (spD_len (C := C__law_product) (n := 2) fun ds S P PX h => by obtain ⟨_, _, _, rfl, _⟩ := h; rfl) (fun cdv A outer s H vs Q E hr h => ⟨t__law_product K, PSs.nox (ty__law_product T hr), bodyD (run__law_product) h⟩), F.bindsN fun _ _ _ _ _ _ us hl => match us, hl with | [_, _], _ => rfl, F.kp⟩⟩
theorem sc__law_limit : FnScope N__law_limit ["_law_call"] (defScope s__law_limit) := ⟨rfl, rfl, rfl, by decide +kernel, rfl, by decide +kernel, by decide +kernel⟩
theorem gv__law_limit {X : Cx} (T : Tx X.K X.mg) (qq : Str) (cdg : Value) : LamX.GivesTo X N__law_limit "_law_limit" (defScope s__law_limit) (He.ga X.K "_law_limit") cdg (defBody s__law_limit) "_law_call" qq (tTG N__law_limit qq (t__law_limit X.K)) := gives_of fun s H act hact => by
  unfold t__law_limit
  exact (pss_cons (ps_set (i := 1) sc__law_limit.nd rfl (by first | exact Or.inl rfl | exact Or.inr rfl) pe_non) (pss_cons (ps_tryK (i := 2) rfl rfl rfl sc__law_limit.nd rfl rfl ⟨rfl, by decide, .inl T.g_TooLong⟩ rfl (fun W E pn xe tk hW po => pss_one (ps_expr (hact W pn xe E _ _ tk hW))) (fun a oe cls d pn hz hf => (pss_one (ps_set (i := 1) sc__law_limit.nd rfl (by first | exact Or.inl rfl | exact Or.inr rfl) (pv 2))))) (pss_one (ps_ret (pe_ifExp (pt_cmpR op_notN (pv 1) pe_non (nomark _)) (pe_tup (pa_cons (LX.pe_kf T.xf_TooLong T.nf_TooLong_limit (pv 1)) (pa_cons (pe_callB LX.call_isK (by rfl) T.n_isinstance (by decide +kernel) (pa_cons (pv 1) (pa_cons (pe_bltn (by rfl) T.n_OverflowError (by decide +kernel) rfl) pa_nil))) pa_nil))) pe_non)))))
theorem sc__law_long_right : FnScope N__law_long_right ["_law_pen_here"] (defScope s__law_long_right) := ⟨rfl, rfl, rfl, by decide +kernel, rfl, by decide +kernel, by decide +kernel⟩
theorem ty__law_long_right (T : Tx K mg) (TB : TabsB K mg base) {lc lP : Addr} (LD : LamD K "_law_long_right" (He.ga K "_law_long_right") lc lP) {A : Around} {outer : List Env} {s : Shared} {H : Hp} {E : XK} (hr : Room 7 (A.deeper (envOfC "_law_long_right" (defScope s__law_long_right) s.heap.objs.size (He.ga K "_law_long_right") (codeOf K (He.ga K "_law_long_right"))))) :
    PSs (cxOf CX0 P w K mg base N__law_long_right "_law_long_right" (defScope s__law_long_right) (He.ga K "_law_long_right") (codeOf K (He.ga K "_law_long_right")) A outer s H E).nox (defBody s__law_long_right) (t__law_long_right K) := by
  obtain ⟨fd__law_limit, F__law_limit⟩ := T.d__law_limit
  unfold t__law_long_right
  exact (pss_cons (ps_asg (pe_cd (ok__law_pick T) hr (by decide) (by rfl) T.g__law_pick (pa_cons (pv 0) (pa_cons (pe_lst (pa_cons (pe_tup (pa_cons pe_int (pa_cons pe_int pa_nil))) (pa_cons (pe_tup (pa_cons pe_int (pa_cons pe_int pa_nil))) (pa_cons (pe_tup (pa_cons pe_int (pa_cons pe_int pa_nil))) pa_nil)))) pa_nil))) (pg_tup rfl (pgs_cons (pg_name (i := 1) sc__law_long_right.nd rfl (by first | exact Or.inl rfl | exact Or.inr rfl)) (pgs_cons (pg_name (i := 2) sc__law_long_right.nd rfl (by first | exact Or.inl rfl | exact Or.inr rfl)) pgs_nil)))) (pss_cons (ps_asg (pe_tup (pa_cons (pe_cd (ok__law_draw T) hr (by decide) (by rfl) T.g__law_draw (pa_cons (pv 0) (pa_cons (pe_callB (call_min2 rfl) (by rfl) T.n_min (by decide +kernel) (pa_cons (pv 1) (pa_cons (pv 2) pa_nil))) pa_nil))) (pa_cons (pe_op op_add pe_int (pe_cd (ok__law_draw T) hr (by decide) (by rfl) T.g__law_draw (pa_cons (pv 0) (pa_cons pe_int pa_nil)))) pa_nil))) (pg_tup rfl (pgs_cons (pg_name (i := 3) sc__law_long_right.nd rfl (by first | exact Or.inl rfl | exact Or.inr rfl)) (pgs_cons (pg_name (i := 4) sc__law_long_right.nd rfl (by first | exact Or.inl rfl | exact Or.inr rfl)) pgs_nil)))) (pss_cons (ps_set (i := 5) sc__law_long_right.nd rfl (by first | exact Or.inl rfl | exact Or.inr rfl) (pe_mkd T.mk_DayMap (ok_DayMap___init__ T) hr (by decide) (by rfl) T.g_DayMap (pa_cons (pv 1) (pa_cons (pe_lc (own := [("_law_spot", 11)]) (g := gName 11) rfl sc__law_long_right.nd (pi_range1 (by rfl) T.n_range (pa_cons (pv 1) pa_nil)) (blkOk_by (N := N__law_long_right) (sc := defScope s__law_long_right) (by decide +kernel)) (fun _ _ _ _ _ => pg_name (i := 11) sc__law_long_right.nd rfl (by first | exact Or.inl rfl | exact Or.inr rfl)) (fun _ _ _ _ _ => pts_nil) (fun _ _ _ _ _ => (pe_op op_mul (pv 4) (pe_callTy call_int1 (by rfl) T.n_int (by decide +kernel) (pa_cons (pe_cmpR op_eq (pv 11) (pv 3) (nomark _)) pa_nil))))) pa_nil)))) (pss_cons (ps_set (i := 6) sc__law_long_right.nd rfl (by first | exact Or.inl rfl | exact Or.inr rfl) (pe_mkd T.mk_DayMap (ok_DayMap___init__ T) hr (by decide) (by rfl) T.g_DayMap (pa_cons (pv 2) (pa_cons (pe_lc (own := [("_law_spot", 11)]) (g := gName 11) rfl sc__law_long_right.nd (pi_range1 (by rfl) T.n_range (pa_cons (pv 2) pa_nil)) (blkOk_by (N := N__law_long_right) (sc := defScope s__law_long_right) (by decide +kernel)) (fun _ _ _ _ _ => pg_name (i := 11) sc__law_long_right.nd rfl (by first | exact Or.inl rfl | exact Or.inr rfl)) (fun _ _ _ _ _ => pts_nil) (fun _ _ _ _ _ => (pe_op op_mul (pv 4) (pe_callTy call_int1 (by rfl) T.n_int (by decide +kernel) (pa_cons (pe_cmpR op_eq (pv 11) (pv 3) (nomark _)) pa_nil))))) pa_nil)))) (pss_cons (ps_asg (pe_tup (pa_cons (pe_cmd0 (pe_gk (by rfl) ⟨_, T.g_DayMap, rfl⟩) T.cr_DayMap T.cm_DayMap_identity (ok_DayMap_identity T) hr (by decide)) (pa_cons (pe_cd (ok__law_draw T) hr (by decide) (by rfl) T.g__law_draw (pa_cons (pv 0) (pa_cons pe_int pa_nil))) pa_nil))) (pg_tup rfl (pgs_cons (pg_name (i := 7) sc__law_long_right.nd rfl (by first | exact Or.inl rfl | exact Or.inr rfl)) (pgs_cons (pg_name (i := 8) sc__law_long_right.nd rfl (by first | exact Or.inl rfl | exact Or.inr rfl)) pgs_nil)))) (pss_cons (ps_if (pt_cmpR (op_neD (DL.unitsOf hr)) (pe_lamD (k := 5) TB LD rfl rfl (by rfl) T.g__law_limit F__law_limit (F__law_limit.bindsN fun _ _ _ _ _ _ us hl => match us, hl with | [_], _ => rfl) sc__law_limit rfl (by first | exact Or.inl rfl | exact Or.inr (Or.inl rfl) | exact Or.inr (Or.inr rfl)) (fun cdg => gv__law_limit T (lamQual "_law_long_right") cdg) (hr.mono (by decide)) (LamX.lamS_by (sc := defScope s__law_long_right) (by decide +kernel)) rfl (fun _ _ _ _ _ => rfl) (fun A outer s H E f c' hr => (pe_cdX (ok_spelled T) hr (by decide) (by rfl) T.g_spelled (takes_of rfl rfl rfl rfl) (pa_cons (pv 5) (pa_cons (pe_lst (pa_cons (pv 7) (pa_cons (pv 6) pa_nil))) (pa_cons (pv 8) pa_nil)))))) (pe_tup (pa_cons pe_int (pa_cons pe_bl pa_nil))) (nomark _)) (pss_one (ps_ret pe_bl)) pss_nil) (pss_cons (ps_if (pt_cmpR (op_neD (DL.unitsOf hr)) (pe_lamD (k := 5) TB LD rfl rfl (by rfl) T.g__law_limit F__law_limit (F__law_limit.bindsN fun _ _ _ _ _ _ us hl => match us, hl with | [_], _ => rfl) sc__law_limit rfl (by first | exact Or.inl rfl | exact Or.inr (Or.inl rfl) | exact Or.inr (Or.inr rfl)) (fun cdg => gv__law_limit T (lamQual "_law_long_right") cdg) (hr.mono (by decide)) (LamX.lamS_by (sc := defScope s__law_long_right) (by decide +kernel)) rfl (fun _ _ _ _ _ => rfl) (fun A outer s H E f c' hr => (pe_cdX (ok_spelled T) hr (by decide) (by rfl) T.g_spelled (takes_of rfl rfl rfl rfl) (pa_cons (pv 7) (pa_cons (pe_lst (pa_cons (pv 5) (pa_cons (pv 7) (pa_cons (pv 6) pa_nil)))) (pa_cons pe_int pa_nil)))))) (pe_tup (pa_cons pe_int (pa_cons pe_bl pa_nil))) (nomark _)) (pss_one (ps_ret pe_bl)) pss_nil) (pss_cons (ps_set (i := 9) sc__law_long_right.nd rfl (by first | exact Or.inl rfl | exact Or.inr rfl) (pe_op op_add pe_int (pe_cd (ok__law_draw T) hr (by decide) (by rfl) T.g__law_draw (pa_cons (pv 0) (pa_cons pe_int pa_nil))))) (pss_cons (ps_set (i := 10) sc__law_long_right.nd rfl (by first | exact Or.inl rfl | exact Or.inr rfl) (pe_mkd T.mk_DayMap (ok_DayMap___init__ T) hr (by decide) (by rfl) T.g_DayMap (pa_cons (pe_op op_add (pv 9) pe_int) (pa_cons (pe_lc (own := [("_law_spot", 11)]) (g := gName 11) rfl sc__law_long_right.nd (pi_range1 (by rfl) T.n_range (pa_cons (pe_op op_add (pv 9) pe_int) pa_nil)) (blkOk_by (N := N__law_long_right) (sc := defScope s__law_long_right) (by decide +kernel)) (fun _ _ _ _ _ => pg_name (i := 11) sc__law_long_right.nd rfl (by first | exact Or.inl rfl | exact Or.inr rfl)) (fun _ _ _ _ _ => pts_nil) (fun _ _ _ _ _ => (pe_op op_mul (pv 4) (pe_callTy call_int1 (by rfl) T.n_int (by decide +kernel) (pa_cons (pe_cmpR op_eq (pv 11) (pv 9) (nomark _)) pa_nil))))) pa_nil)))) (pss_cons (ps_if (PW.pt (pw_or (pt_cmpR (op_neD (DL.unitsOf hr)) (pe_cdL (ok_spelled T) hr (by decide) (by rfl) T.g_spelled (pa_cons (pv 10) (pa_cons (pe_lst (pa_cons (pv 7) (pa_cons (ClX.pe_cmeth (pe_gk (by rfl) ⟨_, T.g_DayMap, rfl⟩) T.cr_DayMap T.cm_DayMap_shift (ok_DayMap_shift T) (hr.mono (by decide)) pass0 (pa_cons (pv 4) pa_nil)) (pa_cons (pv 10) pa_nil)))) (pa_cons pe_int pa_nil)))) (pe_lst (pa_cons pe_int pa_nil)) (nomark _)) (pw_or1 (pt_cmpR (op_neD (DL.unitsOf hr)) (pe_cdL (ok_spelled T) hr (by decide) (by rfl) T.g_spelled (pa_cons (pv 7) (pa_cons (pe_lst (pa_cons (pv 10) pa_nil)) (pa_cons pe_int pa_nil)))) (pe_lst pa_nil) (nomark _))))) (pss_one (ps_ret pe_bl)) pss_nil) (pss_one (ps_ret (pe_cmpR (op_eqD (DL.unitsOf hr)) (pe_cdL (ok_spelled T) hr (by decide) (by rfl) T.g_spelled (pa_cons (pv 5) (pa_cons (pe_lst (pa_cons (pv 5) (pa_cons (pv 7) pa_nil))) (pa_cons (pv 8) pa_nil)))) (pe_ifExp (pt_cmpR op_gt (pv 8) pe_int (nomark _)) (pe_lst (pa_cons pe_int pa_nil)) pe_non) (nomark _))))))))))))))
theorem ok__law_long_right (T : Tx K mg) (TB : TabsB K mg base) : FnD P w K mg base CX0 8 (He.ga K "_law_long_right") (C__law_long_right K) := by
  obtain ⟨fd, F⟩ := T.d__law_long_right
  obtain ⟨lc, lP, LD⟩ := T.lam__law_long_right
  exact ⟨⟨fd, ["_law_pen_here"], DL.FunD.okC F sc__law_long_right (spD_len (C := (C__law_long_right K)) (n := 1) fun ds S P PX h => by obtain ⟨_, _, _, rfl, _⟩ := h; rfl) (fun A outer s H vs Q E hr h => ⟨t__law_long_right K, PSs.nox (ty__law_long_right T TB LD hr), bodyD (run__law_long_right T.fx) h⟩), F.bindsN fun _ _ _ _ _ _ us hl => match us, hl with | [_], _ => rfl, F.kp⟩⟩
theorem sc_law : FnScope N_law ["_law_script"] (defScope s_law) := ⟨rfl, rfl, rfl, by decide +kernel, rfl, by decide +kernel, by decide +kernel⟩
theorem ty_law (T : Tx K mg) (TB : TabsB K mg base) {A : Around} {outer : List Env} {s : Shared} {H : Hp} {E : XK} {cdv : Value} {f : Addr} (hg : (A.deeper (envOfC "law" (defScope s_law) s.heap.objs.size f cdv)).guards = some []) (hr : Room 8 (A.deeper (envOfC "law" (defScope s_law) s.heap.objs.size f cdv))) :
    PSs (cxOf CX0 P w K mg base N_law "law" (defScope s_law) f cdv A outer s H E).nox (defBody s_law) (t_law K) := by
  unfold t_law
  exact (pss_cons (ps_set (i := 1) sc_law.nd rfl (by first | exact Or.inl rfl | exact Or.inr rfl) (pe_cd (ok__law_pen T) hr (by decide) (by rfl) T.g__law_pen (pa_cons (pv 0) pa_nil))) (pss_cons (ps_for PassesOwn.never rfl (pi_range1 (by rfl) T.n_range (pa_cons (pe_op op_add pe_int (pe_callB (call_min2 rfl) (by rfl) T.n_min (by decide +kernel) (pa_cons pe_int (pa_cons (pe_callB call_len_seq (by rfl) T.n_len (by decide +kernel) (pa_cons (pv 0) pa_nil)) pa_nil)))) pa_nil)) (pg_name (i := 2) sc_law.nd rfl (by first | exact Or.inl rfl | exact Or.inr rfl)) (pss_cons (ps_set (i := 3) sc_law.nd rfl (by first | exact Or.inl rfl | exact Or.inr rfl) (pe_lc (own := [("_law_k", 10)]) (g := gName 10) rfl sc_law.nd (pi_range1 (by rfl) T.n_range (pa_cons (pe_op op_add pe_int (pe_cd (ok__law_draw T) hr (by decide) (by rfl) T.g__law_draw (pa_cons (pv 1) (pa_cons pe_int pa_nil)))) pa_nil)) (blkOk_by (N := N_law) (sc := defScope s_law) (by decide +kernel)) (fun _ _ _ _ _ => pg_name (i := 10) sc_law.nd rfl (by first | exact Or.inl rfl | exact Or.inr rfl)) (fun _ _ _ _ _ => pts_nil) (fun _ _ _ _ _ => (pe_cd (ok__law_rows T) hr (by decide) (by rfl) T.g__law_rows (pa_cons (pv 1) (pa_cons pe_int pa_nil)))))) (pss_cons (ps_set (i := 3) sc_law.nd rfl (by first | exact Or.inl rfl | exact Or.inr rfl) (pe_slice sl_list (pe_op op_cat (pv 3) (pe_op op_rep (pe_lst (pa_cons (pe_ix ix_list (pv 3) pe_int (fun _ _ => rfl)) pa_nil)) (pe_callTy call_int1 (by rfl) T.n_int (by decide +kernel) (pa_cons (pe_cmpR op_eq (pe_cd (ok__law_draw T) hr (by decide) (by rfl) T.g__law_draw (pa_cons (pv 1) (pa_cons pe_int pa_nil))) pe_int (nomark _)) pa_nil)))) po_none (po_some pe_int))) (pss_cons (ps_set (i := 4) sc_law.nd rfl (by first | exact Or.inl rfl | exact Or.inr rfl) (pe_cd (ok__law_draw T) hr (by decide) (by rfl) T.g__law_draw (pa_cons (pv 1) (pa_cons (pe_ifExp (pt_cmpR op_eq (pe_callB call_len_seq (by rfl) T.n_len (by decide +kernel) (pa_cons (pv 3) pa_nil)) pe_int (nomark _)) pe_int pe_int) pa_nil)))) (pss_cons (ps_setLc (i := 5) (own := [("_law_k", 10)]) (g := gName 10) rfl sc_law.nd rfl rfl (sw_true rfl rfl rfl (by decide +kernel)) (pi_range1 (by rfl) T.n_range (pa_cons (pe_cd (ok__law_draw T) hr (by decide) (by rfl) T.g__law_draw (pa_cons (pv 1) (pa_cons pe_int pa_nil))) pa_nil)) (blkOk_by (N := N_law) (sc := defScope s_law) (by decide +kernel)) (fun _ _ _ _ _ => pg_name (i := 10) sc_law.nd rfl (by first | exact Or.inl rfl | exact Or.inr rfl)) (fun _ _ _ _ _ => pts_nil) (fun _ _ _ _ _ => (pe_cd (ok__law_draw T) hr (by decide) (by rfl) T.g__law_draw (pa_cons (pv 1) (pa_cons (pe_callB call_len_seq (by rfl) T.n_len (by decide +kernel) (pa_cons (pv 3) pa_nil)) pa_nil))))) (pss_cons (ps_set (i := 6) sc_law.nd rfl (by first | exact Or.inl rfl | exact Or.inr rfl) (pe_cd (ok__law_pick T) hr (by decide) (by rfl) T.g__law_pick (pa_cons (pv 1) (pa_cons (pe_lst (pa_cons (pe_cd (ok__law_product T) hr (by decide) (by rfl) T.g__law_product (pa_cons (pv 3) (pa_cons (pv 5) pa_nil))) (pa_cons (pe_cd (ok__law_product T) hr (by decide) (by rfl) T.g__law_product (pa_cons (pv 3) (pa_cons (pv 5) pa_nil))) (pa_cons (pe_lst (pa_cons pe_int pa_nil)) (pa_cons (pe_cd (ok__law_rows T) hr (by decide) (by rfl) T.g__law_rows (pa_cons (pv 1) (pa_cons pe_int pa_nil))) pa_nil))))) pa_nil)))) (pss_cons (ps_set (i := 7) sc_law.nd rfl (by first | exact Or.inl rfl | exact Or.inr rfl) pe_non) (pss_cons (ps_for PassesOwn.never rfl (pi_list (pe_cd (ok__law_lists T) hr (by decide) (by rfl) T.g__law_lists (pa_cons (pe_callB call_len_seq (by rfl) T.n_len (by decide +kernel) (pa_cons (pv 3) pa_nil)) (pa_cons (pv 4) pa_nil)))) (pg_name (i := 8) sc_law.nd rfl (by first | exact Or.inl rfl | exact Or.inr rfl)) (pss_one (ps_if (PW.pt (pw_and (pt_cmpR op_isN (pv 7) pe_non (nomark _)) (pw_and1 (pt_cmpR (op_eqD (DL.unitsOf hr)) (pe_cd (ok__law_product T) hr (by decide) (by rfl) T.g__law_product (pa_cons (pv 3) (pa_cons (pv 8) pa_nil))) (pe_cd (ok__law_least_rows T) hr (by decide) (by rfl) T.g__law_least_rows (pa_cons (pv 6) pa_nil)) (nomark _))))) (pss_one (ps_set (i := 7) sc_law.nd rfl (by first | exact Or.inl rfl | exact Or.inr rfl) (pv 8))) pss_nil))) (pss_cons (ps_setLc (i := 9) (own := [("_law_rows_here", 11)]) (g := gName 11) rfl sc_law.nd rfl rfl (sw_true rfl rfl rfl (by decide +kernel)) (pi_list (pv 3)) (blkOk_by (N := N_law) (sc := defScope s_law) (by decide +kernel)) (fun _ _ _ _ _ => pg_name (i := 11) sc_law.nd rfl (by first | exact Or.inl rfl | exact Or.inr rfl)) (fun _ _ _ _ _ => pts_nil) (fun _ _ _ _ _ => (pe_cd (ok__law_map T) hr (by decide) (by rfl) T.g__law_map (pa_cons (pv 11) pa_nil)))) (pss_cons (ps_if (pt_cmpR op_ne (pe_callB (LX.call_reprG hg (units65 hr)) (by rfl) T.n_repr (by decide +kernel) (pa_cons (pe_cdL (ok_spelled T) hr (by decide) (by rfl) T.g_spelled (pa_cons (pe_cd (ok__law_map T) hr (by decide) (by rfl) T.g__law_map (pa_cons (pv 6) pa_nil)) (pa_cons (pe_cd (ok__law_pick T) hr (by decide) (by rfl) T.g__law_pick (pa_cons (pv 1) (pa_cons (pe_lst (pa_cons (pv 9) (pa_cons (pe_callTy call_tuple_of (by rfl) T.n_tuple (by decide +kernel) (pa_cons (pv 9) pa_nil)) pa_nil))) pa_nil))) (pa_cons (pv 4) pa_nil)))) pa_nil)) (pe_callB (LX.call_reprG hg (units65 hr)) (by rfl) T.n_repr (by decide +kernel) (pa_cons (pv 7) pa_nil)) (nomark _)) (pss_one (ps_ret pe_bl)) pss_nil) (pss_one (ps_if (PW.pt (pw_or (pt_cmpR op_ne (pe_callB call_len_seq (by rfl) T.n_len (by decide +kernel) (pa_cons (pv 9) pa_nil)) (pe_callB call_len_seq (by rfl) T.n_len (by decide +kernel) (pa_cons (pv 3) pa_nil)) (nomark _)) (pw_or1 (pt_not (pt_cmpR (op_ownEqD (ok_Map___eq__ T) hr (by decide) T.eq_DayMap T.fe_DayMap) (pe_ix ix_list (pv 9) pe_int (fun _ _ => rfl)) (pe_cd (ok__law_map T) hr (by decide) (by rfl) T.g__law_map (pa_cons (pe_ix ix_list (pv 3) pe_int (fun _ _ => rfl)) pa_nil)) (nomark _)))))) (pss_one (ps_ret pe_bl)) pss_nil)))))))))))) (pss_one (ps_ret (pe_cd (ok__law_long_right T TB) hr (by decide) (by rfl) T.g__law_long_right (pa_cons (pv 1) pa_nil))))))
end
end Y

set_option maxHeartbeats 0
/-! Y77H: from the head to the walk (printed by walk2.py). -/
namespace Y
open PySem PySem.Spec PyProof.Rows L2 DL
def fns0 : DefA := ⟨fun _ => 0, "", "", defArgs s_law, [], defScope s_law, [], []⟩
theorem tx_of {K : Frag} {h : Heap} {mg : Str → Option Value} (X : K.In h) (G : h.Ns mainGlobals mg) (c : obsA fas exs fns K = valA fns) : Tx K mg := by
  have mf : ∀ (i : Nat) {f : He.Fa}, fas[i]? = some f → f.ok K = true := fun i f h => saysA_fa c (List.mem_of_getElem? h)
  have eb : ∀ (i : Nat) {b : Bool}, (exs K)[i]? = some b → b = true := fun i b h => saysA_ex c h
  exact ⟨He.cls_ok (mf 0 (f := .cls "DayMap") rfl),
    cmA_ok (eb 0 rfl),
    cmA_ok (eb 1 rfl),
    crA_ok (eb 2 rfl),
    (by
      obtain ⟨fd, F⟩ := saysA_fn c 33 (d := fns.getD 33 fns0) rfl
      obtain ⟨oc, od, dV, kV, doc, pm, an, cdv, ct, osl, rfl, lk, hcd, h1, h2⟩ := F.ex
      obtain ⟨rfl, rfl⟩ := noDfl (eb 14 rfl) lk
      exact ⟨excA_ok (eb 15 rfl), He.eqO_ok (eb 16 rfl), He.eqO_ok (eb 5 rfl), He.eqO_ok (eb 17 rfl), of_decide_eq_true (eb 18 rfl), (eb 19 rfl), of_decide_eq_true (eb 20 rfl), of_decide_eq_true (eb 21 rfl), ⟨oc, od, doc, pm, an, cdv, ct, osl, _, _, _, _, _, _, lk, hcd⟩⟩),
    He.eqO_ok (eb 3 rfl),
    (eb 4 rfl),
    He.glo_ok X G (mf 1 (f := .glo "DayMap") rfl),
    He.glo_ok X G (mf 2 (f := .glo "Map") rfl),
    He.glo_ok X G (mf 3 (f := .glo "TooLong") rfl),
    He.glo_ok X G (mf 4 (f := .glo "_law_at") rfl),
    He.glo_ok X G (mf 5 (f := .glo "_law_common") rfl),
    He.glo_ok X G (mf 6 (f := .glo "_law_draw") rfl),
    He.glo_ok X G (mf 7 (f := .glo "_law_gcd") rfl),
    He.glo_ok X G (mf 8 (f := .glo "_law_least_rows") rfl),
    He.glo_ok X G (mf 9 (f := .glo "_law_limit") rfl),
    He.glo_ok X G (mf 10 (f := .glo "_law_lists") rfl),
    He.glo_ok X G (mf 11 (f := .glo "_law_long_right") rfl),
    He.glo_ok X G (mf 12 (f := .glo "_law_map") rfl),
    He.glo_ok X G (mf 13 (f := .glo "_law_pen") rfl),
    He.glo_ok X G (mf 14 (f := .glo "_law_pick") rfl),
    He.glo_ok X G (mf 15 (f := .glo "_law_piece_rows") rfl),
    He.glo_ok X G (mf 16 (f := .glo "_law_product") rfl),
    He.glo_ok X G (mf 17 (f := .glo "_law_rising_rows") rfl),
    He.glo_ok X G (mf 18 (f := .glo "_law_rows") rfl),
    He.glo_ok X G (mf 19 (f := .glo "_law_shuffled") rfl),
    He.glo_ok X G (mf 20 (f := .glo "_law_then") rfl),
    He.glo_ok X G (mf 21 (f := .glo "common_divisor") rfl),
    He.glo_ok X G (mf 22 (f := .glo "common_multiple") rfl),
    He.glo_ok X G (mf 23 (f := .glo "common_period") rfl),
    He.glo_ok X G (mf 24 (f := .glo "is_integer") rfl),
    He.glo_ok X G (mf 25 (f := .glo "is_period") rfl),
    He.glo_ok X G (mf 26 (f := .glo "joined_offsets") rfl),
    He.glo_ok X G (mf 27 (f := .glo "least_period") rfl),
    He.glo_ok X G (mf 28 (f := .glo "shared_values") rfl),
    He.glo_ok X G (mf 29 (f := .glo "spelled") rfl),
    (let ⟨t, e⟩ := He.int_ok X G (mf 30 (f := .int "MAX_PERIOD" 200000) rfl); ⟨_, e, ⟨t, rfl⟩⟩),
    He.meth_ok (mf 31 (f := .meth "DayMap" "table") rfl),
    He.mkr_ok (mf 32 (f := .mkr "DayMap") rfl),
    He.free_ok X G (mf 33 (f := .free "OverflowError") rfl),
    He.free_ok X G (mf 34 (f := .free "abs") rfl),
    He.free_ok X G (mf 35 (f := .free "all") rfl),
    He.free_ok X G (mf 36 (f := .free "bool") rfl),
    He.free_ok X G (mf 37 (f := .free "enumerate") rfl),
    He.free_ok X G (mf 38 (f := .free "int") rfl),
    He.free_ok X G (mf 39 (f := .free "isinstance") rfl),
    He.free_ok X G (mf 40 (f := .free "len") rfl),
    He.free_ok X G (mf 41 (f := .free "list") rfl),
    He.free_ok X G (mf 42 (f := .free "min") rfl),
    He.free_ok X G (mf 43 (f := .free "range") rfl),
    He.free_ok X G (mf 44 (f := .free "repr") rfl),
    He.free_ok X G (mf 45 (f := .free "tuple") rfl),
    He.eqO_ok (eb 5 rfl),
    propA_ok (eb 6 rfl),
    L2.xfB_ok (eb 7 rfl),
    He.noat_ok (mf 46 (f := .noat "DayMap" "rows") rfl),
    insA_ok (He.cls_ok (mf 0 (f := .cls "DayMap") rfl)) (eb 8 rfl),
    of_decide_eq_true (eb 9 rfl),
    of_decide_eq_true (eb 10 rfl),
    iscA_ok (eb 11 rfl),
    of_decide_eq_true (eb 12 rfl),
    of_decide_eq_true (eb 13 rfl),
    saysA_fn c 0 (d := fns.getD 0 fns0) rfl,
    saysA_fn c 1 (d := fns.getD 1 fns0) rfl,
    saysA_fn c 2 (d := fns.getD 2 fns0) rfl,
    saysA_fn c 3 (d := fns.getD 3 fns0) rfl,
    saysA_fn c 4 (d := fns.getD 4 fns0) rfl,
    saysA_fn c 5 (d := fns.getD 5 fns0) rfl,
    saysA_fn c 6 (d := fns.getD 6 fns0) rfl,
    saysA_fn c 7 (d := fns.getD 7 fns0) rfl,
    saysA_fn c 8 (d := fns.getD 8 fns0) rfl,
    saysA_fn c 9 (d := fns.getD 9 fns0) rfl,
    saysA_fn c 10 (d := fns.getD 10 fns0) rfl,
    saysA_fn c 11 (d := fns.getD 11 fns0) rfl,
    saysA_fn c 12 (d := fns.getD 12 fns0) rfl,
    saysA_fn c 13 (d := fns.getD 13 fns0) rfl,
    saysA_fn c 14 (d := fns.getD 14 fns0) rfl,
    saysA_fn c 15 (d := fns.getD 15 fns0) rfl,
    saysA_fn c 16 (d := fns.getD 16 fns0) rfl,
    saysA_fn c 17 (d := fns.getD 17 fns0) rfl,
    saysA_fn c 18 (d := fns.getD 18 fns0) rfl,
    saysA_fn c 19 (d := fns.getD 19 fns0) rfl,
    saysA_fn c 20 (d := fns.getD 20 fns0) rfl,
    saysA_fn c 21 (d := fns.getD 21 fns0) rfl,
    saysA_fn c 22 (d := fns.getD 22 fns0) rfl,
    saysA_fn c 23 (d := fns.getD 23 fns0) rfl,
    saysA_fn c 24 (d := fns.getD 24 fns0) rfl,
    saysA_fn c 25 (d := fns.getD 25 fns0) rfl,
    saysA_fn c 26 (d := fns.getD 26 fns0) rfl,
    saysA_fn c 27 (d := fns.getD 27 fns0) rfl,
    saysA_fn c 28 (d := fns.getD 28 fns0) rfl,
    saysA_fn c 29 (d := fns.getD 29 fns0) rfl,
    saysA_fn c 30 (d := fns.getD 30 fns0) rfl,
    saysA_fn c 31 (d := fns.getD 31 fns0) rfl,
    saysA_fn c 32 (d := fns.getD 32 fns0) rfl,
    lamA_ok (by decide) (eb 22 rfl)⟩
end Y

set_option maxHeartbeats 0
/-! Y77Z: the run of the top. -/
namespace Y
open PySem PySem.Spec PyProof.Rows L2 DL
abbrev R : PySem.W.OpenRow := PySem.W.OpenLaw.row PySem.Challenge.rw_dayrecipes_k77_maps_spelled
abbrev hk : PySem.W.Hook := hookA 6 fas exs fns
def ob (s : PySem.W.SharedT) : AlA := obsAG 6 fas exs fns (HandSHeadRun.getT s)
theorem ob_eq (s : PySem.W.SharedT) : ob s = hk.obs s.abs := by
  have e : HandSHeadRun.getT s = s.abs.heap.get? := funext (HandSHeadRun.getT_eq s)
  show obsAG _ _ _ _ _ = obsAG _ _ _ _ _
  rw [e]
def loose : List Str := "_wall" :: "InvalidDate" :: "InvalidMap" :: "InvalidCount" :: "TooLong" :: "MAX_PERIOD" :: "is_integer" :: "is_period" :: "common_divisor" :: "common_multiple" :: "common_period" :: "least_period" :: "MAX_COUNT" :: "joined_offsets" :: "spread_offsets" :: "common_offsets" :: "repeated_offsets" :: "Map" :: "DayMap" :: "shared_values" :: "spelled" :: "_law_pen" :: "_law_draw" :: "_law_pick" :: "_law_shuffled" :: "_law_gcd" :: "_law_rising_rows" :: "_law_piece_rows" :: "_law_rows" :: "_law_at" :: "_law_least_rows" :: "_law_common" :: "_law_then" :: "_law_map" :: "_law_lists" :: "_law_product" :: "_law_limit" :: "_law_long_right" :: []
theorem run (w : World) : HandSHeadRun.RunEq R (PySem.W.view R.prog [44]) hk ob 5000 loose w := by
  intro os
  kernel_rfl
end Y

set_option maxHeartbeats 0
/-! Y77F: the law holds. -/
namespace Y
open PySem PySem.Spec PyProof.Rows L2 DL
/-- what never changes of H -/
def noTbl (H : Hp) : Hp := fun b => match H b with
  | some (.tbl _) => none
  | o => o
theorem noTbl_some {H : Hp} {b : Addr} {o : HO} (h : noTbl H b = some o) : H b = some o ∧ ∀ ps, o ≠ .tbl ps := by
  unfold noTbl at h
  split at h
  · cases h
  · rename_i n
    exact ⟨h, fun ps z => n ps (by rw [h, z])⟩
theorem noTbl_at {H : Hp} {b : Addr} {o : HO} (h : H b = some o) (n : ∀ ps, o ≠ .tbl ps) : noTbl H b = some o := by
  unfold noTbl
  split
  · rename_i ps z
    rw [h] at z
    exact (n ps (Option.some.inj z)).elim
  · exact h
theorem start_ok {K : Frag} {H : Hp} {a : Addr} {ns : List Int} (few : ns.length ≤ 63) (hT : ∀ p ∈ lamCs K, H p.2 = some (.tbl #[])) (hS : SqL K H a (ns.map V.int)) : spD K (C_law K) [.ref a] H (fun v _ => v = .bl true) fun _ _ _ => False := by
  have hS2 : SqL K (noTbl H) a (ns.map V.int) := by
    rcases hS with (h | ⟨o, h⟩) | h
    · exact .inl (.inl (noTbl_at h fun ps z => by cases z))
    · exact .inl (.inr ⟨o, noTbl_at h fun ps z => by cases z⟩)
    · exact .inr h
  refine ⟨noTbl H, fun _ => none, [.klst (ns.map .int)], fun d _ => d = .bl true, PX0, ⟨fun a o h => (noTbl_some h).1, fun _ _ e => (by cases e), fun p hp => ?_, fun a ps h => (noTbl_some h).2 ps rfl⟩, .cons (.klst hS2 (ints_reps ns)) .nil, ⟨ns, rfl, Nat.lt_of_le_of_lt few (by decide), fun _ => rfl⟩, fun G' H' S' v d _ _ r p => by
    subst p
    cases r
    rfl, XkOk.none⟩
  unfold tabsOf at hp
  obtain ⟨n, hn, e⟩ := List.mem_filterMap.mp hp
  obtain ⟨cp, h1, h2⟩ := Option.map_eq_some_iff.mp e
  have h3 := hT cp (List.mem_filterMap.mpr ⟨n, hn, h1⟩)
  subst h2
  refine ⟨⟨#[], h3, by trivial, fun pos cv z => by cases z⟩, ?_, rfl⟩
  unfold noTbl
  dsimp only
  rw [h3]
theorem tabs_of {K : Frag} {mg : Str → Option Value} {base : Heap} (h : ∀ p ∈ lamCs K, LamX.TabB base mg p.1 p.2) : TabsB K mg base := fun n hn c P e => h (c, P) (List.mem_filterMap.mpr ⟨n, hn, e⟩)
theorem g_law {K : Frag} {h : Heap} {mg : Str → Option Value} (X : K.In h) (G : h.Ns mainGlobals mg) (c : SaysA fas exs fns h K) : mg ("law" : Str) = some (.ref (He.ga K "law")) := He.glo_ok X G (saysA_fa c.t (f := .glo "law") (List.mem_of_getElem? (i := 47) rfl))
theorem law_run {P : Program} {w : World} {K : Frag} {mg : Str → Option Value} {fa a : Addr} {ns : List Int} {s : Shared} (T : Tx K mg) (hfa : mg ("law" : Str) = some (.ref fa)) (g0 : mg ("law" : Str) = some (.ref (He.ga K "law"))) (few : ns.length ≤ 63) : EndG.RunAt P w K mg CX0 fa a (lamCs K) ns s := by
  intro base H b1 b2 b3 e0 hT hS
  have e := hfa.symm.trans g0
  injection e with e
  injection e with e
  subst e
  obtain ⟨fd, F⟩ := T.d_law
  have hb := FunD.bindsA (ps := ["_law_script"]) F (fun _ _ _ _ _ _ us hl => match us, hl with | [_], _ => rfl) s [.ref a] rfl
  (obtain ⟨oc, od, dV, kV, doc, pm, an, cdv, ct, osl, rfl, lk, hcd, _, _⟩ := F.ex)
  exact LamX.run_ofS (N := N_law) (ps := ["_law_script"]) (us := [.ref a]) (vs := [.ref a]) lk hcd sc_law ⟨rfl, by decide, by decide⟩ e0 hb (.cons rfl .nil) rfl fun hr => ⟨t_law K, PSs.nox (ty_law T (tabs_of b3) rfl hr), bodyD (run_law T.fx) (start_ok few hT hS)⟩
end Y
open PySem.W PySem.Calls PyProof.Rows PySem
theorem PySem.Challenge.cw_dayrecipes_k77_maps_spelled_holds : PySem.Challenge.rw_dayrecipes_k77_maps_spelled.Holds := by
  w_on; o_law
  refine HandSHeadRun.head_any (r := OpenLaw.row PySem.Challenge.rw_dayrecipes_k77_maps_spelled) (q := view (OpenLaw.row PySem.Challenge.rw_dayrecipes_k77_maps_spelled).prog [44]) (H := Y.hk) (ob := Y.ob) (M := 5000) (loose := Y.loose) (d := HandSHeadRun.topDef (OpenLaw.row PySem.Challenge.rw_dayrecipes_k77_maps_spelled).prog 44) (kwd := []) Y.ob_eq
    (by kernel_rfl) (fun s => by kernel_rfl) Y.run (by kernel_rfl) (by kernel_rfl) (by kernel_rfl) (by rfl) (by first | assumption | decide +kernel) (by decide +kernel) ⟨rfl, rfl, rfl, rfl, rfl, by decide +kernel⟩ ?hw ?hc
  case hw => w_witness2
  case hc =>
    refine EndG.walk_end (l := PySem.Challenge.rw_dayrecipes_k77_maps_spelled) (n := 63) (CX := fun _ => L2.CX0) rfl (by decide) (by kernel_rfl) ?F (fun _ _ _ _ _ z => z)
    intro w mg fa h Y G hmg0
    obtain ⟨K, KX, c⟩ := Y
    have hmg : (mg ("law" : PySem.Str) = some (.ref fa)) := by
      have e : (HandSHeadRun.topDef (OpenLaw.row PySem.Challenge.rw_dayrecipes_k77_maps_spelled).prog 44).name = ("law" : PySem.Str) := by kernel_rfl
      rw [← e]
      exact hmg0
    have g0 : mg ("law" : PySem.Str) = some (.ref (He.ga K "law")) := Y.g_law KX G c
    exact ⟨K, Y.lamCs K, KX, c.empty, c.out, fun p hp => PySem.W.codeHd_of_K KX (c.hd p hp), fun s a ns _ hl => Y.law_run (Y.tx_of KX G c.t) hmg g0 hl⟩

