import PyProof.Rows.All
import Wide.All
import OpenK.AllK
import Wide.FinOn
import PySem.Challenge.RW_dayrecipes_k81_years_as_tables
import HandS.ForMost
import HandS.Flow
import HandS.Style
import HandS.SortRule
import HandS.SortInts
import HandS.StrMore
import HandS.FStr
import HandS.IsInst
import HandS.Deep
import HandS.Conv
import HandS.More
import HandS.Codes
import HandS.Property
import HandS.ClsMeth
import HandS.Defaults
import HandS.MakeKw
import HandS.MakeKwOnly
import HandS.TupAny
import HandS.SetFor
import HandS.RaiseMore
import HandS.HeadHook2
import HandS.CallLocal
import HandS.SetBool
import HandS.TupSets
import KE.KxField
import PyProof.LongRange
import HandS.Star
import HandS.Head0
import HandS.Head1
import HandS.Head2
import HandS.HeadEnd
import HandS.HeadHook1
import HandS.HeadHook3
import KE.KStateDown
import HandS.Ends
set_option Elab.async false
set_option linter.all false
set_option maxRecDepth 100000
set_option maxHeartbeats 1900000
/-! DL1: deep data, the store, worlds. -/
namespace DL
open PySem L2

abbrev Frag := PySem.W.Frag
/-- deep data: what a value stands for; loc: a mutable thing of the store; raw: any other object by its address -/
inductive D where
  | non | bl (b : Bool) | int (i : Int) | str (x : Str) | ty (n : String)
  | lst (xs : List D) | tup (xs : List D) | klst (xs : List D)
  | ins (C : Addr) (fs : List (Str × D))
  | dK (kvs : List (Key × D)) | dT (kvs : List (List Key × D))
  | loc (a : Addr) | raw (a : Addr)

/-- G' knows all that G knows -/
def Sub (G G' : Hp) : Prop := ∀ a o, G a = some o → G' a = some o
theorem Sub.refl (G : Hp) : Sub G G := fun _ _ h => h
theorem Sub.trans {G G1 G2 : Hp} (a : Sub G G1) (b : Sub G1 G2) : Sub G G2 := fun x o h => b x o (a x o h)
theorem Sub.free {G G' : Hp} (e : Sub G G') {a : Addr} (h : G' a = none) : G a = none := by
  cases q : G a with
  | none => rfl
  | some o => rw [e a o q] at h; cases h
theorem Sub.new {G : Hp} {p : Addr} {o : HO} (h : G p = none) : Sub G (upd G p o) := fun a u e => by
  rw [upd_ne (ne_of_none e h)]; exact e
theorem Sub.rd {G G' : Hp} {a : Addr} {u : HO} (e : Sub G G') (h : Rd G a u) : Rd G' a u := by
  rcases h with h | ⟨o, h⟩
  · exact .inl (e a _ h)
  · exact .inr ⟨o, e a _ h⟩
theorem Sub.l {K : Frag} {G G' : Hp} {a : Addr} {xs : List V} (e : Sub G G') (h : SqL K G a xs) : SqL K G' a xs := by
  rcases h with h | h
  · exact .inl (e.rd h)
  · exact .inr h
theorem Sub.t {K : Frag} {G G' : Hp} {a : Addr} {xs : List V} (e : Sub G G') (h : SqT K G a xs) : SqT K G' a xs := by
  rcases h with h | h
  · exact .inl (e.rd h)
  · exact .inr h

mutual
inductive Rep (K : Frag) (G : Hp) : V → D → Prop
  | non : Rep K G .non .non
  | bl (b : Bool) : Rep K G (.bl b) (.bl b)
  | int (i : Int) : Rep K G (.int i) (.int i)
  | str (x : Str) : Rep K G (.str x) (.str x)
  | ty (n : String) : Rep K G (.ty n) (.ty n)
  | loc (a : Addr) : Rep K G (.ref a) (.loc a)
  | raw (a : Addr) : Rep K G (.ref a) (.raw a)
  | lst {a : Addr} {vs : List V} {ds : List D} : G a = some (.lst vs) → Reps K G vs ds → Rep K G (.ref a) (.lst ds)
  | klst {a : Addr} {vs : List V} {ds : List D} : SqL K G a vs → Reps K G vs ds → Rep K G (.ref a) (.klst ds)
  | tup {a : Addr} {vs : List V} {ds : List D} : SqT K G a vs → Reps K G vs ds → Rep K G (.ref a) (.tup ds)
  | ins {a C dx : Addr} {fs : List (Str × V)} {gs : List (Str × D)} : G a = some (.ins C dx fs) → RepF K G fs gs → Rep K G (.ref a) (.ins C gs)
  | dK {a : Addr} {fs : List (Key × V)} {gs : List (Key × D)} : G a = some (.dK fs) → RepK K G fs gs → Rep K G (.ref a) (.dK gs)
  | dT {a : Addr} {fs : List (List Key × V)} {gs : List (List Key × D)} : G a = some (.dT fs) → RepT K G fs gs → Rep K G (.ref a) (.dT gs)
inductive Reps (K : Frag) (G : Hp) : List V → List D → Prop
  | nil : Reps K G [] []
  | cons {v : V} {d : D} {vs : List V} {ds : List D} : Rep K G v d → Reps K G vs ds → Reps K G (v :: vs) (d :: ds)
inductive RepF (K : Frag) (G : Hp) : List (Str × V) → List (Str × D) → Prop
  | nil : RepF K G [] []
  | cons {f : Str} {v : V} {d : D} {fs : List (Str × V)} {gs : List (Str × D)} : Rep K G v d → RepF K G fs gs → RepF K G ((f, v) :: fs) ((f, d) :: gs)
inductive RepK (K : Frag) (G : Hp) : List (Key × V) → List (Key × D) → Prop
  | nil : RepK K G [] []
  | cons {f : Key} {v : V} {d : D} {fs : List (Key × V)} {gs : List (Key × D)} : Rep K G v d → RepK K G fs gs → RepK K G ((f, v) :: fs) ((f, d) :: gs)
inductive RepT (K : Frag) (G : Hp) : List (List Key × V) → List (List Key × D) → Prop
  | nil : RepT K G [] []
  | cons {f : List Key} {v : V} {d : D} {fs : List (List Key × V)} {gs : List (List Key × D)} : Rep K G v d → RepT K G fs gs → RepT K G ((f, v) :: fs) ((f, d) :: gs)
end

section
variable {K : Frag} {G G' : Hp}
mutual
theorem Rep.mono (e : Sub G G') : ∀ {v : V} {d : D}, Rep K G v d → Rep K G' v d
  | _, _, .non => .non
  | _, _, .bl b => .bl b
  | _, _, .int i => .int i
  | _, _, .str x => .str x
  | _, _, .ty n => .ty n
  | _, _, .loc a => .loc a
  | _, _, .raw a => .raw a
  | _, _, .lst h r => .lst (e _ _ h) (Reps.mono e r)
  | _, _, .klst h r => .klst (e.l h) (Reps.mono e r)
  | _, _, .tup h r => .tup (e.t h) (Reps.mono e r)
  | _, _, .ins h r => .ins (e _ _ h) (RepF.mono e r)
  | _, _, .dK h r => .dK (e _ _ h) (RepK.mono e r)
  | _, _, .dT h r => .dT (e _ _ h) (RepT.mono e r)
theorem Reps.mono (e : Sub G G') : ∀ {vs : List V} {ds : List D}, Reps K G vs ds → Reps K G' vs ds
  | _, _, .nil => .nil
  | _, _, .cons r rs => .cons (Rep.mono e r) (Reps.mono e rs)
theorem RepF.mono (e : Sub G G') : ∀ {vs : List (Str × V)} {ds : List (Str × D)}, RepF K G vs ds → RepF K G' vs ds
  | _, _, .nil => .nil
  | _, _, .cons r rs => .cons (Rep.mono e r) (RepF.mono e rs)
theorem RepK.mono (e : Sub G G') : ∀ {vs : List (Key × V)} {ds : List (Key × D)}, RepK K G vs ds → RepK K G' vs ds
  | _, _, .nil => .nil
  | _, _, .cons r rs => .cons (Rep.mono e r) (RepK.mono e rs)
theorem RepT.mono (e : Sub G G') : ∀ {vs : List (List Key × V)} {ds : List (List Key × D)}, RepT K G vs ds → RepT K G' vs ds
  | _, _, .nil => .nil
  | _, _, .cons r rs => .cons (Rep.mono e r) (RepT.mono e rs)
end
theorem Reps.length : ∀ {vs : List V} {ds : List D}, Reps K G vs ds → vs.length = ds.length
  | _, _, .nil => rfl
  | _, _, .cons _ rs => by rw [List.length_cons, List.length_cons, Reps.length rs]
theorem Reps.getD : ∀ {vs : List V} {ds : List D} {i : Nat} {d : D}, Reps K G vs ds → ds[i]? = some d → ∃ v, vs[i]? = some v ∧ Rep K G v d
  | _, _, _, _, .nil, e => (by simp at e)
  | _, _, 0, _, .cons r _, e => by (skip); simp at e; subst e; exact ⟨_, rfl, r⟩
  | _, _, i + 1, d, .cons _ t, e => by
    obtain ⟨u, h1, h2⟩ := Reps.getD (i := i) (d := d) t (by simpa using e)
    (exact ⟨u, by simpa using h1, h2⟩)
theorem Reps.getV : ∀ {vs : List V} {ds : List D} {i : Nat} {v : V}, Reps K G vs ds → vs[i]? = some v → ∃ d, ds[i]? = some d ∧ Rep K G v d
  | _, _, _, _, .nil, e => (by simp at e)
  | _, _, 0, _, .cons r _, e => by (skip); simp at e; subst e; exact ⟨_, rfl, r⟩
  | _, _, i + 1, d, .cons _ t, e => by
    obtain ⟨u, h1, h2⟩ := Reps.getV (i := i) (v := d) t (by simpa using e)
    (exact ⟨u, by simpa using h1, h2⟩)
theorem Reps.append : ∀ {vs ws : List V} {ds es : List D}, Reps K G vs ds → Reps K G ws es → Reps K G (vs ++ ws) (ds ++ es)
  | _, _, _, _, .nil, s => s
  | _, _, _, _, .cons r t, s => .cons r (Reps.append t s)
theorem Reps.take : ∀ {vs : List V} {ds : List D} (n : Nat), Reps K G vs ds → Reps K G (vs.take n) (ds.take n)
  | _, _, 0, _ => .nil
  | _, _, _ + 1, .nil => .nil
  | _, _, n + 1, .cons r t => .cons r (Reps.take n t)
theorem Reps.drop : ∀ {vs : List V} {ds : List D} (n : Nat), Reps K G vs ds → Reps K G (vs.drop n) (ds.drop n)
  | _, _, 0, r => r
  | _, _, _ + 1, .nil => .nil
  | _, _, n + 1, .cons _ t => Reps.drop n t
theorem Reps.set {v : V} {d : D} (r : Rep K G v d) : ∀ {vs : List V} {ds : List D} (i : Nat), Reps K G vs ds → Reps K G (vs.set i v) (ds.set i d)
  | _, _, _, .nil => .nil
  | _, _, 0, .cons _ t => (.cons r t)
  | _, _, i + 1, .cons q t => .cons q (Reps.set r i t)
theorem Reps.reverse {vs : List V} {ds : List D} (r : Reps K G vs ds) : Reps K G vs.reverse ds.reverse := by induction vs generalizing ds with
  | nil => cases r; exact .nil
  | cons v vs ih =>
    cases r with
    | cons q t => rw [List.reverse_cons, List.reverse_cons]; exact (ih t).append (.cons q .nil)
theorem Reps.dropLast {vs : List V} {ds : List D} (r : Reps K G vs ds) : Reps K G vs.dropLast ds.dropLast := by
  rw [List.dropLast_eq_take, List.dropLast_eq_take, r.length]; exact r.take _
theorem Reps.eraseIdx : ∀ {vs : List V} {ds : List D} (n : Nat), Reps K G vs ds → Reps K G (vs.eraseIdx n) (ds.eraseIdx n)
  | _, _, _, .nil => .nil
  | _, _, 0, .cons _ t => t
  | _, _, n + 1, .cons q t => .cons q (Reps.eraseIdx n t)
theorem Reps.rep {vs : List V} {ds : List D} (r : Reps K G vs ds) : ∀ n : Nat, Reps K G (List.replicate n vs).flatten (List.replicate n ds).flatten
  | 0 => .nil
  | n + 1 => by rw [List.replicate_succ, List.replicate_succ, List.flatten_cons, List.flatten_cons]; exact r.append (Reps.rep r n)
theorem RepF.lookup {fs : List (Str × V)} {gs : List (Str × D)} (r : RepF K G fs gs) (f : Str) : (∃ v d, fs.lookup f = some v ∧ gs.lookup f = some d ∧ Rep K G v d) ∨ (fs.lookup f = none ∧ gs.lookup f = none) := by
  induction fs generalizing gs with
  | nil => cases r; exact .inr ⟨rfl, rfl⟩
  | cons p fs ih =>
    cases r with
    | cons q t =>
      rename_i g v d gs
      by_cases e : (f == g) = true
      · exact .inl ⟨v, d, by rw [List.lookup_cons, e], by rw [List.lookup_cons, e], q⟩
      · have e' : (f == g) = false := by simpa using e
        rw [List.lookup_cons, List.lookup_cons, e']
        exact ih t
theorem RepF.length {fs : List (Str × V)} {gs : List (Str × D)} (r : RepF K G fs gs) : fs.length = gs.length := by
  induction fs generalizing gs with
  | nil => cases r; rfl
  | cons p fs ih => cases r with | cons q t => rw [List.length_cons, List.length_cons, ih t]
def putD (f : Str) (d : D) : List (Str × D) → List (Str × D)
  | [] => [(f, d)]
  | (g, x) :: r => if g = f then (g, d) :: r else (g, x) :: putD f d r
theorem RepF.put {fs : List (Str × V)} {gs : List (Str × D)} (r : RepF K G fs gs) (f : Str) {v : V} {d : D} (q : Rep K G v d) : RepF K G (putF f v fs) (putD f d gs) := by
  induction fs generalizing gs with
  | nil => cases r; exact .cons q .nil
  | cons p fs ih =>
    cases r with
    | cons q' t =>
      rename_i g v' d' gs
      unfold putF putD
      by_cases e : g = f
      · rw [if_pos e, if_pos e]; exact .cons q t
      · rw [if_neg e, if_neg e]; exact .cons q' (ih t)
theorem lookup_putD (f g : Str) (d : D) : ∀ fs : List (Str × D), (putD f d fs).lookup g = if g = f then some d else fs.lookup g
  | [] => by
    unfold putD
    rw [List.lookup_cons]
    by_cases e : g = f
    · subst e; simp
    · have e' : (g == f) = false := by simpa using e
      rw [e', if_neg e]
  | (h, x) :: r => by
    unfold putD
    by_cases e : h = f
    · rw [if_pos e, List.lookup_cons, List.lookup_cons]
      subst e
      by_cases e2 : g = h
      · subst e2; simp
      · have e' : (g == h) = false := by simpa using e2
        rw [e', if_neg e2]
    · rw [if_neg e, List.lookup_cons, List.lookup_cons]
      by_cases e2 : (g == h) = true
      · rw [e2]
        have e3 : g = h := by simpa using e2
        subst e3
        rw [if_neg e]
      · have e' : (g == h) = false := by simpa using e2
        rw [e']
        exact lookup_putD f g d r
end

/-! ### the store -/
inductive M where
  | lst (xs : List D)
  | dK (kvs : List (Key × D)) | dT (kvs : List (List Key × D))
  | ins (C : Addr) (fs : List (Str × D))
abbrev Store := Addr → Option M
def Store.set (S : Store) (a : Addr) (m : M) : Store := fun b => if b = a then some m else S b
def Store.del (S : Store) (a : Addr) : Store := fun b => if b = a then none else S b
theorem Store.set_same {S : Store} {a : Addr} {m : M} : S.set a m a = some m := by unfold Store.set; rw [if_pos rfl]
theorem Store.set_ne {S : Store} {a b : Addr} {m : M} (h : b ≠ a) : S.set a m b = S b := by unfold Store.set; rw [if_neg h]
theorem Store.del_same {S : Store} {a : Addr} : S.del a a = none := by unfold Store.del; rw [if_pos rfl]
theorem Store.del_ne {S : Store} {a b : Addr} (h : b ≠ a) : S.del a b = S b := by unfold Store.del; rw [if_neg h]
theorem Store.set_set {S : Store} {a : Addr} {m m' : M} : (S.set a m).set a m' = S.set a m' := by
  funext b; unfold Store.set; split <;> rfl
theorem Store.del_set {S : Store} {a : Addr} {m : M} (h : S a = none) : (S.set a m).del a = S := by
  funext b; unfold Store.del Store.set
  by_cases e : b = a
  · rw [if_pos e, e, h]
  · rw [if_neg e, if_neg e]
def RepM (K : Frag) (G : Hp) : HO → M → Prop
  | .lst vs, .lst ds => Reps K G vs ds
  | .dK vs, .dK ds => RepK K G vs ds
  | .dT vs, .dT ds => RepT K G vs ds
  | .ins C _ vs, .ins C' ds => C = C' ∧ RepF K G vs ds
  | _, _ => False
theorem RepM.mono {K : Frag} {G G' : Hp} (e : Sub G G') : ∀ {o : HO} {m : M}, RepM K G o m → RepM K G' o m := by
  intro o m h
  cases o <;> cases m <;> first | exact h.elim | skip
  · exact Reps.mono e h
  · exact RepK.mono e h
  · exact RepT.mono e h
  · exact ⟨h.1, RepF.mono e h.2⟩

/-! ### worlds: G what never changes, H all that is tracked, S the mutable things -/
structure Wd (K : Frag) (G H : Hp) (S : Store) : Prop where
  sub : Sub G H
  own : ∀ a m, S a = some m → G a = none ∧ ∃ o, H a = some o ∧ RepM K G o m
structure Ext (G H : Hp) (S : Store) (G' H' : Hp) (S' : Store) : Prop where
  gsub : Sub G G'
  gnew : ∀ a o, G' a = some o → G a = some o ∨ H a = none
  keep : ∀ a o, H a = some o → S a = none → H' a = some o
  there : ∀ a, H' a = none → H a = none
  snew : ∀ a m, S' a = some m → S a ≠ none ∨ H a = none
  sold : ∀ a, S' a = none → S a = none
section
variable {K : Frag} {G H G1 H1 G2 H2 : Hp} {S S1 S2 : Store} {a p : Addr} {o : HO} {m : M}
theorem Ext.refl (w : Wd K G H S) : Ext G H S G H S where
  gsub := .refl G
  gnew := fun _ _ h => .inl h
  keep := fun _ _ h _ => h
  there := fun _ h => h
  snew := fun a m h => .inl (by rw [h]; exact fun z => by cases z)
  sold := fun _ h => h
theorem Ext.trans (x : Ext G H S G1 H1 S1) (y : Ext G1 H1 S1 G2 H2 S2) : Ext G H S G2 H2 S2 where
  gsub := x.gsub.trans y.gsub
  gnew := fun a o h => by
    rcases y.gnew a o h with h | h
    · exact x.gnew a o h
    · exact .inr (x.there a h)
  keep := fun a o h hs => y.keep a o (x.keep a o h hs) (by
    cases q : S1 a with
    | none => rfl
    | some m =>
      rcases x.snew a m q with z | z
      · exact absurd hs z
      · rw [h] at z; cases z)
  there := fun a h => x.there a (y.there a h)
  snew := fun a m h => by
    rcases y.snew a m h with z | z
    · cases q : S1 a with
      | none => exact absurd q z
      | some m' => exact x.snew a m' q
    · exact .inr (x.there a z)
  sold := fun a h => x.sold a (y.sold a h)
theorem Wd.free (w : Wd K G H S) (h : H p = none) : G p = none ∧ S p = none := by
  refine ⟨w.sub.free h, ?_⟩
  cases q : S p with
  | none => rfl
  | some m =>
    obtain ⟨_, o, e, _⟩ := w.own p m q
    rw [h] at e; cases e
/-- a new thing that never changes -/
theorem Wd.imm (w : Wd K G H S) (h : H p = none) : Wd K (upd G p o) (upd H p o) S where
  sub := fun b u e => by
    by_cases hb : b = p
    · subst hb; rw [upd_same] at e ⊢; exact e
    · rw [upd_ne hb] at e ⊢; exact w.sub b u e
  own := fun b m e => by
    have hb : b ≠ p := fun z => by subst z; rw [(w.free h).2] at e; cases e
    obtain ⟨e1, u, e2, r⟩ := w.own b m e
    exact ⟨by rw [upd_ne hb]; exact e1, u, by rw [upd_ne hb]; exact e2, r.mono (Sub.new (w.free h).1)⟩
theorem Ext.imm (w : Wd K G H S) (h : H p = none) : Ext G H S (upd G p o) (upd H p o) S where
  gsub := Sub.new (w.free h).1
  gnew := fun b u e => by
    by_cases hb : b = p
    · subst hb; exact .inr h
    · rw [upd_ne hb] at e; exact .inl e
  keep := fun b u e _ => by rw [upd_ne (ne_of_none e h)]; exact e
  there := fun b e => by
    by_cases hb : b = p
    · subst hb; exact h
    · rw [upd_ne hb] at e; exact e
  snew := fun b m e => .inl (by rw [e]; exact fun z => by cases z)
  sold := fun _ e => e
/-- a new mutable thing -/
theorem Wd.mut (w : Wd K G H S) (h : H p = none) (r : RepM K G o m) : Wd K G (upd H p o) (S.set p m) where
  sub := w.sub.trans (Sub.new h)
  own := fun b m' e => by
    by_cases hb : b = p
    · subst hb
      rw [Store.set_same] at e; cases e
      exact ⟨(w.free h).1, o, upd_same, r⟩
    · rw [Store.set_ne hb] at e
      obtain ⟨e1, u, e2, r'⟩ := w.own b m' e
      exact ⟨e1, u, by rw [upd_ne hb]; exact e2, r'⟩
theorem Ext.mut (w : Wd K G H S) (h : H p = none) : Ext G H S G (upd H p o) (S.set p m) where
  gsub := .refl G
  gnew := fun _ _ e => .inl e
  keep := fun b u e _ => by rw [upd_ne (ne_of_none e h)]; exact e
  there := fun b e => by
    by_cases hb : b = p
    · subst hb; exact h
    · rw [upd_ne hb] at e; exact e
  snew := fun b m' e => by
    by_cases hb : b = p
    · subst hb; exact .inr h
    · rw [Store.set_ne hb] at e; exact .inl (by rw [e]; exact fun z => by cases z)
  sold := fun b e => by
    by_cases hb : b = p
    · subst hb; rw [Store.set_same] at e; cases e
    · rw [Store.set_ne hb] at e; exact e
/-- a mutable thing written -/
theorem Wd.put {m' : M} {o' : HO} (w : Wd K G H S) (h : S p = some m) (r : RepM K G o' m') : Wd K G (upd H p o') (S.set p m') where
  sub := fun b u e => by
    have hb : b ≠ p := fun z => by subst z; rw [(w.own b m h).1] at e; cases e
    rw [upd_ne hb]; exact w.sub b u e
  own := fun b m'' e => by
    by_cases hb : b = p
    · subst hb
      rw [Store.set_same] at e; cases e
      exact ⟨(w.own b m h).1, o', upd_same, r⟩
    · rw [Store.set_ne hb] at e
      obtain ⟨e1, u, e2, r'⟩ := w.own b m'' e
      exact ⟨e1, u, by rw [upd_ne hb]; exact e2, r'⟩
theorem Ext.put {m' : M} {o' : HO} (w : Wd K G H S) (h : S p = some m) : Ext G H S G (upd H p o') (S.set p m') where
  gsub := .refl G
  gnew := fun _ _ e => .inl e
  keep := fun b u e hs => by
    have hb : b ≠ p := fun z => by subst z; rw [h] at hs; cases hs
    rw [upd_ne hb]; exact e
  there := fun b e => by
    by_cases hb : b = p
    · subst hb; rw [upd_same] at e; cases e
    · rw [upd_ne hb] at e; exact e
  snew := fun b m'' e => by
    by_cases hb : b = p
    · subst hb; exact .inl (by rw [h]; exact fun z => by cases z)
    · rw [Store.set_ne hb] at e; exact .inl (by rw [e]; exact fun z => by cases z)
  sold := fun b e => by
    by_cases hb : b = p
    · subst hb; rw [Store.set_same] at e; cases e
    · rw [Store.set_ne hb] at e; exact e
/-- a mutable thing is from now on one that never changes -/
theorem Wd.frz (w : Wd K G H S) (h : S p = some m) (ho : H p = some o) : Wd K (upd G p o) H (S.del p) where
  sub := fun b u e => by
    by_cases hb : b = p
    · subst hb; rw [upd_same] at e; rw [← e]; exact ho
    · rw [upd_ne hb] at e; exact w.sub b u e
  own := fun b m' e => by
    have hb : b ≠ p := fun z => by subst z; rw [Store.del_same] at e; cases e
    rw [Store.del_ne hb] at e
    obtain ⟨e1, u, e2, r⟩ := w.own b m' e
    exact ⟨by rw [upd_ne hb]; exact e1, u, e2, r.mono (Sub.new (w.own p m h).1)⟩
theorem Ext.frz (x : Ext G H S G1 H1 S1) (w : Wd K G1 H1 S1) (h0 : S p = none) (h : S1 p = some m) (ho : H1 p = some o) : Ext G H S (upd G1 p o) H1 (S1.del p) where
  gsub := x.gsub.trans (Sub.new (w.own p m h).1)
  gnew := fun b u e => by
    by_cases hb : b = p
    · subst hb
      rcases x.snew b m h with z | z
      · exact absurd h0 z
      · exact .inr z
    · rw [upd_ne hb] at e; exact x.gnew b u e
  keep := x.keep
  there := x.there
  snew := fun b m' e => by
    have hb : b ≠ p := fun z => by subst z; rw [Store.del_same] at e; cases e
    rw [Store.del_ne hb] at e; exact x.snew b m' e
  sold := fun b e => by
    by_cases hb : b = p
    · subst hb; exact h0
    · rw [Store.del_ne hb] at e; exact x.sold b e
/-- a mutable thing of one's own is forgotten -/
def Drop (S0 S S' : Store) : Prop := ∀ a, S' a = S a ∨ (S' a = none ∧ S0 a = none)
theorem Wd.drop {S0 : Store} (w : Wd K G H S) (d : Drop S0 S S1) : Wd K G H S1 where
  sub := w.sub
  own := fun b m e => by
    rcases d b with z | ⟨z, _⟩
    · rw [z] at e; exact w.own b m e
    · rw [z] at e; cases e
theorem Ext.drop (x : Ext G H S G1 H1 S1) (d : Drop S S1 S2) : Ext G H S G1 H1 S2 where
  gsub := x.gsub
  gnew := x.gnew
  keep := x.keep
  there := x.there
  snew := fun b m e => by
    rcases d b with z | ⟨z, _⟩
    · rw [z] at e; exact x.snew b m e
    · rw [z] at e; cases e
  sold := fun b e => by
    rcases d b with z | ⟨_, z⟩
    · rw [z] at e; exact x.sold b e
    · exact z
theorem Drop.refl {S0 S : Store} : Drop S0 S S := fun _ => .inl rfl
theorem Drop.set {S0 S S' : Store} (h0 : S0 p = none) (hp : S' p = none) (d : Drop S0 S S') : Drop S0 (S.set p m) S' := fun b => by
  by_cases hb : b = p
  · subst hb; exact .inr ⟨hp, h0⟩
  · rw [Store.set_ne hb]; exact d b
end
end DL

set_option maxHeartbeats 1900000
/-! DL2: judgements over deep data, the rules of expressions and statements. -/
namespace DL
open PySem L2

structure Jd where
  G : Hp
  H : Hp
  S : Store
def Jd.at (j : Jd) (G H : Hp) (S : Store) : Prop := Ext j.G j.H j.S G H S
abbrev En := List (Option D)
structure EnR (K : Frag) (G : Hp) (σ : L2.St) (δ : En) : Prop where
  len : δ.length = σ.length
  at_ : ∀ (i : Nat) (d : D), δ[i]? = some (some d) → ∃ v, σ[i]? = some (some v) ∧ Rep K G v d
theorem EnR.mono {K : Frag} {G G' : Hp} {σ : L2.St} {δ : En} (s : Sub G G') (e : EnR K G σ δ) : EnR K G' σ δ :=
  ⟨e.len, fun i d h => let ⟨v, h1, h2⟩ := e.at_ i d h; ⟨v, h1, h2.mono s⟩⟩
theorem EnR.set {K : Frag} {G : Hp} {σ : L2.St} {δ : En} (e : EnR K G σ δ) {v : V} {d : D} (r : Rep K G v d) (i : Nat) : EnR K G (σ.set i (some v)) (δ.set i (some d)) where
  len := by rw [List.length_set, List.length_set, e.len]
  at_ := fun j x h => by
    by_cases hj : i = j
    · subst hj
      have hi : i < (δ.set i (some d)).length := (List.getElem?_eq_some_iff.mp h).1
      rw [List.length_set] at hi
      rw [List.getElem?_set_self hi] at h
      cases h
      exact ⟨v, List.getElem?_set_self (by rw [← e.len]; exact hi), r⟩
    · rw [List.getElem?_set_ne hj] at h ⊢
      exact e.at_ j x h
/-- the slot's value upgraded -/
theorem EnR.up {K : Frag} {G : Hp} {σ : L2.St} {δ : En} (e : EnR K G σ δ) {v : V} {d : D} {i : Nat} (h : σ[i]? = some (some v)) (r : Rep K G v d) : EnR K G σ (δ.set i (some d)) where
  len := by rw [List.length_set, e.len]
  at_ := fun j x hx => by
    by_cases hj : i = j
    · subst hj
      have hi : i < (δ.set i (some d)).length := (List.getElem?_eq_some_iff.mp hx).1
      rw [List.length_set] at hi
      rw [List.getElem?_set_self hi] at hx
      cases hx
      exact ⟨v, h, r⟩
    · rw [List.getElem?_set_ne hj] at hx
      exact e.at_ j x hx
def wipeD (δ : En) : List Nat → En
  | [] => δ
  | v :: vs => (wipeD δ vs).set v none
theorem EnR.wipe {K : Frag} {G : Hp} {σ : L2.St} {δ : En} (e : EnR K G σ δ) : ∀ vs : List Nat, EnR K G (wipe σ vs) (wipeD δ vs)
  | [] => e
  | v :: vs => by
    have ih := EnR.wipe e vs
    refine ⟨by unfold L2.wipe wipeD; rw [List.length_set, List.length_set, ih.len], fun j x h => ?_⟩
    unfold wipeD at h
    unfold L2.wipe
    by_cases hj : v = j
    · subst hj
      have hi : v < ((wipeD δ vs).set v none).length := (List.getElem?_eq_some_iff.mp h).1
      rw [List.length_set] at hi
      rw [List.getElem?_set_self hi] at h
      cases h
    · rw [List.getElem?_set_ne hj] at h ⊢
      exact ih.at_ j x h

/-- what is wanted of a value -/
abbrev Kn (K : Frag) (G H : Hp) (S : Store) (P : D → Store → Prop) (Q : VK) : Prop := ∀ G' H' S' v d, Wd K G' H' S' → Ext G H S G' H' S' → Rep K G' v d → P d S' → Q v H'
def Ev (K : Frag) (J : Jd) (te : TE) (δ : En) (S : Store) (P : D → Store → Prop) : Prop := ∀ G H σ, Wd K G H S → J.at G H S → EnR K G σ δ → ∀ Q : VK, Kn K G H S P Q → te σ H Q
def EvT (K : Frag) (J : Jd) (te : TT) (δ : En) (S : Store) (P : Bool → Store → Prop) : Prop := ∀ G H σ, Wd K G H S → J.at G H S → EnR K G σ δ → ∀ Q : Bool → Hp → Prop, (∀ G' H' S' b, Wd K G' H' S' → Ext G H S G' H' S' → P b S' → Q b H') → te σ H Q
def EvA (K : Frag) (J : Jd) (te : TA) (δ : En) (S : Store) (P : List D → Store → Prop) : Prop := ∀ G H σ, Wd K G H S → J.at G H S → EnR K G σ δ → ∀ Q : List V → Hp → Prop, (∀ G' H' S' vs ds, Wd K G' H' S' → Ext G H S G' H' S' → Reps K G' vs ds → P ds S' → Q vs H') → te σ H Q
/-- of values -/
def Op (K : Frag) (J : Jd) (r : R2) (x y : D) (S : Store) (P : D → Store → Prop) : Prop := ∀ G H vx vy, Wd K G H S → J.at G H S → Rep K G vx x → Rep K G vy y → ∀ Q : VK, Kn K G H S P Q → r vx vy H Q
def Un (K : Frag) (J : Jd) (r : V → Hp → VK → Prop) (x : D) (S : Store) (P : D → Store → Prop) : Prop := ∀ G H vx, Wd K G H S → J.at G H S → Rep K G vx x → ∀ Q : VK, Kn K G H S P Q → r vx H Q
def Cb (K : Frag) (J : Jd) (r : List V → Hp → VK → Prop) (xs : List D) (S : Store) (P : D → Store → Prop) : Prop := ∀ G H vs, Wd K G H S → J.at G H S → Reps K G vs xs → ∀ Q : VK, Kn K G H S P Q → r vs H Q
/-- a built-in type's method -/
def Mb (K : Frag) (J : Jd) (r : V → List V → Hp → VK → Prop) (x : D) (xs : List D) (S : Store) (P : D → Store → Prop) : Prop := ∀ G H vx vs, Wd K G H S → J.at G H S → Rep K G vx x → Reps K G vs xs → ∀ Q : VK, Kn K G H S P Q → r vx vs H Q

section
variable {K : Frag} {J : Jd} {δ : En} {S : Store} {P : D → Store → Prop} {G H : Hp} {Q : VK} {ta tb te : TE}
theorem Kn.mono {S' : Store} {G' H' : Hp} (x : Ext G H S G' H' S') (k : Kn K G H S P Q) : Kn K G' H' S' P Q := fun G2 H2 S2 v d w2 x2 r p => k G2 H2 S2 v d w2 (x.trans x2) r p
theorem Kn.now {v : V} {d : D} (k : Kn K G H S P Q) (w : Wd K G H S) (r : Rep K G v d) (p : P d S) : Q v H := k G H S v d w (Ext.refl w) r p
/-- a new thing that never changes is handed on -/
theorem Kn.imm {o : HO} {d : D} (k : Kn K G H S P Q) (w : Wd K G H S) (r : ∀ p G', Sub G G' → G' p = some o → Rep K G' (.ref p) d) (q : P d S) : ∀ p, H p = none → Q (.ref p) (upd H p o) := fun p hp =>
  k _ _ S (.ref p) d (w.imm hp) (Ext.imm w hp) (r p _ (Sub.new (w.free hp).1) upd_same) q
/-- a new mutable thing is handed on -/
theorem Kn.mut {o : HO} {m : M} (k : Kn K G H S P Q) (w : Wd K G H S) (j : J.at G H S) (r : RepM K G o m) (q : ∀ p, S p = none → J.S p = none → P (.loc p) (S.set p m)) : ∀ p, H p = none → Q (.ref p) (upd H p o) := fun p hp =>
  k _ _ _ (.ref p) (.loc p) (w.mut hp r) (Ext.mut w hp) (.loc p) (q p (w.free hp).2 (j.sold p (w.free hp).2))

/-! ### names, constants -/
theorem ev_var {i : Nat} {d : D} (h : δ[i]? = some (some d)) (p : P d S) : Ev K J (tVar i) δ S P := fun G H σ w j e Q k => by
  obtain ⟨v, h1, r⟩ := e.at_ i d h
  exact ⟨v, h1, k.now w r p⟩
theorem ev_int {i : Int} (p : P (.int i) S) : Ev K J (tC (.int i)) δ S P := fun G H σ w j e Q k => k.now w (.int i) p
theorem ev_bl {b : Bool} (p : P (.bl b) S) : Ev K J (tC (.bl b)) δ S P := fun G H σ w j e Q k => k.now w (.bl b) p
theorem ev_non (p : P .non S) : Ev K J (tC .non) δ S P := fun G H σ w j e Q k => k.now w .non p
theorem ev_str {x : Str} (p : P (.str x) S) : Ev K J (tC (.str x)) δ S P := fun G H σ w j e Q k => k.now w (.str x) p
theorem ev_ty {x : String} (p : P (.ty x) S) : Ev K J (tC (.ty x)) δ S P := fun G H σ w j e Q k => k.now w (.ty x) p
theorem ev_raw {a : Addr} (p : P (.raw a) S) : Ev K J (tC (.ref a)) δ S P := fun G H σ w j e Q k => k.now w (.raw a) p
/-- a tuple, a list that stands in the module -/
theorem ev_kt {a : Addr} {vs : List V} {ds : List D} (h : ∀ H, SqT K H a vs) (r : ∀ H, Reps K H vs ds) (p : P (.tup ds) S) : Ev K J (tC (.ref a)) δ S P := fun G H σ w j e Q k => k.now w (.tup (h G) (r G)) p
theorem ev_kl {a : Addr} {vs : List V} {ds : List D} (h : ∀ H, SqL K H a vs) (r : ∀ H, Reps K H vs ds) (p : P (.klst ds) S) : Ev K J (tC (.ref a)) δ S P := fun G H σ w j e Q k => k.now w (.klst (h G) (r G)) p
theorem Ev.imp {P' : D → Store → Prop} (h : Ev K J te δ S P) (hp : ∀ d S', P d S' → P' d S') : Ev K J te δ S P' := fun G H σ w j e Q k => h G H σ w j e Q fun G' H' S' v d w' x r p => k G' H' S' v d w' x r (hp d S' p)

/-! ### operators -/
theorem ev_op {r : R2} (h : Ev K J ta δ S fun x S1 => Ev K J tb δ S1 fun y S2 => Op K J r x y S2 P) : Ev K J (tOp r ta tb) δ S P := fun G H σ w j e Q k =>
  h G H σ w j e _ fun G1 H1 S1 v d w1 x1 r1 p1 => p1 G1 H1 σ w1 (j.trans x1) (e.mono x1.gsub) _ fun G2 H2 S2 v2 d2 w2 x2 r2 p2 =>
    p2 G2 H2 v v2 w2 ((j.trans x1).trans x2) (r1.mono x2.gsub) r2 Q (k.mono (x1.trans x2))
theorem ev_un {r : V → Hp → VK → Prop} (h : Ev K J ta δ S fun x S1 => Un K J r x S1 P) : Ev K J (tUn r ta) δ S P := fun G H σ w j e Q k =>
  h G H σ w j e _ fun G1 H1 S1 v d w1 x1 r1 p1 => p1 G1 H1 v w1 (j.trans x1) r1 Q (k.mono x1)
theorem ev_cb {r : List V → Hp → VK → Prop} {t : TA} (h : EvA K J t δ S fun xs S1 => Cb K J r xs S1 P) : Ev K J (tCB r t) δ S P := fun G H σ w j e Q k =>
  h G H σ w j e _ fun G1 H1 S1 vs ds w1 x1 r1 p1 => p1 G1 H1 vs w1 (j.trans x1) r1 Q (k.mono x1)
theorem ea_nil {PA : List D → Store → Prop} (p : PA [] S) : EvA K J tNil δ S PA := fun G H σ w j e Q k => k G H S [] [] w (Ext.refl w) .nil p
theorem ea_cons {PA : List D → Store → Prop} {t : TA} (h : Ev K J ta δ S fun x S1 => EvA K J t δ S1 fun xs S2 => PA (x :: xs) S2) : EvA K J (tCons ta t) δ S PA := fun G H σ w j e Q k =>
  h G H σ w j e _ fun G1 H1 S1 v d w1 x1 r1 p1 => p1 G1 H1 σ w1 (j.trans x1) (e.mono x1.gsub) _ fun G2 H2 S2 vs ds w2 x2 r2 p2 =>
    k G2 H2 S2 (v :: vs) (d :: ds) w2 (x1.trans x2) (.cons (r1.mono x2.gsub) r2) p2
theorem EvA.imp {PA PA' : List D → Store → Prop} {t : TA} (h : EvA K J t δ S PA) (hp : ∀ d S', PA d S' → PA' d S') : EvA K J t δ S PA' := fun G H σ w j e Q k => h G H σ w j e Q fun G' H' S' v d w' x r p => k G' H' S' v d w' x r (hp d S' p)
/-- two ints -/
theorem op_I0 {g : Int → Int → V} {g' : Int → Int → D} {a b : Int} (hg : ∀ i j G, Rep K G (g i j) (g' i j)) (p : P (g' a b) S) : Op K J (rI0 g) (.int a) (.int b) S P := fun G H vx vy w j r1 r2 Q k => by
  cases r1; cases r2
  exact ⟨a, b, rfl, rfl, k.now w (hg a b G) p⟩
theorem op_I {C : Int → Int → Prop} {g : Int → Int → V} {g' : Int → Int → D} {a b : Int} (hg : ∀ i j G, Rep K G (g i j) (g' i j)) (hc : C a b) (p : P (g' a b) S) : Op K J (rI C g) (.int a) (.int b) S P := fun G H vx vy w j r1 r2 Q k => by
  cases r1; cases r2
  exact ⟨a, b, rfl, rfl, hc, k.now w (hg a b G) p⟩
theorem o_add {a b : Int} (p : P (.int (a + b)) S) : Op K J (rI0 fun i j => .int (i + j)) (.int a) (.int b) S P := op_I0 (fun i j G => .int _) p
theorem o_sub {a b : Int} (p : P (.int (a - b)) S) : Op K J (rI0 fun i j => .int (i - j)) (.int a) (.int b) S P := op_I0 (fun i j G => .int _) p
theorem o_lt {a b : Int} (p : P (.bl (decide (a < b))) S) : Op K J (rI0 fun i j => .bl (decide (i < j))) (.int a) (.int b) S P := op_I0 (g' := fun i j => .bl (decide (i < j))) (fun i j G => .bl _) p
theorem o_le {a b : Int} (p : P (.bl (decide (a ≤ b))) S) : Op K J (rI0 fun i j => .bl (decide (i ≤ j))) (.int a) (.int b) S P := op_I0 (g' := fun i j => .bl (decide (i ≤ j))) (fun i j G => .bl _) p
theorem o_gt {a b : Int} (p : P (.bl (decide (b < a))) S) : Op K J (rI0 fun i j => .bl (decide (j < i))) (.int a) (.int b) S P := op_I0 (g' := fun i j => .bl (decide (j < i))) (fun i j G => .bl _) p
theorem o_ge {a b : Int} (p : P (.bl (decide (b ≤ a))) S) : Op K J (rI0 fun i j => .bl (decide (j ≤ i))) (.int a) (.int b) S P := op_I0 (g' := fun i j => .bl (decide (j ≤ i))) (fun i j G => .bl _) p
theorem o_mul {a b : Int} (hc : CMul a b) (p : P (.int (a * b)) S) : Op K J (rI CMul fun i j => .int (i * j)) (.int a) (.int b) S P := op_I (g' := fun i j => .int (i * j)) (fun i j G => .int _) hc p
theorem o_fdiv {a b : Int} (hc : CDivN a b) (p : P (.int (a.fdiv b)) S) : Op K J (rI CDivN fun i j => .int (i.fdiv j)) (.int a) (.int b) S P := op_I (g' := fun i j => .int (i.fdiv j)) (fun i j G => .int _) hc p
theorem o_mod {a b : Int} (hc : b ≠ 0) (p : P (.int (a.fmod b)) S) : Op K J (rI (fun _ j => j ≠ 0) fun i j => .int (i.fmod j)) (.int a) (.int b) S P := op_I (g' := fun i j => .int (i.fmod j)) (fun i j G => .int _) hc p
/-- for a positive divisor -/
theorem o_fdivP {a b : Int} (h0 : 0 < b) (h1 : b < 1073741824) (p : P (.int (a / b)) S) : Op K J (rI CDivN fun i j => .int (i.fdiv j)) (.int a) (.int b) S P := o_fdiv ⟨by omega, by omega⟩ (by rw [Int.fdiv_eq_ediv_of_nonneg _ (by omega)]; exact p)
theorem o_modP {a b : Int} (h0 : 0 < b) (p : P (.int (a % b)) S) : Op K J (rI (fun _ j => j ≠ 0) fun i j => .int (i.fmod j)) (.int a) (.int b) S P := o_mod (by omega) (by rw [Int.fmod_eq_emod_of_nonneg _ (by omega)]; exact p)
theorem o_pow {a b : Int} (hc : CPow a b) (p : P (.int (a ^ b.toNat)) S) : Op K J (rI CPow fun i j => .int (i ^ j.toNat)) (.int a) (.int b) S P := op_I (g' := fun i j => .int (i ^ j.toNat)) (fun i j G => .int _) hc p
theorem o_eqI {a b : Int} (p : P (.bl (decide (a = b))) S) : Op K J rEq (.int a) (.int b) S P := fun G H vx vy w j r1 r2 Q k => by
  cases r1; cases r2
  exact ⟨rfl, by rw [dec_int, show (a == b) = decide (a = b) from rfl]; exact k.now w (.bl _) p⟩
theorem o_neI {a b : Int} (p : P (.bl (!decide (a = b))) S) : Op K J rNe (.int a) (.int b) S P := fun G H vx vy w j r1 r2 Q k => by
  cases r1; cases r2
  exact ⟨rfl, by rw [dec_int, show (a == b) = decide (a = b) from rfl]; exact k.now w (.bl _) p⟩
theorem o_eqS {a b : Str} (p : P (.bl (decide (a = b))) S) : Op K J rEq (.str a) (.str b) S P := fun G H vx vy w j r1 r2 Q k => by
  cases r1; cases r2
  refine ⟨rfl, ?_⟩
  have e : decide (V.str a = V.str b) = decide (a = b) := by
    by_cases h : a = b
    · subst h; simp
    · rw [decide_eq_false h, decide_eq_false (fun z => h (V.str.inj z))]
  rw [e]; exact k.now w (.bl _) p
theorem o_neS {a b : Str} (p : P (.bl (!decide (a = b))) S) : Op K J rNe (.str a) (.str b) S P := fun G H vx vy w j r1 r2 Q k => by
  cases r1; cases r2
  refine ⟨rfl, ?_⟩
  have e : decide (V.str a = V.str b) = decide (a = b) := by
    by_cases h : a = b
    · subst h; simp
    · rw [decide_eq_false h, decide_eq_false (fun z => h (V.str.inj z))]
  rw [e]; exact k.now w (.bl _) p
theorem u_neg {a : Int} (p : P (.int (-a)) S) : Un K J (rU fun i => .int (-i)) (.int a) S P := fun G H vx w j r1 Q k => by
  cases r1
  exact ⟨a, rfl, k.now w (.int _) p⟩

/-! ### tests -/
variable {PT : Bool → Store → Prop} {tt uu : TT}
theorem EvT.imp {P' : Bool → Store → Prop} (h : EvT K J tt δ S PT) (hp : ∀ d S', PT d S' → P' d S') : EvT K J tt δ S P' := fun G H σ w j e Q k => h G H σ w j e Q fun G' H' S' b w' x p => k G' H' S' b w' x (hp b S' p)
def IsB (PT : Bool → Store → Prop) : D → Store → Prop := fun d S => ∃ b, d = .bl b ∧ PT b S
theorem isB {b : Bool} (p : PT b S) : IsB PT (.bl b) S := ⟨b, rfl, p⟩
theorem et_test (h : Ev K J te δ S (IsB PT)) : EvT K J (tTest te) δ S PT := fun G H σ w j e Q k =>
  h G H σ w j e _ fun G1 H1 S1 v d w1 x1 r1 ⟨b, e1, p⟩ => by
    subst e1; cases r1
    exact ⟨b, rfl, k G1 H1 S1 b w1 x1 p⟩
theorem et_B (h : Ev K J te δ S (IsB PT)) : EvT K J (tB te) δ S PT := fun G H σ w j e Q k =>
  h G H σ w j e _ fun G1 H1 S1 v d w1 x1 r1 ⟨b, e1, p⟩ => by
    subst e1; cases r1
    exact ⟨b, rfl, k G1 H1 S1 b w1 x1 p⟩
theorem et_not (h : EvT K J tt δ S fun b S1 => PT (!b) S1) : EvT K J (tNot tt) δ S PT := fun G H σ w j e Q k =>
  h G H σ w j e _ fun G1 H1 S1 b w1 x1 p => k G1 H1 S1 (!b) w1 x1 p
theorem et_and (h : EvT K J tt δ S fun b S1 => (b = true → EvT K J uu δ S1 PT) ∧ (b = false → PT false S1)) : EvT K J (tAnd tt uu) δ S PT := fun G H σ w j e Q k =>
  h G H σ w j e _ fun G1 H1 S1 b w1 x1 p => by
    cases b with
    | true =>
      show uu σ H1 Q
      exact p.1 rfl G1 H1 σ w1 (j.trans x1) (e.mono x1.gsub) Q fun G2 H2 S2 b2 w2 x2 p2 => k G2 H2 S2 b2 w2 (x1.trans x2) p2
    | false =>
      show Q false H1
      exact k G1 H1 S1 false w1 x1 (p.2 rfl)
theorem et_or (h : EvT K J tt δ S fun b S1 => (b = true → PT true S1) ∧ (b = false → EvT K J uu δ S1 PT)) : EvT K J (tOr tt uu) δ S PT := fun G H σ w j e Q k =>
  h G H σ w j e _ fun G1 H1 S1 b w1 x1 p => by
    cases b with
    | false =>
      show uu σ H1 Q
      exact p.2 rfl G1 H1 σ w1 (j.trans x1) (e.mono x1.gsub) Q fun G2 H2 S2 b2 w2 x2 p2 => k G2 H2 S2 b2 w2 (x1.trans x2) p2
    | true =>
      show Q true H1
      exact k G1 H1 S1 true w1 x1 (p.1 rfl)
/-- a value's truth -/
def tTru (K : Frag) (ta : TE) : TT := fun σ H Q => ta σ H fun x H' => ∃ k, TruV K x H' k ∧ Q k H'
def Tru (S : Store) : D → Bool → Prop
  | .non, k => k = false
  | .bl b, k => k = b
  | .int i, k => k = (i != 0)
  | .str y, k => y.length ≤ sizeLine ∧ k = ((y.length : Int) != 0)
  | .lst ds, k => k = !ds.isEmpty
  | .klst ds, k => k = !ds.isEmpty
  | .tup ds, k => k = !ds.isEmpty
  | .loc p, k => (∃ ds, S p = some (.lst ds) ∧ k = !ds.isEmpty) ∨ ∃ ds, S p = some (.dK ds) ∧ k = !ds.isEmpty
  | _, _ => False
theorem Reps.isE {K : Frag} {G : Hp} {vs : List V} {ds : List D} (r : Reps K G vs ds) : vs.isEmpty = ds.isEmpty := by cases r <;> rfl
theorem RepK.isE {K : Frag} {G : Hp} {vs : List (Key × V)} {ds : List (Key × D)} (r : RepK K G vs ds) : vs.isEmpty = ds.isEmpty := by cases r <;> rfl
theorem et_tru (h : Ev K J te δ S fun d S1 => ∃ b, Tru S1 d b ∧ PT b S1) : EvT K J (tTru K te) δ S PT := fun G H σ w j e Q k =>
  h G H σ w j e _ fun G1 H1 S1 v d w1 x1 r1 ⟨b, t, p⟩ => by
    refine ⟨b, ?_, k G1 H1 S1 b w1 x1 p⟩
    cases r1 with
    | non => exact t
    | bl b => exact t
    | int i => exact t
    | str x => exact t
    | ty n => exact t.elim
    | loc a =>
      rcases t with ⟨ds, e1, e2⟩ | ⟨ds, e1, e2⟩
      · obtain ⟨_, o, ho, r⟩ := w1.own a _ e1
        cases o <;> first | exact r.elim | skip
        rename_i vs
        exact .inl ⟨vs, .inl (.inl ho), by rw [e2, ← Reps.isE r]⟩
      · obtain ⟨_, o, ho, r⟩ := w1.own a _ e1
        cases o <;> first | exact r.elim | skip
        rename_i vs
        exact .inr (.inr ⟨vs, ho, by rw [e2, ← RepK.isE r]⟩)
    | raw a => exact t.elim
    | lst h1 h2 => exact .inl ⟨_, .inl (.inl (w1.sub _ _ h1)), by rw [show b = _ from t, ← Reps.isE h2]⟩
    | klst h1 h2 => exact .inl ⟨_, w1.sub.l h1, by rw [show b = _ from t, ← Reps.isE h2]⟩
    | tup h1 h2 => exact .inr (.inl ⟨_, w1.sub.t h1, by rw [show b = _ from t, ← Reps.isE h2]⟩)
    | ins _ _ => exact t.elim
    | dK _ _ => exact t.elim
    | dT _ _ => exact t.elim
/-! ### and, or, not, if as values -/
theorem ev_andV (h : Ev K J ta δ S (IsB fun b S1 => (b = true → Ev K J tb δ S1 P) ∧ (b = false → P (.bl false) S1))) : Ev K J (tAndV ta tb) δ S P := fun G H σ w j e Q k =>
  h G H σ w j e _ fun G1 H1 S1 v d w1 x1 r1 ⟨b, e1, p⟩ => by
    subst e1; cases r1
    refine ⟨b, rfl, ?_⟩
    cases b with
    | true => exact p.1 rfl G1 H1 σ w1 (j.trans x1) (e.mono x1.gsub) Q (k.mono x1)
    | false => exact k G1 H1 S1 _ _ w1 x1 (.bl false) (p.2 rfl)
theorem ev_orV (h : Ev K J ta δ S (IsB fun b S1 => (b = true → P (.bl true) S1) ∧ (b = false → Ev K J tb δ S1 P))) : Ev K J (tOrV ta tb) δ S P := fun G H σ w j e Q k =>
  h G H σ w j e _ fun G1 H1 S1 v d w1 x1 r1 ⟨b, e1, p⟩ => by
    subst e1; cases r1
    refine ⟨b, rfl, ?_⟩
    cases b with
    | false => exact p.2 rfl G1 H1 σ w1 (j.trans x1) (e.mono x1.gsub) Q (k.mono x1)
    | true => exact k G1 H1 S1 _ _ w1 x1 (.bl true) (p.1 rfl)
theorem ev_notV (h : Ev K J ta δ S (IsB fun b S1 => P (.bl (!b)) S1)) : Ev K J (tNotV ta) δ S P := fun G H σ w j e Q k =>
  h G H σ w j e _ fun G1 H1 S1 v d w1 x1 r1 ⟨b, e1, p⟩ => by
    subst e1; cases r1
    exact ⟨b, rfl, k G1 H1 S1 _ _ w1 x1 (.bl _) p⟩
theorem ev_if (h : EvT K J tt δ S fun b S1 => (b = true → Ev K J ta δ S1 P) ∧ (b = false → Ev K J tb δ S1 P)) : Ev K J (tIf tt ta tb) δ S P := fun G H σ w j e Q k =>
  h G H σ w j e _ fun G1 H1 S1 b w1 x1 p => by
    cases b with
    | true => exact p.1 rfl G1 H1 σ w1 (j.trans x1) (e.mono x1.gsub) Q (k.mono x1)
    | false => exact p.2 rfl G1 H1 σ w1 (j.trans x1) (e.mono x1.gsub) Q (k.mono x1)
theorem ev_chain {r r' : R2} {tc : TE} (h : Ev K J ta δ S fun x S1 => Ev K J tb δ S1 fun y S2 => Op K J r x y S2 (IsB fun b S3 => (b = true → Ev K J tc δ S3 fun z S4 => Op K J r' y z S4 P) ∧ (b = false → P (.bl false) S3))) : Ev K J (tChain r r' ta tb tc) δ S P := fun G H σ w j e Q k =>
  h G H σ w j e _ fun G1 H1 S1 v d w1 x1 r1 p1 => p1 G1 H1 σ w1 (j.trans x1) (e.mono x1.gsub) _ fun G2 H2 S2 v2 d2 w2 x2 r2 p2 =>
    p2 G2 H2 v v2 w2 ((j.trans x1).trans x2) (r1.mono x2.gsub) r2 _ fun G3 H3 S3 v3 d3 w3 x3 r3 ⟨b, e3, p3⟩ => by
      subst e3; cases r3
      refine ⟨b, rfl, ?_⟩
      cases b with
      | true =>
        exact p3.1 rfl G3 H3 σ w3 (((j.trans x1).trans x2).trans x3) (e.mono ((x1.trans x2).trans x3).gsub) _ fun G4 H4 S4 v4 d4 w4 x4 r4 p4 =>
          p4 G4 H4 v2 v4 w4 ((((j.trans x1).trans x2).trans x3).trans x4) (r2.mono (x3.trans x4).gsub) r4 Q (k.mono (((x1.trans x2).trans x3).trans x4))
      | false => exact k G3 H3 S3 _ _ w3 ((x1.trans x2).trans x3) (.bl false) (p3.2 rfl)
end
end DL

set_option maxHeartbeats 1900000
/-! DL3: statements, loops, calls, instances, a def's contract. -/
namespace DL
open PySem L2

structure Out where
  nx : En → Store → Prop
  rt : D → Store → Prop
  bk : En → Store → Prop := fun _ _ => False
  ct : En → Store → Prop := fun _ _ => False
abbrev OkN (K : Frag) (J : Jd) (G : Hp) (P : En → Store → Prop) (N : L2.St → Hp → Prop) : Prop := ∀ G' H' S' σ' δ', Wd K G' H' S' → J.at G' H' S' → Sub G G' → EnR K G' σ' δ' → P δ' S' → N σ' H'
structure OutOk (K : Frag) (J : Jd) (G : Hp) (D : Ends) (R : Out) : Prop where
  nx : OkN K J G R.nx D.nx
  rt : ∀ G' H' S' v d, Wd K G' H' S' → J.at G' H' S' → Rep K G' v d → R.rt d S' → D.rt v H'
  bk : OkN K J G R.bk D.bk
  ct : OkN K J G R.ct D.ct
def Run (K : Frag) (J : Jd) (ts : TS) (δ : En) (S : Store) (R : Out) : Prop := ∀ G H σ D, Wd K G H S → J.at G H S → EnR K G σ δ → OutOk K J G D R → ts D σ H
abbrev OkG (K : Frag) (G H : Hp) (S : Store) (P : En → Store → Prop) (N : L2.St → Hp → Prop) : Prop := ∀ G' H' S' σ' δ', Wd K G' H' S' → Ext G H S G' H' S' → EnR K G' σ' δ' → P δ' S' → N σ' H'
def EvG (K : Frag) (J : Jd) (g : TG) (x : D) (δ : En) (S : Store) (P : En → Store → Prop) : Prop := ∀ G H σ v, Wd K G H S → J.at G H S → EnR K G σ δ → Rep K G v x → ∀ N : L2.St → Hp → Prop, OkG K G H S P N → g v σ H N
def EvGs (K : Frag) (J : Jd) (g : TGs) (xs : List D) (δ : En) (S : Store) (P : En → Store → Prop) : Prop := ∀ G H σ vs, Wd K G H S → J.at G H S → EnR K G σ δ → Reps K G vs xs → ∀ N : L2.St → Hp → Prop, OkG K G H S P N → g vs σ H N
section
variable {K : Frag} {J : Jd} {δ : En} {S : Store} {P : D → Store → Prop} {G G' H : Hp} {Q : VK} {ta tb te : TE} {R : Out} {t u : TS} {D' : Ends}
theorem OkN.mono {P : En → Store → Prop} {N : L2.St → Hp → Prop} (s : Sub G G') (o : OkN K J G P N) : OkN K J G' P N := fun G2 H2 S2 σ2 δ2 w j s2 e p => o G2 H2 S2 σ2 δ2 w j (s.trans s2) e p
theorem OutOk.mono (s : Sub G G') (o : OutOk K J G D' R) : OutOk K J G' D' R := ⟨o.nx.mono s, o.rt, o.bk.mono s, o.ct.mono s⟩
theorem Run.imp {R' : Out} (h : Run K J t δ S R) (h1 : ∀ δ S, R.nx δ S → R'.nx δ S) (h2 : ∀ d S, R.rt d S → R'.rt d S) (h3 : ∀ δ S, R.bk δ S → R'.bk δ S) (h4 : ∀ δ S, R.ct δ S → R'.ct δ S) : Run K J t δ S R' := fun G H σ D w j e o =>
  h G H σ D w j e ⟨fun G2 H2 S2 σ2 δ2 w2 j2 s2 e2 p => o.nx G2 H2 S2 σ2 δ2 w2 j2 s2 e2 (h1 _ _ p), fun G2 H2 S2 v d w2 j2 r2 p => o.rt G2 H2 S2 v d w2 j2 r2 (h2 _ _ p),
    fun G2 H2 S2 σ2 δ2 w2 j2 s2 e2 p => o.bk G2 H2 S2 σ2 δ2 w2 j2 s2 e2 (h3 _ _ p), fun G2 H2 S2 σ2 δ2 w2 j2 s2 e2 p => o.ct G2 H2 S2 σ2 δ2 w2 j2 s2 e2 (h4 _ _ p)⟩

/-! ### small statements -/
theorem run_next (p : R.nx δ S) : Run K J tNext δ S R := fun G H σ D w j e o => o.nx G H S σ δ w j (.refl G) e p
theorem run_brk (p : R.bk δ S) : Run K J tBreak δ S R := fun G H σ D w j e o => o.bk G H S σ δ w j (.refl G) e p
theorem run_cont (p : R.ct δ S) : Run K J tCont δ S R := fun G H σ D w j e o => o.ct G H S σ δ w j (.refl G) e p
theorem run_seq (h : Run K J t δ S { R with nx := fun δ' S' => Run K J u δ' S' R }) : Run K J (tSeq t u) δ S R := fun G H σ D w j e o =>
  h G H σ { D with nx := u D } w j e ⟨fun G2 H2 S2 σ2 δ2 w2 j2 s2 e2 p => p G2 H2 σ2 D w2 j2 e2 (o.mono s2), o.rt, o.bk, o.ct⟩
theorem run_ret (h : Ev K J te δ S R.rt) : Run K J (tRet te) δ S R := fun G H σ D w j e o =>
  h G H σ w j e _ fun G2 H2 S2 v d w2 x2 r2 p => o.rt G2 H2 S2 v d w2 (j.trans x2) r2 p
theorem run_retN (h : R.rt .non S) : Run K J tRetN δ S R := fun G H σ D w j e o => o.rt G H S .non .non w j .non h
theorem run_drop (h : Ev K J te δ S fun _ S1 => R.nx δ S1) : Run K J (tDrop te) δ S R := fun G H σ D w j e o =>
  h G H σ w j e _ fun G2 H2 S2 v d w2 x2 r2 p => o.nx G2 H2 S2 σ δ w2 (j.trans x2) x2.gsub (e.mono x2.gsub) p
theorem run_if {c : TT} (h : EvT K J c δ S fun b S1 => (b = true → Run K J t δ S1 R) ∧ (b = false → Run K J u δ S1 R)) : Run K J (tIfS c t u) δ S R := fun G H σ D w j e o =>
  h G H σ w j e _ fun G2 H2 S2 b w2 x2 p => by
    cases b with
    | true => exact p.1 rfl G2 H2 σ D w2 (j.trans x2) (e.mono x2.gsub) (o.mono x2.gsub)
    | false => exact p.2 rfl G2 H2 σ D w2 (j.trans x2) (e.mono x2.gsub) (o.mono x2.gsub)
theorem run_asg {g : TG} (h : Ev K J te δ S fun d S1 => EvG K J g d δ S1 R.nx) : Run K J (tAsg te g) δ S R := fun G H σ D w j e o =>
  h G H σ w j e _ fun G2 H2 S2 v d w2 x2 r2 p => p G2 H2 σ v w2 (j.trans x2) (e.mono x2.gsub) r2 _ fun G3 H3 S3 σ3 δ3 w3 x3 e3 q => o.nx G3 H3 S3 σ3 δ3 w3 ((Ext.trans j x2).trans x3) (x2.trans x3).gsub e3 q
/-- name = e -/
theorem run_set {i : Nat} (h : Ev K J te δ S fun d S1 => R.nx (δ.set i (some d)) S1) : Run K J (tAsg te (gName i)) δ S R := fun G H σ D w j e o =>
  h G H σ w j e _ fun G2 H2 S2 v d w2 x2 r2 p => o.nx G2 H2 S2 _ _ w2 (j.trans x2) x2.gsub ((e.mono x2.gsub).set r2 i) p
theorem run_par {i k : Nat} {ta : TA} (h : EvA K J ta δ S fun ds S1 => ∃ x y, ds = [x, y] ∧ R.nx ((δ.set i (some x)).set k (some y)) S1) : Run K J (tPar i k ta) δ S R := fun G H σ D w j e o =>
  h G H σ w j e _ fun G2 H2 S2 vs ds w2 x2 r2 ⟨x, y, e1, p⟩ => by
    subst e1
    cases r2 with
    | cons r rr => cases rr with
      | cons r' rr => cases rr; exact ⟨_, _, rfl, o.nx G2 H2 S2 _ _ w2 (j.trans x2) x2.gsub (((e.mono x2.gsub).set r i).set r' k) p⟩
/-! ### targets -/
theorem eg_name {i : Nat} {d : D} {P : En → Store → Prop} (p : P (δ.set i (some d)) S) : EvG K J (gName i) d δ S P := fun G H σ v w j e r N o => o G H S _ _ w (Ext.refl w) (e.set r i) p
theorem egs_nil {P : En → Store → Prop} (p : P δ S) : EvGs K J gNil [] δ S P := fun G H σ v w j e r N o => by
  cases r
  exact ⟨rfl, o G H S σ δ w (Ext.refl w) e p⟩
theorem egs_cons {g : TG} {gs : TGs} {d : D} {ds : List D} {P : En → Store → Prop} (h : EvG K J g d δ S fun δ' S' => EvGs K J gs ds δ' S' P) : EvGs K J (gCons g gs) (d :: ds) δ S P := fun G H σ v w j e r N o => by
  cases r with
  | cons r rr => exact ⟨_, _, rfl, h G H σ _ w j e r _ fun G2 H2 S2 σ2 δ2 w2 x2 e2 p => p G2 H2 σ2 _ w2 (Ext.trans j x2) e2 (rr.mono x2.gsub) N fun G3 H3 S3 σ3 δ3 w3 x3 e3 q => o G3 H3 S3 σ3 δ3 w3 (x2.trans x3) e3 q⟩
theorem eg_tup {gs : TGs} {ds : List D} {n : Nat} {P : En → Store → Prop} (hn : ds.length = n) (h : EvGs K J gs ds δ S P) : EvG K J (gTup K n gs) (.tup ds) δ S P := fun G H σ v w j e r N o => by
  cases r with
  | tup hs rs => exact ⟨_, _, rfl, w.sub.t hs, by rw [rs.length, hn], h G H σ _ w j e rs N o⟩
/-! ### what was mutable is from now on one that never changes -/
def M.d : M → D
  | .lst xs => .lst xs
  | .dK kvs => .dK kvs
  | .dT kvs => .dT kvs
  | .ins C fs => .ins C fs
theorem RepM.d {K : Frag} {G : Hp} {p : Addr} : ∀ {o : HO} {m : M}, G p = some o → RepM K G o m → Rep K G (.ref p) m.d := by
  intro o m h r
  cases o <;> cases m <;> first | exact r.elim | skip
  · exact .lst h r
  · exact .dK h r
  · exact .dT h r
  · obtain ⟨e, r⟩ := r
    subst e
    exact .ins h r
theorem Ev.frz (k : Kn K G H S P Q) {G1 H1 : Hp} {S1 : Store} (x : Ext G H S G1 H1 S1) (w : Wd K G1 H1 S1) {p : Addr} {m : M} (h0 : S p = none) (h : S1 p = some m) (q : P m.d (S1.del p)) : Q (.ref p) H1 := by
  obtain ⟨_, o, ho, r⟩ := w.own p m h
  exact k _ H1 _ (.ref p) m.d (w.frz h ho) (x.frz w h0 h ho) (RepM.d upd_same (r.mono (Sub.new (w.own p m h).1))) q
theorem run_frz {i : Nat} {p : Addr} {m : M} (hi : δ[i]? = some (some (.loc p))) (hs : S p = some m) (h0 : J.S p = none) (h : Run K J t (δ.set i (some m.d)) (S.del p) R) : Run K J t δ S R := fun G H σ D w j e o => by
  obtain ⟨e1, ob, ho, r⟩ := w.own p m hs
  obtain ⟨v, h1, r1⟩ := e.at_ i _ hi
  cases r1
  exact h _ H σ D (w.frz hs ho) (Ext.frz j w h0 hs ho) ((e.mono (Sub.new e1)).up h1 (RepM.d upd_same (r.mono (Sub.new e1)))) (o.mono (Sub.new e1))
/-- the slots that are not needed any more, the facts weakened -/
theorem run_weak {δ' : En} (hl : δ'.length = δ.length) (hw : ∀ (i : Nat) (d : DL.D), δ'[i]? = some (some d) → δ[i]? = some (some d)) (h : Run K J t δ' S R) : Run K J t δ S R := fun G H σ D w j e o =>
  h G H σ D w j ⟨hl.trans e.len, fun i d hd => e.at_ i d (hw i d hd)⟩ o
theorem run_store {S' : Store} (d : Drop J.S S S') (h : Run K J t δ S' R) : Run K J t δ S R := fun G H σ D w j e o => h G H σ D (w.drop d) (Ext.drop j d) e o
/-! ### loops -/
theorem run_while {c : TT} (I : Nat → En → Store → Prop) (m0 : Nat) (h0 : I m0 δ S)
    (hs : ∀ m δ' S', I m δ' S' → EvT K J c δ' S' fun b S1 => (b = true → Run K J t δ' S1 { R with nx := fun δ2 S2 => ∃ m', m' < m ∧ I m' δ2 S2, ct := fun δ2 S2 => ∃ m', m' < m ∧ I m' δ2 S2, bk := R.nx }) ∧ (b = false → R.nx δ' S1)) : Run K J (tWhile c t) δ S R := fun G H σ D w j e o => by
  refine ⟨fun m σ' H' => ∃ G' S' δ', Wd K G' H' S' ∧ J.at G' H' S' ∧ Sub G G' ∧ EnR K G' σ' δ' ∧ I m δ' S', ⟨m0, G, S, δ, w, j, .refl G, e, h0⟩, ?_⟩
  rintro m σ1 H1 ⟨G1, S1, δ1, w1, j1, s1, e1, i1⟩
  refine hs m δ1 S1 i1 G1 H1 σ1 w1 j1 e1 _ fun G2 H2 S2 b w2 x2 p => ?_
  cases b with
  | true =>
    refine ⟨fun σ' H' => ∃ m', m' < m ∧ ∃ G' S' δ', Wd K G' H' S' ∧ J.at G' H' S' ∧ Sub G G' ∧ EnR K G' σ' δ' ∧ I m' δ' S', fun σ' H' z => z, ?_⟩
    refine p.1 rfl G2 H2 σ1 _ w2 (j1.trans x2) (e1.mono x2.gsub) ⟨?_, o.rt, ?_, ?_⟩
    · rintro G3 H3 S3 σ3 δ3 w3 j3 s3 e3 ⟨m', hm, i3⟩
      exact ⟨m', hm, G3, S3, δ3, w3, j3, (s1.trans x2.gsub).trans s3, e3, i3⟩
    · exact fun G3 H3 S3 σ3 δ3 w3 j3 s3 e3 p => o.nx G3 H3 S3 σ3 δ3 w3 j3 ((s1.trans x2.gsub).trans s3) e3 p
    · rintro G3 H3 S3 σ3 δ3 w3 j3 s3 e3 ⟨m', hm, i3⟩
      exact ⟨m', hm, G3, S3, δ3, w3, j3, (s1.trans x2.gsub).trans s3, e3, i3⟩
  | false => exact o.nx G2 H2 S2 σ1 δ1 w2 (j1.trans x2) (s1.trans x2.gsub) (e1.mono x2.gsub) (p.2 rfl)
/-- what a loop's turn is to show -/
abbrev Turns (K : Frag) (J : Jd) (g : TG) (t : TS) (R : Out) (I : Nat → En → Store → Prop) (i : Nat) (x : D) (δ' : En) (S' : Store) : Prop :=
  EvG K J g x δ' S' fun δ2 S2 => Run K J t δ2 S2 { R with nx := I (i + 1), ct := I (i + 1), bk := R.nx }
/-- what a range is to be -/
def Rg (a : Int) : Prop := -(2 ^ 62) ≤ a ∧ a < 2 ^ 62
/-! ### calls -/
abbrev PXT := Value → Option (List (Str × DL.D)) → Store → Prop
abbrev PX0 : PXT := fun _ _ _ => False
abbrev Ct := List DL.D → Store → (DL.D → Store → Prop) → PXT → Prop
structure XkOk (K : Frag) (G H : Hp) (S : Store) (E : XK) (PX : PXT) : Prop where
  none_ : ∀ G' H' S' cls, Wd K G' H' S' → Ext G H S G' H' S' → PX cls none S' → E cls none H'
  some_ : ∀ G' H' S' cls dd fs gs, Wd K G' H' S' → Ext G H S G' H' S' → H' dd = some (.xd fs) → RepF K G' fs gs → PX cls (some gs) S' → E cls (some dd) H'
theorem XkOk.none {E : XK} : XkOk K G H S E PX0 := ⟨fun _ _ _ _ _ _ z => z.elim, fun _ _ _ _ _ _ _ _ _ _ _ z => z.elim⟩
theorem XkOk.mono {E : XK} {PX : PXT} {G1 H1 : Hp} {S1 : Store} (x : Ext G H S G1 H1 S1) (k : XkOk K G H S E PX) : XkOk K G1 H1 S1 E PX :=
  ⟨fun G' H' S' cls w y p => k.none_ G' H' S' cls w (x.trans y) p, fun G' H' S' cls dd fs gs w y h r p => k.some_ G' H' S' cls dd fs gs w (x.trans y) h r p⟩
abbrev Jd.X (J : Jd) (K : Frag) (E : XK) (PX : PXT) : Prop := XkOk K J.G J.H J.S E PX
def spD (K : Frag) (C : Ct) : Sp := fun vs H Q E => ∃ G S ds P PX, Wd K G H S ∧ Reps K G vs ds ∧ C ds S P PX ∧ Kn K G H S P Q ∧ XkOk K G H S E PX
theorem ev_call {C : Ct} {E : XK} {PX : PXT} {ta : TA} (hX : J.X K E PX) (h : EvA K J ta δ S fun ds S1 => C ds S1 P PX) : Ev K J (tCall (spD K C) [] E ta) δ S P := fun G H σ w j e Q k =>
  h G H σ w j e _ fun G1 H1 S1 vs ds w1 x1 r1 p => by
    rw [List.append_nil]
    exact ⟨G1, S1, ds, P, PX, w1, r1, p, k.mono x1, hX.mono (Ext.trans j x1)⟩
/-- with the values of the defaults behind -/
theorem ev_callD {C : Ct} {E : XK} {PX : PXT} {ta : TA} {dvs : List V} {dds : List DL.D} (hX : J.X K E PX) (hd : ∀ G, Reps K G dvs dds) (h : EvA K J ta δ S fun ds S1 => C (ds ++ dds) S1 P PX) : Ev K J (tCall (spD K C) dvs E ta) δ S P := fun G H σ w j e Q k =>
  h G H σ w j e _ fun G1 H1 S1 vs ds w1 x1 r1 p => ⟨G1, S1, ds ++ dds, P, PX, w1, r1.append (hd G1), p, k.mono x1, hX.mono (Ext.trans j x1)⟩
/-! ### instances -/
/-- the attributes of an instance, mutable or not -/
def Insts (S : Store) (d : DL.D) (C : Addr) (fs : List (Str × DL.D)) : Prop := d = .ins C fs ∨ ∃ a, d = .loc a ∧ S a = some (.ins C fs)
theorem Insts.at {d : DL.D} {C : Addr} {gs : List (Str × DL.D)} {v : V} (w : Wd K G H S) (r : Rep K G v d) (h : Insts S d C gs) : ∃ a dx fs, v = .ref a ∧ H a = some (.ins C dx fs) ∧ RepF K G fs gs := by
  rcases h with e | ⟨a, e, hs⟩
  · subst e
    cases r with
    | ins hg rf => exact ⟨_, _, _, rfl, w.sub _ _ hg, rf⟩
  · subst e
    cases r
    obtain ⟨_, o, ho, rm⟩ := w.own a _ hs
    cases o <;> first | exact rm.elim | skip
    obtain ⟨e, rf⟩ := rm
    subst e
    exact ⟨a, _, _, rfl, ho, rf⟩
theorem ev_fld {f : Str} {C : Addr} (c : Cls K C) (n : NoAttr K C f) (h : Ev K J ta δ S fun d S1 => ∃ fs x, Insts S1 d C fs ∧ fs.lookup f = some x ∧ P x S1) : Ev K J (tFld K ta f) δ S P := fun G H σ w j e Q k =>
  h G H σ w j e _ fun G1 H1 S1 v d w1 x1 r1 ⟨fs, x, hi, hl, p⟩ => by
    obtain ⟨a, dx, vs, e1, ho, rf⟩ := hi.at w1 r1
    rcases rf.lookup f with ⟨u, d2, h1, h2, r2⟩ | ⟨_, h2⟩
    · rw [hl] at h2; cases h2
      exact ⟨a, C, dx, vs, u, e1, ho, c, n, h1, k G1 H1 S1 u _ w1 x1 r2 p⟩
    · rw [hl] at h2; cases h2
theorem ev_meth {C : Addr} {m : Str} {Cc : Ct} {E : XK} {PX : PXT} {t : TA} (hX : J.X K E PX)
    (h : Ev K J ta δ S fun d S1 => ∃ fs, Insts S1 d C fs ∧ fs.lookup m = none ∧ EvA K J t δ S1 fun ds S2 => Cc (d :: ds) S2 P PX) : Ev K J (tMeth C m (spD K Cc) [] E ta t) δ S P := fun G H σ w j e Q k =>
  h G H σ w j e _ fun G1 H1 S1 v d w1 x1 r1 ⟨fs, hi, hl, p⟩ => by
    obtain ⟨a, dx, vs, e1, ho, rf⟩ := hi.at w1 r1
    have hn : vs.lookup m = none := by
      rcases rf.lookup m with ⟨u, d2, h1, h2, r2⟩ | ⟨h1, _⟩
      · rw [hl] at h2; cases h2
      · exact h1
    refine ⟨a, dx, vs, e1, ho, hn, ?_⟩
    refine p G1 H1 σ w1 (j.trans x1) (e.mono x1.gsub) _ fun G2 H2 S2 ws ds w2 x2 r2 p2 => ?_
    rw [List.append_nil]
    exact ⟨G2, S2, d :: ds, P, PX, w2, .cons (r1.mono x2.gsub) r2, p2, k.mono (x1.trans x2), hX.mono (Ext.trans j (x1.trans x2))⟩
theorem run_fld {f : Str} {C : Addr} {tv : TE} (c : Cls K C) (n : NoAttr K C f) (h : Ev K J tv δ S fun x S1 => Ev K J ta δ S1 fun d S2 => ∃ a fs, d = .loc a ∧ S2 a = some (.ins C fs) ∧ fs.length < 1000 ∧ R.nx δ (S2.set a (.ins C (putD f x fs)))) : Run K J (sFld K ta tv f) δ S R := fun G H σ D w j e o =>
  h G H σ w j e _ fun G1 H1 S1 v x w1 x1 r1 p => p G1 H1 σ w1 (j.trans x1) (e.mono x1.gsub) _ fun G2 H2 S2 v2 d2 w2 x2 r2 ⟨a, fs, e1, hs, hl, q⟩ => by
    subst e1
    cases r2
    obtain ⟨_, ob, ho, rm⟩ := w2.own a _ hs
    cases ob with
    | ins C' dx vs =>
      obtain ⟨ec, rf⟩ := rm
      subst ec
      refine ⟨a, C', dx, vs, rfl, ho, c, n, by rw [rf.length]; exact hl, ?_⟩
      exact o.nx G2 _ _ σ δ (w2.put (m' := .ins C' (putD f x fs)) hs ⟨rfl, rf.put f (r1.mono x2.gsub)⟩) (((Ext.trans j x1).trans x2).trans (Ext.put w2 hs)) (x1.trans x2).gsub (e.mono (x1.trans x2).gsub) q
    | _ => exact rm.elim
theorem new_ins {x dx C : Addr} (w : Wd K G H S) (hx : H x = none) (hd : H dx = none) (ne : dx ≠ x) : Wd K G (upd (upd H dx (.own x)) x (.ins C dx [])) (S.set x (.ins C [])) ∧ Ext G H S G (upd (upd H dx (.own x)) x (.ins C dx [])) (S.set x (.ins C [])) := by
  have w1 : Wd K G (upd H dx (.own x)) S := ⟨w.sub.trans (Sub.new hd), fun a m e => by
    have hb : a ≠ dx := fun z => by subst z; rw [(w.free hd).2] at e; cases e
    obtain ⟨e1, u, e2, r⟩ := w.own a m e
    exact ⟨e1, u, by rw [upd_ne hb]; exact e2, r⟩⟩
  have x1 : Ext G H S G (upd H dx (.own x)) S := ⟨.refl _, fun _ _ e => .inl e, fun b u e _ => by rw [upd_ne (ne_of_none e hd)]; exact e, fun b e => by
    by_cases hb : b = dx
    · subst hb; exact hd
    · rw [upd_ne hb] at e; exact e, fun b m e => .inl (by rw [e]; exact fun z => by cases z), fun _ e => e⟩
  have hx' : upd H dx (.own x) x = none := by rw [upd_ne (Ne.symm ne)]; exact hx
  exact ⟨w1.mut hx' ⟨rfl, .nil⟩, x1.trans (Ext.mut w1 hx')⟩
/-- C(..), then mutable or not by P -/
theorem ev_make {C : Addr} {Cc : Ct} {E : XK} {PX : PXT} {t : TA} (hX : J.X K E PX)
    (h : EvA K J t δ S fun ds S1 => ∀ x, S1 x = none → J.S x = none → Cc (.loc x :: ds) (S1.set x (.ins C [])) (fun d S2 => d = .non ∧ (P (.loc x) S2 ∨ ∃ fs, S2 x = some (.ins C fs) ∧ P (.ins C fs) (S2.del x))) PX) : Ev K J (tMake C (spD K Cc) [] E t) δ S P := fun G H σ w j e Q k =>
  h G H σ w j e _ fun G1 H1 S1 vs ds w1 x1 r1 p => by
    intro x dx hx hd ne
    rw [List.append_nil]
    obtain ⟨w2, x2⟩ := new_ins (C := C) w1 hx hd ne
    have hs := (w1.free hx).2
    refine ⟨G1, _, .loc x :: ds, _, PX, w2, .cons (.loc x) r1, p x hs (j.sold x (x1.sold x hs)), ?_, hX.mono (Ext.trans j (x1.trans x2))⟩
    intro G3 H3 S3 v d w3 x3 r3 ⟨ed, q⟩
    subst ed
    cases r3
    refine ⟨rfl, ?_⟩
    rcases q with q | ⟨fs, hs3, q⟩
    · exact k G3 H3 S3 _ _ w3 ((x1.trans x2).trans x3) (.loc x) q
    · exact Ev.frz (k.mono x1) (x2.trans x3) w3 hs hs3 q
/-! ### a def -/
def Fin (J : Jd) (P : DL.D → Store → Prop) (d : DL.D) (S : Store) : Prop := ∃ S', Drop J.S S S' ∧ P d S'
theorem Fin.now {d : DL.D} (p : P d S) : Fin J P d S := ⟨S, .refl, p⟩
theorem Fin.drop {d : DL.D} {S' : Store} (h : Drop J.S S S') (p : P d S') : Fin J P d S := ⟨S', h, p⟩
abbrev outD (J : Jd) (P : DL.D → Store → Prop) : Out := ⟨fun _ S' => Fin J P .non S', Fin J P, fun _ _ => False, fun _ _ => False⟩
def startD (N : List Str) (ds : List DL.D) : En := ds.map some ++ List.replicate (N.length - ds.length) none
theorem Reps.start {N : List Str} {vs : List V} {ds : List DL.D} (r : Reps K G vs ds) : EnR K G (L2.start N vs) (startD N ds) where
  len := by unfold L2.start startD; rw [List.length_append, List.length_append, List.length_map, List.length_map, List.length_replicate, List.length_replicate, r.length]
  at_ := fun i d h => by
    unfold startD at h
    unfold L2.start
    by_cases hi : i < ds.length
    · rw [List.getElem?_append_left (by rw [List.length_map]; exact hi), List.getElem?_map] at h
      rw [List.getElem?_append_left (by rw [List.length_map, r.length]; exact hi), List.getElem?_map]
      cases q : ds[i]? with
      | none => rw [q] at h; cases h
      | some x =>
        rw [q] at h
        cases h
        obtain ⟨v, h1, h2⟩ := r.getD q
        exact ⟨v, by rw [h1]; rfl, h2⟩
    · rw [List.getElem?_append_right (by rw [List.length_map]; omega), List.getElem?_replicate] at h
      split at h <;> cases h
/-- from the contract to the reading -/
theorem bodyD {C : Ct} {N : List Str} {t : TS} {E : XK} {vs : List V} (run : ∀ J ds S P PX, J.S = S → C ds S P PX → J.X K E PX → Run K J t (startD N ds) S (outD J P)) (h : spD K C vs H Q E) :
    t { nx := fun _ H' => Q .non H', rt := Q } (L2.start N vs) H := by
  obtain ⟨G, S, ds, P, PX, w, r, c, k, x⟩ := h
  refine run ⟨G, H, S⟩ ds S P PX rfl c x G H _ _ w (Ext.refl w) r.start ⟨?_, ?_, ?_, ?_⟩
  · rintro G' H' S' σ' δ' w' j' _ _ ⟨S2, d2, p⟩
    exact k G' H' S2 .non .non (w'.drop d2) (Ext.drop j' d2) .non p
  · rintro G' H' S' v d w' j' r' ⟨S2, d2, p⟩
    exact k G' H' S2 v d (w'.drop d2) (Ext.drop j' d2) r' p
  · exact fun _ _ _ _ _ _ _ _ _ z => z.elim
  · exact fun _ _ _ _ _ _ _ _ _ z => z.elim
theorem spD_len {C : Ct} {n : Nat} (len : ∀ ds S P PX, C ds S P PX → ds.length = n) : ∀ vs H Q E, spD K C vs H Q E → vs.length = n := fun vs H Q E ⟨G, S, ds, P, PX, w, r, c, _⟩ => by
  rw [r.length]; exact len ds S P PX c
end
end DL

set_option maxHeartbeats 1900000
/-! DL4: short names of readings, further rules of the layer. -/
namespace DL
open PySem L2 PySem.Spec PyProof.Rows
/-! ### short names -/
abbrev rAddI : R2 := rI0 fun i j => .int (i + j)
abbrev rSubI : R2 := rI0 fun i j => .int (i - j)
abbrev rMulI : R2 := rI CMul fun i j => .int (i * j)
abbrev rDivI : R2 := rI CDivN fun i j => .int (i.fdiv j)
abbrev rModI : R2 := rI (fun _ j => j ≠ 0) fun i j => .int (i.fmod j)
abbrev rPowI : R2 := rI CPow fun i j => .int (i ^ j.toNat)
abbrev rLtI : R2 := rI0 fun i j => .bl (decide (i < j))
abbrev rLeI : R2 := rI0 fun i j => .bl (decide (i ≤ j))
abbrev rGtI : R2 := rI0 fun i j => .bl (decide (j < i))
abbrev rGeI : R2 := rI0 fun i j => .bl (decide (j ≤ i))
abbrev rNeg : V → Hp → VK → Prop := rU fun i => .int (-i)
abbrev rAddS : R2 := fun x y H Q => ∃ a b, x = .str a ∧ y = .str b ∧ a.length + b.length ≤ sizeLine ∧ Q (.str (a ++ b)) H
abbrev rIsN : R2 := fun x y H Q => y = .non ∧ Q (.bl (decide (x = .non))) H
abbrev rNotN : R2 := fun x y H Q => y = .non ∧ Q (.bl (!decide (x = .non))) H
abbrev rLenSeq (K : Frag) : List V → Hp → VK → Prop := fun us H Q => ∃ a ws, us = [.ref a] ∧ (SqL K H a ws ∨ SqT K H a ws) ∧ Q (.int ws.length) H
abbrev rLenStr : List V → Hp → VK → Prop := fun us H Q => ∃ a, us = [.str a] ∧ a.length ≤ sizeLine ∧ Q (.int a.length) H
abbrev rListOf (K : Frag) : List V → Hp → VK → Prop := fun us H Q => ∃ a ws, us = [.ref a] ∧ (SqL K H a ws ∨ SqT K H a ws) ∧ ∀ l, H l = none → Q (.ref l) (upd H l (.lst ws))
abbrev rTupOf (K : Frag) : List V → Hp → VK → Prop := fun us H Q => ∃ a ws, us = [.ref a] ∧ ((SqL K H a ws ∧ ∀ l, H l = none → Q (.ref l) (upd H l (.tup ws))) ∨ (SqT K H a ws ∧ Q (.ref a) H))
abbrev rAbs : List V → Hp → VK → Prop := fun us H Q => ∃ i, us = [.int i] ∧ Q (.int (if i < 0 then -i else i)) H
abbrev rMin2 : List V → Hp → VK → Prop := fun us H Q => ∃ i j, us = [.int i, .int j] ∧ Q (.int (if j < i then j else i)) H
abbrev rMax2 : List V → Hp → VK → Prop := fun us H Q => ∃ i j, us = [.int i, .int j] ∧ Q (.int (if j > i then j else i)) H
abbrev rMinL := rMin
abbrev rMaxL := rMax
abbrev rInt1 : List V → Hp → VK → Prop := fun us H Q => (∃ i, us = [.int i] ∧ Q (.int i) H) ∨ ∃ k, us = [.bl k] ∧ Q (.int (if k then 1 else 0)) H
abbrev rStrI : List V → Hp → VK → Prop := fun us H Q => ∃ i, us = [.int i] ∧ i.natAbs.log2 < 1920 ∧ Q (.str (toString i)) H
abbrev rDivmod : List V → Hp → VK → Prop := fun us H Q => ∃ i j, us = [.int i, .int j] ∧ CDiv i j ∧ ∀ p, H p = none → Q (.ref p) (upd H p (.tup [.int (i / j), .int (i % j)]))
abbrev rRjust : V → List V → Hp → VK → Prop := fun x us H Q => ∃ (a : Str) (i : Int), x = .str a ∧ us = [.int i] ∧ PadOk i = true ∧ Q (.str (Txt.rjust a i)) H
abbrev rInsert : V → List V → Hp → VK → Prop := fun x us H Q => ∃ (l : Addr) (ws : List V) (i : Int) (y : V), x = .ref l ∧ us = [.int i, y] ∧ H l = some (.lst ws) ∧ ws.length < sizeLine ∧ 0 ≤ i ∧ i < 2 ^ 63 ∧
  Q .non (upd H l (.lst (ws.take i.toNat ++ [y] ++ ws.drop i.toNat)))
abbrev rJoin (K : Frag) : V → List V → Hp → VK → Prop := fun x us H Q => ∃ a p, ∃ ys : List Str, x = .str a ∧ us = [.ref p] ∧ (SqL K H p (ys.map V.str) ∨ SqT K H p (ys.map V.str)) ∧ (ys.map (·.length)).sum + ys.length * a.length ≤ 16777216 ∧ Q (.str (Txt.join a ys)) H
abbrev rSplit : V → List V → Hp → VK → Prop := fun x us H Q => ∃ a b, x = .str a ∧ us = [.str b] ∧ (b.length == 0) = false ∧ a.length + 2 ≤ sizeLine ∧ rNewStrs (Txt.split a b) H Q
abbrev rSlS : V → Option Int → Option Int → Hp → VK → Prop := fun x lo hi H Q => ∃ z, x = .str z ∧ z.length ≤ sizeLine ∧ Q (.str (cutS z lo hi)) H
theorem unitsOf {A : Around} {k : Nat} (hr : Room k A) : A.units + 64 < cLine := hr.units
/-! ### x in a tuple of data of any depth -/
section
variable {X : Cx}
def rInDT (K : Frag) : R2 := fun x y H Q => ∃ d ds, Dp K H x d ∧ Dp K H y (.tuple ds) ∧ SeqAt.shaped d = true ∧ SeqAt.shaped (.tuple ds) = true ∧ Q (.bl (ds.any fun z => PyData.eqv z d)) H
def rNotInDT (K : Frag) : R2 := fun x y H Q => ∃ d ds, Dp K H x d ∧ Dp K H y (.tuple ds) ∧ SeqAt.shaped d = true ∧ SeqAt.shaped (.tuple ds) = true ∧ Q (.bl (!ds.any fun z => PyData.eqv z d)) H
theorem op_inDT (hu : X.A.units + 65 < cLine) : OpR X (compareOp .In) (rInDT X.K) := by
  intro pins s σ H x y v u Q I rx ry ⟨d, ds, hd, he, sd, se, q⟩
  (obtain ⟨as, r1⟩ := Dp.reads I d x v hd rx)
  obtain ⟨bs, r2⟩ := Dp.reads I (.tuple ds) y u he ry
  exact SeqAt.in_tuple_reads r2 r1 (SeqAt.canLay_of_shaped se) (SeqAt.canLay_of_shaped sd) (room_in_shaped sd hu) ⟨.bl _, H, I, rfl, q⟩
theorem op_notInDT (hu : X.A.units + 65 < cLine) : OpR X (compareOp .NotIn) (rNotInDT X.K) := by
  intro pins s σ H x y v u Q I rx ry ⟨d, ds, hd, he, sd, se, q⟩
  (obtain ⟨as, r1⟩ := Dp.reads I d x v hd rx)
  obtain ⟨bs, r2⟩ := Dp.reads I (.tuple ds) y u he ry
  exact SeqAt.notIn_tuple_reads r2 r1 (SeqAt.canLay_of_shaped se) (SeqAt.canLay_of_shaped sd) (room_in_shaped sd hu) ⟨.bl _, H, I, rfl, q⟩
end
/-! ### a def of the module, a method, a class made -/
structure FnD (P : Program) (w : World) (K : Frag) (mg : Str → Option Value) (base : Heap) (CX : CXT) (k : Nat) (f : Addr) (C : Ct) : Prop where
  ex : ∃ (fd : FuncData) (ps : List Str), FnOk P w K mg base CX k f fd ps (spD K C) ∧ Binds K fd ps [] ∧ PySem.W.keepIn K (.ref f) = true
section
variable {X : Cx} {j k : Nat} {f Cl : Addr} {C : Ct} {x m : Str} {p pos apos : Pos} {e o : Expr} {es : List Expr} {ta : TE} {t : TA}
theorem pe_cd (F : FnD X.prog X.w X.K X.mg X.base CX0 k f C) (hr : Room j X.A) (hk : k ≤ j) (hg : Gl X x) (hm : X.mg x = some (.ref f)) (ha : PA X (e :: es) t) (hdb : (x == ("__debug__" : Str)) = false := by decide) (he : starEach (e :: es) X.env = (false, eval e X.env) :: starEach es X.env := by rfl) (hpl : (backTo pos (starEach es X.env)).any (·.1) = false := by rfl) :
    PE X (.Call (.Name x p) (e :: es) [] pos) (tCall (spD X.K C) [] E0 t) := by
  obtain ⟨fd, ps, F1, b, kp⟩ := F.ex
  exact pe_call F1 (hr.mono hk) hg hm kp b .nil pass0 ha hdb he hpl
theorem pe_cd0 (F : FnD X.prog X.w X.K X.mg X.base CX0 k f C) (hr : Room j X.A) (hk : k ≤ j) (hg : Gl X x) (hm : X.mg x = some (.ref f)) (hdb : (x == ("__debug__" : Str)) = false := by decide) :
    PE X (.Call (.Name x p) [] [] pos) (tCall (spD X.K C) [] E0 tNil) := by
  obtain ⟨fd, ps, F1, b, kp⟩ := F.ex
  exact pe_call0 F1 (hr.mono hk) hg hm kp b .nil pass0 hdb
theorem pe_md {pl : Sem Bool} (he : PE X o ta) (c : Cls X.K Cl) (hm : Meth X.K Cl m f) (F : FnD X.prog X.w X.K X.mg X.base CX0 k f C) (hr : Room j X.A) (hk : k ≤ j) (ha : PA X (e :: es) t) (hst : starEach (e :: es) X.env = (false, eval e X.env) :: starEach es X.env := by rfl) (hpl : (backTo pos (starEach es X.env)).any (·.1) = false := by rfl)
    (ht : eval (.Call (.Attribute o m apos) (e :: es) [] pos) X.env = (do let ov ← eval o X.env; standAt apos.atName; let (g, first) ← holding [ov] (getMethod ov m pl); callWith pos g first (backTo pos (starEach (e :: es) X.env)) (backToKw pos (keywordEach [] X.env))) := by rfl) :
    PE X (.Call (.Attribute o m apos) (e :: es) [] pos) (tMeth Cl m (spD X.K C) [] E0 ta t) := by
  obtain ⟨fd, ps, F1, b, kp⟩ := F.ex
  exact pe_meth he c hm F1 (hr.mono hk) b .nil pass0 ha hst hpl ht
theorem pe_md0 {pl : Sem Bool} (he : PE X o ta) (c : Cls X.K Cl) (hm : Meth X.K Cl m f) (F : FnD X.prog X.w X.K X.mg X.base CX0 k f C) (hr : Room j X.A) (hk : k ≤ j)
    (ht : eval (.Call (.Attribute o m apos) [] [] pos) X.env = (do let ov ← eval o X.env; standAt apos.atName; let (g, first) ← holding [ov] (getMethod ov m pl); callWith pos g first (backTo pos (starEach [] X.env)) (backToKw pos (keywordEach [] X.env))) := by rfl) :
    PE X (.Call (.Attribute o m apos) [] [] pos) (tMeth Cl m (spD X.K C) [] E0 ta tNil) := by
  obtain ⟨fd, ps, F1, b, kp⟩ := F.ex
  exact pe_meth0 he c hm F1 (hr.mono hk) b .nil pass0 ht
abbrev tPropD (K : Frag) (Cl : Addr) (C : Ct) (ta : TE) : TE := tProp Cl (spD K C) [] E0 ta
theorem pe_propD {q : Addr} (he : PE X e ta) (c : Cls X.K Cl) (hp : PropOf X.K Cl m q f) (F : FnD X.prog X.w X.K X.mg X.base CX0 k f C) (hr : Room j X.A) (hk : k + 1 ≤ j) (hab : attributeBase e m X.env (eval e X.env) = eval e X.env := by rfl) :
    PE X (.Attribute e m pos) (tPropD X.K Cl C ta) := by
  obtain ⟨fd, ps, F1, b, kp⟩ := F.ex
  exact pe_prop he c hp F1 (hr.mono hk) b .nil pass0 hab
end
theorem pe_gk {X : Cx} {v : V} {x : Str} {pos : Pos} (hg : Gl X x) (h : ∃ u, X.mg x = some u ∧ RelV v u) (hd : (x == ("__debug__" : Str)) = false := by decide) : PE X (.Name x pos) (tC v) := by
  obtain ⟨u, hm, r⟩ := h
  exact pe_glob hg hm r hd
end DL

set_option maxHeartbeats 1900000
/-! DL5: what is walked, loops and comprehensions over it; built-ins over deep data. -/
namespace DL
open PySem L2 PySem.Spec PyProof.Rows

/-! ### what is walked: its items -/
structure Src (K : Frag) (I : It) (G1 : Hp) (ds : List D) : Prop where
  go : ∀ i G H S x, ds[i]? = some x → Wd K G H S → Sub G1 G → I.go i H ∧ ∀ v H', I.yld i H v H' → ∃ G', Wd K G' H' S ∧ Ext G H S G' H' S ∧ Rep K G' v x
  stop : ∀ G H S, Wd K G H S → Sub G1 G → I.stop ds.length H
def EvI (K : Frag) (J : Jd) (wi : TI) (δ : En) (S : Store) (P : List D → Store → Prop) : Prop := ∀ G H σ, Wd K G H S → J.at G H S → EnR K G σ δ → ∀ R : It → Hp → Prop,
  (∀ G' H' S' I ds, Wd K G' H' S' → Ext G H S G' H' S' → Src K I G' ds → P ds S' → R I H') → wi σ H R
def rgD (lo : Int) (n : Nat) : List D := (List.range n).map fun i => .int (lo + (i : Nat))
theorem rgD_get {lo : Int} {n i : Nat} {x : D} (h : (rgD lo n)[i]? = some x) : i < n ∧ x = .int (lo + (i : Nat)) := by
  unfold rgD at h
  rw [List.getElem?_map] at h
  by_cases hi : i < n
  · rw [List.getElem?_range hi] at h
    exact ⟨hi, (Option.some.inj h).symm⟩
  · rw [List.getElem?_eq_none (by simpa using hi)] at h; cases h
theorem rgD_len {lo : Int} {n : Nat} : (rgD lo n).length = n := by unfold rgD; rw [List.length_map, List.length_range]
/-- the items numbered -/
def enD (ds : List D) : List D := (List.range ds.length).map fun i => .tup [.int (i : Nat), ds.getD i .non]
theorem enD_get {ds : List D} {i : Nat} {x : D} (h : (enD ds)[i]? = some x) : ∃ d, ds[i]? = some d ∧ x = .tup [.int (i : Nat), d] := by
  unfold enD at h
  rw [List.getElem?_map] at h
  by_cases hi : i < ds.length
  · rw [List.getElem?_range hi] at h
    refine ⟨ds[i], List.getElem?_eq_getElem hi, ?_⟩
    rw [← Option.some.inj h]
    show D.tup [.int (i : Nat), ds.getD i .non] = _
    (rw [List.getD_eq_getElem?_getD, List.getElem?_eq_getElem hi])
    rfl
  · rw [List.getElem?_eq_none (by simpa using hi)] at h; cases h
theorem enD_len {ds : List D} : (enD ds).length = ds.length := by unfold enD; rw [List.length_map, List.length_range]
def zpD (ds es : List D) : List D := (List.range (min ds.length es.length)).map fun i => .tup [ds.getD i .non, es.getD i .non]
theorem zpD_get {ds es : List D} {i : Nat} {x : D} (h : (zpD ds es)[i]? = some x) : ∃ d e, ds[i]? = some d ∧ es[i]? = some e ∧ x = .tup [d, e] := by
  unfold zpD at h
  rw [List.getElem?_map] at h
  by_cases hi : i < min ds.length es.length
  · rw [List.getElem?_range hi] at h
    have h1 : i < ds.length := by omega
    have h2 : i < es.length := by omega
    refine ⟨ds[i], es[i], List.getElem?_eq_getElem h1, List.getElem?_eq_getElem h2, ?_⟩
    rw [← Option.some.inj h]
    show D.tup [ds.getD i .non, es.getD i .non] = _
    rw [List.getD_eq_getElem?_getD, List.getElem?_eq_getElem h1, List.getD_eq_getElem?_getD, List.getElem?_eq_getElem h2]
    rfl
  · rw [List.getElem?_eq_none (by simpa using hi)] at h; cases h
theorem zpD_len {ds es : List D} : (zpD ds es).length = min ds.length es.length := by unfold zpD; rw [List.length_map, List.length_range]
section
variable {K : Frag} {J : Jd} {δ : En} {S : Store} {PI : List D → Store → Prop} {P : D → Store → Prop} {G G' H : Hp} {Q : VK} {ta tb te tl : TE}
theorem src_list {a : Addr} {vs : List V} {ds : List D} (h : SqL K G a vs) (r : Reps K G vs ds) : Src K (Itl K a) G ds where
  go := fun i G2 H2 S2 x hx w s => by
    obtain ⟨v, hv, rv⟩ := r.getD hx
    exact ⟨⟨vs, v, w.sub.l (s.l h), hv⟩, fun u H' y => by
      obtain ⟨e, y⟩ := y
      subst e
      have e2 := y vs (w.sub.l (s.l h))
      rw [hv] at e2; cases e2
      exact ⟨G2, w, Ext.refl w, rv.mono s⟩⟩
  stop := fun G2 H2 S2 w s => ⟨vs, w.sub.l (s.l h), by rw [r.length]; exact Nat.le_refl _⟩
theorem src_tup {a : Addr} {vs : List V} {ds : List D} (h : SqT K G a vs) (r : Reps K G vs ds) : Src K (Itt K a) G ds where
  go := fun i G2 H2 S2 x hx w s => by
    obtain ⟨v, hv, rv⟩ := r.getD hx
    exact ⟨⟨vs, v, w.sub.t (s.t h), hv⟩, fun u H' y => by
      obtain ⟨e, y⟩ := y
      subst e
      have e2 := y vs (w.sub.t (s.t h))
      rw [hv] at e2; cases e2
      exact ⟨G2, w, Ext.refl w, rv.mono s⟩⟩
  stop := fun G2 H2 S2 w s => ⟨vs, w.sub.t (s.t h), by rw [r.length]; exact Nat.le_refl _⟩
theorem src_rng (lo : Int) (n : Nat) : Src K (Itr lo n) G (rgD lo n) where
  go := fun i G2 H2 S2 x hx w s => by
    obtain ⟨hi, e⟩ := rgD_get hx
    subst e
    exact ⟨hi, fun u H' y => by
      obtain ⟨e, y⟩ := y
      subst e y
      exact ⟨G2, w, Ext.refl w, .int _⟩⟩
  stop := fun G2 H2 S2 w s => by rw [rgD_len]; exact Nat.le_refl _
theorem src_enum {a : Addr} {vs : List V} {ds : List D} (h : SqL K G a vs) (r : Reps K G vs ds) : Src K (Ite K a) G (enD ds) where
  go := fun i G2 H2 S2 x hx w s => by
    obtain ⟨d, hd, e⟩ := enD_get hx
    subst e
    obtain ⟨v, hv, rv⟩ := r.getD hd
    exact ⟨⟨vs, v, w.sub.l (s.l h), hv⟩, fun u H' y => by
      obtain ⟨T, z, e1, hT, e2, y⟩ := y
      subst e1 e2
      have e3 := y vs (w.sub.l (s.l h))
      rw [hv] at e3; cases e3
      exact ⟨_, w.imm hT, Ext.imm w hT, .tup (.inl (.inl upd_same)) (.cons (.int _) (.cons ((rv.mono s).mono (Sub.new (w.free hT).1)) .nil))⟩⟩
  stop := fun G2 H2 S2 w s => ⟨vs, w.sub.l (s.l h), by rw [enD_len, r.length]; exact Nat.le_refl _⟩
theorem src_zip {a b : Addr} {vs us : List V} {ds es : List D} (h : SqL K G a vs) (r : Reps K G vs ds) (h' : SqL K G b us) (r' : Reps K G us es) : Src K (Itz K a b) G (zpD ds es) where
  go := fun i G2 H2 S2 x hx w s => by
    obtain ⟨d, e, hd, he, ex⟩ := zpD_get hx
    subst ex
    obtain ⟨v, hv, rv⟩ := r.getD hd
    obtain ⟨u, hu, ru⟩ := r'.getD he
    exact ⟨⟨vs, us, v, u, w.sub.l (s.l h), w.sub.l (s.l h'), hv, hu⟩, fun z H' y => by
      obtain ⟨T, z1, z2, e1, hT, e2, y1, y2⟩ := y
      subst e1 e2
      have e3 := y1 vs (w.sub.l (s.l h))
      have e4 := y2 us (w.sub.l (s.l h'))
      rw [hv] at e3; cases e3
      rw [hu] at e4; cases e4
      have n1 := Sub.new (o := HO.tup [v, u]) (w.free hT).1
      exact ⟨_, w.imm hT, Ext.imm w hT, .tup (.inl (.inl upd_same)) (.cons ((rv.mono s).mono n1) (.cons ((ru.mono s).mono n1) .nil))⟩⟩
  stop := fun G2 H2 S2 w s => ⟨vs, us, w.sub.l (s.l h), w.sub.l (s.l h'), by rw [zpD_len, r.length, r'.length]; omega⟩
theorem ei_list (h : Ev K J tl δ S fun d S1 => ∃ ds, d = .lst ds ∧ PI ds S1) : EvI K J (iList K tl) δ S PI := fun G H σ w j e R k =>
  h G H σ w j e _ fun G1 H1 S1 v d w1 x1 r1 ⟨ds, ed, p⟩ => by
    subst ed
    cases r1 with
    | lst hq rs => exact ⟨_, rfl, ⟨_, .inl (.inl (w1.sub _ _ hq))⟩, k G1 H1 S1 _ ds w1 x1 (src_list (.inl (.inl hq)) rs) p⟩
theorem ei_tup (h : Ev K J tl δ S fun d S1 => ∃ ds, d = .tup ds ∧ PI ds S1) : EvI K J (iTup K tl) δ S PI := fun G H σ w j e R k =>
  h G H σ w j e _ fun G1 H1 S1 v d w1 x1 r1 ⟨ds, ed, p⟩ => by
    subst ed
    cases r1 with
    | tup hq rs => exact ⟨_, rfl, ⟨_, w1.sub.t hq⟩, k G1 H1 S1 _ ds w1 x1 (src_tup hq rs) p⟩
theorem ei_rng1 {t : TA} (h : EvA K J t δ S fun xs S1 => ∃ n : Int, xs = [.int n] ∧ Rg n ∧ PI (rgD 0 n.toNat) S1) : EvI K J (iRng1 t) δ S PI := fun G H σ w j e R k =>
  h G H σ w j e _ fun G1 H1 S1 vs ds w1 x1 r1 ⟨n, ed, hn, p⟩ => by
    subst ed
    cases r1 with
    | cons r rr =>
      cases rr; cases r
      exact ⟨n, rfl, hn.1, hn.2, k G1 H1 S1 _ _ w1 x1 (src_rng 0 n.toNat) p⟩
theorem ei_rng2 {t : TA} (h : EvA K J t δ S fun xs S1 => ∃ lo n : Int, xs = [.int lo, .int n] ∧ Rg lo ∧ Rg n ∧ PI (rgD lo (n - lo).toNat) S1) : EvI K J (iRng2 t) δ S PI := fun G H σ w j e R k =>
  h G H σ w j e _ fun G1 H1 S1 vs ds w1 x1 r1 ⟨lo, n, ed, hl, hn, p⟩ => by
    subst ed
    cases r1 with
    | cons r rr =>
      cases rr with
      | cons r' rr =>
        cases rr; cases r; cases r'
        exact ⟨lo, n, rfl, ⟨hl.1, hl.2, hn.1, hn.2⟩, k G1 H1 S1 _ _ w1 x1 (src_rng lo _) p⟩
theorem ei_enum {t : TA} (h : EvA K J t δ S fun xs S1 => ∃ ds, xs = [.lst ds] ∧ PI (enD ds) S1) : EvI K J (iEnum K t) δ S PI := fun G H σ w j e R k =>
  h G H σ w j e _ fun G1 H1 S1 vs xs w1 x1 r1 ⟨ds, ed, p⟩ => by
    subst ed
    cases r1 with
    | cons r rr =>
      cases rr
      cases r with
      | lst hq rs => exact ⟨_, _, rfl, .inl (.inl (w1.sub _ _ hq)), k G1 H1 S1 _ _ w1 x1 (src_enum (.inl (.inl hq)) rs) p⟩
theorem ei_zip {t : TA} (h : EvA K J t δ S fun xs S1 => ∃ ds es, xs = [.lst ds, .lst es] ∧ PI (zpD ds es) S1) : EvI K J (iZip K t) δ S PI := fun G H σ w j e R k =>
  h G H σ w j e _ fun G1 H1 S1 vs xs w1 x1 r1 ⟨ds, es, ed, p⟩ => by
    subst ed
    cases r1 with
    | cons r rr =>
      cases rr with
      | cons r' rr =>
        cases rr
        cases r with
        | lst hq rs =>
          cases r' with
          | lst hq' rs' => exact ⟨_, _, _, _, rfl, .inl (.inl (w1.sub _ _ hq)), .inl (.inl (w1.sub _ _ hq')), k G1 H1 S1 _ _ w1 x1 (src_zip (.inl (.inl hq)) rs (.inl (.inl hq')) rs') p⟩
/-- for target in ..: -/
theorem run_for {wi : TI} {g : TG} {t : TS} {R : Out} (h : EvI K J wi δ S fun ds S1 => ∃ I : Nat → En → Store → Prop, I 0 δ S1 ∧ (∀ i x δ' S', ds[i]? = some x → I i δ' S' → Turns K J g t R I i x δ' S') ∧ ∀ δ' S', I ds.length δ' S' → R.nx δ' S') :
    Run K J (tFor wi g t) δ S R := fun G H σ D w j e o =>
  h G H σ w j e _ fun G1 H1 S1 It ds w1 x1 src ⟨I, i0, hs, hd⟩ => by
    refine ⟨fun i m σ' H' => m = ds.length - i ∧ i ≤ ds.length ∧ ∃ G' S' δ', Wd K G' H' S' ∧ J.at G' H' S' ∧ Sub G1 G' ∧ EnR K G' σ' δ' ∧ I i δ' S',
      ⟨_, rfl, Nat.zero_le _, G1, S1, δ, w1, j.trans x1, .refl _, e.mono x1.gsub, i0⟩, ?_⟩
    rintro i m σ2 H2 ⟨rfl, hi, G2, S2, δ2, w2, j2, s2, e2, i2⟩
    by_cases hlt : i < ds.length
    · have hx : ds[i]? = some ds[i] := List.getElem?_eq_getElem hlt
      obtain ⟨go, yl⟩ := src.go i G2 H2 S2 _ hx w2 s2
      refine .inr ⟨go, fun σ' H' => ∃ G' S' δ', Wd K G' H' S' ∧ J.at G' H' S' ∧ Sub G1 G' ∧ EnR K G' σ' δ' ∧ I (i + 1) δ' S', ?_, ?_⟩
      · rintro σ' H' q
        exact ⟨ds.length - (i + 1), by omega, rfl, hlt, q⟩
      · rintro v H3 hy
        obtain ⟨G3, w3, x3, r3⟩ := yl v H3 hy
        refine hs i _ δ2 S2 hx i2 G3 H3 σ2 v w3 (Ext.trans j2 x3) (e2.mono x3.gsub) r3 _ fun G4 H4 S4 σ4 δ4 w4 x4 e4 p => ?_
        have s14 : Sub G1 G4 := (s2.trans x3.gsub).trans x4.gsub
        refine p G4 H4 σ4 _ w4 ((Ext.trans j2 x3).trans x4) e4 ⟨?_, o.rt, ?_, ?_⟩
        · exact fun G5 H5 S5 σ5 δ5 w5 j5 s5 e5 p => ⟨G5, S5, δ5, w5, j5, s14.trans s5, e5, p⟩
        · exact fun G5 H5 S5 σ5 δ5 w5 j5 s5 e5 p => o.nx G5 H5 S5 σ5 δ5 w5 j5 ((x1.gsub.trans s14).trans s5) e5 p
        · exact fun G5 H5 S5 σ5 δ5 w5 j5 s5 e5 p => ⟨G5, S5, δ5, w5, j5, s14.trans s5, e5, p⟩
    · have e9 : i = ds.length := by omega
      subst e9
      exact .inl ⟨src.stop G2 H2 S2 w2 s2, o.nx G2 H2 S2 σ2 δ2 w2 j2 (x1.gsub.trans s2) e2 (hd _ _ i2)⟩

/-! ### comprehensions -/
/-- the target stores into these slots alone -/
def GK (vs : List Nat) (g : TG) : Prop := ∀ (v : V) (σ0 σ : L2.St) (H : Hp) (N : L2.St → Hp → Prop), wipe σ vs = wipe σ0 vs → g v σ H N → g v σ H fun σ2 H2 => wipe σ2 vs = wipe σ0 vs ∧ N σ2 H2
def GKs (vs : List Nat) (g : TGs) : Prop := ∀ (us : List V) (σ0 σ : L2.St) (H : Hp) (N : L2.St → Hp → Prop), wipe σ vs = wipe σ0 vs → g us σ H N → g us σ H fun σ2 H2 => wipe σ2 vs = wipe σ0 vs ∧ N σ2 H2
theorem wipe_get (σ : L2.St) (i : Nat) : ∀ vs : List Nat, (wipe σ vs)[i]? = if i ∈ vs ∧ i < σ.length then some none else σ[i]?
  | [] => by simp [L2.wipe]
  | v :: vs => by
    unfold L2.wipe
    by_cases hv : v = i
    · subst hv
      by_cases hl : v < σ.length
      · rw [List.getElem?_set_self (by rw [wipe_length]; exact hl), if_pos ⟨List.mem_cons_self, hl⟩]
      · rw [List.getElem?_eq_none (by rw [List.length_set, wipe_length]; omega), if_neg (fun z => hl z.2), List.getElem?_eq_none (by omega)]
    · rw [List.getElem?_set_ne hv, wipe_get σ i vs]
      have e : (i ∈ v :: vs ∧ i < σ.length) ↔ (i ∈ vs ∧ i < σ.length) := by
        rw [List.mem_cons]
        exact ⟨fun ⟨a, b⟩ => ⟨a.resolve_left (fun z => hv z.symm), b⟩, fun ⟨a, b⟩ => ⟨.inr a, b⟩⟩
      by_cases h : i ∈ vs ∧ i < σ.length
      · rw [if_pos h, if_pos (e.mpr h)]
      · rw [if_neg h, if_neg (fun z => h (e.mp z))]
theorem wipe_set {σ : L2.St} {i : Nat} {x : Option V} {vs : List Nat} (h : i ∈ vs) : wipe (σ.set i x) vs = wipe σ vs := by
  apply List.ext_getElem?
  intro k
  rw [wipe_get, wipe_get, List.length_set]
  by_cases hk : k ∈ vs ∧ k < σ.length
  · rw [if_pos hk, if_pos hk]
  · rw [if_neg hk, if_neg hk]
    by_cases e : i = k
    · subst e
      have hl : ¬ i < σ.length := fun z => hk ⟨h, z⟩
      rw [List.getElem?_eq_none (by rw [List.length_set]; omega), List.getElem?_eq_none (by omega)]
    · rw [List.getElem?_set_ne e]
theorem gk_name {i : Nat} {vs : List Nat} (h : i ∈ vs) : GK vs (gName i) := fun v σ0 σ H N hw q => ⟨by rw [wipe_set h]; exact hw, q⟩
theorem gks_nil {vs : List Nat} : GKs vs gNil := fun us σ0 σ H N hw q => ⟨q.1, hw, q.2⟩
theorem gk_mono {g : TG} {vs : List Nat} (h : GK vs g) : GK vs g := h
theorem gks_cons {g : TG} {gs : TGs} {vs : List Nat} (hm : ∀ (v : V) (σ : L2.St) (H : Hp) (N N' : L2.St → Hp → Prop), (∀ a b, N a b → N' a b) → g v σ H N → g v σ H N') (h : GK vs g) (hs : GKs vs gs) : GKs vs (gCons g gs) := fun us σ0 σ H N hw ⟨v, r, e, q⟩ =>
  ⟨v, r, e, hm _ _ _ _ _ (fun σ1 H1 ⟨hw1, q1⟩ => hs r σ0 σ1 H1 N hw1 q1) (h v σ0 σ H _ hw q)⟩
theorem gk_tup {gs : TGs} {vs : List Nat} {n : Nat} (hs : GKs vs gs) : GK vs (gTup K n gs) := fun v σ0 σ H N hw ⟨a, xs, e, hq, hl, q⟩ => ⟨a, xs, e, hq, hl, hs xs σ0 σ H N hw q⟩
theorem gm_name {i : Nat} : ∀ (v : V) (σ : L2.St) (H : Hp) (N N' : L2.St → Hp → Prop), (∀ a b, N a b → N' a b) → gName i v σ H N → gName i v σ H N' := fun v σ H N N' h q => h _ _ q
theorem wipe_wipe {σ : L2.St} {vs : List Nat} : wipe (wipe σ vs) vs = wipe σ vs := by
  apply List.ext_getElem?
  intro k
  rw [wipe_get, wipe_get, wipe_length]
  by_cases hk : k ∈ vs ∧ k < σ.length
  · rw [if_pos hk, if_pos hk]
  · rw [if_neg hk, if_neg hk]
/-- a list that grows beside the world -/
structure Grow (K : Frag) (G1 H1 : Hp) (S1 : Store) (G H : Hp) (S : Store) (D : Addr) (acc : List DL.D) : Prop where
  wd : Wd K G H S
  ext : Ext G1 H1 S1 G H S
  new : H1 D = none
  noG : G D = none
  noS : S D = none
  at_ : ∃ vs, H D = some (.lst vs) ∧ Reps K G vs acc
theorem Grow.start {G1 H1 : Hp} {S1 : Store} {D : Addr} (w : Wd K G1 H1 S1) (h : H1 D = none) : Grow K G1 H1 S1 G1 (upd H1 D (.lst [])) S1 D [] where
  wd := ⟨w.sub.trans (Sub.new h), fun a m e => by
    have hb : a ≠ D := fun z => by subst z; rw [(w.free h).2] at e; cases e
    obtain ⟨e1, u, e2, r⟩ := w.own a m e
    exact ⟨e1, u, by rw [upd_ne hb]; exact e2, r⟩⟩
  ext := ⟨.refl _, fun _ _ e => .inl e, fun b u e _ => by rw [upd_ne (ne_of_none e h)]; exact e, fun b e => by
    by_cases hb : b = D
    · subst hb; exact h
    · rw [upd_ne hb] at e; exact e, fun b m e => .inl (by rw [e]; exact fun z => by cases z), fun _ e => e⟩
  new := h
  noG := (w.free h).1
  noS := (w.free h).2
  at_ := ⟨[], upd_same, .nil⟩
theorem Grow.step {G1 H1 G2 H2 : Hp} {S1 S2 : Store} {D : Addr} {acc : List DL.D} (q : Grow K G1 H1 S1 G H S D acc) (w : Wd K G2 H2 S2) (x : Ext G H S G2 H2 S2) : Grow K G1 H1 S1 G2 H2 S2 D acc where
  wd := w
  ext := q.ext.trans x
  new := q.new
  noG := by
    obtain ⟨vs, h, _⟩ := q.at_
    cases e : G2 D with
    | none => rfl
    | some o =>
      rcases x.gnew D o e with z | z
      · rw [q.noG] at z; cases z
      · rw [h] at z; cases z
  noS := by
    obtain ⟨vs, h, _⟩ := q.at_
    cases e : S2 D with
    | none => rfl
    | some m =>
      rcases x.snew D m e with z | z
      · exact absurd q.noS z
      · rw [h] at z; cases z
  at_ := let ⟨vs, h, r⟩ := q.at_; ⟨vs, x.keep D _ h q.noS, r.mono x.gsub⟩
theorem Grow.push {G1 H1 : Hp} {S1 : Store} {D : Addr} {acc : List DL.D} {v : V} {d : DL.D} {vs : List V} (q : Grow K G1 H1 S1 G H S D acc) (h : H D = some (.lst vs)) (r : Rep K G v d) : Grow K G1 H1 S1 G (upd H D (.lst (vs ++ [v]))) S D (acc ++ [d]) where
  wd := ⟨fun b u e => by
      have hb : b ≠ D := fun z => by subst z; rw [q.noG] at e; cases e
      rw [upd_ne hb]; exact q.wd.sub b u e, fun a m e => by
    have hb : a ≠ D := fun z => by subst z; rw [q.noS] at e; cases e
    obtain ⟨e1, u, e2, r⟩ := q.wd.own a m e
    exact ⟨e1, u, by rw [upd_ne hb]; exact e2, r⟩⟩
  ext := ⟨q.ext.gsub, q.ext.gnew, fun b u e hs => by rw [upd_ne (ne_of_none e q.new)]; exact q.ext.keep b u e hs, fun b e => by
    by_cases hb : b = D
    · subst hb; exact q.new
    · rw [upd_ne hb] at e; exact q.ext.there b e, q.ext.snew, q.ext.sold⟩
  new := q.new
  noG := q.noG
  noS := q.noS
  at_ := ⟨_, upd_same, by
    obtain ⟨ws, hw, rw_⟩ := q.at_
    rw [h] at hw; cases hw
    exact rw_.append (.cons r .nil)⟩
theorem Grow.fin {G1 H1 : Hp} {S1 : Store} {D : Addr} {acc : List DL.D} (q : Grow K G1 H1 S1 G H S D acc) : ∃ o, Wd K (upd G D o) H S ∧ Ext G1 H1 S1 (upd G D o) H S ∧ Rep K (upd G D o) (.ref D) (.lst acc) := by
  obtain ⟨vs, h, r⟩ := q.at_
  refine ⟨.lst vs, ⟨fun b u e => ?_, fun a m e => ?_⟩, ⟨q.ext.gsub.trans (Sub.new q.noG), fun b u e => ?_, q.ext.keep, q.ext.there, q.ext.snew, q.ext.sold⟩, .lst upd_same (r.mono (Sub.new q.noG))⟩
  · by_cases hb : b = D
    · subst hb; rw [upd_same] at e; rw [← e]; exact h
    · rw [upd_ne hb] at e; exact q.wd.sub b u e
  · have hb : a ≠ D := fun z => by subst z; rw [q.noS] at e; cases e
    obtain ⟨e1, u, e2, r⟩ := q.wd.own a m e
    exact ⟨by rw [upd_ne hb]; exact e1, u, e2, r.mono (Sub.new q.noG)⟩
  · by_cases hb : b = D
    · subst hb; exact .inr q.new
    · rw [upd_ne hb] at e; exact q.ext.gnew b u e
/-- what a turn of a comprehension is to show -/
abbrev CTurn (K : Frag) (J : Jd) (g : TG) (tt : TT) (te : TE) (vs : List Nat) (δ : En) (I : Nat → List DL.D → Store → Prop) (i : Nat) (x : DL.D) (acc : List DL.D) (S' : Store) : Prop :=
  EvG K J g x (wipeD δ vs) S' fun δ2 S2 => EvT K J tt δ2 S2 fun b S3 => (b = true → Ev K J te δ2 S3 fun y S4 => acc.length < sizeLine ∧ I (i + 1) (acc ++ [y]) S4) ∧ (b = false → I (i + 1) acc S3)
theorem ev_lc {wi : TI} {g : TG} {tt : TT} {vs : List Nat} (hk : GK vs g)
    (h : EvI K J wi δ S fun ds S1 => ∃ I : Nat → List DL.D → Store → Prop, I 0 [] S1 ∧ (∀ i x acc S', ds[i]? = some x → I i acc S' → CTurn K J g tt te vs δ I i x acc S') ∧ ∀ acc S', I ds.length acc S' → P (.lst acc) S') :
    Ev K J (tLc wi g tt te vs) δ S P := fun G H σ w j e Q k =>
  h G H σ w j e _ fun G1 H1 S1 It ds w1 x1 src ⟨I, i0, hs, hd⟩ => by
    intro D hD
    refine ⟨fun i m H' => m = ds.length - i ∧ i ≤ ds.length ∧ ∃ G' S' acc, Grow K G1 H1 S1 G' H' S' D acc ∧ I i acc S', ⟨_, rfl, Nat.zero_le _, G1, S1, [], Grow.start w1 hD, i0⟩, ?_⟩
    rintro i m H2 ⟨rfl, hi, G2, S2, acc, q2, i2⟩
    by_cases hlt : i < ds.length
    · have hx : ds[i]? = some ds[i] := List.getElem?_eq_getElem hlt
      obtain ⟨go, yl⟩ := src.go i G2 H2 S2 _ hx q2.wd q2.ext.gsub
      refine .inr ⟨go, fun H' => ∃ G' S' acc', Grow K G1 H1 S1 G' H' S' D acc' ∧ I (i + 1) acc' S', ?_, ?_⟩
      · rintro H' q
        exact ⟨ds.length - (i + 1), by omega, rfl, hlt, q⟩
      · rintro v H3 hy
        obtain ⟨G3, w3, x3, r3⟩ := yl v H3 hy
        have q3 := q2.step w3 x3
        have j3 : J.at G3 H3 S2 := (Ext.trans j x1).trans q3.ext
        refine hk v σ (wipe σ vs) H3 _ wipe_wipe ?_
        refine hs i _ acc S2 hx i2 G3 H3 (wipe σ vs) v w3 j3 ((e.mono (x1.trans q3.ext).gsub).wipe vs) r3 _ fun G4 H4 S4 σ4 δ4 w4 x4 e4 p => ?_
        have q4 := q3.step w4 x4
        have j4 : J.at G4 H4 S4 := (Ext.trans j x1).trans q4.ext
        refine p G4 H4 σ4 w4 j4 e4 _ fun G5 H5 S5 b w5 x5 p5 => ?_
        have q5 := q4.step w5 x5
        have j5 : J.at G5 H5 S5 := (Ext.trans j x1).trans q5.ext
        cases b with
        | false => exact ⟨G5, S5, acc, q5, p5.2 rfl⟩
        | true =>
          refine p5.1 rfl G5 H5 σ4 w5 j5 (e4.mono x5.gsub) _ fun G6 H6 S6 v6 d6 w6 x6 r6 ⟨p6, i6⟩ => ?_
          have q6 := q5.step w6 x6
          obtain ⟨vs6, h6, rs6⟩ := q6.at_
          exact ⟨vs6, h6, by rw [rs6.length]; exact p6, G6, S6, _, q6.push h6 r6, i6⟩
    · have e9 : i = ds.length := by omega
      subst e9
      obtain ⟨o, wf, xf, rf⟩ := q2.fin
      exact .inl ⟨src.stop G2 H2 S2 q2.wd q2.ext.gsub, k _ _ S2 _ _ wf (x1.trans xf) rf (hd _ _ i2)⟩
end
end DL

set_option maxHeartbeats 1900000
/-! DL6: sequences, dicts, built-ins and methods over deep data. -/
namespace DL
open PySem L2 PySem.Spec PyProof.Rows
/-- a list, mutable or not -/
def LstAt (S : Store) (d : D) (ds : List D) : Prop := d = .lst ds ∨ ∃ a, d = .loc a ∧ S a = some (.lst ds)
/-- a list or a tuple -/
def SqAt (S : Store) (d : D) (ds : List D) : Prop := LstAt S d ds ∨ d = .tup ds
/-- a dict, mutable or not -/
def DctAt (S : Store) (d : D) (kvs : List (Key × D)) : Prop := d = .dK kvs ∨ ∃ a, d = .loc a ∧ S a = some (.dK kvs)
theorem LstAt.v {S : Store} {ds : List D} : LstAt S (.lst ds) ds := .inl rfl
theorem LstAt.m {S : Store} {a : Addr} {ds : List D} (h : S a = some (.lst ds)) : LstAt S (.loc a) ds := .inr ⟨a, rfl, h⟩
theorem SqAt.l {S : Store} {ds : List D} : SqAt S (.lst ds) ds := .inl .v
theorem SqAt.m {S : Store} {a : Addr} {ds : List D} (h : S a = some (.lst ds)) : SqAt S (.loc a) ds := .inl (.m h)
theorem SqAt.t {S : Store} {ds : List D} : SqAt S (.tup ds) ds := .inr rfl
theorem DctAt.v {S : Store} {ds : List (Key × D)} : DctAt S (.dK ds) ds := .inl rfl
theorem DctAt.m {S : Store} {a : Addr} {ds : List (Key × D)} (h : S a = some (.dK ds)) : DctAt S (.loc a) ds := .inr ⟨a, rfl, h⟩
theorem Store.set_at {S : Store} {a b : Addr} {m : M} (h : a = b) : S.set b m a = some m := by subst h; exact Store.set_same
section
variable {K : Frag} {J : Jd} {δ : En} {S : Store} {P : D → Store → Prop} {G H : Hp} {Q : VK} {ta tb te : TE} {v : V} {d x y : D} {ds es : List D} {vs : List V}
theorem LstAt.rep (w : Wd K G H S) (r : Rep K G v d) (h : LstAt S d ds) : ∃ a vs, v = .ref a ∧ H a = some (.lst vs) ∧ Reps K G vs ds := by
  rcases h with e | ⟨a, e, hs⟩
  · subst e
    cases r with
    | lst h rs => exact ⟨_, _, rfl, w.sub _ _ h, rs⟩
  · subst e
    cases r
    obtain ⟨_, o, ho, rm⟩ := w.own a _ hs
    cases o <;> first | exact rm.elim | skip
    exact ⟨a, _, rfl, ho, rm⟩
theorem SqAt.rep (w : Wd K G H S) (r : Rep K G v d) (h : SqAt S d ds) : ∃ a vs, v = .ref a ∧ (SqL K H a vs ∨ SqT K H a vs) ∧ Reps K G vs ds := by
  rcases h with h | e
  · obtain ⟨a, vs, e, h1, h2⟩ := h.rep w r
    exact ⟨a, vs, e, .inl (.inl (.inl h1)), h2⟩
  · subst e
    cases r with
    | tup h rs => exact ⟨_, _, rfl, .inr (w.sub.t h), rs⟩
theorem DctAt.rep {kvs : List (Key × D)} (w : Wd K G H S) (r : Rep K G v d) (h : DctAt S d kvs) : ∃ a fs, v = .ref a ∧ H a = some (.dK fs) ∧ RepK K G fs kvs := by
  rcases h with e | ⟨a, e, hs⟩
  · subst e
    cases r with
    | dK h rs => exact ⟨_, _, rfl, w.sub _ _ h, rs⟩
  · subst e
    cases r
    obtain ⟨_, o, ho, rm⟩ := w.own a _ hs
    cases o <;> first | exact rm.elim | skip
    exact ⟨a, _, rfl, ho, rm⟩
/-! ### items -/
theorem Reps.atI {i : Int} (r : Reps K G vs ds) (h : L2.atI ds i = some d) : ∃ v, L2.atI vs i = some v ∧ Rep K G v d := by
  unfold L2.atI at h ⊢
  rw [r.length]
  cases q : ixN ds.length i with
  | none => rw [q] at h; cases h
  | some j => rw [q] at h; exact r.getD h
theorem atI_nn {α : Type} {xs : List α} {i : Int} {z : α} (h0 : 0 ≤ i) (h : xs[i.toNat]? = some z) : L2.atI xs i = some z := by
  have hl := (List.getElem?_eq_some_iff.mp h).1
  unfold L2.atI ixN
  rw [if_pos h0, if_pos (by omega)]
  exact h
theorem atI_nat {α : Type} {xs : List α} {i : Nat} {z : α} (h : xs[i]? = some z) : L2.atI xs (i : Int) = some z := atI_nn (Int.natCast_nonneg i) (by rw [Int.toNat_natCast]; exact h)
theorem atI_last {α : Type} {xs : List α} {z : α} (h : xs[xs.length - 1]? = some z) : L2.atI xs (-1) = some z := by
  have hl := (List.getElem?_eq_some_iff.mp h).1
  unfold L2.atI ixN
  rw [if_neg (by omega)]
  have e : ((-1 : Int) + (xs.length : Int)).toNat = xs.length - 1 := by omega
  rw [if_pos (by omega)]
  simp only [Option.bind_some]
  rw [e]; exact h
theorem o_ixL {i : Int} (hl : LstAt S x ds) (hi : L2.atI ds i = some d) (p : P d S) : Op K J (rIxL K) x (.int i) S P := fun G H vx vy w j r1 r2 Q k => by
  cases r2
  obtain ⟨a, vs, e, h1, rs⟩ := hl.rep w r1
  obtain ⟨v, hv, rv⟩ := rs.atI hi
  exact ⟨a, vs, i, v, e, rfl, .inl (.inl h1), hv, k.now w rv p⟩
theorem o_ixT {i : Int} (hi : L2.atI ds i = some d) (p : P d S) : Op K J (rIxT K) (.tup ds) (.int i) S P := fun G H vx vy w j r1 r2 Q k => by
  cases r2
  cases r1 with
  | tup h rs =>
    obtain ⟨v, hv, rv⟩ := rs.atI hi
    exact ⟨_, _, i, v, rfl, rfl, w.sub.t h, hv, k.now w rv p⟩
/-! ### new lists, tuples -/
theorem ev_lst {t : TA} (h : EvA K J t δ S fun xs S1 => xs.length ≤ sizeLine ∧ P (.lst xs) S1) : Ev K J (tLst t) δ S P := fun G H σ w j e Q k =>
  h G H σ w j e _ fun G1 H1 S1 vs ds w1 x1 r1 ⟨z, p⟩ => ⟨by rw [r1.length]; exact z, (k.mono x1).imm w1 (fun p G' s hp => .lst hp (r1.mono s)) p⟩
theorem ev_lstM {t : TA} (h : EvA K J t δ S fun xs S1 => xs.length ≤ sizeLine ∧ ∀ p, S1 p = none → J.S p = none → P (.loc p) (S1.set p (.lst xs))) : Ev K J (tLst t) δ S P := fun G H σ w j e Q k =>
  h G H σ w j e _ fun G1 H1 S1 vs ds w1 x1 r1 ⟨z, p⟩ => ⟨by rw [r1.length]; exact z, (k.mono x1).mut w1 (Ext.trans j x1) (o := .lst vs) (m := .lst ds) r1 p⟩
theorem ev_tup {t : TA} (h : EvA K J t δ S fun xs S1 => xs.length ≤ sizeLine ∧ P (.tup xs) S1) : Ev K J (tTup t) δ S P := fun G H σ w j e Q k =>
  h G H σ w j e _ fun G1 H1 S1 vs ds w1 x1 r1 ⟨z, p⟩ => ⟨by rw [r1.length]; exact z, (k.mono x1).imm w1 (fun p G' s hp => .tup (.inl (.inl hp)) (r1.mono s)) p⟩
/-- a mutable list display -/
def tLstM (t : TA) : TE := tLst t
theorem ev_lstM' {t : TA} (h : EvA K J t δ S fun xs S1 => xs.length ≤ sizeLine ∧ ∀ p, S1 p = none → J.S p = none → P (.loc p) (S1.set p (.lst xs))) : Ev K J (tLstM t) δ S P := ev_lstM h
theorem o_cat (hx : LstAt S x ds) (hy : LstAt S y es) (hz : ds.length + es.length ≤ sizeLine) (p : P (.lst (ds ++ es)) S) : Op K J rCat x y S P := fun G H vx vy w j r1 r2 Q k => by
  obtain ⟨a, vs, e1, h1, s1⟩ := hx.rep w r1
  obtain ⟨b, us, e2, h2, s2⟩ := hy.rep w r2
  exact ⟨a, b, vs, us, e1, e2, h1, h2, by rw [s1.length, s2.length]; exact hz, k.imm w (fun p G' s hp => .lst hp ((s1.append s2).mono s)) p⟩
theorem o_rep {i : Int} (hx : LstAt S x ds) (h1 : -(2 ^ 63) ≤ i) (h2 : i < 2 ^ 63) (hz : ds.length * i.toNat ≤ sizeLine) (p : P (.lst (List.replicate i.toNat ds).flatten) S) : Op K J rRep x (.int i) S P := fun G H vx vy w j r1 r2 Q k => by
  cases r2
  obtain ⟨a, vs, e1, h3, s1⟩ := hx.rep w r1
  exact ⟨a, i, vs, e1, rfl, h3, h1, h2, by rw [s1.length]; exact hz, k.imm w (fun p G' s hp => .lst hp ((s1.rep _).mono s)) p⟩
/-! ### slices -/
def EvO (K : Frag) (J : Jd) (to : TO) (δ : En) (S : Store) (P : Option Int → Store → Prop) : Prop := ∀ G H σ, Wd K G H S → J.at G H S → EnR K G σ δ → ∀ Q : Option Int → Hp → Prop, (∀ G' H' S' o, Wd K G' H' S' → Ext G H S G' H' S' → P o S' → Q o H') → to σ H Q
def Sc (K : Frag) (J : Jd) (r : V → Option Int → Option Int → Hp → VK → Prop) (x : D) (lo hi : Option Int) (S : Store) (P : D → Store → Prop) : Prop := ∀ G H vx, Wd K G H S → J.at G H S → Rep K G vx x → ∀ Q : VK, Kn K G H S P Q → r vx lo hi H Q
theorem eo_none {PO : Option Int → Store → Prop} (p : PO none S) : EvO K J tNoPart δ S PO := fun G H σ w j e Q k => k G H S none w (Ext.refl w) p
theorem eo_some {PO : Option Int → Store → Prop} (h : Ev K J te δ S fun d S1 => ∃ i, d = .int i ∧ PO (some i) S1) : EvO K J (tPart te) δ S PO := fun G H σ w j e Q k =>
  h G H σ w j e _ fun G1 H1 S1 v d w1 x1 r1 ⟨i, ed, p⟩ => by
    subst ed; cases r1
    exact ⟨i, rfl, k G1 H1 S1 _ w1 x1 p⟩
theorem ev_sl {r : V → Option Int → Option Int → Hp → VK → Prop} {tl th : TO} (h : Ev K J te δ S fun x S1 => EvO K J tl δ S1 fun lo S2 => EvO K J th δ S2 fun hi S3 => Sc K J r x lo hi S3 P) : Ev K J (L2.tSl r te tl th) δ S P := fun G H σ w j e Q k =>
  h G H σ w j e _ fun G1 H1 S1 v d w1 x1 r1 p1 => p1 G1 H1 σ w1 (j.trans x1) (e.mono x1.gsub) _ fun G2 H2 S2 lo w2 x2 p2 => p2 G2 H2 σ w2 ((j.trans x1).trans x2) (e.mono (x1.trans x2).gsub) _ fun G3 H3 S3 hi w3 x3 p3 =>
    p3 G3 H3 v w3 (((j.trans x1).trans x2).trans x3) (r1.mono (x2.trans x3).gsub) Q (k.mono ((x1.trans x2).trans x3))
def cutD (xs : List D) (lo hi : Option Int) : List D := (xs.drop (HT.sIx xs.length 0 lo)).take (HT.sIx xs.length xs.length hi - HT.sIx xs.length 0 lo)
theorem Reps.cut (r : Reps K G vs ds) (lo hi : Option Int) : Reps K G (cutV vs lo hi) (cutD ds lo hi) := by
  unfold cutV cutD
  rw [r.length]
  exact (r.drop _).take _
theorem s_lst {lo hi : Option Int} (hx : LstAt S x ds) (p : P (.lst (cutD ds lo hi)) S) : Sc K J (rSlL K) x lo hi S P := fun G H vx w j r1 Q k => by
  obtain ⟨a, vs, e1, h1, s1⟩ := hx.rep w r1
  exact ⟨a, vs, e1, .inl (.inl h1), k.imm w (fun p G' s hp => .lst hp ((s1.cut lo hi).mono s)) p⟩
theorem cutD_whole {lo hi : Option Int} (h : HT.sIx ds.length 0 lo = 0 ∧ HT.sIx ds.length ds.length hi = ds.length) : cutD ds lo hi = ds := by
  unfold cutD
  rw [h.1, h.2, List.drop_zero, Nat.sub_zero, List.take_length]
theorem s_tup {lo hi : Option Int} (p : P (.tup (cutD ds lo hi)) S) : Sc K J (rSlA K) (.tup ds) lo hi S P := fun G H vx w j r1 Q k => by
  cases r1 with
  | tup h rs =>
    refine ⟨_, _, rfl, w.sub.t h, fun z => ?_, fun _ => k.imm w (fun p G' s hp => .tup (.inl (.inl hp)) ((rs.cut lo hi).mono s)) p⟩
    rw [rs.length] at z
    rw [cutD_whole z] at p
    exact k.now w (.tup h rs) p
theorem s_str {z : Str} {lo hi : Option Int} (hz : z.length ≤ sizeLine) (p : P (.str (cutS z lo hi)) S) : Sc K J rSlS (.str z) lo hi S P := fun G H vx w j r1 Q k => by
  cases r1
  exact ⟨z, rfl, hz, k.now w (.str _) p⟩
/-! ### dicts -/
def kD : Key → D
  | .inl i => .int i
  | .inr x => .str x
def valD {κ : Type} [DecidableEq κ] (kvs : List (κ × D)) (k : κ) : Option D := (kvs.find? fun kv => decide (kv.1 = k)).map (·.2)
def putKD {κ : Type} [DecidableEq κ] (kvs : List (κ × D)) (k : κ) (v : D) : List (κ × D) := if (kvs.any fun kv => decide (kv.1 = k)) = true then kvs.map (fun kv => if kv.1 = k then (kv.1, v) else kv) else kvs ++ [(k, v)]
def mergeD {κ : Type} [DecidableEq κ] (kvs more : List (κ × D)) : List (κ × D) := more.foldl (fun acc kv => putKD acc kv.1 kv.2) kvs
theorem Rep.kV {k : Key} (r : Rep K G v (kD k)) : v = L2.kV k := by
  cases k <;> cases r <;> rfl
theorem RepK.val {fs : List (Key × V)} {gs : List (Key × D)} (r : RepK K G fs gs) (k : Key) (h : valD gs k = some d) : ∃ v, valV fs k = some v ∧ Rep K G v d := by
  induction fs generalizing gs with
  | nil => cases r; cases h
  | cons p fs ih =>
    cases r with
    | cons q t =>
      rename_i f v' d' gs
      unfold valD valV at *
      rw [List.find?_cons] at h ⊢
      by_cases e : f = k
      · rw [decide_eq_true e] at h ⊢
        cases h
        exact ⟨v', rfl, q⟩
      · rw [decide_eq_false e] at h ⊢
        exact ih t h
theorem RepK.append {fs fs' : List (Key × V)} {gs gs' : List (Key × D)} (r : RepK K G fs gs) (r' : RepK K G fs' gs') : RepK K G (fs ++ fs') (gs ++ gs') := by
  induction fs generalizing gs with
  | nil => cases r; exact r'
  | cons p fs ih => cases r with | cons q t => exact .cons q (ih t)
theorem RepK.any {fs : List (Key × V)} {gs : List (Key × D)} (r : RepK K G fs gs) (k : Key) : (fs.any fun kv => decide (kv.1 = k)) = (gs.any fun kv => decide (kv.1 = k)) := by
  induction fs generalizing gs with
  | nil => cases r; rfl
  | cons p fs ih => cases r with | cons q t => rw [List.any_cons, List.any_cons, ih t]
theorem RepK.length {fs : List (Key × V)} {gs : List (Key × D)} (r : RepK K G fs gs) : fs.length = gs.length := by
  induction fs generalizing gs with
  | nil => cases r; rfl
  | cons p fs ih => cases r with | cons q t => rw [List.length_cons, List.length_cons, ih t]
theorem RepK.mapput {k : Key} (q : Rep K G v d) {fs : List (Key × V)} {gs : List (Key × D)} (r : RepK K G fs gs) : RepK K G (fs.map fun kv => if kv.1 = k then (kv.1, v) else kv) (gs.map fun kv => if kv.1 = k then (kv.1, d) else kv) := by
  induction fs generalizing gs with
  | nil => cases r; exact .nil
  | cons p fs ih =>
    cases r with
    | cons q' t =>
      rename_i f v' d' gs
      (rw [List.map_cons, List.map_cons])
      by_cases e : f = k
      · simp only [e, if_true]; exact .cons q (ih t)
      · simp only [e, if_false]; exact .cons q' (ih t)
theorem RepK.put {fs : List (Key × V)} {gs : List (Key × D)} (r : RepK K G fs gs) (k : Key) (q : Rep K G v d) : RepK K G (putK fs k v) (putKD gs k d) := by
  unfold putK putKD
  rw [r.any k]
  by_cases h : (gs.any fun kv => decide (kv.1 = k)) = true
  · rw [if_pos h, if_pos h]; exact RepK.mapput q r
  · rw [if_neg h, if_neg h]; exact r.append (.cons q .nil)
theorem RepK.merge {fs fs' : List (Key × V)} {gs gs' : List (Key × D)} (r : RepK K G fs gs) (r' : RepK K G fs' gs') : RepK K G (mergeK fs fs') (mergeD gs gs') := by
  induction fs' generalizing fs gs gs' with
  | nil => cases r'; exact r
  | cons p fs' ih =>
    cases r' with
    | cons q t =>
      rename_i f v' d' gs''
      show RepK K G (mergeK (putK fs f v') fs') (mergeD (putKD gs f d') gs'')
      exact ih (r.put f q) t
theorem ev_dget {td ty : TE} (h : Ev K J td δ S fun x S1 => Ev K J ty δ S1 fun y S2 => ∃ kvs k z, DctAt S2 x kvs ∧ y = kD k ∧ valD kvs k = some z ∧ P z S2) : Ev K J (tDGet td ty) δ S P := fun G H σ w j e Q k =>
  h G H σ w j e _ fun G1 H1 S1 v d w1 x1 r1 p1 => p1 G1 H1 σ w1 (j.trans x1) (e.mono x1.gsub) _ fun G2 H2 S2 v2 d2 w2 x2 r2 ⟨kvs, key, z, hd, ek, hv, p⟩ => by
    subst ek
    obtain ⟨a, fs, e1, h1, rk⟩ := hd.rep w2 (r1.mono x2.gsub)
    obtain ⟨u, hu, ru⟩ := rk.val key hv
    refine ⟨a, u, e1, .inl ⟨fs, key, .inl h1, r2.kV, hu.symm⟩, k G2 H2 S2 u z w2 (x1.trans x2) ru p⟩
/-- by a name -/
theorem ev_dgetS {td : TE} {n : Str} (h : Ev K J td δ S fun x S1 => ∃ kvs z, DctAt S1 x kvs ∧ valD kvs (.inr n) = some z ∧ P z S1) : Ev K J (tDGet td (tC (.str n))) δ S P :=
  ev_dget (h.imp fun x S1 ⟨kvs, z, h1, h2, p⟩ => ev_str ⟨kvs, .inr n, z, h1, rfl, h2, p⟩)
theorem run_dput {R : Out} {td ty tv : TE} (h : Ev K J tv δ S fun v S1 => Ev K J td δ S1 fun x S2 => Ev K J ty δ S2 fun y S3 => ∃ a kvs k, x = .loc a ∧ S3 a = some (.dK kvs) ∧ y = kD k ∧ kvs.length < sizeLine ∧ R.nx δ (S3.set a (.dK (putKD kvs k v)))) :
    Run K J (sDPut td ty tv) δ S R := fun G H σ D w j e o =>
  h G H σ w j e _ fun G1 H1 S1 v x w1 x1 r1 p => p G1 H1 σ w1 (j.trans x1) (e.mono x1.gsub) _ fun G2 H2 S2 v2 d2 w2 x2 r2 p2 => p2 G2 H2 σ w2 ((j.trans x1).trans x2) (e.mono (x1.trans x2).gsub) _ fun G3 H3 S3 v3 d3 w3 x3 r3 ⟨a, kvs, key, e1, hs, ek, hl, q⟩ => by
    subst e1; subst ek
    cases r2
    obtain ⟨_, ob, ho, rm⟩ := w3.own a _ hs
    cases ob <;> first | exact rm.elim | skip
    rename_i fs
    have rf : RepK K G3 fs kvs := rm
    refine ⟨a, _, rfl, .inl ⟨fs, key, ho, r3.kV, by rw [rf.length]; exact hl, rfl⟩, ?_⟩
    exact o.nx G3 _ _ σ δ (w3.put (m' := .dK (putKD kvs key x)) hs (rf.put key (r1.mono (x2.trans x3).gsub))) ((((Ext.trans j x1).trans x2).trans x3).trans (Ext.put w3 hs)) ((x1.trans x2).trans x3).gsub (e.mono ((x1.trans x2).trans x3).gsub) q
def EvP (K : Frag) (J : Jd) : List (TE × TE) → En → Store → (List (D × D) → Store → Prop) → Prop
  | [], _, S, P => P [] S
  | (tk, tv) :: r, δ, S, P => Ev K J tk δ S fun x S1 => Ev K J tv δ S1 fun y S2 => EvP K J r δ S2 fun ps S3 => P ((x, y) :: ps) S3
inductive RepP (K : Frag) (G : Hp) : List (V × V) → List (D × D) → Prop
  | nil : RepP K G [] []
  | cons {a b : V} {x y : D} {ps : List (V × V)} {qs : List (D × D)} : Rep K G a x → Rep K G b y → RepP K G ps qs → RepP K G ((a, b) :: ps) ((x, y) :: qs)
theorem EvP.run : ∀ (trs : List (TE × TE)) {S : Store} {P : List (D × D) → Store → Prop}, EvP K J trs δ S P → ∀ G H σ, Wd K G H S → J.at G H S → EnR K G σ δ → ∀ Q : List (V × V) → Hp → Prop,
    (∀ G' H' S' ps qs, Wd K G' H' S' → Ext G H S G' H' S' → RepP K G' ps qs → P qs S' → Q ps H') → tPairs trs σ H Q
  | [], S, P, h, G, H, σ, w, j, e, Q, k => k G H S [] [] w (Ext.refl w) .nil h
  | (tk, tv) :: r, S, P, h, G, H, σ, w, j, e, Q, k =>
    h G H σ w j e _ fun G1 H1 S1 v1 d1 w1 x1 r1 p1 => p1 G1 H1 σ w1 (Ext.trans j x1) (e.mono x1.gsub) _ fun G2 H2 S2 v2 d2 w2 x2 r2 p2 =>
      EvP.run r p2 G2 H2 σ w2 ((Ext.trans j x1).trans x2) (e.mono (x1.trans x2).gsub) _ fun G3 H3 S3 ps qs w3 x3 r3 p3 =>
        k G3 H3 S3 _ _ w3 ((x1.trans x2).trans x3) (.cons (r1.mono (x2.trans x3).gsub) (r2.mono x3.gsub) r3) p3
theorem RepP.keys {ps : List (V × V)} : ∀ {kvs : List (Key × D)}, RepP K G ps (kvs.map fun kv => (kD kv.1, kv.2)) → ∃ fs : List (Key × V), ps = fs.map (fun kv => (L2.kV kv.1, kv.2)) ∧ RepK K G fs kvs := by
  induction ps with
  | nil => intro kvs r; cases kvs <;> cases r; exact ⟨[], rfl, .nil⟩
  | cons p ps ih =>
    intro kvs r
    cases kvs with
    | nil => cases r
    | cons q kvs =>
      cases r with
      | cons r1 r2 r3 =>
        obtain ⟨fs, e, rk⟩ := ih r3
        exact ⟨(q.1, _) :: fs, by rw [List.map_cons, ← e, r1.kV], .cons r2 rk⟩
/-- {k: v, ..}: a mutable dict -/
theorem ev_dispM {trs : List (TE × TE)} (h : ∀ p, S p = none → J.S p = none → EvP K J trs δ (S.set p (.dK [])) fun ps S' => ∃ kvs : List (Key × D), ps = kvs.map (fun kv => (kD kv.1, kv.2)) ∧ kvs.length ≤ 15 ∧ S' p = some (.dK []) ∧ P (.loc p) (S'.set p (.dK (mergeD [] kvs)))) :
    Ev K J (tDisp trs) δ S P := fun G H σ w j e Q k p hp => by
  have hs := (w.free hp).2
  have w1 : Wd K G (upd H p (.dK [])) (S.set p (.dK [])) := w.mut hp (o := .dK []) (m := .dK []) .nil
  have x1 : Ext G H S G (upd H p (.dK [])) (S.set p (.dK [])) := Ext.mut w hp
  refine EvP.run trs (h p hs (j.sold p hs)) G _ σ w1 (Ext.trans j x1) e _ fun G2 H2 S2 ps qs w2 x2 r2 ⟨kvs, e1, hl, hn, q⟩ => ?_
  subst e1
  obtain ⟨fs, e2, rk⟩ := r2.keys
  obtain ⟨_, ob, ho, rm⟩ := w2.own p _ hn
  cases ob <;> first | exact rm.elim | skip
  rename_i zs
  have rz : RepK K G2 zs [] := rm
  cases rz
  refine ⟨ho, fs, e2, by rw [rk.length]; exact hl, ?_⟩
  exact k G2 _ _ (.ref p) (.loc p) (w2.put (m' := .dK (mergeD [] kvs)) hn (RepK.merge .nil rk)) ((x1.trans x2).trans (Ext.put w2 hn)) (.loc p) q
/-! ### built-ins -/
theorem c_lenSeq (h : SqAt S x ds) (p : P (.int (ds.length : Nat)) S) : Cb K J (rLenSeq K) [x] S P := fun G H vs w j r Q k => by
  cases r with
  | cons r rr =>
    cases rr
    obtain ⟨a, us, e, hs, rs⟩ := h.rep w r
    subst e
    exact ⟨a, us, rfl, hs, by rw [rs.length]; exact k.now w (.int _) p⟩
theorem c_lenStr {z : Str} (h : z.length ≤ sizeLine) (p : P (.int (z.length : Nat)) S) : Cb K J rLenStr [.str z] S P := fun G H vs w j r Q k => by
  cases r with
  | cons r rr => cases rr; cases r; exact ⟨z, rfl, h, k.now w (.int _) p⟩
theorem c_abs {i : Int} (p : P (.int (if i < 0 then -i else i)) S) : Cb K J rAbs [.int i] S P := fun G H vs w j r Q k => by
  cases r with
  | cons r rr => cases rr; cases r; exact ⟨i, rfl, k.now w (.int _) p⟩
theorem c_min2 {a b : Int} (p : P (.int (if b < a then b else a)) S) : Cb K J rMin2 [.int a, .int b] S P := fun G H vs w j r Q k => by
  cases r with
  | cons r rr =>
    cases rr with
    | cons r' rr => cases rr; cases r; cases r'; exact ⟨a, b, rfl, k.now w (.int _) p⟩
theorem c_max2 {a b : Int} (p : P (.int (if b > a then b else a)) S) : Cb K J rMax2 [.int a, .int b] S P := fun G H vs w j r Q k => by
  cases r with
  | cons r rr =>
    cases rr with
    | cons r' rr => cases rr; cases r; cases r'; exact ⟨a, b, rfl, k.now w (.int _) p⟩
theorem c_int {i : Int} (p : P (.int i) S) : Cb K J rInt1 [.int i] S P := fun G H vs w j r Q k => by
  cases r with
  | cons r rr => cases rr; cases r; exact .inl ⟨i, rfl, k.now w (.int _) p⟩
theorem c_intB {b : Bool} (p : P (.int (if b then 1 else 0)) S) : Cb K J rInt1 [.bl b] S P := fun G H vs w j r Q k => by
  cases r with
  | cons r rr => cases rr; cases r; exact .inr ⟨b, rfl, k.now w (.int _) p⟩
theorem c_strI {i : Int} (h : i.natAbs.log2 < 1920) (p : P (.str (toString i)) S) : Cb K J rStrI [.int i] S P := fun G H vs w j r Q k => by
  cases r with
  | cons r rr => cases rr; cases r; exact ⟨i, rfl, h, k.now w (.str _) p⟩
theorem reps_bl : ∀ {vs : List V} {bs : List Bool}, Reps K G vs (bs.map D.bl) → vs = bs.map V.bl
  | _, [], .nil => rfl
  | _, _ :: _, .cons r t => by cases r; rw [reps_bl t]; rfl
theorem reps_int : ∀ {vs : List V} {bs : List Int}, Reps K G vs (bs.map D.int) → vs = bs.map V.int
  | _, [], .nil => rfl
  | _, _ :: _, .cons r t => by cases r; rw [reps_int t]; rfl
theorem reps_str : ∀ {vs : List V} {bs : List Str}, Reps K G vs (bs.map D.str) → vs = bs.map V.str
  | _, [], .nil => rfl
  | _, _ :: _, .cons r t => by cases r; rw [reps_str t]; rfl
theorem ints_reps : ∀ bs : List Int, Reps K G (bs.map V.int) (bs.map D.int)
  | [] => .nil
  | b :: bs => .cons (.int b) (ints_reps bs)
theorem strs_reps : ∀ bs : List Str, Reps K G (bs.map V.str) (bs.map D.str)
  | [] => .nil
  | b :: bs => .cons (.str b) (strs_reps bs)
theorem c_all {bs : List Bool} (h : LstAt S x (bs.map D.bl)) (p : P (.bl (bs.all id)) S) : Cb K J (rAll K) [x] S P := fun G H vs w j r Q k => by
  cases r with
  | cons r rr =>
    cases rr
    obtain ⟨a, us, e, hs, rs⟩ := h.rep w r
    subst e
    rw [reps_bl rs] at hs
    exact ⟨a, bs, rfl, .inl (.inl hs), k.now w (.bl _) p⟩
theorem c_any {bs : List Bool} (h : LstAt S x (bs.map D.bl)) (p : P (.bl (bs.any id)) S) : Cb K J (rAny K) [x] S P := fun G H vs w j r Q k => by
  cases r with
  | cons r rr =>
    cases rr
    obtain ⟨a, us, e, hs, rs⟩ := h.rep w r
    subst e
    rw [reps_bl rs] at hs
    exact ⟨a, bs, rfl, .inl (.inl hs), k.now w (.bl _) p⟩
theorem c_listOf (h : SqAt S x ds) (p : P (.lst ds) S) : Cb K J (rListOf K) [x] S P := fun G H vs w j r Q k => by
  cases r with
  | cons r rr =>
    cases rr
    obtain ⟨a, us, e, hs, rs⟩ := h.rep w r
    subst e
    exact ⟨a, us, rfl, hs, k.imm w (fun p G' s hp => .lst hp (rs.mono s)) p⟩
theorem c_tupOf (h : SqAt S x ds) (p : P (.tup ds) S) : Cb K J (rTupOf K) [x] S P := fun G H vs w j r Q k => by
  cases r with
  | cons r rr =>
    cases rr
    rcases h with h | e
    · obtain ⟨a, us, e, hs, rs⟩ := h.rep w r
      subst e
      exact ⟨a, us, rfl, .inl ⟨.inl (.inl hs), k.imm w (fun p G' s hp => .tup (.inl (.inl hp)) (rs.mono s)) p⟩⟩
    · subst e
      cases r with
      | tup h rs => exact ⟨_, _, rfl, .inr ⟨w.sub.t h, k.now w (.tup h rs) p⟩⟩
/-! ### methods of built-in types -/
theorem ev_bm {T : String} {r : V → List V → Hp → VK → Prop} {t : TA} (h : Ev K J ta δ S fun x S1 => (∀ G H v, Wd K G H S1 → Rep K G v x → tyV K T v H) ∧ EvA K J t δ S1 fun xs S2 => Mb K J r x xs S2 P) : Ev K J (tBM K T r ta t) δ S P := fun G H σ w j e Q k =>
  h G H σ w j e _ fun G1 H1 S1 v d w1 x1 r1 ⟨ty, p1⟩ => ⟨ty G1 H1 v w1 r1, p1 G1 H1 σ w1 (j.trans x1) (e.mono x1.gsub) _ fun G2 H2 S2 vs ds w2 x2 r2 p2 =>
    p2 G2 H2 v vs w2 ((j.trans x1).trans x2) (r1.mono x2.gsub) r2 Q (k.mono (x1.trans x2))⟩
theorem ev_bm0 {T : String} {r : V → List V → Hp → VK → Prop} (h : Ev K J ta δ S fun x S1 => (∀ G H v, Wd K G H S1 → Rep K G v x → tyV K T v H) ∧ Mb K J r x [] S1 P) : Ev K J (tBM0 K T r ta) δ S P := fun G H σ w j e Q k =>
  h G H σ w j e _ fun G1 H1 S1 v d w1 x1 r1 ⟨ty, p1⟩ => ⟨ty G1 H1 v w1 r1, p1 G1 H1 v [] w1 (j.trans x1) r1 .nil Q (k.mono x1)⟩
theorem ty_list (h : LstAt S x ds) : ∀ G H v, Wd K G H S → Rep K G v x → tyV K "list" v H := fun G H v w r => by
  obtain ⟨a, us, e, hs, rs⟩ := h.rep w r
  subst e
  exact .inl ⟨rfl, us, .inl (.inl hs)⟩
theorem ty_str {z : Str} : ∀ G H v, Wd K G H S → Rep K G v (.str z) → tyV K "str" v H := fun G H v w r => by cases r; rfl
theorem ev_m1 {r : V → List V → Hp → VK → Prop} (h : Ev K J ta δ S fun x S1 => (∃ z, x = .str z) ∧ Ev K J tb δ S1 fun y S2 => Mb K J r x [y] S2 P) : Ev K J (tM1 r ta tb) δ S P := fun G H σ w j e Q k =>
  h G H σ w j e _ fun G1 H1 S1 v d w1 x1 r1 ⟨⟨z, ez⟩, p1⟩ => ⟨by subst ez; cases r1; exact ⟨z, rfl⟩, p1 G1 H1 σ w1 (j.trans x1) (e.mono x1.gsub) _ fun G2 H2 S2 v2 d2 w2 x2 r2 p2 =>
    p2 G2 H2 v [v2] w2 ((j.trans x1).trans x2) (r1.mono x2.gsub) (.cons r2 .nil) Q (k.mono (x1.trans x2))⟩
theorem m_append {a : Addr} (hs : S a = some (.lst ds)) (hl : ds.length < sizeLine) (p : P .non (S.set a (.lst (ds ++ [y])))) : Mb K J rAppend (.loc a) [y] S P := fun G H vx vs w j r1 r2 Q k => by
  cases r1
  cases r2 with
  | cons r rr =>
    cases rr
    obtain ⟨_, o, ho, rm⟩ := w.own a _ hs
    cases o <;> first | exact rm.elim | skip
    rename_i us v'
    have rs : Reps K G v' ds := rm
    exact ⟨a, v', _, rfl, rfl, ho, by rw [rs.length]; exact hl, k _ _ _ _ _ (w.put (m' := .lst (ds ++ [y])) hs (rs.append (.cons r .nil))) (Ext.put w hs) .non p⟩
theorem m_extend {a : Addr} (hs : S a = some (.lst ds)) (hy : LstAt S y es) (hl : ds.length + es.length ≤ sizeLine) (p : P .non (S.set a (.lst (ds ++ es)))) : Mb K J rExtend (.loc a) [y] S P := fun G H vx vs w j r1 r2 Q k => by
  cases r1
  cases r2 with
  | cons r rr =>
    cases rr
    obtain ⟨b, us, e, hb, rs'⟩ := hy.rep w r
    subst e
    obtain ⟨_, o, ho, rm⟩ := w.own a _ hs
    cases o <;> first | exact rm.elim | skip
    rename_i v'
    have rs : Reps K G v' ds := rm
    exact ⟨a, b, v', us, rfl, rfl, ho, hb, by rw [rs.length, rs'.length]; exact hl, k _ _ _ _ _ (w.put (m' := .lst (ds ++ es)) hs (rs.append rs')) (Ext.put w hs) .non p⟩
theorem m_rjust {z : Str} {i : Int} (h : PadOk i = true) (p : P (.str (Txt.rjust z i)) S) : Mb K J rRjust (.str z) [.int i] S P := fun G H vx vs w j r1 r2 Q k => by
  cases r1
  cases r2 with
  | cons r rr => cases rr; cases r; exact ⟨z, i, rfl, rfl, h, k.now w (.str _) p⟩
theorem m_join {z : Str} {ys : List Str} (hy : SqAt S y (ys.map D.str)) (hz : (ys.map (·.length)).sum + ys.length * z.length ≤ 16777216) (p : P (.str (Txt.join z ys)) S) : Mb K J (rJoin K) (.str z) [y] S P := fun G H vx vs w j r1 r2 Q k => by
  cases r1
  cases r2 with
  | cons r rr =>
    cases rr
    obtain ⟨b, us, e, hb, rs⟩ := hy.rep w r
    subst e
    rw [reps_str rs] at hb
    exact ⟨z, b, ys, rfl, rfl, hb, hz, k.now w (.str _) p⟩
end
end DL

set_option maxHeartbeats 4100000
/-! LW: rules of the low layer that were lacking. -/
namespace DL
open PySem L2 PySem.Spec PyProof.Rows
section
variable {X : Cx} {CX : CXT} {k n i : Nat} {f g C q : Addr} {fd : FuncData} {ps ks : List Str} {sp : Sp} {E : XK} {x m : Str} {p pos apos : Pos} {e o a : Expr} {es : List Expr} {kws : List Keyword} {t tk : TA} {ta te : TE}
/-! ### an attribute as a target -/
def gFld (K : Frag) (ta : TE) (f : Str) : TG := fun v σ H N => ta σ H fun x H1 => ∃ a C dx fs, x = .ref a ∧ H1 a = some (.ins C dx fs) ∧ Cls K C ∧ NoAttr K C f ∧ fs.length < 1000 ∧ N σ (upd H1 a (.ins C dx (putF f v fs)))
theorem pg_fld {f : Str} (ho : PE X o ta) : PG X (.Attribute o f pos) (gFld X.K ta f) := ⟨fun pins s σ H v u Q I r h => by
  rw [assign_Attribute]
  refine wpAny_bind (wpAny_holding (thn (ho.run pins s σ H _ I h) fun ov s1 hq => ?_))
  obtain ⟨y, H1, I1, ry, b, C, dx, fs, rfl, eb, c, nn, l, q⟩ := hq
  obtain rfl : ov = Value.ref b := ry
  exact wpAny_bind (wpAny_standAt (wpAny_bind (wpAny_holding (setattr_ok I1 eb c nn l r fun s3 I3 => wpAny_release ⟨σ, _, I3, q⟩))))⟩
/-! ### C(.., k = v) by a local name -/
def tMakeNL (i : Nat) (C : Addr) (n m : Nat) (sp : Sp) (gV : List V → List V → List V) (E : XK) (t tk : TA) : TE := fun σ H Q => σ[i]? = some (some (.ref C)) ∧ tMakeN C n m sp gV E t tk σ H Q
theorem pe_makeNL {gA : List Value → List Value → List Value} {gV : List V → List V → List V} (M : Mk X.K C f) (F : FnOk X.prog X.w X.K X.mg X.base CX k f fd ps sp) (hr : Room (k + 1) X.A) (hN : X.N[i]? = some x) (hv : Vis X.env.scope x) (hb : KBn X.K fd ps (n + 1) ks gA gV) (hx : Passes CX X E) (ha : PA X (e :: es) t) (hkw : PK X kws tk) (hall : (backToKw pos (keywordEach kws X.env)).all (·.1.isSome) = true := by rfl) (hks : (backToKw pos (keywordEach kws X.env)).filterMap (·.1) = ks := by rfl)
    (hdb : (x == ("__debug__" : Str)) = false := by decide) (hcd : (x == ("__classdict__" : Str)) = false := by decide) (he : starEach (e :: es) X.env = (false, eval e X.env) :: starEach es X.env := by rfl) (hpl : ((backTo pos (starEach (e :: es) X.env)).any (·.1) || (backToKw pos (keywordEach kws X.env)).any (·.1.isNone)) = false := by rfl) :
    PE X (.Call (.Name x p) (e :: es) kws pos) (tMakeNL i C n ks.length sp gV E t tk) := ⟨fun pins s σ H Q I h => by
  have look := (pe_var (pos := p) hN hv hdb hcd).run pins s σ H (fun v H1 => v = .ref C ∧ H1 = H) I ⟨.ref C, h.1, rfl, rfl⟩
  refine wpAny_Call_Name_kw (thn look fun u s1 hq => ?_)
  obtain ⟨v, H1, I1, r1, ev, eH⟩ := hq
  subst eH; subst ev
  obtain rfl : u = Value.ref C := r1
  have args := ha.run pos pins s1 σ H1 _ I1 h.2
  refine PySem.W.callWith_KW (h₀ := X.base) I.ok.mod.kin M.kp hall (thn args fun us s2 hq2 => ?_) hpl he
  obtain ⟨vs, H2, I2, r, q2⟩ := hq2
  refine thn (hkw.run pos pins s2 σ H2 _ I2 q2) fun ws s3 hq3 => ?_
  obtain ⟨zs, H3, I3, rz, l1, l2, q3⟩ := hq3
  rw [hks]
  exact ⟨I3.kIn, run_makeN M F hr hb hx I3 r rz l1 l2 q3⟩⟩
/-! ### C.m(), m a classmethod -/
def tCMeth0 (C : Addr) (sp : Sp) (E : XK) (ta : TE) : TE := fun σ H Q => ta σ H fun x H1 => x = .ref C ∧ sp [.ref C] H1 Q E
theorem pe_cmeth0 {mc : Value} {pl : Sem Bool} (he : PE X o ta) (r : ClX.CRead X.K C mc) (c : ClX.CMet X.K C mc m q g) (F : FnR X.prog X.w X.K X.mg X.base CX k g sp) (hr : Room k X.A) (hx : Passes CX X E)
    (ht : eval (.Call (.Attribute o m apos) [] [] pos) X.env = (do let ov ← eval o X.env; standAt apos.atName; let (f, first) ← holding [ov] (getMethod ov m pl); callWith pos f first (backTo pos (starEach [] X.env)) (backToKw pos (keywordEach [] X.env))) := by rfl) :
    PE X (.Call (.Attribute o m apos) [] [] pos) (tCMeth0 C sp E ta) := ⟨fun pins s σ H Q I h => by
  refine PySem.W.methodCall_KW (pl := pl) (thn (he.run pins s σ H _ I h) fun u s1 hq => ?_) ht
  obtain ⟨y, H1, I1, ry, ey, q1⟩ := hq
  subst ey
  obtain rfl : u = Value.ref C := ry
  exact ClX.getmethcm_ok I1 r c fun s2 I2 => PySem.W.callWith_M0 (K := X.K) ⟨ClX.pin_at I2, I2.kIn⟩ c.fi (ClX.run_cm F hr hx I2 .nil q1)⟩
/-! ### repr of a text -/
abbrev rReprS : List V → Hp → VK → Prop := fun us H Q => ∃ z : Str, us = [.str z] ∧ (reprText z).length ≤ sizeLine ∧ Q (.str (reprText z)) H
theorem call_repr_strD : CallR X (.builtin "repr") rReprS := by
  (intro pins s σ H xs us Q I r h)
  obtain ⟨z, rfl, hz, q⟩ := h
  (obtain ⟨u, rfl, t, rfl⟩ := vals1 r)
  exact PySem.P.repr_of_str ⟨.str _, H, I.tok _, ⟨_, rfl⟩, q⟩ hz
/-! ### f"{x:>3}", x from 1 to 14 -/
def tFmt3 (te : TE) : TE := fun σ H Q => te σ H fun x H1 => ∃ i : Int, x = .int i ∧ 1 ≤ i ∧ i ≤ 14 ∧ Q (.str (Txt.rjust (toString i) 3)) H1
end
section
variable {w : World} {A : Around} {E : Value → Shared → Prop} {s : Shared} {prog : Program}
/-! ### sorted of a tuple -/
theorem sorted_seqD {l : Addr} {T : String} {o : Obj} {n : Nat} {vs : List Value} {ltv : Value → Value → Bool} {Q : Value → Shared → Prop} (O : SrtO.Swo ltv) (hT : T = "list" ∨ T = "tuple") (ho : s.heap.get? l = some o) (hc : o.cls = .type T) (hd : o.data = .seq vs.toArray n) (hz : vs.length ≤ sizeLine)
    (hS : 2 ≤ vs.length → ∀ (h₁ : Heap) (a : Addr), h₁.get? a = some (seqObj "list" vs.toArray 0) → (∀ b o, s.heap.get? b = some o → h₁.get? b = some o) → SrtO.SortableO prog w A.in1.in1 { s with heap := h₁ } a vs ltv)
    (h : ∀ (h1 : Heap) (out : List Value), (∀ b o, s.heap.get? b = some o → h1.get? b = some o) → SrtO.Srtd ltv out → SrtO.Stb ltv out vs → Q (.ref h1.objs.size) { s with heap := sortedHeap (h1.push (seqObj "list" vs.toArray 0)) h1.objs.size vs out.toArray }) : wpAny (model prog w) A (call (.builtin "sorted") [.ref l]) Q E s := by
  (refine Calls.call_function_entry kind_sorted plain_sorted entry_sorted (args_sorted1 _) ?_)
  unfold Builtin.«sorted»
  (refine wpAny_bind (m := checkCount "sorted" 1 1 _) (wpAny_pure ?_))
  refine wpAny_bind (wpAny_collect_seq l hT ho hc hd (fun h1 hk => ?_) (by rw [List.size_toArray]; exact hz))
  have e1 : vs.toArray.toList = vs := by simp
  rw [e1]
  (refine wpAny_bind (wpAny_newList ?_ hz))
  have new : (h1.push (seqObj "list" vs.toArray 0)).get? h1.objs.size = some (seqObj "list" vs.toArray 0) := Heap.get?_push_size _ rfl
  have srt := fun h2 => hS h2 _ _ new fun b o e => Heap.get?_push_of_some _ (hk b o e)
  refine wpAny_bind (wpAny_holding (wpAny_call_entry slot_list_sort ⟨_, new, rfl⟩ entry_list_sort ?_ (args_list_sort _)))
  refine SrtO.list_sort_ord O new hz srt fun out h2 h3 => ⟨_, rfl, ?_⟩
  exact wpAny_pure ⟨_, rfl, h h1 out hk h2 h3⟩
end
end DL

set_option maxHeartbeats 4100000
/-! LW2: sorted, set of a tuple; dict.update; a width in an f-string. -/
namespace DL
open PySem L2 PySem.Spec PyProof.Rows
section
variable {X : Cx} {pins : List (Addr × Obj)} {σ : L2.St} {H : Hp} {s : Shared} {a : Addr} {xs : List V}
theorem seq_src (I : Inv X pins σ H s) (h : SqL X.K H a xs ∨ SqT X.K H a xs) : ∃ (T : String) (o : Obj) (n : Nat) (its : List Value), (T = "list" ∨ T = "tuple") ∧ s.heap.get? a = some o ∧ o.cls = .type T ∧ o.data = .seq its.toArray n ∧ Vals xs its ∧ xs.length ≤ sizeLine := by
  rcases h with h | h
  · obtain ⟨its, rv, pl, hz⟩ := I.list h
    (obtain ⟨o, ho, hc, n, hd⟩ := pl.isList)
    exact ⟨"list", o, n, its, .inl rfl, ho, hc, hd, rv, hz⟩
  · obtain ⟨its, rv, ⟨o, ho, hc, n, hd⟩, hz⟩ := I.tuple h
    exact ⟨"tuple", o, n, its, .inr rfl, ho, hc, hd, rv, hz⟩
/-- the sorted list, laid -/
theorem sorted_laid {Q : VK} {h1 : Heap} {its out : List Value} {ys : List V} (I : Inv X pins σ H s) (hk : ∀ b o, s.heap.get? b = some o → h1.get? b = some o) (rv : Vals ys out) (hz : ys.length ≤ sizeLine) (q : ∀ p, H p = none → Q (.ref p) (upd H p (.lst ys))) :
    EP X pins σ Q (.ref h1.objs.size) { s with heap := sortedHeap (h1.push (seqObj "list" its.toArray 0)) h1.objs.size its out.toArray } := by
  have I1 : Inv X pins σ H { s with heap := h1 } := I.kept (t' := s.toks) hk
  have fresh := I1.hok.fresh (Nat.le_refl h1.objs.size)
  obtain ⟨ep, there⟩ := sortedHeap_at (vs := its) (out := out.toArray) (Heap.get?_push_size h1 (o := seqObj "list" its.toArray 0) rfl)
  refine ⟨.ref _, _, I1.laid (t' := s.toks) (o := .lst ys) (fun b o e => ?_) (Nat.le_refl _) ⟨hz, out, ep, rv, there⟩, rfl, q _ fresh⟩
  have lt : b < h1.objs.size := Heap.lt_size e
  rw [sortedHeap_old (Nat.ne_of_lt lt) (by rw [size_push']; exact Nat.lt_succ_of_lt lt)]
  (exact Heap.get?_push_of_some _ e)
/-- sorted(x), x a list or a tuple of ints -/
def rSortTI (K : Frag) : List V → Hp → VK → Prop := fun vs H Q => ∃ (a : Addr) (ns : List Int), vs = [V.ref a] ∧ (SqL K H a (ns.map V.int) ∨ SqT K H a (ns.map V.int)) ∧ ∀ (ns' : List Int) (p : Addr), ns'.Perm ns → ns'.Pairwise (· ≤ ·) → H p = none → Q (.ref p) (upd H p (.lst (ns'.map V.int)))
theorem cr_sortedTI : CallR X (.builtin "sorted") (rSortTI X.K) := by
  rintro pins s σ H vs us Q I r ⟨a, ns, rfl, hs, q⟩
  (obtain ⟨u, rfl, ru⟩ := vals1 r)
  (obtain rfl : u = Value.ref a := ru)
  obtain ⟨T, o, n, its, hT, ho, hc, hd, rv, hz⟩ := seq_src I hs
  have hi := ints_of_vals rv
  refine sorted_seqD SrtO.swo_int hT ho hc hd (by rw [← rv.length]; exact hz) (fun two _ _ _ _ => SrtO.ints_sortable hi two) fun h1 out hk h2 h3 => ?_
  obtain ⟨k1, k2, k3⟩ := SrtO.ints_out hi h2 h3
  refine sorted_laid I hk (vals_of_ints k1) ?_ fun p hp => q _ p k2 k3 hp
  (rw [List.length_map, k2.length_eq])
  rw [List.length_map] at hz
  exact hz
/-- sorted(x), x a list or a tuple of pairs of ints -/
def rSortTP (K : Frag) : List V → Hp → VK → Prop := fun vs H Q => ∃ (a : Addr) (xs : List V), vs = [V.ref a] ∧ (SqL K H a xs ∨ SqT K H a xs) ∧ (∀ x ∈ xs, ∃ p : Int × Int, ∃ t, x = V.ref t ∧ SqT K H t [.int p.1, .int p.2]) ∧ ∀ ys p, ys.Perm xs → H p = none → Q (.ref p) (upd H p (.lst ys))
open Classical in
theorem cr_sortedTP : CallR X (.builtin "sorted") (rSortTP X.K) := by
  rintro pins s σ H vs us Q I r ⟨a, xs, rfl, hs, hx, q⟩
  (obtain ⟨u, rfl, ru⟩ := vals1 r)
  (obtain rfl : u = Value.ref a := ru)
  obtain ⟨T, o, n, its, hT, ho, hc, hd, rv, hz⟩ := seq_src I hs
  obtain ⟨e1, e2⟩ := refs_back rv fun x m => let ⟨_, t, e, _⟩ := hx x m; ⟨t, e⟩
  let k : V → Int × Int := fun x => if h : ∃ p : Int × Int, ∃ t, x = V.ref t ∧ SqT X.K H t [.int p.1, .int p.2] then h.choose else (0, 0)
  have pairs : ∀ v ∈ its, Srt.IsPair s.heap v (k (backV v)).1 (k (backV v)).2 := fun v hv => by
    obtain ⟨t, rfl⟩ := e2 v hv
    have there := hx _ (show V.ref t ∈ xs by rw [e1]; exact List.mem_map.mpr ⟨_, hv, rfl⟩)
    have key : k (V.ref t) = there.choose := dif_pos there
    obtain ⟨t', e, ht⟩ := there.choose_spec
    cases e
    rw [← key] at ht
    obtain ⟨js, r2, ⟨o2, ho2, hc2, n2, hd2⟩, _⟩ := I.tuple ht
    obtain ⟨u1, u2, rfl, ⟨t1, e1⟩, ⟨t2, e2⟩⟩ := vals2 r2
    subst e1; subst e2
    exact ⟨t, o2, t1, t2, n2, rfl, ho2, hc2, hd2⟩
  refine sorted_seqD (SrtO.swo_lex fun u => k (backV u)) hT ho hc hd (by rw [← rv.length]; exact hz) (fun two h₁ b hb kk => ?_) fun h1 out hk h2 h3 => ?_
  · refine SrtO.pairs_sortableO (s := { s with heap := h₁ }) (by omega) (fun v hm => (pairs v hm).keeps fun b o e _ => kk b o e) fun o e c => ?_
    rw [show h₁.get? b = _ from hb] at e
    cases e
    (exact absurd (Value.type.inj c) (by decide))
  · have pm : (out.map backV).Perm xs := by rw [e1]; exact h3.perm.map backV
    refine sorted_laid I hk (vals_back fun u hu => e2 u (h3.perm.mem_iff.mp hu)) (by rw [pm.length_eq]; exact hz) fun p hp => q _ p pm hp
/-! ### len(set(t)), t a tuple of ints -/
theorem len_nodup {ns es : List Int} (h1 : ns.Nodup) (h2 : es.Nodup) (h : ∀ k, k ∈ ns ↔ k ∈ es) : es.length = ns.length := ((List.perm_ext_iff_of_nodup h2 h1).mpr fun k => (h k).symm).length_eq
def tLenSetD (K : Frag) (ta : TE) : TE := fun σ H Q => ta σ H fun x H1 => ∃ (l : Addr) (ns : List Int), x = .ref l ∧ SqT K H1 l (ns.map V.int) ∧ ns.Nodup ∧ ns.length ≤ 4000 ∧ Q (.int (ns.length : Nat)) H1
theorem pe_lenSetD {a : Expr} {ta : TE} {p p2 q pos : Pos} (hg : Gl X "len") (hm : X.mg "len" = none) (hg2 : Gl X "set") (hm2 : X.mg "set" = none) (ha : PE X a ta) (hc : X.calm = true := by rfl)
    (na : starEach [a] X.env = (false, eval a X.env) :: starEach [] X.env := by rfl) : PE X (.Call (.Name "len" p) [.Call (.Name "set" p2) [a] [] q] [] pos) (tLenSetD X.K ta) := ⟨fun pins s σ H Q I h => by
  refine Call_ (ld_blt I hg hm boot_len (PyProof.Rows.callWith_builtin1 (PyProof.Rows.args_cons ?_ rfl) rfl rfl))
  refine Call_ (ld_blt I hg2 hm2 boot_set (PyProof.Rows.callWith_type1 (PyProof.Rows.args_cons (thn (ha.run pins s σ H _ I h) fun v s1 hv => PyProof.Rows.args_nil ?_) na) na rfl))
  obtain ⟨x, H1, I1, r1, l, ns, rfl, hq, hnd, hl, q1⟩ := hv
  obtain rfl : v = Value.ref l := r1
  obtain ⟨its, rv, it, _⟩ := I1.tuple hq
  refine call_set_tupI ns (I1.ok.hd hc) it (by simpa using ints_of_vals rv) (by unfold scanBound; omega) fun h' tk c hS _ hk => PyProof.Rows.args_nil ?_
  obtain ⟨o, es, ep, t, ho, hex, hd, _, nd, mem, _, hf, hn, _, _⟩ := hS
  have len : es.size = ns.length := by
    have := len_nodup (es := es.toList.map keyOf) hnd nd fun k => by rw [← mem k]; simp
    rw [List.length_map, Array.length_toList] at this
    exact this
  (have I2 : Inv X pins σ H1 { s1 with heap := h', toks := tk } := I1.kept hk)
  refine call_len_set ho hex hd hf (by rw [len]; omega) ⟨.int ns.length, H1, I2.tok _, ⟨_, by rw [len]⟩, q1⟩⟩
/-! ### d.update(e), two dicts -/
theorem KV.merge' {more : List (Key × V)} {rs : List (Key × Value)} {kvs : List (Key × V)} {vs : List (Key × Value)} (a : KV more rs) (b : KV kvs vs) : KV (mergeK kvs more) (merged vs rs) := L2.KV.merge a b
def tDUpd (td te : TE) : TE := fun σ H Q => td σ H fun x H1 => (∃ a kvs, x = .ref a ∧ H1 a = some (.dK kvs)) ∧ te σ H1 fun y H2 => ∃ a b kvs more, x = .ref a ∧ y = .ref b ∧ a ≠ b ∧ H2 a = some (.dK kvs) ∧ H2 b = some (.dK more) ∧ kvs.length + more.length ≤ sizeLine ∧ Q .non (upd H2 a (.dK (mergeK kvs more)))
def rDUpd : V → List V → Hp → VK → Prop := fun x vs H Q => ∃ a b kvs more, x = .ref a ∧ vs = [.ref b] ∧ a ≠ b ∧ H a = some (.dK kvs) ∧ H b = some (.dK more) ∧ kvs.length + more.length ≤ sizeLine ∧ Q .non (upd H a (.dK (mergeK kvs more)))
theorem length_mergeK (kvs more : List (Key × V)) : (mergeK kvs more).length ≤ kvs.length + more.length := by induction more generalizing kvs with
  | nil => exact Nat.le_refl _
  | cons p r ih =>
    have h1 := ih (putK kvs p.1 p.2)
    (have h2 := length_putK kvs p.1 p.2)
    (show (mergeK (putK kvs p.1 p.2) r).length ≤ _)
    rw [List.length_cons]
    omega
theorem mt_dupd : MtR X "dict.update" rDUpd := by
  rintro pins s σ H x vs v us Q I rx rv ⟨a, b, kvs, more, rfl, rfl, ne, ha, hb, hz, q⟩
  (obtain rfl : v = Value.ref a := rx)
  obtain ⟨u, rfl, ru⟩ := rv.one
  obtain rfl : u = Value.ref b := ru
  obtain ⟨_, hd, vs, rel, dd⟩ := dk_of I.hok ha
  obtain ⟨_, hd2, ws, rel2, dd2⟩ := dk_of I.hok hb
  refine call_meetsIn PySem.F.slot_dict_update dd.typeIs PySem.F.entry_dict_update (PySem.F.args_dict_update_2 _ _) (meets_dict_update (mixKind X.prog X.w) a b ne hd2)
    ⟨vs, ws, dd, dd2, by rw [← rel.length, ← rel2.length]; exact hz, fun h' m1 _ sb => ?_⟩
  have there : ∃ o, h'.get? a = some o := let ⟨o, _, _, e, _⟩ := m1; ⟨o, e⟩
  exact ⟨.non, _, d_write I (by rw [ha]; exact True.intro) sb there (dk_new (Nat.le_trans (length_mergeK kvs more) hz) hd (L2.KV.merge rel2 rel) m1), rfl, q⟩
end
end DL

set_option maxHeartbeats 4100000
/-! LW3: len(set(t)), t a tuple of tuples of ints; a width in an f-string. -/
namespace DL
open PySem L2 PySem.Spec PyProof.Rows
section
variable {w : World} {A : Around} {E : Value → Shared → Prop} {s : Shared} {P : Program}
/-- the set that is not filled yet -/
abbrev nset (w : World) : Obj := { cls := .type "set", dict := none, data := .set #[] 0 (.fresh 0 0 (!w.params.followText "set-order")) }
/-- set(a), given what __init__ does with the new set -/
theorem call_set_by {a : Value} {Q : Value → Shared → Prop} {I : Shared → Prop}
    (hi : wpAny (model P w) A.in1.in1 (Builtin.«set.__init__» ⟨[.ref s.heap.objs.size, a], []⟩) (fun f s2 => f = .done (.ret .none) ∧ I s2) E { s with heap := s.heap.push (nset w) })
    (h : ∀ s2, I s2 → Q (.ref s.heap.objs.size) s2) : wpAny (model P w) A (call (.type "set") [a]) Q E s := by
  (obtain ⟨c, tl, hmro⟩ := F.called_set.mro)
  have f1 := F.called_set.made
  have f2 := F.called_set.sub
  refine wpAny_call (codeAny_of_tree (wpAny_pure ⟨Code.quiet_builtin _ (by decide +kernel), codeAny_builtin F.entry_type_call ?_⟩))
  have f3 := F.called_set.notType
  have f4 := F.called_set.canCreate
  have f5 := F.typeCall_set_1 a
  rw [Around.under_plain (weight_type_call_type "set" [a] []) rfl]
  (repeat (any_goals (first | assumption | wp_step)))
  refine codeAny_mono (code_set_led1 a (E := E) (Q₁ := fun obj s₁ => obj = .ref s.heap.objs.size ∧ s₁ = { s with heap := s.heap.push (nset w) }) ⟨rfl, rfl⟩) fun r s₁ hr => ?_
  rcases r with e | fl
  · exact hr
  cases fl <;> first | exact hr.elim | skip
  obtain ⟨rfl, rfl⟩ := hr
  have isS : Shared.TypeIs { s with heap := s.heap.push (nset w) } (.ref s.heap.objs.size) "set" := ⟨_, Heap.get?_push_size _ rfl, rfl⟩
  have g1 := F.called_set.init.lookup
  have g2 := F.called_set.init.bind (.ref s.heap.objs.size)
  (repeat (any_goals (first | assumption | wp_step)))
  refine codeAny_mono (codeAny_call_builtin (R := wants (fun r s2 => r = .none ∧ I s2) E) F.called_set.init.plain F.entry_set_init (check_set_init_1 isS ?_)) fun r2 s2 hr2 => ?_
  · exact wpAny_mono hi (fun f s2 h2 => by obtain ⟨rfl, h3⟩ := h2; exact ⟨rfl, h3⟩) fun _ _ z => z
  rcases r2 with e | fl
  · exact hr2
  cases fl <;> first | exact hr2.elim | skip
  obtain ⟨rfl, hI⟩ := hr2
  have fin := h _ hI
  (repeat (any_goals (first | assumption | wp_step)))
theorem set_init_tupT {l : Addr} {items : Array Value} (ks : List (Addr × List Int)) (hh : A.handled = none) (hl : s.heap.IsTuple l items) (hit : items.toList = ks.map fun p => Value.ref p.1) (hk : ∀ p ∈ ks, IsT P w s.heap p.2 p.1) (hfew : ks.length < 64) (hu : A.units + 3 < cLine) :
    wpAny (model P w) A.in1.in1 (Builtin.«set.__init__» ⟨[.ref s.heap.objs.size, .ref l], []⟩)
      (fun f s2 => f = .done (.ret .none) ∧ ∃ h' tk L es ep t, s2 = { s with heap := h', toks := tk } ∧ SetTR P w h' s.heap.objs.size L es ep t ∧ Got ks ks.length L ∧ ∀ b o, s.heap.get? b = some o → h'.get? b = some o) E
      { s with heap := s.heap.push (nset w) } := by
  have cnt : items.size = ks.length := by
    have := congrArg List.length hit
    rwa [Array.length_toList, List.length_map] at this
  have atS : (s.heap.push (nset w)).get? s.heap.objs.size = some (nset w) := Heap.get?_push_size _ rfl
  have isS : Shared.TypeIs { s with heap := s.heap.push (nset w) } (.ref s.heap.objs.size) "set" := ⟨_, atS, rfl⟩
  obtain ⟨⟨cls, dct, dat, slo⟩, hol, hcl, nl, hdl⟩ := hl
  simp only at hcl hdl
  subst hcl hdl
  have lt : l < s.heap.objs.size := Heap.lt_size hol
  have hol2 : (s.heap.push (nset w)).get? l = some { cls := .type "tuple", dict := dct, data := .seq items nl, slots := slo } := Heap.get?_push_of_some _ hol
  have hl2 : (s.heap.push (nset w)).IsTuple l items := ⟨_, hol2, rfl, nl, rfl⟩
  have n1 := F.sub_tuple_set
  have n2 := F.sub_tuple_frozenset
  have n3 : (Value.type "tuple" == Value.type "dict") = false := by decide
  (unfold Builtin.«set.__init__» noKeywords Builtin.Frozenset.updateFrom)
  generalize hPI : pyIter = PI
  wp_walk
  subst hPI
  refine wpAny_pyIter_tuple hl2 (wpAny_bind (wpAny_runValue ?_))
  have sz : (s.heap.push (nset w)).objs.size = s.heap.objs.size + 1 := Heap.size_push ..
  have quiet : A.in1.in1.in1.handled = none := by simp [hh]
  have ne : l ≠ (s.heap.push (nset w)).objs.size := by rw [sz]; exact Nat.ne_of_lt (Nat.lt_succ_of_lt lt)
  have out : s.heap.objs.size ∉ [(s.heap.push (nset w)).objs.size, l] := by
    rw [sz]
    simp only [List.mem_cons, List.not_mem_nil, or_false, not_or]
    exact ⟨Nat.ne_of_lt (Nat.lt_succ_self _), Nat.ne_of_gt lt⟩
  have val : ∀ (i : Nat) (v : Value), items[i]? = some v → ∃ p, ks[i]? = some p ∧ v = .ref p.1 := fun i v hv => by
    have at_ : (ks.map fun p => Value.ref p.1)[i]? = some v := by rw [← hit, Array.getElem?_toList]; exact hv
    rw [List.getElem?_map] at at_
    obtain ⟨p, hp, e⟩ := Option.map_eq_some_iff.mp at_
    exact ⟨p, hp, e.symm⟩
  have far : ∀ b, s.heap.objs.size ≤ b → s.heap.get? b = none := fun b hb => by
    rcases e : s.heap.get? b with _ | o
    · rfl
    · exact absurd (Heap.lt_size e) (Nat.not_lt.mpr hb)
  refine set_update_tups ((Walks.tuple quiet _ l ne items).toS) s.heap.objs.size out ks cnt hfew val s.heap hk (far _ (Nat.le_refl _)) (fun b hb => far b ?_) ?_ (items.size - 0) 0 _ (by omega) (Nat.zero_le _)
    ⟨⟨_, Heap.get?_push_size _ rfl, rfl, rfl⟩, hl2.push _⟩ (fun b o e => Heap.get?_push_of_some _ (Heap.get?_push_of_some _ e)) ⟨[], #[], 0, _, setTR_fresh (Heap.get?_push_of_some _ atS), Got.zero ks⟩ ?_
  · rw [List.mem_singleton.mp hb, sz]; exact Nat.le_succ _
  · simpa using hu
  · rintro ⟨h', g2, d2, tk, o2⟩ L es ep t hm hS g kp
    obtain rfl : g2 = s.gens := hm.gens
    obtain rfl : d2 = s.drawn := hm.drawn
    obtain rfl : o2 = s.os := hm.os
    rw [cnt] at g
    exact wpAny_pure (wpAny_pure ⟨rfl, h', tk, L, es, ep, t, rfl, hS, g, kp⟩)
end
end DL

set_option maxHeartbeats 4100000
/-! LW4: len(set(t)) as an expression; f"{x:>3}". -/
namespace DL
open PySem L2 PySem.Spec PyProof.Rows
open PySem.W in
theorem meets_fmt3 {P : Program} {w : World} {A : Around} {E : Value → Shared → Prop} {s : Shared} {i : Int} {t : Tok} {Q : Value → Shared → Prop} (h1 : 1 ≤ i) (h2 : i ≤ 14) (h : ∀ t' k, Q (.str (Txt.rjust (toString i) 3) t') { s with toks := k }) :
    wpAny (model P w) A (formatField (.int i t) ">3") Q E s := by
  have e : i = 1 ∨ i = 2 ∨ i = 3 ∨ i = 4 ∨ i = 5 ∨ i = 6 ∨ i = 7 ∨ i = 8 ∨ i = 9 ∨ i = 10 ∨ i = 11 ∨ i = 12 ∨ i = 13 ∨ i = 14 := by omega
  rcases e with rfl | rfl | rfl | rfl | rfl | rfl | rfl | rfl | rfl | rfl | rfl | rfl | rfl | rfl <;>
  exact KXf.field_int (spec' := ">3") rfl (by decide +kernel) (by decide +kernel) (by kxf_run_i) h
section
variable {X : Cx}
/-- f"{x:>3}", x from 1 to 14 -/
theorem pe_fmt3 {e sp : Expr} {te : TE} {pos : Pos} (he : PE X e te) (hs : PE X sp (tC (.str ">3"))) : PE X (.FormattedValue e (-1) (some sp) pos) (tFmt3 te) := ⟨fun pins s σ H Q I h => by
  refine wpAny_FormattedValue_spec (thn (he.run pins s σ H _ I h) fun v s1 hv => ?_)
  obtain ⟨x, H1, I1, rx, i, rfl, h1, h2, q⟩ := hv
  obtain ⟨t, rfl⟩ := rx
  refine thn (hs.run pins s1 σ H1 (fun y H2 => y = .str ">3" ∧ H2 = H1) I1 ⟨rfl, rfl⟩) fun r s2 hr => ?_
  obtain ⟨y, H2, I2, ry, rfl, rfl⟩ := hr
  obtain ⟨t2, rfl⟩ := ry
  exact ⟨">3", t2, rfl, meets_fmt3 h1 h2 fun t' k => ⟨.str _, H2, I2.tok _, ⟨_, rfl⟩, q⟩⟩⟩
theorem items_of {P : Program} {w : World} : ∀ {ns : List Int} {vs : List Value}, Vals (ns.map V.int) vs → ItemsAre (intKind P w) ns vs
  | [], _, .nil => .nil
  | n :: ns, _, .cons r t => by
    obtain ⟨k, rfl⟩ := r
    exact .cons (intKind_is _ _ _ _) (items_of t)
/-- len(set(t)), t a tuple of different tuples of ints -/
def tLenSetT (K : Frag) (ta : TE) : TE := fun σ H Q => ta σ H fun x H1 => ∃ (l : Addr) (ks : List (Addr × List Int)), x = .ref l ∧ SqT K H1 l (ks.map fun p => V.ref p.1) ∧ (∀ p ∈ ks, SqT K H1 p.1 (p.2.map V.int)) ∧ (ks.map (·.2)).Nodup ∧ ks.length < 64 ∧ Q (.int (ks.length : Nat)) H1
theorem refs_vals {ks : List (Addr × List Int)} : ∀ {vs : List Value}, Vals (ks.map fun p => V.ref p.1) vs → vs = ks.map fun p => Value.ref p.1 := by
  induction ks with
  | nil => intro vs r; cases r; rfl
  | cons p ks ih =>
    intro vs r
    cases r with
    | cons r t => rw [List.map_cons, ih t, show _ = Value.ref p.1 from r]
theorem pe_lenSetT {a : Expr} {ta : TE} {p p2 q pos : Pos} (hu : X.A.units + 64 < cLine) (hg : Gl X "len") (hm : X.mg "len" = none) (hg2 : Gl X "set") (hm2 : X.mg "set" = none) (ha : PE X a ta) (hc : X.calm = true := by rfl)
    (na : starEach [a] X.env = (false, eval a X.env) :: starEach [] X.env := by rfl) : PE X (.Call (.Name "len" p) [.Call (.Name "set" p2) [a] [] q] [] pos) (tLenSetT X.K ta) := ⟨fun pins s σ H Q I h => by
  refine Call_ (ld_blt I hg hm boot_len (PyProof.Rows.callWith_builtin1 (PyProof.Rows.args_cons ?_ rfl) rfl rfl))
  refine Call_ (ld_blt I hg2 hm2 boot_set (PyProof.Rows.callWith_type1 (PyProof.Rows.args_cons (thn (ha.run pins s σ H _ I h) fun v s1 hv => PyProof.Rows.args_nil ?_) na) na rfl))
  obtain ⟨x, H1, I1, r1, l, ks, rfl, hq, hks, hnd, hl, q1⟩ := hv
  obtain rfl : v = Value.ref l := r1
  obtain ⟨its, rv, it, _⟩ := I1.tuple hq
  have quiet := I1.ok.hd hc
  refine call_set_by (set_init_tupT ks quiet it (by rw [List.toList_toArray]; exact refs_vals rv) (fun z hz => ?_) hl (by omega)) fun s2 hs2 => PyProof.Rows.args_nil ?_
  · obtain ⟨js, r2, ⟨o2, ho2, hc2, n2, hd2⟩, _⟩ := I1.tuple (hks z hz)
    exact ⟨o2, js.toArray, n2, ho2, hc2, hd2, by rw [List.toList_toArray]; exact items_of r2⟩
  · obtain ⟨h', tk, L, es, ep, t, rfl, hS, g, kp⟩ := hs2
    have len : es.size = ks.length := by
      rw [SetTR.size (s := { s1 with heap := h', toks := tk }) hS]
      have pm : (L.map (·.2)).Perm (ks.map (·.2)) := (List.perm_ext_iff_of_nodup hS.nd hnd).mpr fun k => by
        constructor
        · intro hk
          obtain ⟨p, hp, rfl⟩ := List.mem_map.mp hk
          exact List.mem_map.mpr ⟨p, List.mem_of_mem_take (g.sub p hp), rfl⟩
        · intro hk
          obtain ⟨p, hp, rfl⟩ := List.mem_map.mp hk
          exact g.all p (by rw [List.take_length]; exact hp)
      have := pm.length_eq
      rwa [List.length_map, List.length_map] at this
    obtain ⟨o, ho, hex, hd⟩ := hS.ob
    (have I2 : Inv X pins σ H1 { s1 with heap := h', toks := tk } := I1.kept kp)
    exact call_len_set ho hex hd (SetTR.fits (s := { s1 with heap := h', toks := tk }) hS) (by rw [len]; omega) ⟨.int ks.length, H1, I2.tok _, ⟨_, by rw [len]⟩, q1⟩⟩
end
end DL

set_option maxHeartbeats 1100000
/-! LW5: list(range(a, b)) of any ints, 2^24 items at most. -/
namespace DL
open PySem L2 PySem.Spec PyProof.Rows
section
variable {w : World} {A : Around} {E : Value → Shared → Prop} {s : Shared} {prog : Program}
/-- what a long range's iterator is at its start -/
abbrev lit (a c : Int) (n : Int) : Obj := { cls := .type "longrange_iterator", data := .fields #[rawInt a, rawInt n, rawInt c] }
theorem long_ext {R : Result → Shared → Prop} {r : Addr} {a b c : Int} {t u v : Tok} {n : Nat} (quiet : A.handled = none) (hr : IsRange s.heap r a b c t u v) (big : Builtin.Range.small a b c = false)
    (hn : Builtin.Range.rangeSize a b c = n) (few : n ≤ 2 ^ 24) (S : Addr) (res : Value) (k : Nat) (at_ : s.heap.get? S = some { cls := .type "list", data := .seq #[] k })
    (fin : ∀ h' tk acc m, (∀ b o, b ≠ S → s.heap.get? b = some o → h'.get? b = some o) → h'.get? S = some { cls := .type "list", dict := none, data := .seq acc m, slots := #[] } → ItemsOf (fun i v => ∃ t, v = .int (a + i * c) t) acc n → R (.ok (.ret res)) { s with heap := h', toks := tk }) :
    wpAny (model prog w) A.in1 (Builtin.List.listExtendWith (.ref S) (.ref r) res) (fun f s' => match f with | .done x => R (.ok x) s' | .again c' => c'.quiet = true ∧ codeAny (model prog w) A c' R s') (fun e s' => R (.error e) s') s := by
  have ne : S ≠ r := by
    rintro rfl
    rw [hr] at at_
    simp at at_
  have lt : S < s.heap.objs.size := Heap.lt_size at_
  have ne2 : S ≠ s.heap.objs.size := Nat.ne_of_lt lt
  have walk := (Walks.longrange (prog := prog) (w := w) (A := A.in1) quiet s.heap.objs.size a c n).toS
  have go : ∀ (h : Heap) (k1 tk : Nat), IsLongIter h s.heap.objs.size (a + ((0 : Nat) : Int) * c) ((n : Int) - ((0 : Nat) : Int)) c → (∀ b o, b ≠ S → s.heap.get? b = some o → h.get? b = some o) →
      h.get? S = some { cls := .type "list", data := .seq #[] k1 } → codeAny (model prog w) A (.builtin "list.extend.loop" ⟨[.ref S, .ref s.heap.objs.size, res], []⟩) R { s with heap := h, toks := tk } := fun h k1 tk st keep at1 => by
    refine codeAny_extend_loopS walk (by rw [sizeLine_eq]; omega) S (by simpa using ne2) res n 0 _ #[] k1 rfl (Nat.zero_le _) st at1 (ItemsOf.nil _) fun s2 acc m mv at2 its => ?_
    rw [Moved.eq_with mv]
    refine fin s2.heap s2.toks acc m (fun b o hb e => mv.heap b o (fun z => ?_) (keep b o hb e)) at2 its
    (rcases List.mem_cons.mp z with z | z)
    · exact hb z
    · rw [List.mem_singleton.mp z] at e
      exact absurd (Heap.lt_size e) (Nat.lt_irrefl _)
  have q1 : Builtin.List.listSameRef (.ref S) (.ref r) = false := by simp [Builtin.List.listSameRef, ne]
  have q2 : (Value.type "range" == Value.type "list") = false := by decide
  have q3 : (Value.type "range" == Value.type "tuple") = false := by decide
  (unfold Builtin.List.listExtendWith)
  (refine wpAny_bind (wpAny_typeOf (T := "range") ⟨_, hr, rfl⟩ ?_))
  simp only [q1, q2, q3, Bool.or_false, Bool.false_eq_true, if_false]
  refine wpAny_bind (wpAny_pyIter_longrange hr big (wpAny_bind (wpAny_holding (wpAny_hint_range (n := n) (Heap.get?_push_of_some _ hr) hn few ?_))))
  rw [hn]
  have it0 : IsLongIter (s.heap.push (lit a c n)) s.heap.objs.size (a + ((0 : Nat) : Int) * c) ((n : Int) - ((0 : Nat) : Int)) c := by simpa using Heap.get?_push_size s.heap (o := lit a c n) rfl
  have at1 := Heap.get?_push_of_some (lit a c n) at_
  refine wpAny_ite_split (fun _ => wpAny_bind (wpAny_rule (wpAny_bind ?_))) fun _ => wpAny_pure ⟨plainId_quiet F.plain_extend_loop _, go _ k _ it0 (fun b o _ e => Heap.get?_push_of_some _ e) at1⟩
  show wpAny _ _ (updateSeq S (fun z => z.push .none) >>= fun _ => updateSeq S fun z => z.pop) _ _ _
  have at2 := Heap.get?_update_self (Obj.mapSeq (·.push Value.none)) at1 rfl
  have at3 := Heap.get?_update_self (Obj.mapSeq (·.pop)) at2 rfl
  refine wpAny_bind (wpAny_updateSeq at1 rfl (wpAny_updateSeq (hz := by seq_fits) at2 rfl (wpAny_pure ⟨plainId_quiet F.plain_extend_loop _, go _ _ _ ?_ (fun b o hb e => ?_) at3⟩)))
  · exact (Heap.get?_update_other _ _ ne2).trans ((Heap.get?_update_other _ _ ne2).trans it0)
  · (exact (Heap.get?_update_other _ _ (Ne.symm hb)).trans ((Heap.get?_update_other _ _ (Ne.symm hb)).trans (Heap.get?_push_of_some _ e)))
theorem list_of_long {Q : Value → Shared → Prop} {r : Addr} {a b c : Int} {t u v : Tok} {n : Nat} (quiet : A.handled = none) (hr : IsRange s.heap r a b c t u v) (big : Builtin.Range.small a b c = false) (hn : Builtin.Range.rangeSize a b c = n) (few : n ≤ 2 ^ 24)
    (fin : ∀ h' tk acc m, (∀ b o, s.heap.get? b = some o → h'.get? b = some o) → h'.get? s.heap.objs.size = some { cls := .type "list", dict := none, data := .seq acc m, slots := #[] } → ItemsOf (fun i v => ∃ t, v = .int (a + i * c) t) acc n → Q (.ref s.heap.objs.size) { s with heap := h', toks := tk }) : wpAny (model prog w) A (call (.type "list") [.ref r]) Q E s := by
  refine callType_codes (Q₁ := fun z s1 => z = .ref s.heap.objs.size ∧ s1 = { s with heap := s.heap.push { cls := .type "list", data := .seq #[] } }) F.called_list (F.typeCall_list_1 _) F.entry_list_init (code_list_new _ ⟨rfl, rfl⟩) fun z s1 hz => ?_
  obtain ⟨rfl, rfl⟩ := hz
  have at0 : (s.heap.push { cls := .type "list", data := .seq #[] }).get? s.heap.objs.size = some { cls := .type "list", data := .seq #[] } := Heap.get?_push_size _ rfl
  have hr1 := Heap.get?_push_of_some { cls := .type "list", data := .seq #[] } hr
  have lt : r < s.heap.objs.size := Heap.lt_size hr
  refine ⟨⟨_, at0, rfl⟩, F.args_list_init_2 _ _, ?_⟩
  show wpAny _ _ (do let old ← Builtin.List.listItems (.ref s.heap.objs.size); Builtin.List.listUpdate (.ref s.heap.objs.size) (fun _ => #[]); letGo old.toList.reverse; Builtin.List.listExtendWith (.ref s.heap.objs.size) (.ref r) .none) _ _ _
  unfold Builtin.List.listItems
  have at1 := Heap.get?_update_self (Obj.mapSeq (fun _ => (#[] : Array Value))) at0 rfl
  refine wpAny_bind (wpAny_bind (wpAny_seqItems at0 rfl (wpAny_pure ?_)))
  show wpAny _ _ (updateSeq s.heap.objs.size (fun _ => #[]) >>= fun _ => letGo (#[] : Array Value).toList.reverse >>= fun _ => Builtin.List.listExtendWith (.ref s.heap.objs.size) (.ref r) .none) _ _ _
  refine wpAny_bind (wpAny_updateSeq at0 rfl ?_)
  (refine wpAny_bind (wpAny_letGo ?_))
  refine long_ext (A := A.in1) quiet ((Heap.get?_update_other _ _ (Nat.ne_of_gt lt)).trans hr1) big hn few s.heap.objs.size .none _ at1 fun h' tk acc m keep at2 its => ?_
  refine ⟨rfl, fin h' tk acc m (fun b o e => ?_) at2 its⟩
  have ne : b ≠ s.heap.objs.size := Nat.ne_of_lt (Heap.lt_size e)
  exact keep b o ne ((Heap.get?_update_other _ _ (Ne.symm ne)).trans (Heap.get?_push_of_some _ e))
end
section
variable {X : Cx} {e : Expr} {te : L2.St → Hp → (Int → Int → Hp → Prop) → Prop}
/-- list(range(..)), any ints -/
def tLstRgA (te : L2.St → Hp → (Int → Int → Hp → Prop) → Prop) : TE := fun σ H Q => te σ H fun a b H1 => (b - a).toNat ≤ 2 ^ 24 ∧ ∀ q, H1 q = none → Q (.ref q) (upd H1 q (.lst (rgV a b)))
theorem pe_listRgA {p pos : Pos} (hc : X.calm = true) (hg : Gl X "list") (hm : X.mg "list" = none) (he : PRg X e te) (na : starEach [e] X.env = (false, eval e X.env) :: starEach [] X.env := by rfl) : PE X (.Call (.Name "list" p) [e] [] pos) (tLstRgA te) := ⟨fun pins s σ H Q I h => by
  refine Call_ (ld_blt I hg hm boot_list (PyProof.Rows.callWith_type1 (args_cons (thn (he pins s σ H _ I h) fun x s1 hx => args_nil ?_) na) na))
  obtain ⟨r, a, b, t, u, v, H1, rfl, hr, I1, few, q⟩ := hx
  have fin : ∀ h' tk acc m, (∀ b o, s1.heap.get? b = some o → h'.get? b = some o) → h'.get? s1.heap.objs.size = some { cls := .type "list", dict := none, data := .seq acc m, slots := #[] } → ItemsOf (fun i v => ∃ t, v = .int (a + i * 1) t) acc (b - a).toNat → EP X pins σ Q (.ref s1.heap.objs.size) { s1 with heap := h', toks := tk } := fun h' tk acc m keep at_ its => by
    refine ⟨.ref s1.heap.objs.size, _, I1.laid keep (Nat.le_refl _) (o := .lst (rgV a b)) ⟨?_, acc.toList, m, vals_rg its, ?_⟩, rfl, q _ (I1.hok.fresh (Nat.le_refl _))⟩
    · (rw [rgV_length, sizeLine_eq]; omega)
    · rw [Array.toArray_toList]; exact at_
  cases small : Builtin.Range.small a b 1 with
  | true => exact call_list_range (n := (b - a).toNat) (I1.ok.hd hc) hr small (rangeSize_nat a b) few fin
  | false => exact list_of_long (n := (b - a).toNat) (I1.ok.hd hc) hr small (rangeSize_nat a b) few fin⟩
end
end DL

set_option maxHeartbeats 1900000
/-! DL7: equality, membership, isinstance, sorted, set, instances by keywords, double comprehensions. -/
namespace DL
open PySem L2 PySem.Spec PyProof.Rows
mutual
def D.py : D → PyData
  | .bl b => .bool b
  | .int i => .int i
  | .str x => .str x
  | .lst xs => .list (pys xs)
  | .klst xs => .list (pys xs)
  | .tup xs => .tuple (pys xs)
  | _ => .none
def pys : List D → List PyData
  | [] => []
  | x :: xs => x.py :: pys xs
end
/-- data that are compared: of depth n at most -/
def Pl : Nat → D → Prop
  | 0, d => d = .non ∨ (∃ b, d = .bl b) ∨ (∃ i, d = .int i)
  | n + 1, d => d = .non ∨ (∃ b, d = .bl b) ∨ (∃ i, d = .int i) ∨ ∃ xs, (d = .lst xs ∨ d = .tup xs) ∧ ∀ x ∈ xs, Pl n x
theorem Pl.int {n : Nat} {i : Int} : Pl n (.int i) := by cases n <;> simp [Pl]
theorem Pl.lst {n : Nat} {xs : List D} (h : ∀ x ∈ xs, Pl n x) : Pl (n + 1) (.lst xs) := .inr (.inr (.inr ⟨xs, .inl rfl, h⟩))
theorem Pl.tup {n : Nat} {xs : List D} (h : ∀ x ∈ xs, Pl n x) : Pl (n + 1) (.tup xs) := .inr (.inr (.inr ⟨xs, .inr rfl, h⟩))
theorem pys_shape : ∀ {n : Nat} {xs : List D}, (∀ x ∈ xs, x.py.canLay0 = true ∧ x.py.depth ≤ n) → PyData.canLayAll0 (pys xs) = true ∧ PyData.depthAll (pys xs) ≤ n
  | n, [], _ => ⟨rfl, Nat.zero_le _⟩
  | n, x :: xs, h => by
    obtain ⟨h1, h2⟩ := h x (List.mem_cons_self ..)
    obtain ⟨h3, h4⟩ := pys_shape (n := n) (xs := xs) fun y hy => h y (List.mem_cons_of_mem _ hy)
    refine ⟨?_, ?_⟩
    · simp only [pys, PyData.canLayAll0, h1, h3, Bool.and_self]
    · simp only [pys, PyData.depthAll]; omega
theorem Pl.shape : ∀ {n : Nat} {d : D}, Pl n d → d.py.canLay0 = true ∧ d.py.depth ≤ n
  | 0, d, h => by
    rcases h with rfl | ⟨b, rfl⟩ | ⟨i, rfl⟩ <;> exact ⟨rfl, Nat.le_refl _⟩
  | n + 1, d, h => by
    rcases h with rfl | ⟨b, rfl⟩ | ⟨i, rfl⟩ | ⟨xs, e, h⟩
    · exact ⟨rfl, Nat.zero_le _⟩
    · exact ⟨rfl, Nat.zero_le _⟩
    · exact ⟨rfl, Nat.zero_le _⟩
    · obtain ⟨h1, h2⟩ := pys_shape (n := n) (xs := xs) fun x hx => (h x hx).shape
      rcases e with rfl | rfl <;> refine ⟨?_, ?_⟩
      · simp only [D.py, PyData.canLay0, h1]
      · simp only [D.py, PyData.depth]; omega
      · simp only [D.py, PyData.canLay0, h1]
      · simp only [D.py, PyData.depth]; omega
theorem Pl.shaped {n : Nat} {d : D} (h : Pl n d) (hn : n ≤ 64) : SeqAt.shaped d.py = true := by
  obtain ⟨h1, h2⟩ := h.shape
  unfold SeqAt.shaped
  rw [h1, decide_eq_true (Nat.le_trans h2 hn)]
  rfl
section
variable {K : Frag} {J : Jd} {δ : En} {S : Store} {P : D → Store → Prop} {G H : Hp} {Q : VK} {ta tb te : TE} {v : V} {d x y : D} {ds es : List D} {vs : List V}
theorem pl_dp : ∀ {n : Nat} {d : D} {v : V}, Sub G H → Pl n d → Rep K G v d → Dp K H v d.py
  | 0, d, v, s, h, r => by
    rcases h with rfl | ⟨b, rfl⟩ | ⟨i, rfl⟩ <;> cases r
    · exact .non
    · exact .bl _
    · exact .int _
  | n + 1, d, v, s, h, r => by
    have all : ∀ {vs : List V} {xs : List D}, (∀ x ∈ xs, Pl n x) → Reps K G vs xs → DpAll K H vs (pys xs) := by
      intro vs xs hx rs
      induction xs generalizing vs with
      | nil => cases rs; exact .nil
      | cons x xs ih =>
        cases rs with
        | cons r rs => exact .cons (pl_dp s (hx x (List.mem_cons_self ..)) r) (ih (fun y hy => hx y (List.mem_cons_of_mem _ hy)) rs)
    rcases h with rfl | ⟨b, rfl⟩ | ⟨i, rfl⟩ | ⟨xs, e, h⟩
    · cases r; exact .non
    · cases r; exact .bl _
    · cases r; exact .int _
    · rcases e with rfl | rfl
      · cases r with
        | lst hg rs => exact .lst (.inl (.inl (s _ _ hg))) (all h rs)
      · cases r with
        | tup hg rs => exact .tup (s.t hg) (all h rs)
theorem o_eqD {n m : Nat} (hx : Pl n x) (hy : Pl m y) (p : P (.bl (PyData.eqv x.py y.py)) S) (hn : n ≤ 64 := by decide) (hm : m ≤ 64 := by decide) : Op K J (rEqD K) x y S P := fun G H vx vy w j r1 r2 Q k =>
  ⟨_, _, pl_dp w.sub hx r1, pl_dp w.sub hy r2, hx.shaped hn, hy.shaped hm, k.now w (.bl _) p⟩
theorem o_neD {n m : Nat} (hx : Pl n x) (hy : Pl m y) (p : P (.bl (!PyData.eqv x.py y.py)) S) (hn : n ≤ 64 := by decide) (hm : m ≤ 64 := by decide) : Op K J (rNeD K) x y S P := fun G H vx vy w j r1 r2 Q k =>
  ⟨_, _, pl_dp w.sub hx r1, pl_dp w.sub hy r2, hx.shaped hn, hy.shaped hm, k.now w (.bl _) p⟩
theorem eqv_nil (xs : List PyData) : PyData.eqvAll xs [] = xs.isEmpty := by cases xs <;> simp [PyData.eqvAll]
theorem pys_empty (xs : List D) : (pys xs).isEmpty = xs.isEmpty := by cases xs <;> rfl
theorem o_eqNil {n : Nat} (hx : Pl n (.lst ds)) (p : P (.bl ds.isEmpty) S) (hn : n ≤ 64 := by decide) : Op K J (rEqD K) (.lst ds) (.lst []) S P :=
  o_eqD hx (Pl.lst (n := 0) (fun x h => by cases h)) (by simp only [D.py, PyData.eqv, pys, eqv_nil, pys_empty]; exact p) hn
theorem o_neNil {n : Nat} (hx : Pl n (.lst ds)) (p : P (.bl (!ds.isEmpty)) S) (hn : n ≤ 64 := by decide) : Op K J (rNeD K) (.lst ds) (.lst []) S P :=
  o_neD hx (Pl.lst (n := 0) (fun x h => by cases h)) (by simp only [D.py, PyData.eqv, pys, eqv_nil, pys_empty]; exact p) hn
theorem o_eqNilT {n : Nat} (hx : Pl n (.tup ds)) (p : P (.bl ds.isEmpty) S) (hn : n ≤ 64 := by decide) : Op K J (rEqD K) (.tup ds) (.tup []) S P :=
  o_eqD hx (Pl.tup (n := 0) (fun x h => by cases h)) (by simp only [D.py, PyData.eqv, pys, eqv_nil, pys_empty]; exact p) hn
/-- a pair of ints -/
def pairD (p : Int × Int) : D := .tup [.int p.1, .int p.2]
theorem pl_pair {p : Int × Int} : Pl 1 (pairD p) := Pl.tup fun x h => by
  (rcases List.mem_cons.mp h with rfl | h)
  · exact .int
  · (rcases List.mem_cons.mp h with rfl | h)
    · exact .int
    · cases h
theorem pl_ints {ns : List Int} : Pl 1 (.lst (ns.map D.int)) := Pl.lst fun x h => by
  obtain ⟨i, _, rfl⟩ := List.mem_map.mp h
  exact .int
theorem pl_tints {ns : List Int} : Pl 1 (.tup (ns.map D.int)) := Pl.tup fun x h => by
  obtain ⟨i, _, rfl⟩ := List.mem_map.mp h
  exact .int
theorem pl_pairs {ps : List (Int × Int)} : Pl 2 (.lst (ps.map pairD)) := Pl.lst fun x h => by
  obtain ⟨i, _, rfl⟩ := List.mem_map.mp h
  exact pl_pair
theorem pl_tpairs {ps : List (Int × Int)} : Pl 2 (.tup (ps.map pairD)) := Pl.tup fun x h => by
  obtain ⟨i, _, rfl⟩ := List.mem_map.mp h
  exact pl_pair
theorem eqv_pair {p q : Int × Int} : PyData.eqv (pairD p).py (pairD q).py = decide (p = q) := by
  obtain ⟨a, b⟩ := p
  obtain ⟨c, e⟩ := q
  simp only [pairD, D.py, pys, PyData.eqv, PyData.eqvAll, Bool.and_true]
  by_cases h1 : a = c <;> by_cases h2 : b = e <;> simp [h1, h2]
theorem any_pair {p : Int × Int} : ∀ ps : List (Int × Int), ((pys (ps.map pairD)).any fun z => PyData.eqv z (pairD p).py) = decide (p ∈ ps)
  | [] => by simp [pys]
  | q :: ps => by
    rw [List.map_cons]
    simp only [pys, List.any_cons, eqv_pair]
    rw [any_pair ps]
    by_cases h : q = p
    · subst h; simp
    · have h' : ¬ p = q := fun z => h z.symm
      simp [h, h']
theorem o_inP {p : Int × Int} {ps : List (Int × Int)} (h : P (.bl (decide (p ∈ ps))) S) : Op K J (rInD K) (pairD p) (.lst (ps.map pairD)) S P := fun G H vx vy w j r1 r2 Q k =>
  ⟨_, _, pl_dp w.sub pl_pair r1, by have := pl_dp w.sub pl_pairs r2; simpa only [D.py] using this, pl_pair.shaped (by decide), by have := pl_pairs (ps := ps).shaped (by decide); simpa only [D.py] using this, by rw [any_pair]; exact k.now w (.bl _) h⟩
theorem o_notInP {p : Int × Int} {ps : List (Int × Int)} (h : P (.bl (!decide (p ∈ ps))) S) : Op K J (rNotInD K) (pairD p) (.lst (ps.map pairD)) S P := fun G H vx vy w j r1 r2 Q k =>
  ⟨_, _, pl_dp w.sub pl_pair r1, by have := pl_dp w.sub pl_pairs r2; simpa only [D.py] using this, pl_pair.shaped (by decide), by have := pl_pairs (ps := ps).shaped (by decide); simpa only [D.py] using this, by rw [any_pair]; exact k.now w (.bl _) h⟩
theorem o_inPT {p : Int × Int} {ps : List (Int × Int)} (h : P (.bl (decide (p ∈ ps))) S) : Op K J (rInDT K) (pairD p) (.tup (ps.map pairD)) S P := fun G H vx vy w j r1 r2 Q k =>
  ⟨_, _, pl_dp w.sub pl_pair r1, by have := pl_dp w.sub pl_tpairs r2; simpa only [D.py] using this, pl_pair.shaped (by decide), by have := pl_tpairs (ps := ps).shaped (by decide); simpa only [D.py] using this, by rw [any_pair]; exact k.now w (.bl _) h⟩
theorem o_notInPT {p : Int × Int} {ps : List (Int × Int)} (h : P (.bl (!decide (p ∈ ps))) S) : Op K J (rNotInDT K) (pairD p) (.tup (ps.map pairD)) S P := fun G H vx vy w j r1 r2 Q k =>
  ⟨_, _, pl_dp w.sub pl_pair r1, by have := pl_dp w.sub pl_tpairs r2; simpa only [D.py] using this, pl_pair.shaped (by decide), by have := pl_tpairs (ps := ps).shaped (by decide); simpa only [D.py] using this, by rw [any_pair]; exact k.now w (.bl _) h⟩
theorem inV_ints {i : Int} : ∀ ns : List Int, inV (.int i) (ns.map V.int) = decide (i ∈ ns)
  | [] => by simp [inV]
  | n :: ns => by
    have ih := inV_ints (i := i) ns
    unfold inV at ih ⊢
    rw [List.map_cons, List.any_cons, ih]
    by_cases h : n = i
    · subst h; simp [eqV]
    · have h' : ¬ i = n := fun z => h z.symm
      simp [eqV, h, h']
theorem o_inI {neg : Bool} {i : Int} {ns : List Int} (hs : SqAt S y (ns.map D.int)) (h : P (.bl (if neg then !decide (i ∈ ns) else decide (i ∈ ns))) S) : Op K J (rIn K neg) (.int i) y S P := fun G H vx vy w j r1 r2 Q k => by
  cases r1
  obtain ⟨a, us, e, hq, rs⟩ := hs.rep w r2
  rw [reps_int rs] at hq
  refine ⟨a, ns.map V.int, e, hq, rfl, ?_, ?_⟩
  · rw [List.all_eq_true]; intro z hz; obtain ⟨q, _, rfl⟩ := List.mem_map.mp hz; rfl
  · rw [inV_ints]; exact k.now w (.bl _) h
/-! ### isinstance -/
def TyD (S : Store) : D → String → Prop
  | .non, n => n = "NoneType"
  | .bl _, n => n = "bool"
  | .int _, n => n = "int"
  | .str _, n => n = "str"
  | .lst _, n => n = "list"
  | .tup _, n => n = "tuple"
  | .dK _, n => n = "dict"
  | .loc a, n => (∃ ds, S a = some (.lst ds) ∧ n = "list") ∨ ∃ ds, S a = some (.dK ds) ∧ n = "dict"
  | _, _ => False
theorem TyD.tyx {n : String} (w : Wd K G H S) (r : Rep K G v x) (h : TyD S x n) : TyX K H v (.type n) := by
  cases r with
  | non => cases h; exact .base .non
  | bl b => cases h; exact .base (.bl _)
  | int b => cases h; exact .base (.int _)
  | str b => cases h; exact .base (.str _)
  | ty b => exact h.elim
  | loc a =>
    rcases h with ⟨ds, hs, rfl⟩ | ⟨ds, hs, rfl⟩
    · obtain ⟨_, o, ho, rm⟩ := w.own a _ hs
      cases o <;> first | exact rm.elim | exact .base (.lst ho)
    · obtain ⟨_, o, ho, rm⟩ := w.own a _ hs
      cases o <;> first | exact rm.elim | exact .base (.dK ho)
  | raw a => exact h.elim
  | lst hg rs => cases h; exact .base (.lst (w.sub _ _ hg))
  | klst hg rs => exact h.elim
  | tup hg rs =>
    cases h
    rcases w.sub.t hg with (z | ⟨o, z⟩) | ⟨o, its, n, z, zc, _⟩
    · exact .base (.tup z)
    · exact .fTuple z
    · exact .kTuple z zc
  | ins _ _ => exact h.elim
  | dK hg rs => cases h; exact .base (.dK (w.sub _ _ hg))
  | dT _ _ => exact h.elim
theorem c_isi {n t : String} {b : Bool} (ht : TyD S x t) (hk : kitB t n = some b) (p : P (.bl b) S) : Cb K J (rIsi K) [x, .ty n] S P := fun G H vs w j r Q k => by
  cases r with
  | cons r rr =>
    cases rr with
    | cons r' rr => cases rr; cases r'; exact ⟨_, _, .type t, .type n, b, rfl, .ty n, ht.tyx w r, kit_ty hk, k.now w (.bl _) p⟩
def kitBs (t : String) : List String → Option Bool
  | [] => some false
  | n :: ns => match kitB t n with
    | some true => some true
    | some false => kitBs t ns
    | none => none
theorem kit_tys {t : String} : ∀ {ns : List String} {b : Bool}, kitBs t ns = some b → PySem.W.kitAny K (.type t) (ns.map fun n => Value.type n) = some b
  | [], b, h => h
  | n :: ns, b, h => by
    unfold kitBs at h
    rw [List.map_cons]
    unfold PySem.W.kitAny
    cases q : kitB t n with
    | none => rw [q] at h; cases h
    | some c =>
      rw [q] at h
      rw [kit_ty q]
      cases c with
      | true => exact h
      | false => exact kit_tys h
theorem tys_reps : ∀ {vs : List V} {ns : List String}, Reps K G vs (ns.map D.ty) → vs = ns.map V.ty
  | _, [], .nil => rfl
  | _, _ :: _, .cons r t => by cases r; rw [tys_reps t]; rfl
theorem tys_cls : ∀ ns : List String, Paired ClsV (ns.map V.ty) (ns.map fun n => Value.type n)
  | [] => .nil
  | n :: ns => .cons (.ty n) (tys_cls ns)
/-- isinstance(x, (T, U, ..)) -/
theorem ev_isiT {t : TA} (h : Ev K J ta δ S fun x S1 => EvA K J t δ S1 fun xs S2 => ∃ ns ty b, xs = ns.map D.ty ∧ xs.length ≤ sizeLine ∧ TyD S2 x ty ∧ kitBs ty ns = some b ∧ P (.bl b) S2) : Ev K J (tCB (rIsiT K) (tCons ta (tCons (tTup t) tNil))) δ S P := fun G H σ w j e Q k =>
  h G H σ w j e _ fun G1 H1 S1 v1 d1 w1 x1 r1 p1 => p1 G1 H1 σ w1 (j.trans x1) (e.mono x1.gsub) _ fun G2 H2 S2 vs ds w2 x2 rs ⟨ns, ty, b, e1, hl, ht, hk, p⟩ => ⟨by rw [rs.length]; exact hl, fun q hq => by
    subst e1
    have r2 := r1.mono x2.gsub
    have w3 := w2.imm (o := .tup vs) hq
    have x3 := Ext.imm (o := HO.tup vs) w2 hq
    have n1 := Sub.new (o := HO.tup vs) (w2.free hq).1
    refine ⟨v1, q, vs, .type ty, ns.map (fun n => Value.type n), b, rfl, upd_same, ?_, ht.tyx w3 (r2.mono n1), kit_tys hk, k _ _ S2 (.bl b) (.bl b) w3 ((x1.trans x2).trans x3) (.bl b) p⟩
    rw [tys_reps rs]
    exact tys_cls ns⟩
/-! ### sorted, set -/
theorem c_sortI {ns : List Int} (h : SqAt S x (ns.map D.int)) (p : ∀ ns' : List Int, ns'.Perm ns → ns'.Pairwise (· ≤ ·) → P (.lst (ns'.map D.int)) S) : Cb K J (rSortTI K) [x] S P := fun G H vs w j r Q k => by
  cases r with
  | cons r rr =>
    cases rr
    obtain ⟨a, us, e, hs, rs⟩ := h.rep w r
    subst e
    rw [reps_int rs] at hs
    exact ⟨a, ns, rfl, hs, fun ns' q h1 h2 hq => k.imm w (fun z G' s hz => .lst hz (ints_reps ns')) (p ns' h1 h2) q hq⟩
theorem pair_rep {p : Int × Int} (w : Wd K G H S) (r : Rep K G v (pairD p)) : ∃ t, v = .ref t ∧ SqT K H t [.int p.1, .int p.2] := by
  cases r with
  | tup hg rs =>
    cases rs with
    | cons r1 rs => cases rs with
      | cons r2 rs => cases rs; cases r1; cases r2; exact ⟨_, rfl, w.sub.t hg⟩
theorem Reps.perm {us ys : List V} {ds : List D} (p : ys.Perm us) (r : Reps K G us ds) : ∃ es : List D, es.Perm ds ∧ Reps K G ys es := by
  induction p generalizing ds with
  | nil => cases r; exact ⟨[], .nil, .nil⟩
  | cons x p ih =>
    cases r with
    | cons q t =>
      obtain ⟨es, h1, h2⟩ := ih t
      exact ⟨_, .cons _ h1, .cons q h2⟩
  | swap x y l =>
    cases r with
    | cons q t =>
      cases t with
      | cons q' t => exact ⟨_, .swap _ _ _, .cons q' (.cons q t)⟩
  | trans p1 p2 ih1 ih2 =>
    obtain ⟨es, h1, h2⟩ := ih2 r
    obtain ⟨fs, h3, h4⟩ := ih1 h2
    exact ⟨fs, h3.trans h1, h4⟩
theorem perm_map {ps : List (Int × Int)} {es : List D} (h : es.Perm (ps.map pairD)) : ∃ qs : List (Int × Int), qs.Perm ps ∧ es = qs.map pairD := by
  have inj : ∀ p q, pairD p = pairD q → p = q := fun p q z => by
    injection z with z; injection z with z1 z2; injection z2 with z2 _; injection z1 with z1; injection z2 with z2
    exact Prod.ext z1 z2
  have all : ∀ e ∈ es, ∃ p, e = pairD p := fun e he => by
    obtain ⟨p, _, rfl⟩ := List.mem_map.mp (h.mem_iff.mp he)
    exact ⟨p, rfl⟩
  have ex : ∃ qs : List (Int × Int), es = qs.map pairD := by
    clear h
    induction es with
    | nil => exact ⟨[], rfl⟩
    | cons e es ih =>
      obtain ⟨p, rfl⟩ := all e (List.mem_cons_self ..)
      obtain ⟨qs, rfl⟩ := ih fun e he => all e (List.mem_cons_of_mem _ he)
      exact ⟨p :: qs, rfl⟩
  obtain ⟨qs, rfl⟩ := ex
  refine ⟨qs, ?_, rfl⟩
  classical
  let key : D → Int × Int := fun d => match d with | .tup [.int a, .int b] => (a, b) | _ => (0, 0)
  have h2 := h.map key
  have id_ : ∀ l : List (Int × Int), (l.map pairD).map key = l := fun l => by
    rw [List.map_map]
    exact (List.map_congr_left fun p _ => rfl).trans (List.map_id l)
  rwa [id_, id_] at h2
theorem c_sortP {ps : List (Int × Int)} (h : SqAt S x (ps.map pairD)) (p : ∀ qs : List (Int × Int), qs.Perm ps → P (.lst (qs.map pairD)) S) : Cb K J (rSortTP K) [x] S P := fun G H vs w j r Q k => by
  cases r with
  | cons r rr =>
    cases rr
    obtain ⟨a, us, e, hs, rs⟩ := h.rep w r
    subst e
    refine ⟨a, us, rfl, hs, fun u hu => ?_, fun ys q hp hq => ?_⟩
    · obtain ⟨i, hi⟩ := List.mem_iff_getElem?.mp hu
      obtain ⟨d, h1, h2⟩ := rs.getV hi
      rw [List.getElem?_map] at h1
      obtain ⟨z, _, rfl⟩ := Option.map_eq_some_iff.mp h1
      exact ⟨z, pair_rep w h2⟩
    · obtain ⟨es, h1, h2⟩ := Reps.perm hp rs
      obtain ⟨qs, h3, rfl⟩ := perm_map h1
      exact k.imm w (fun z G' s hz => .lst hz (h2.mono s)) (p qs h3) q hq
theorem ev_lenSetD (h : Ev K J ta δ S fun x S1 => ∃ ns : List Int, x = .tup (ns.map D.int) ∧ ns.Nodup ∧ ns.length ≤ 4000 ∧ P (.int (ns.length : Nat)) S1) : Ev K J (tLenSetD K ta) δ S P := fun G H σ w j e Q k =>
  h G H σ w j e _ fun G1 H1 S1 v d w1 x1 r1 ⟨ns, ed, hn, hl, p⟩ => by
    subst ed
    cases r1 with
    | tup hg rs =>
      rw [reps_int rs] at hg
      exact ⟨_, ns, rfl, w1.sub.t hg, hn, hl, k G1 H1 S1 _ _ w1 x1 (.int _) p⟩
theorem ev_lenSetT (h : Ev K J ta δ S fun x S1 => ∃ ps : List (Int × Int), x = .tup (ps.map pairD) ∧ ps.Nodup ∧ ps.length < 64 ∧ P (.int (ps.length : Nat)) S1) : Ev K J (tLenSetT K ta) δ S P := fun G H σ w j e Q k =>
  h G H σ w j e _ fun G1 H1 S1 v d w1 x1 r1 ⟨ps, ed, hn, hl, p⟩ => by
    subst ed
    cases r1 with
    | tup hg rs =>
      have keys : ∀ {us : List V} {ps : List (Int × Int)}, Reps K G1 us (ps.map pairD) → ∃ ks : List (Addr × List Int), us = ks.map (fun z => V.ref z.1) ∧ (∀ z ∈ ks, SqT K H1 z.1 (z.2.map V.int)) ∧ ks.map (·.2) = ps.map fun p => [p.1, p.2] := by
        intro us ps rs
        induction ps generalizing us with
        | nil => cases rs; exact ⟨[], rfl, fun z hz => (by cases hz), rfl⟩
        | cons p ps ih =>
          cases rs with
          | cons r rs =>
            obtain ⟨ks, h1, h2, h3⟩ := ih rs
            obtain ⟨t, rfl, ht⟩ := pair_rep w1 r
            refine ⟨(t, [p.1, p.2]) :: ks, by rw [h1]; rfl, fun z hz => ?_, by rw [List.map_cons, h3]; rfl⟩
            (rcases List.mem_cons.mp hz with rfl | hz)
            · exact ht
            · exact h2 z hz
      obtain ⟨ks, rfl, h2, h3⟩ := keys rs
      have len : ks.length = ps.length := by have := congrArg List.length h3; simpa using this
      refine ⟨_, ks, rfl, w1.sub.t hg, h2, ?_, by rw [len]; exact hl, by rw [len]; exact k G1 H1 S1 _ _ w1 x1 (.int _) p⟩
      rw [h3]
      refine List.Pairwise.map _ (fun a b hab z => hab ?_) hn
      injection z with z1 z2; injection z2 with z2 _
      exact Prod.ext z1 z2
/-! ### repr, a width, update -/
theorem c_repr {z : Str} (h : (reprText z).length ≤ sizeLine) (p : P (.str (reprText z)) S) : Cb K J rReprS [.str z] S P := fun G H vs w j r Q k => by
  cases r with
  | cons r rr => cases rr; cases r; exact ⟨z, rfl, h, k.now w (.str _) p⟩
theorem ev_fmt3 (h : Ev K J ta δ S fun x S1 => ∃ i : Int, x = .int i ∧ 1 ≤ i ∧ i ≤ 14 ∧ P (.str (Txt.rjust (toString i) 3)) S1) : Ev K J (tFmt3 ta) δ S P := fun G H σ w j e Q k =>
  h G H σ w j e _ fun G1 H1 S1 v d w1 x1 r1 ⟨i, ed, h1, h2, p⟩ => by
    subst ed
    cases r1
    exact ⟨i, rfl, h1, h2, k G1 H1 S1 _ _ w1 x1 (.str _) p⟩
theorem ty_dict {kvs : List (Key × D)} (h : DctAt S x kvs) : ∀ G H v, Wd K G H S → Rep K G v x → tyV K "dict" v H := fun G H v w r => by
  obtain ⟨a, us, e, hs, rs⟩ := h.rep w r
  subst e
  exact .inr (.inr (.inl ⟨rfl, .inl ⟨us, hs⟩⟩))
theorem m_dupd {a : Addr} {kvs more : List (Key × D)} (hs : S a = some (.dK kvs)) (hy : DctAt S y more) (ny : y ≠ .loc a) (hl : kvs.length + more.length ≤ sizeLine) (p : P .non (S.set a (.dK (mergeD kvs more)))) : Mb K J rDUpd (.loc a) [y] S P := fun G H vx vs w j r1 r2 Q k => by
  cases r1
  cases r2 with
  | cons r rr =>
    cases rr
    obtain ⟨b, fs, e, hb, rf⟩ := hy.rep w r
    obtain ⟨h0, o, ho, rm⟩ := w.own a _ hs
    cases o <;> first | exact rm.elim | skip
    rename_i gs
    have rg : RepK K G gs kvs := rm
    have ne : a ≠ b := by
      rintro rfl
      subst e
      rcases hy with e | ⟨c, e, _⟩
      · subst e
        cases r with
        | dK hg _ => rw [h0] at hg; cases hg
      · subst e
        cases r
        exact ny rfl
    subst e
    exact ⟨a, b, gs, fs, rfl, rfl, ne, ho, hb, by rw [rg.length, rf.length]; exact hl, k _ _ _ _ _ (w.put (m' := .dK (mergeD kvs more)) hs (rg.merge rf)) (Ext.put w hs) .non p⟩
/-! ### attributes as targets, properties, instances -/
theorem eg_fld {f : Str} {C : Addr} {P : En → Store → Prop} (c : Cls K C) (n : NoAttr K C f) (h : Ev K J ta δ S fun d S2 => ∃ a fs, d = .loc a ∧ S2 a = some (.ins C fs) ∧ fs.length < 1000 ∧ P δ (S2.set a (.ins C (putD f x fs)))) : EvG K J (gFld K ta f) x δ S P := fun G H σ v w j e r N o =>
  h G H σ w j e _ fun G2 H2 S2 v2 d2 w2 x2 r2 ⟨a, fs, e1, hs, hl, q⟩ => by
    subst e1
    cases r2
    obtain ⟨_, ob, ho, rm⟩ := w2.own a _ hs
    cases ob <;> first | exact rm.elim | skip
    obtain ⟨ec, rf⟩ := rm
    subst ec
    refine ⟨a, _, _, _, rfl, ho, c, n, by rw [rf.length]; exact hl, ?_⟩
    exact o G2 _ _ σ δ (w2.put (m' := .ins _ (putD f x fs)) hs ⟨rfl, rf.put f (r.mono x2.gsub)⟩) (x2.trans (Ext.put w2 hs)) (e.mono x2.gsub) q
theorem ev_prop {C : Addr} {Cc : Ct} {PX : PXT} {E : XK} (hX : J.X K E PX) (h : Ev K J ta δ S fun d S1 => ∃ fs, Insts S1 d C fs ∧ Cc [d] S1 P PX) : Ev K J (tProp C (spD K Cc) [] E ta) δ S P := fun G H σ w j e Q k =>
  h G H σ w j e _ fun G1 H1 S1 v d w1 x1 r1 ⟨fs, hi, p⟩ => by
    obtain ⟨a, dx, vs, e1, ho, rf⟩ := hi.at w1 r1
    subst e1
    exact ⟨a, dx, vs, rfl, ho, G1, S1, [d], P, PX, w1, .cons r1 .nil, p, k.mono x1, hX.mono (Ext.trans j x1)⟩
/-- C(.., k = v, ..), the values one behind another -/
theorem ev_makeN {C : Addr} {Cc : Ct} {E : XK} {PX : PXT} {n m : Nat} {t tk : TA} (hX : J.X K E PX)
    (h : EvA K J t δ S fun ds S1 => EvA K J tk δ S1 fun es S2 => ds.length = n ∧ es.length = m ∧ ∀ x, S2 x = none → J.S x = none → Cc (.loc x :: (ds ++ es)) (S2.set x (.ins C [])) (fun d S3 => d = .non ∧ (P (.loc x) S3 ∨ ∃ fs, S3 x = some (.ins C fs) ∧ P (.ins C fs) (S3.del x))) PX) :
    Ev K J (tMakeN C n m (spD K Cc) (fun vs zs => vs ++ zs) E t tk) δ S P := fun G H σ w j e Q k =>
  h G H σ w j e _ fun G0 H0 S0 vs ds w0 x0 r0 p0 => p0 G0 H0 σ w0 (j.trans x0) (e.mono x0.gsub) _ fun G1 H1 S1 zs es w1 x1 r1 ⟨l1, l2, p⟩ => by
    refine ⟨by rw [r0.length]; exact l1, by rw [r1.length]; exact l2, ?_⟩
    intro x dx hx hd ne
    have xx := x0.trans x1
    obtain ⟨w2, x2⟩ := new_ins (C := C) w1 hx hd ne
    have hs := (w1.free hx).2
    refine ⟨G1, _, .loc x :: (ds ++ es), _, PX, w2, .cons (.loc x) ((r0.mono x1.gsub).append r1), p x hs (j.sold x (xx.sold x hs)), ?_, hX.mono (Ext.trans j (xx.trans x2))⟩
    intro G3 H3 S3 v d w3 x3 r3 ⟨ed, q⟩
    subst ed
    cases r3
    refine ⟨rfl, ?_⟩
    rcases q with q | ⟨fs, hs3, q⟩
    · exact k G3 H3 S3 _ _ w3 ((xx.trans x2).trans x3) (.loc x) q
    · exact Ev.frz (k.mono xx) (x2.trans x3) w3 hs hs3 q
theorem ev_makeNL {i : Nat} {C : Addr} {Cc : Ct} {E : XK} {n m : Nat} {t tk : TA} (hi : δ[i]? = some (some (.raw C))) (h : Ev K J (tMakeN C n m (spD K Cc) (fun vs zs => vs ++ zs) E t tk) δ S P) : Ev K J (tMakeNL i C n m (spD K Cc) (fun vs zs => vs ++ zs) E t tk) δ S P := fun G H σ w j e Q k => by
  obtain ⟨v, h1, r⟩ := e.at_ i _ hi
  cases r
  exact ⟨h1, h G H σ w j e Q k⟩
theorem ev_cmeth0 {C : Addr} {Cc : Ct} {E : XK} {PX : PXT} {dds : List D} {sp : Sp} (hsp : ∀ G vs H Q, (∃ S P, Wd K G H S ∧ vs = [V.ref C] ∧ Cc (.raw C :: dds) S P PX ∧ Kn K G H S P Q ∧ XkOk K G H S E PX) → sp vs H Q E) (hX : J.X K E PX) (h : Cc (.raw C :: dds) S P PX) : Ev K J (tCMeth0 C sp E (tC (.ref C))) δ S P := fun G H σ w j e Q k =>
  ⟨rfl, hsp G _ _ _ ⟨S, P, w, rfl, h, k, hX.mono j⟩⟩
end
end DL

set_option maxHeartbeats 1900000
/-! DL8: double comprehensions, starred items, list(range(..)). -/
namespace DL
open PySem L2 PySem.Spec PyProof.Rows
section
variable {K : Frag} {J : Jd} {δ : En} {S : Store} {P : D → Store → Prop} {G H : Hp} {Q : VK} {ta tb te : TE} {v : V} {d x y : D} {ds es : List D}
/-- an inner turn -/
abbrev CIn (K : Frag) (J : Jd) (g1 : TG) (tt1 : TT) (te : TE) (vs1 : List Nat) (δ2 : En) (I1 : Nat → List D → Store → Prop) (j : Nat) (y : D) (acc : List D) (S' : Store) : Prop :=
  EvG K J g1 y (wipeD δ2 vs1) S' fun δ3 S6 => EvT K J tt1 δ3 S6 fun b S7 => (b = true → Ev K J te δ3 S7 fun z S8 => acc.length < sizeLine ∧ I1 (j + 1) (acc ++ [z]) S8) ∧ (b = false → I1 (j + 1) acc S7)
abbrev COut (K : Frag) (J : Jd) (g : TG) (tt : TT) (wi1 : TI) (g1 : TG) (tt1 : TT) (te : TE) (vs vs1 : List Nat) (δ : En) (I : Nat → List D → Store → Prop) (i : Nat) (x : D) (acc : List D) (S' : Store) : Prop :=
  EvG K J g x (wipeD δ vs) S' fun δ2 S2 => EvT K J tt δ2 S2 fun b S3 => (b = true → EvI K J wi1 δ2 S3 fun es S4 => ∃ I1 : Nat → List D → Store → Prop, I1 0 acc S4 ∧
    (∀ j y acc1 S5, es[j]? = some y → I1 j acc1 S5 → CIn K J g1 tt1 te vs1 δ2 I1 j y acc1 S5) ∧ ∀ acc1 S5, I1 es.length acc1 S5 → I (i + 1) acc1 S5) ∧ (b = false → I (i + 1) acc S3)
theorem ev_lc2 {wi wi1 : TI} {g g1 : TG} {tt tt1 : TT} {vs vs1 : List Nat} (hk : GK vs g) (hk1 : GK vs1 g1)
    (h : EvI K J wi δ S fun ds S1 => ∃ I : Nat → List D → Store → Prop, I 0 [] S1 ∧ (∀ i x acc S', ds[i]? = some x → I i acc S' → COut K J g tt wi1 g1 tt1 te vs vs1 δ I i x acc S') ∧ ∀ acc S', I ds.length acc S' → P (.lst acc) S') :
    Ev K J (tLc2 wi g tt wi1 g1 tt1 te vs vs1) δ S P := fun G H σ w j e Q k =>
  h G H σ w j e _ fun G1 H1 S1 It ds w1 x1 src ⟨I, i0, hs, hd⟩ => by
    intro D hD
    refine ⟨fun i m H' => m = ds.length - i ∧ i ≤ ds.length ∧ ∃ G' S' acc, Grow K G1 H1 S1 G' H' S' D acc ∧ I i acc S', ⟨_, rfl, Nat.zero_le _, G1, S1, [], Grow.start w1 hD, i0⟩, ?_⟩
    rintro i m H2 ⟨rfl, hi, G2, S2, acc, q2, i2⟩
    rcases Nat.lt_or_ge i ds.length with hlt | hge
    · have hx : ds[i]? = some ds[i] := List.getElem?_eq_getElem hlt
      obtain ⟨go, yl⟩ := src.go i G2 H2 S2 _ hx q2.wd q2.ext.gsub
      refine .inr ⟨go, fun H' => ∃ G' S' acc', Grow K G1 H1 S1 G' H' S' D acc' ∧ I (i + 1) acc' S', fun H' q => ⟨ds.length - (i + 1), by omega, rfl, hlt, q⟩, fun v H3 hy => ?_⟩
      obtain ⟨G3, w3, x3, r3⟩ := yl v H3 hy
      have q3 := q2.step w3 x3
      have j3 : J.at G3 H3 S2 := (Ext.trans j x1).trans q3.ext
      refine hk v σ (wipe σ vs) H3 _ wipe_wipe ?_
      refine hs i _ acc S2 hx i2 G3 H3 (wipe σ vs) v w3 j3 ((e.mono (x1.trans q3.ext).gsub).wipe vs) r3 _ fun G4 H4 S4 σ4 δ4 w4 x4 e4 p => ?_
      have q4 := q3.step w4 x4
      have j4 : J.at G4 H4 S4 := (Ext.trans j x1).trans q4.ext
      refine p G4 H4 σ4 w4 j4 e4 _ fun G5 H5 S5 b w5 x5 p5 => ?_
      have q5 := q4.step w5 x5
      have j5 : J.at G5 H5 S5 := (Ext.trans j x1).trans q5.ext
      cases b with
      | false => exact ⟨G5, S5, acc, q5, p5.2 rfl⟩
      | true =>
        refine p5.1 rfl G5 H5 σ4 w5 j5 (e4.mono x5.gsub) _ fun G6 H6 S6 It1 es w6 x6 src1 ⟨I1, k0, ks, kd⟩ => ?_
        have q6 := q5.step w6 x6
        refine ⟨fun i m H' => m = es.length - i ∧ i ≤ es.length ∧ ∃ G' S' acc', Grow K G1 H1 S1 G' H' S' D acc' ∧ I1 i acc' S' ∧ Sub G6 G', ⟨_, rfl, Nat.zero_le _, G6, S6, acc, q6, k0, .refl _⟩, ?_⟩
        rintro i' m' H7 ⟨rfl, hi', G7, S7, acc7, q7, i7, s7⟩
        rcases Nat.lt_or_ge i' es.length with hlt' | hge'
        · have hx' : es[i']? = some es[i'] := List.getElem?_eq_getElem hlt'
          obtain ⟨go', yl'⟩ := src1.go i' G7 H7 S7 _ hx' q7.wd s7
          refine .inr ⟨go', fun H' => ∃ G' S' acc', Grow K G1 H1 S1 G' H' S' D acc' ∧ I1 (i' + 1) acc' S' ∧ Sub G6 G', fun H' q => ⟨es.length - (i' + 1), by omega, rfl, hlt', q⟩, fun v8 H8 hy8 => ?_⟩
          obtain ⟨G8, w8, x8, r8⟩ := yl' v8 H8 hy8
          have q8 := q7.step w8 x8
          have j8 : J.at G8 H8 S7 := (Ext.trans j x1).trans q8.ext
          have e8 : EnR K G8 σ4 δ4 := ((e4.mono (x5.trans x6).gsub).mono s7).mono x8.gsub
          refine hk1 v8 σ4 (wipe σ4 vs1) H8 _ wipe_wipe ?_
          refine ks i' _ acc7 S7 hx' i7 G8 H8 (wipe σ4 vs1) v8 w8 j8 (e8.wipe vs1) r8 _ fun G9 H9 S9 σ9 δ9 w9 x9 e9 p9 => ?_
          have q9 := q8.step w9 x9
          have j9 : J.at G9 H9 S9 := (Ext.trans j x1).trans q9.ext
          refine p9 G9 H9 σ9 w9 j9 e9 _ fun Ga Ha Sa b wa xa pa => ?_
          have qa := q9.step wa xa
          have ja : J.at Ga Ha Sa := (Ext.trans j x1).trans qa.ext
          have sa : Sub G6 Ga := ((s7.trans x8.gsub).trans x9.gsub).trans xa.gsub
          cases b with
          | false => exact ⟨Ga, Sa, acc7, qa, pa.2 rfl, sa⟩
          | true =>
            refine pa.1 rfl Ga Ha σ9 wa ja (e9.mono xa.gsub) _ fun Gb Hb Sb vb db wb xb rb ⟨pb, ib⟩ => ?_
            have qb := qa.step wb xb
            obtain ⟨vsb, hb, rsb⟩ := qb.at_
            exact ⟨vsb, hb, by rw [rsb.length]; exact pb, Gb, Sb, _, qb.push hb rb, ib, sa.trans xb.gsub⟩
        · obtain rfl : i' = es.length := by omega
          exact .inl ⟨src1.stop G7 H7 S7 q7.wd s7, G7, S7, acc7, q7, kd _ _ i7⟩
    · obtain rfl : i = ds.length := by omega
      obtain ⟨o, wf, xf, rf⟩ := q2.fin
      exact .inl ⟨src.stop G2 H2 S2 q2.wd q2.ext.gsub, k _ _ S2 _ _ wf (x1.trans xf) rf (hd _ _ i2)⟩
/-- *e among the items -/
theorem ea_star {PA : List D → Store → Prop} {t : TA} (h : Ev K J ta δ S fun x S1 => ∃ ds, SqAt S1 x ds ∧ EvA K J t δ S1 fun xs S2 => PA (ds ++ xs) S2) : EvA K J (StX.tStar K ta t) δ S PA := fun G H σ w j e Q k =>
  h G H σ w j e _ fun G1 H1 S1 v d w1 x1 r1 ⟨ds, hs, p1⟩ => by
    obtain ⟨a, us, e1, hq, rs⟩ := hs.rep w1 r1
    refine ⟨a, us, e1, hq.symm, p1 G1 H1 σ w1 (j.trans x1) (e.mono x1.gsub) _ fun G2 H2 S2 vs ds2 w2 x2 r2 p2 => ?_⟩
    exact k G2 H2 S2 _ _ w2 (x1.trans x2) ((rs.mono x2.gsub).append r2) p2
theorem rg_reps (a b : Int) : Reps K G (rgV a b) (rgD a (b - a).toNat) := by
  unfold rgV rgD
  generalize (b - a).toNat = n
  induction n with
  | zero => exact .nil
  | succ n ih =>
    rw [List.range_succ, List.map_append, List.map_append]
    exact ih.append (.cons (.int _) .nil)
/-- list(range(a, b)) -/
theorem ev_lstRg2 (h : Ev K J ta δ S fun x S1 => Ev K J tb δ S1 fun y S2 => ∃ a b : Int, x = .int a ∧ y = .int b ∧ (b - a).toNat ≤ 2 ^ 24 ∧ P (.lst (rgD a (b - a).toNat)) S2) : Ev K J (tLstRgA (tRg2 ta tb)) δ S P := fun G H σ w j e Q k =>
  h G H σ w j e _ fun G1 H1 S1 v1 d1 w1 x1 r1 p1 => p1 G1 H1 σ w1 (j.trans x1) (e.mono x1.gsub) _ fun G2 H2 S2 v2 d2 w2 x2 r2 ⟨a, b, e1, e2, hr, p⟩ => by
    subst e1; subst e2
    cases r1; cases r2
    exact ⟨a, b, rfl, rfl, hr, (k.mono (x1.trans x2)).imm w2 (fun q G' s hq => .lst hq (rg_reps a b)) p⟩
end
end DL

set_option maxHeartbeats 1900000
/-! DL9: classes made with keywords, classmethods with defaults, over contracts. -/
namespace DL
open PySem L2 PySem.Spec PyProof.Rows
/-- a def called with n values and the keywords ks, all parameters given -/
structure KwD (P : Program) (w : World) (K : Frag) (mg : Str → Option Value) (base : Heap) (CX : CXT) (k : Nat) (f : Addr) (C : Ct) (n : Nat) (ks : List Str) : Prop where
  ex : ∃ (fd : FuncData) (ps : List Str) (gA : List Value → List Value → List Value), FnOk P w K mg base CX k f fd ps (spD K C) ∧ KBn K fd ps n ks gA (fun vs zs => vs ++ zs)
/-- a def whose defaults dds stand behind what is written -/
def spDD (K : Frag) (C : Ct) (dds : List D) : Sp := fun vs H Q E => ∃ G S ds P PX, Wd K G H S ∧ Reps K G vs ds ∧ C (ds ++ dds) S P PX ∧ Kn K G H S P Q ∧ XkOk K G H S E PX
theorem spDD_of {P : Program} {w : World} {K : Frag} {mg : Str → Option Value} {base : Heap} {CX : CXT} {k : Nat} {f : Addr} {C : Ct} {fd : FuncData} {ps : List Str} {us : List Value} {dvs : List V} {dds : List D}
    (F : FnOk P w K mg base CX k f fd ps (spD K C)) (hb : Binds K fd ps us) (hd : Vals dvs us) (hr : ∀ G, Reps K G dvs dds) : FnR P w K mg base CX k f (spDD K C dds) :=
  (F.raw hb hd).imp fun vs H Q E ⟨G, S, ds, P, PX, w, r, c, kn, x⟩ => ⟨G, S, ds ++ dds, P, PX, w, r.append (hr G), c, kn, x⟩
section
variable {X : Cx} {j k n i : Nat} {f g q Cl : Addr} {C : Ct} {x m : Str} {p pos apos : Pos} {e o : Expr} {es : List Expr} {kws : List Keyword} {ks : List Str} {ta : TE} {t tk : TA} {dds : List D}
theorem pe_mkd (M : Mk X.K Cl f) (F : FnD X.prog X.w X.K X.mg X.base CX0 k f C) (hr : Room j X.A) (hk : k + 1 ≤ j) (hg : Gl X x) (hm : X.mg x = some (.ref Cl)) (ha : PA X (e :: es) t) (hdb : (x == ("__debug__" : Str)) = false := by decide) (he : starEach (e :: es) X.env = (false, eval e X.env) :: starEach es X.env := by rfl) (hpl : (backTo pos (starEach es X.env)).any (·.1) = false := by rfl) :
    PE X (.Call (.Name x p) (e :: es) [] pos) (tMake Cl (spD X.K C) [] E0 t) := by
  obtain ⟨fd, ps, F1, b, kp⟩ := F.ex
  exact pe_make M F1 (hr.mono hk) hg hm b .nil pass0 ha hdb he hpl
theorem pe_mkk (M : Mk X.K Cl f) (F : KwD X.prog X.w X.K X.mg X.base CX0 k f C (n + 1) ks) (hr : Room j X.A) (hk : k + 1 ≤ j) (hg : Gl X x) (hm : X.mg x = some (.ref Cl)) (ha : PA X (e :: es) t) (hkw : PK X kws tk) (hall : (backToKw pos (keywordEach kws X.env)).all (·.1.isSome) = true := by rfl) (hks : (backToKw pos (keywordEach kws X.env)).filterMap (·.1) = ks := by rfl) (hdb : (x == ("__debug__" : Str)) = false := by decide) (he : starEach (e :: es) X.env = (false, eval e X.env) :: starEach es X.env := by rfl) (hpl : ((backTo pos (starEach (e :: es) X.env)).any (·.1) || (backToKw pos (keywordEach kws X.env)).any (·.1.isNone)) = false := by rfl) :
    PE X (.Call (.Name x p) (e :: es) kws pos) (tMakeN Cl n ks.length (spD X.K C) (fun vs zs => vs ++ zs) E0 t tk) := by
  obtain ⟨fd, ps, gA, F1, b⟩ := F.ex
  exact pe_makeN M F1 (hr.mono hk) hg hm b pass0 ha hkw hall hks hdb he hpl
theorem pe_mkkl (M : Mk X.K Cl f) (F : KwD X.prog X.w X.K X.mg X.base CX0 k f C (n + 1) ks) (hr : Room j X.A) (hk : k + 1 ≤ j) (hN : X.N[i]? = some x) (hv : Vis X.env.scope x) (ha : PA X (e :: es) t) (hkw : PK X kws tk)
    (hall : (backToKw pos (keywordEach kws X.env)).all (·.1.isSome) = true := by rfl) (hks : (backToKw pos (keywordEach kws X.env)).filterMap (·.1) = ks := by rfl) (hdb : (x == ("__debug__" : Str)) = false := by decide) (hcd : (x == ("__classdict__" : Str)) = false := by decide) (he : starEach (e :: es) X.env = (false, eval e X.env) :: starEach es X.env := by rfl) (hpl : ((backTo pos (starEach (e :: es) X.env)).any (·.1) || (backToKw pos (keywordEach kws X.env)).any (·.1.isNone)) = false := by rfl) :
    PE X (.Call (.Name x p) (e :: es) kws pos) (tMakeNL i Cl n ks.length (spD X.K C) (fun vs zs => vs ++ zs) E0 t tk) := by
  obtain ⟨fd, ps, gA, F1, b⟩ := F.ex
  exact pe_makeNL M F1 (hr.mono hk) hN hv b pass0 ha hkw hall hks hdb hcd he hpl
theorem pe_cmd0 {mc : Value} {pl : Sem Bool} (he : PE X o (tC (.ref Cl))) (r : ClX.CRead X.K Cl mc) (c : ClX.CMet X.K Cl mc m q g) (F : FnR X.prog X.w X.K X.mg X.base CX0 k g (spDD X.K C dds)) (hr : Room j X.A) (hk : k ≤ j)
    (ht : eval (.Call (.Attribute o m apos) [] [] pos) X.env = (do let ov ← eval o X.env; standAt apos.atName; let (f, first) ← holding [ov] (getMethod ov m pl); callWith pos f first (backTo pos (starEach [] X.env)) (backToKw pos (keywordEach [] X.env))) := by rfl) :
    PE X (.Call (.Attribute o m apos) [] [] pos) (tCMeth0 Cl (spDD X.K C dds) E0 (tC (.ref Cl))) := pe_cmeth0 he r c F (hr.mono hk) pass0 ht
end
section
variable {K : Frag} {J : Jd} {δ : En} {S : Store} {P : D → Store → Prop}
theorem ev_cmd0 {C : Addr} {Cc : Ct} {E : XK} {PX : PXT} {dds : List D} (hX : J.X K E PX) (h : Cc (.raw C :: dds) S P PX) : Ev K J (tCMeth0 C (spDD K Cc dds) E (tC (.ref C))) δ S P :=
  ev_cmeth0 (PX := PX) (fun G vs H Q ⟨S, P, w, e, c, k, x⟩ => ⟨G, S, [.raw C], P, PX, w, by rw [e]; exact .cons (.raw C) .nil, c, k, x⟩) hX h
end
end DL

set_option maxHeartbeats 1900000
/-! K81C: what each def promises. -/
namespace K81
open PySem L2 DL PyProof.Rows
def pgA (K : Frag) (C m : Str) : Addr := match PySem.W.recIn K (He.ma K (He.ga K C) m) "property" with
  | some (.ref g :: _) => g
  | _ => 0
def cgA (K : Frag) (C m : Str) : Addr := match PySem.W.recIn K (He.ma K (He.ga K C) m) "classmethod" with
  | some (.ref g :: _) => g
  | _ => 0
/-! ### data -/
def intsD (ns : List Int) : D := .lst (ns.map .int)
abbrev intsM (ns : List Int) : M := .lst (ns.map .int)
def intssD (yrs : List (List Int)) : D := .lst (yrs.map intsD)
def pairsD (ps : List (Int × Int)) : D := .lst (ps.map pairD)
def psums : Int → List Int → List Int
  | s, [] => [s]
  | s, x :: xs => s :: psums (s + x) xs
structure Cal where
  yrs : List (List Int)
  wk : Int
  fst : Int
  rest : List Int
  free : List (Int × Int)
namespace Cal
def lens (c : Cal) : List Int := c.yrs.flatten
def tot (c : Cal) : Int := c.lens.sum
def mo (c : Cal) : Nat := (c.yrs.headD []).length
def per (c : Cal) : Int := c.tot / (Int.gcd c.tot c.wk : Int) * c.wk
end Cal
/-- the month of day r -/
def mIdx : List Int → Int → Nat
  | [], _ => 0
  | x :: xs, r => if r < x then 0 else mIdx xs (r - x) + 1
namespace Cal
def mnum (c : Cal) (d : Int) : Int := d / c.tot * c.lens.length + (mIdx c.lens (d % c.tot) : Nat)
def mstart (c : Cal) (n : Int) : Int := n / c.lens.length * c.tot + (c.lens.take (n % c.lens.length).toNat).sum
def mdays (c : Cal) (n : Int) : Int := c.lens.getD (n % c.lens.length).toNat 0
def mday (c : Cal) (d : Int) : Int × Int := (c.mnum d % c.mo + 1, d - c.mstart (c.mnum d) + 1)
def wday (c : Cal) (d : Int) : Int := (d + c.fst) % c.wk
def work (c : Cal) (d : Int) : Bool := !decide (c.wday d ∈ c.rest) && !decide (c.mday d ∈ c.free)
/-- what the shape of a calendar must be -/
structure Ok (c : Cal) : Prop where
  y1 : 1 ≤ c.yrs.length
  y2 : c.yrs.length ≤ 400
  same : ∀ y ∈ c.yrs, y.length = c.mo
  m1 : 1 ≤ c.mo
  m2 : c.mo ≤ 14
  days : ∀ y ∈ c.yrs, ∀ d ∈ y, 1 ≤ d ∧ d ≤ 40
  w1 : 1 ≤ c.wk
  w2 : c.wk ≤ 10
def fs (c : Cal) : List (Str × D) := [("all_years", .tup (c.yrs.map fun y => .tup (y.map .int))), ("days_of_week", .int c.wk), ("begins", .int c.fst), ("rests", .tup (c.rest.map .int)), ("free_days", .tup (c.free.map pairD)),
  ("lengths", intsD c.lens), ("starts", intsD (psums 0 c.lens)), ("turn", .int c.per)]
def line (c : Cal) (y m : Int) : Str :=
  let n := y * c.mo + m - 1
  Txt.rjust (toString m) 3 ++ Txt.join Str.empty ((List.range (c.mdays n).toNat).map fun (i : Nat) => if c.work (c.mstart n + (i : Int)) then " ." else " o")
def table (c : Cal) (y : Int) : Str := Txt.join "\n" ((List.range c.mo).map fun (i : Nat) => c.line y ((i : Int) + 1))
end Cal
abbrev calA (K : Frag) : Addr := He.ga K "Calendar"
/-- what of the text the walks need -/
structure Fx (K : Frag) : Prop where
  c : Cls K (calA K)
  all_years : NoAttr K (calA K) "all_years"
  days_of_week : NoAttr K (calA K) "days_of_week"
  begins : NoAttr K (calA K) "begins"
  rests : NoAttr K (calA K) "rests"
  free_days : NoAttr K (calA K) "free_days"
  lengths : NoAttr K (calA K) "lengths"
  starts : NoAttr K (calA K) "starts"
  turn : NoAttr K (calA K) "turn"
  works : NoAttr K (calA K) "works"
  even : ∀ H, SqT K H (He.ga K "EVEN") (([31, 28, 31, 30, 31, 30, 31, 31, 30, 31, 30, 31] : List Int).map V.int)
/-- an object of the calendar c, its works told or not yet -/
def CalAt (K : Frag) (S : Store) (d : D) (c : Cal) : Prop := ∃ ex : List (Str × D), (ex = [] ∨ ∃ w, ex = [(("works" : Str), w)]) ∧ Insts S d (calA K) (c.fs ++ ex)
/-! ### promises: the calendar -/
def C_is_integer : Ct := fun ds S P _ => ∃ i, ds = [.int i] ∧ P (.bl true) S
def C_common_divisor : Ct := fun ds S P _ => ∃ a b : Int, ds = [.int a, .int b] ∧ P (.int (Int.gcd a b)) S
def C_common_multiple : Ct := fun ds S P _ => ∃ a b : Int, ds = [.int a, .int b] ∧ 0 < a ∧ a < 1073741824 ∧ 0 < b ∧ b < 1073741824 ∧ P (.int (a / (Int.gcd a b : Int) * b)) S
def C_is_row : Ct := fun ds S P _ => ∃ d xs, ds = [d] ∧ (d = .lst xs ∨ d = .tup xs) ∧ P (.bl true) S
def C_is_between : Ct := fun ds S P _ => ∃ v a b : Int, ds = [.int v, .int a, .int b] ∧ P (.bl (decide (a ≤ v) && decide (v ≤ b))) S
def C_are_years : Ct := fun ds S P _ => ∃ c : Cal, ds = [intssD c.yrs] ∧ c.Ok ∧ P (.bl true) S
def C_are_weekdays : Ct := fun ds S P _ => ∃ (rest : List Int) (wk : Int), ds = [.tup (rest.map .int), .int wk] ∧ rest.Nodup ∧ rest.length ≤ 4000 ∧ (∀ r ∈ rest, 0 ≤ r ∧ r < wk) ∧ P (.bl true) S
def C_are_holidays : Ct := fun ds S P _ => ∃ (free : List (Int × Int)) (m : Int), ds = [.tup (free.map pairD), .int m] ∧ free.Nodup ∧ free.length < 64 ∧ (∀ p ∈ free, 1 ≤ p.1 ∧ p.1 ≤ m ∧ 1 ≤ p.2 ∧ p.2 ≤ 40) ∧ P (.bl true) S
def C_month_starts : Ct := fun ds S P _ => ∃ ns : List Int, ds = [intsD ns] ∧ ns.length < 1000000 ∧ P (intsD (psums 0 ns)) S
def C_month_at : Ct := fun ds S P _ => ∃ (ns : List Int) (day : Int), ds = [intsD ns, .int day] ∧ 2 ≤ ns.length ∧ ns.length < 1000000 ∧ ns.getD 0 0 ≤ day ∧ day < ns.getD (ns.length - 1) 0 ∧
  ∀ k : Nat, k + 1 < ns.length → ns.getD k 0 ≤ day → day < ns.getD (k + 1) 0 → P (.int k) S
/-- the years of the gregorian calendar -/
def gYears : List (List Int) := (List.range 400).map fun y => [31, if y % 4 = 0 ∧ (y % 100 ≠ 0 ∨ y = 0) then 29 else 28, 31, 30, 31, 30, 31, 31, 30, 31, 30, 31]
def C_gregorian_years : Ct := fun ds S P _ => ds = [] ∧ P (intssD gYears) S
def C_Calendar_weekday (K : Frag) : Ct := fun ds S P _ => ∃ d c date, ds = [d, .int date] ∧ CalAt K S d c ∧ c.Ok ∧ P (.int (c.wday date)) S
def C_Calendar_months (K : Frag) : Ct := fun ds S P _ => ∃ d c, ds = [d] ∧ CalAt K S d c ∧ c.Ok ∧ P (.int c.mo) S
def C_Calendar_period (K : Frag) : Ct := fun ds S P _ => ∃ d c, ds = [d] ∧ CalAt K S d c ∧ P (.int c.per) S
def C_Calendar_month_start (K : Frag) : Ct := fun ds S P _ => ∃ d c n, ds = [d, .int n] ∧ CalAt K S d c ∧ c.Ok ∧ P (.int (c.mstart n)) S
def C_Calendar_month_days (K : Frag) : Ct := fun ds S P _ => ∃ d c n, ds = [d, .int n] ∧ CalAt K S d c ∧ c.Ok ∧ P (.int (c.mdays n)) S
def C_Calendar_month_number (K : Frag) : Ct := fun ds S P _ => ∃ d c n, ds = [d, .int n] ∧ CalAt K S d c ∧ c.Ok ∧ P (.int (c.mnum n)) S
def C_Calendar_parts (K : Frag) : Ct := fun ds S P _ => ∃ d c n, ds = [d, .int n] ∧ CalAt K S d c ∧ c.Ok ∧ P (.tup [.int (c.mnum n / c.mo), .int (c.mday n).1, .int (c.mday n).2]) S
def C_Calendar_is_work (K : Frag) : Ct := fun ds S P _ => ∃ d c n, ds = [d, .int n] ∧ CalAt K S d c ∧ c.Ok ∧ P (.bl (c.work n)) S
def C_Calendar_first_works (K : Frag) : Ct := fun ds S P _ => ∃ d c, ds = [d] ∧ CalAt K S d c ∧ c.Ok ∧ c.per ≤ 200000 ∧ ∀ ws : List Int, (ws = [] → ∀ i : Int, 0 ≤ i → i < c.per → c.work i = false) → P (intsD ws) S
def C_Calendar___init__ (K : Frag) : Ct := fun ds S P _ => ∃ (x : Addr) (c : Cal), ds = [.loc x, intssD c.yrs, .int c.wk, .int c.fst, .tup (c.rest.map .int), .tup (c.free.map pairD)] ∧ S x = some (.ins (calA K) []) ∧ c.Ok ∧
  0 ≤ c.fst ∧ c.fst < c.wk ∧ c.rest.Nodup ∧ c.rest.length ≤ 4000 ∧ (∀ r ∈ c.rest, 0 ≤ r ∧ r < c.wk) ∧ c.free.Nodup ∧ c.free.length < 64 ∧ (∀ p ∈ c.free, 1 ≤ p.1 ∧ p.1 ≤ c.mo ∧ 1 ≤ p.2 ∧ p.2 ≤ 40) ∧ c.per ≤ 200000 ∧ (∃ i : Int, 0 ≤ i ∧ i < c.per ∧ c.work i = true) ∧
  ∀ (rest : List Int) (free : List (Int × Int)) (ws : List Int), rest.Perm c.rest → free.Perm c.free → P .non (S.set x (.ins (calA K) ({ c with rest := rest, free := free }.fs ++ [(("works" : Str), intsD ws)])))
def dd_Calendar_gregorian : List D := [.tup [.int 5, .int 6], .tup []]
def gCal (rest : List Int) : Cal := ⟨gYears, 7, 5, rest, []⟩
def C_Calendar_gregorian (K : Frag) : Ct := fun ds S P _ => ds = [.raw (calA K), .tup [.int 5, .int 6], .tup []] ∧ ∀ (rest : List Int) (ws : List Int), rest.Perm [5, 6] → P (.ins (calA K) ((gCal rest).fs ++ [(("works" : Str), intsD ws)])) S
def C_Calendar_month_length (K : Frag) : Ct := fun ds S P _ => ∃ d c y m, ds = [d, .int y, .int m] ∧ CalAt K S d c ∧ c.Ok ∧ 1 ≤ m ∧ m ≤ c.mo ∧ P (.int (c.mdays (y * c.mo + m - 1))) S
def C_Calendar_date_of (K : Frag) : Ct := fun ds S P _ => ∃ d c y m, ds = [d, .int y, .int m, .int 1] ∧ CalAt K S d c ∧ c.Ok ∧ 1 ≤ m ∧ m ≤ c.mo ∧ P (.int (c.mstart (y * c.mo + m - 1))) S
def C_month_line (K : Frag) : Ct := fun ds S P _ => ∃ d c y m, ds = [d, .int y, .int m] ∧ CalAt K S d c ∧ c.Ok ∧ 1 ≤ m ∧ m ≤ c.mo ∧ P (.str (c.line y m)) S
def C_year_table (K : Frag) : Ct := fun ds S P _ => ∃ d c y, ds = [d, .int y] ∧ CalAt K S d c ∧ c.Ok ∧ P (.str (c.table y)) S
/-! ### promises: the law's draws -/
/-- a pen that has turned t times at most -/
def PenM (m : M) (t : Int) : Prop := ∃ (cells : List Int) (t0 l : Int), m = .dK [(.inr "cells", intsD cells), (.inr "turn", .int t0), (.inr "left", .int l)] ∧ 0 ≤ t0 ∧ t0 ≤ t ∧ 0 ≤ l
def C__law_pen : Ct := fun ds S P _ => ∃ ns : List Int, ds = [.klst (ns.map .int)] ∧ ∀ p m, S p = none → PenM m 0 → P (.loc p) (S.set p m)
abbrev Few (n : Int) : Prop := 0 < n ∧ n < 1073741824
abbrev Lo2 (t : Int) : Prop := 0 ≤ t ∧ t < 1125899906842624
abbrev Low (t : Int) : Prop := 0 ≤ t ∧ t < 1099511627776
def C__law_draw : Ct := fun ds S P _ => ∃ a m t n, ds = [.loc a, .int n] ∧ S a = some m ∧ PenM m t ∧ Lo2 t ∧ Few n ∧ ∀ i m', 0 ≤ i → i < n → PenM m' (t + 1) → P (.int i) (S.set a m')
def C__law_pick : Ct := fun ds S P _ => ∃ a m t ns, ds = [.loc a, intsD ns] ∧ S a = some m ∧ PenM m t ∧ Lo2 t ∧ 0 < ns.length ∧ ns.length < 1000000 ∧ ∀ i m', i ∈ ns → PenM m' (t + 1) → P (.int i) (S.set a m')
def C__law_great : Ct := fun ds S P _ => ∃ a m t k, ds = [.loc a, .int k] ∧ S a = some m ∧ PenM m t ∧ Low t ∧ 0 ≤ k ∧ k < 1000 ∧ ∀ i m', 0 ≤ i → PenM m' (t + k) → P (.int i) (S.set a m')
def C__law_gcd : Ct := fun ds S P _ => ∃ a b : Int, ds = [.int a, .int b] ∧ P (.int (Int.gcd a b)) S
/-! ### promises: the law's calendar -/
def quadD (q : Int × Int × Int × Int) : D := .tup [.int q.1, .int q.2.1, .int q.2.2.1, .int q.2.2.2]
/-- the days of the months from number k on -/
def cyc (mo : Nat) : Nat → List Int → List (Int × Int × Int × Int)
  | _, [] => []
  | k, x :: xs => ((List.range x.toNat).map fun (d : Nat) => (((k / mo : Nat) : Int), ((k % mo : Nat) : Int) + 1, (d : Int) + 1, x)) ++ cyc mo (k + 1) xs
/-- the law's record of the calendar c -/
def plB (c : Cal) : List (Key × D) := [(.inr "years", intssD c.yrs), (.inr "week", .int c.wk), (.inr "first", .int c.fst), (.inr "rest", intsD c.rest), (.inr "holidays", pairsD c.free), (.inr "days", .lst ((cyc c.mo 0 c.lens).map quadD)),
  (.inr "begins", intsD ((psums 0 c.lens).dropLast)), (.inr "months", .int c.mo), (.inr "cycle", .int c.tot)]
def PlAt (S : Store) (d : D) (c : Cal) : Prop := ∃ ex, DctAt S d (plB c ++ ex)
/-- small ones -/
structure Cal.Sm (c : Cal) : Prop extends c.Ok where
  l : c.lens.length ≤ 14
  f1 : 0 ≤ c.fst
  f2 : c.fst < c.wk
  r1 : c.rest.Nodup
  r2 : ∀ r ∈ c.rest, 0 ≤ r ∧ r < c.wk
  r3 : c.rest.length ≤ 4000
  h1 : c.free.Nodup
  h2 : c.free.length < 64
  h3 : ∀ p ∈ c.free, 1 ≤ p.1 ∧ p.1 ≤ c.mo ∧ 1 ≤ p.2 ∧ p.2 ≤ 40
def plainD (c : Cal) (ws ahead : List Int) : D := .dK (plB c ++ [(.inr "period", .int c.per), (.inr "works", intsD ws), (.inr "ahead", intsD ahead)])
def wdays (c : Cal) : List Int := ((List.range c.per.toNat).map fun i => ((i : Nat) : Int)).filter fun d => c.work d
def C__law_with_days : Ct := fun ds S P _ => ∃ c : Cal, ds = [intssD c.yrs, .int c.wk, .int c.fst, intsD c.rest, pairsD c.free] ∧ c.Sm ∧ ∀ ahead, P (plainD c (wdays c) ahead) S
def C__law_plain : Ct := fun ds S P _ => ∃ a m t, ds = [.loc a] ∧ S a = some m ∧ PenM m t ∧ Low t ∧ ∀ (c : Cal) ahead m', c.Sm → (∃ i : Int, 0 ≤ i ∧ i < c.per ∧ c.work i = true) → PenM m' (t + 1000) → P (plainD c (wdays c) ahead) (S.set a m')
def C__law_many_months : Ct := fun ds S P _ => ∃ a m t, ds = [.loc a] ∧ S a = some m ∧ PenM m t ∧ Low t ∧ ∀ (c : Cal) ahead m', c.Sm → (∃ i : Int, 0 ≤ i ∧ i < c.per ∧ c.work i = true) → PenM m' (t + 1000) → P (plainD c (wdays c) ahead) (S.set a m')
def C__law_calendar (K : Frag) : Ct := fun ds S P _ => ∃ (c : Cal) (ws ahead : List Int), ds = [plainD c ws ahead] ∧ c.Sm ∧ c.per ≤ 200000 ∧ (∃ i : Int, 0 ≤ i ∧ i < c.per ∧ c.work i = true) ∧
  ∀ (rest : List Int) (free : List (Int × Int)) (ws : List Int), rest.Perm c.rest → free.Perm c.free → P (.ins (calA K) ({ c with rest := rest, free := free }.fs ++ [(("works" : Str), intsD ws)])) S
def C__law_facts : Ct := fun ds S P _ => ∃ d c n, ds = [d, .int n] ∧ PlAt S d c ∧ c.Ok ∧ P (quadD (c.mnum n / c.mo, (c.mday n).1, (c.mday n).2, c.mdays (c.mnum n))) S
def C__law_weekday : Ct := fun ds S P _ => ∃ d c n, ds = [d, .int n] ∧ PlAt S d c ∧ c.Ok ∧ P (.int (c.wday n)) S
def C__law_is_work : Ct := fun ds S P _ => ∃ d c n, ds = [d, .int n] ∧ PlAt S d c ∧ c.Ok ∧ P (.bl (c.work n)) S
def C__law_month_begin : Ct := fun ds S P _ => ∃ d c n, ds = [d, .int n] ∧ PlAt S d c ∧ c.Ok ∧ P (.int (c.mstart n)) S
def C__law_month : Ct := fun ds S P _ => ∃ d c y m, ds = [d, .int y, .int m] ∧ PlAt S d c ∧ c.Ok ∧ 1 ≤ m ∧ m ≤ c.mo ∧ P (.str (c.line y m)) S
def C__law_gregorian : Ct := fun ds S P _ => ∃ n, ds = [.int n] ∧ ∀ rest : List Int, rest.Perm [5, 6] → P (.str ((gCal rest).table n)) S
def C_law : Ct := fun ds S P _ => ∃ ns : List Int, ds = [.klst (ns.map .int)] ∧ ns.length < 2 ^ 62 ∧ ∀ S', P (.bl true) S'
end K81

set_option maxHeartbeats 1900000
/-! K81A: the readings (printed by gen.py). -/
namespace K81
open PySem L2 DL PyProof.Rows
def t_is_integer (K : Frag) : TS := (tRet (tAndV (tCB (rIsi K) (tCons (tVar 0) (tCons (tC (.ty "int")) tNil))) (tNotV (tCB (rIsi K) (tCons (tVar 0) (tCons (tC (.ty "bool")) tNil))))))
abbrev N_is_integer : List Str := ["value"]
def b1_common_divisor (K : Frag) : TS := (tPar 0 1 (tCons (tVar 1) (tCons (tOp rModI (tVar 0) (tVar 1)) tNil)))
def t_common_divisor (K : Frag) : TS := (tSeq (tPar 0 1 (tCons (tCB rAbs (tCons (tVar 0) tNil)) (tCons (tCB rAbs (tCons (tVar 1) tNil)) tNil))) (tSeq (tWhile (tTest (tOp rGtI (tVar 1) (tC (.int 0)))) (b1_common_divisor K)) (tRet (tVar 0))))
abbrev N_common_divisor : List Str := ["one", "other"]
def t_common_multiple (K : Frag) : TS := (tRet (tOp rMulI (tOp rDivI (tVar 0) (tCall (spD K C_common_divisor) [] E0 (tCons (tVar 0) (tCons (tVar 1) tNil)))) (tVar 1)))
abbrev N_common_multiple : List Str := ["one", "other"]
def t_is_row (K : Frag) : TS := (tRet (tCB (rIsiT K) (tCons (tVar 0) (tCons (tTup (tCons (tC (.ty "list")) (tCons (tC (.ty "tuple")) tNil))) tNil))))
abbrev N_is_row : List Str := ["value"]
def t_is_between (K : Frag) : TS := (tRet (tAndV (tCall (spD K C_is_integer) [] E0 (tCons (tVar 0) tNil)) (tChain rLeI rLeI (tVar 1) (tVar 0) (tVar 2))))
abbrev N_is_between : List Str := ["value", "low", "high"]
def t_are_years (K : Frag) : TS := (tSeq (tIfS (tOr (tNot (tB (tCall (spD K C_is_row) [] E0 (tCons (tVar 0) tNil)))) (tOr (tNot (tTest (tChain rLeI rLeI (tC (.int 1)) (tCB (rLenSeq K) (tCons (tVar 0) tNil)) (tC (.int 400))))) (tNot (tB (tCB (rAll K) (tCons (tLc (iList K (tVar 0)) (gName 1) tYes (tCall (spD K C_is_row) [] E0 (tCons (tVar 1) tNil)) [1]) tNil)))))) (tRet (tC (.bl false))) tNext) (tSeq (tIfS (tOr (tNot (tTest (tChain rLeI rLeI (tC (.int 1)) (tCB (rLenSeq K) (tCons (tOp (rIxL K) (tVar 0) (tC (.int 0))) tNil)) (tC (.int 14))))) (tNot (tB (tCB (rAll K) (tCons (tLc (iList K (tVar 0)) (gName 1) tYes (tOp rEq (tCB (rLenSeq K) (tCons (tVar 1) tNil)) (tCB (rLenSeq K) (tCons (tOp (rIxL K) (tVar 0) (tC (.int 0))) tNil))) [1]) tNil))))) (tRet (tC (.bl false))) tNext) (tRet (tCB (rAll K) (tCons (tLc2 (iList K (tVar 0)) (gName 1) tYes (iList K (tVar 1)) (gName 2) tYes (tCall (spD K C_is_between) [] E0 (tCons (tVar 2) (tCons (tC (.int 1)) (tCons (tC (.int 40)) tNil)))) [1, 2] [2]) tNil)))))
abbrev N_are_years : List Str := ["years", "year", "days"]
def t_are_weekdays (K : Frag) : TS := (tSeq (tIfS (tOr (tNot (tB (tCall (spD K C_is_row) [] E0 (tCons (tVar 0) tNil)))) (tNot (tB (tCB (rAll K) (tCons (tLc (iTup K (tVar 0)) (gName 2) tYes (tCall (spD K C_is_between) [] E0 (tCons (tVar 2) (tCons (tC (.int 0)) (tCons (tOp rSubI (tVar 1) (tC (.int 1))) tNil)))) [2]) tNil))))) (tRet (tC (.bl false))) tNext) (tRet (tOp rEq (tLenSetD K (tVar 0)) (tCB (rLenSeq K) (tCons (tVar 0) tNil)))))
abbrev N_are_weekdays : List Str := ["rest", "week", "weekday"]
def b1_are_holidays (K : Frag) : TS := (tSeq (tIfS (tOr (tNot (tB (tCB (rIsi K) (tCons (tVar 2) (tCons (tC (.ty "tuple")) tNil))))) (tTest (tOp rNe (tCB (rLenSeq K) (tCons (tVar 2) tNil)) (tC (.int 2))))) (tRet (tC (.bl false))) tNext) (tIfS (tOr (tNot (tB (tCall (spD K C_is_between) [] E0 (tCons (tOp (rIxT K) (tVar 2) (tC (.int 0))) (tCons (tC (.int 1)) (tCons (tVar 1) tNil)))))) (tNot (tB (tCall (spD K C_is_between) [] E0 (tCons (tOp (rIxT K) (tVar 2) (tC (.int 1))) (tCons (tC (.int 1)) (tCons (tC (.int 40)) tNil))))))) (tRet (tC (.bl false))) tNext))
def t_are_holidays (K : Frag) : TS := (tSeq (tIfS (tNot (tB (tCall (spD K C_is_row) [] E0 (tCons (tVar 0) tNil)))) (tRet (tC (.bl false))) tNext) (tSeq (tFor (iTup K (tVar 0)) (gName 2) (b1_are_holidays K)) (tRet (tOp rEq (tLenSetT K (tVar 0)) (tCB (rLenSeq K) (tCons (tVar 0) tNil))))))
abbrev N_are_holidays : List Str := ["holidays", "months", "holiday"]
def b1_month_starts (K : Frag) : TS := (tDrop (tBM K "list" rAppend (tVar 1) (tCons (tOp rAddI (tOp (rIxL K) (tVar 1) (tUn rNeg (tC (.int 1)))) (tVar 2)) tNil)))
def t_month_starts (K : Frag) : TS := (tSeq (tAsg (tLstM (tCons (tC (.int 0)) tNil)) (gName 1)) (tSeq (tFor (iList K (tVar 0)) (gName 2) (b1_month_starts K)) (tRet (tVar 1))))
abbrev N_month_starts : List Str := ["lengths", "found", "days"]
def b1_month_at (K : Frag) : TS := (tSeq (tAsg (tOp rDivI (tOp rAddI (tVar 2) (tVar 3)) (tC (.int 2))) (gName 4)) (tIfS (tTest (tOp rLeI (tOp (rIxL K) (tVar 0) (tVar 4)) (tVar 1))) (tAsg (tVar 4) (gName 2)) (tAsg (tVar 4) (gName 3))))
def t_month_at (K : Frag) : TS := (tSeq (tPar 2 3 (tCons (tC (.int 0)) (tCons (tOp rSubI (tCB (rLenSeq K) (tCons (tVar 0) tNil)) (tC (.int 1))) tNil))) (tSeq (tWhile (tTest (tOp rGtI (tOp rSubI (tVar 3) (tVar 2)) (tC (.int 1)))) (b1_month_at K)) (tRet (tVar 2))))
abbrev N_month_at : List Str := ["starts", "day", "low", "high", "middle"]
def t_gregorian_years (K : Frag) : TS := (tSeq (tAsg (tLst (tCons (tOp (rIxT K) (tC (.ref (He.ga K "EVEN"))) (tC (.int 0))) (tCons (tOp rAddI (tOp (rIxT K) (tC (.ref (He.ga K "EVEN"))) (tC (.int 1))) (tC (.int 1))) (StX.tStar K (tSl (rSlA K) (tC (.ref (He.ga K "EVEN"))) (tPart (tC (.int 2))) tNoPart) tNil)))) (gName 0)) (tRet (tLc (iRng1 (tCons (tC (.int 400)) tNil)) (gName 1) tYes (tIf (tAnd (tTest (tOp rEq (tOp rModI (tVar 1) (tC (.int 4))) (tC (.int 0)))) (tOr (tTest (tOp rNe (tOp rModI (tVar 1) (tC (.int 100))) (tC (.int 0)))) (tTest (tOp rEq (tVar 1) (tC (.int 0)))))) (tVar 0) (tCB (rListOf K) (tCons (tC (.ref (He.ga K "EVEN"))) tNil))) [1])))
abbrev N_gregorian_years : List Str := ["leap", "year"]
def t_Calendar_weekday (K : Frag) : TS := (tRet (tOp rModI (tOp rAddI (tVar 1) (tFld K (tVar 0) "begins")) (tFld K (tVar 0) "days_of_week")))
abbrev N_Calendar_weekday : List Str := ["self", "date"]
def t_Calendar_months (K : Frag) : TS := (tRet (tCB (rLenSeq K) (tCons (tOp (rIxT K) (tFld K (tVar 0) "all_years") (tC (.int 0))) tNil)))
abbrev N_Calendar_months : List Str := ["self"]
def t_Calendar_period (K : Frag) : TS := (tRet (tFld K (tVar 0) "turn"))
abbrev N_Calendar_period : List Str := ["self"]
def t_Calendar_month_start (K : Frag) : TS := (tSeq (tAsg (tCB (rLenSeq K) (tCons (tFld K (tVar 0) "lengths") tNil)) (gName 2)) (tRet (tOp rAddI (tOp rMulI (tOp rDivI (tVar 1) (tVar 2)) (tOp (rIxL K) (tFld K (tVar 0) "starts") (tUn rNeg (tC (.int 1))))) (tOp (rIxL K) (tFld K (tVar 0) "starts") (tOp rModI (tVar 1) (tVar 2))))))
abbrev N_Calendar_month_start : List Str := ["self", "number", "many"]
def t_Calendar_month_days (K : Frag) : TS := (tRet (tOp (rIxL K) (tFld K (tVar 0) "lengths") (tOp rModI (tVar 1) (tCB (rLenSeq K) (tCons (tFld K (tVar 0) "lengths") tNil)))))
abbrev N_Calendar_month_days : List Str := ["self", "number"]
def t_Calendar_month_number (K : Frag) : TS := (tSeq (tAsg (tOp (rIxL K) (tFld K (tVar 0) "starts") (tUn rNeg (tC (.int 1)))) (gName 2)) (tRet (tOp rAddI (tOp rMulI (tOp rDivI (tVar 1) (tVar 2)) (tCB (rLenSeq K) (tCons (tFld K (tVar 0) "lengths") tNil))) (tCall (spD K C_month_at) [] E0 (tCons (tFld K (tVar 0) "starts") (tCons (tOp rModI (tVar 1) (tVar 2)) tNil))))))
abbrev N_Calendar_month_number : List Str := ["self", "date", "days"]
def t_Calendar_parts (K : Frag) : TS := (tSeq (tAsg (tMeth (He.ga K "Calendar") "month_number" (spD K (C_Calendar_month_number K)) [] E0 (tVar 0) (tCons (tVar 1) tNil)) (gName 2)) (tRet (tTup (tCons (tOp rDivI (tVar 2) (tPropD K (He.ga K "Calendar") (C_Calendar_months K) (tVar 0))) (tCons (tOp rAddI (tOp rModI (tVar 2) (tPropD K (He.ga K "Calendar") (C_Calendar_months K) (tVar 0))) (tC (.int 1))) (tCons (tOp rAddI (tOp rSubI (tVar 1) (tMeth (He.ga K "Calendar") "month_start" (spD K (C_Calendar_month_start K)) [] E0 (tVar 0) (tCons (tVar 2) tNil))) (tC (.int 1))) tNil))))))
abbrev N_Calendar_parts : List Str := ["self", "date", "number"]
def t_Calendar_is_work (K : Frag) : TS := (tSeq (tIfS (tTest (tOp (rIn K false) (tMeth (He.ga K "Calendar") "weekday" (spD K (C_Calendar_weekday K)) [] E0 (tVar 0) (tCons (tVar 1) tNil)) (tFld K (tVar 0) "rests"))) (tRet (tC (.bl false))) tNext) (tRet (tOrV (tOp (rEqD K) (tFld K (tVar 0) "free_days") (tTup tNil)) (tOp (rNotInDT K) (tSl (rSlA K) (tMeth (He.ga K "Calendar") "parts" (spD K (C_Calendar_parts K)) [] E0 (tVar 0) (tCons (tVar 1) tNil)) (tPart (tC (.int 1))) tNoPart) (tFld K (tVar 0) "free_days")))))
abbrev N_Calendar_is_work : List Str := ["self", "date"]
def b1_Calendar_first_works (K : Frag) : TS := (tIfS (tB (tMeth (He.ga K "Calendar") "is_work" (spD K (C_Calendar_is_work K)) [] E0 (tVar 0) (tCons (tVar 3) tNil))) (tSeq (tDrop (tBM K "list" rAppend (tVar 2) (tCons (tVar 3) tNil))) (tIfS (tTest (tOp rGtI (tVar 1) (tC (.int 2000)))) (tRet (tVar 2)) tNext)) tNext)
def t_Calendar_first_works (K : Frag) : TS := (tSeq (tPar 1 2 (tCons (tPropD K (He.ga K "Calendar") (C_Calendar_period K) (tVar 0)) (tCons (tLstM tNil) tNil))) (tSeq (tFor (iRng1 (tCons (tVar 1) tNil)) (gName 3) (b1_Calendar_first_works K)) (tRet (tVar 2))))
abbrev N_Calendar_first_works : List Str := ["self", "period", "found", "day"]
def t_Calendar___init__ (K : Frag) : TS := (tSeq (tIfS (tNot (tB (tCall (spD K C_are_years) [] E0 (tCons (tVar 1) tNil)))) tNever tNext) (tSeq (tIfS (tNot (tB (tCall (spD K C_is_between) [] E0 (tCons (tVar 2) (tCons (tC (.int 1)) (tCons (tC (.int 10)) tNil)))))) tNever tNext) (tSeq (tIfS (tNot (tB (tCall (spD K C_is_between) [] E0 (tCons (tVar 3) (tCons (tC (.int 0)) (tCons (tOp rSubI (tVar 2) (tC (.int 1))) tNil)))))) tNever tNext) (tSeq (tIfS (tNot (tB (tCall (spD K C_are_weekdays) [] E0 (tCons (tVar 4) (tCons (tVar 2) tNil))))) tNever tNext) (tSeq (tIfS (tNot (tB (tCall (spD K C_are_holidays) [] E0 (tCons (tVar 5) (tCons (tCB (rLenSeq K) (tCons (tOp (rIxL K) (tVar 1) (tC (.int 0))) tNil)) tNil))))) tNever tNext) (tSeq (sFld K (tVar 0) (tCB (rTupOf K) (tCons (tLc (iList K (tVar 1)) (gName 6) tYes (tCB (rTupOf K) (tCons (tVar 6) tNil)) [6]) tNil)) "all_years") (tSeq (tAsg (tTup (tCons (tVar 2) (tCons (tVar 3) tNil))) (gTup K 2 (gCons (gFld K (tVar 0) "days_of_week") (gCons (gFld K (tVar 0) "begins") gNil)))) (tSeq (tAsg (tTup (tCons (tCB (rTupOf K) (tCons (tCB (rSortTI K) (tCons (tVar 4) tNil)) tNil)) (tCons (tCB (rTupOf K) (tCons (tCB (rSortTP K) (tCons (tVar 5) tNil)) tNil)) tNil))) (gTup K 2 (gCons (gFld K (tVar 0) "rests") (gCons (gFld K (tVar 0) "free_days") gNil)))) (tSeq (sFld K (tVar 0) (tLc2 (iList K (tVar 1)) (gName 6) tYes (iList K (tVar 6)) (gName 7) tYes (tVar 7) [6, 7] [7]) "lengths") (tSeq (sFld K (tVar 0) (tCall (spD K C_month_starts) [] E0 (tCons (tFld K (tVar 0) "lengths") tNil)) "starts") (tSeq (sFld K (tVar 0) (tCall (spD K C_common_multiple) [] E0 (tCons (tOp (rIxL K) (tFld K (tVar 0) "starts") (tUn rNeg (tC (.int 1)))) (tCons (tVar 2) tNil))) "turn") (tSeq (tIfS (tTest (tOp rGtI (tPropD K (He.ga K "Calendar") (C_Calendar_period K) (tVar 0)) (tC (.int 200000)))) tNever tNext) (tSeq (sFld K (tVar 0) (tMeth (He.ga K "Calendar") "first_works" (spD K (C_Calendar_first_works K)) [] E0 (tVar 0) tNil) "works") (tIfS (tTest (tOp (rEqD K) (tFld K (tVar 0) "works") (tLst tNil))) tNever tNext))))))))))))))
abbrev N_Calendar___init__ : List Str := ["self", "years", "week", "first", "rest", "holidays", "year", "days"]
def t_Calendar_gregorian (K : Frag) : TS := (tRet (tMakeNL 0 (He.ga K "Calendar") 2 3 (spD K (C_Calendar___init__ K)) (fun vs zs => vs ++ zs) E0 (tCons (tCall (spD K C_gregorian_years) [] E0 tNil) (tCons (tC (.int 7)) tNil)) (tCons (tC (.int 5)) (tCons (tVar 1) (tCons (tVar 2) tNil)))))
abbrev N_Calendar_gregorian : List Str := ["cls", "rest", "holidays"]
def t_Calendar_month_length (K : Frag) : TS := (tSeq (tIfS (tNot (tB (tCall (spD K C_is_between) [] E0 (tCons (tVar 2) (tCons (tC (.int 1)) (tCons (tPropD K (He.ga K "Calendar") (C_Calendar_months K) (tVar 0)) tNil)))))) tNever tNext) (tRet (tMeth (He.ga K "Calendar") "month_days" (spD K (C_Calendar_month_days K)) [] E0 (tVar 0) (tCons (tOp rSubI (tOp rAddI (tOp rMulI (tVar 1) (tPropD K (He.ga K "Calendar") (C_Calendar_months K) (tVar 0))) (tVar 2)) (tC (.int 1))) tNil))))
abbrev N_Calendar_month_length : List Str := ["self", "year", "month"]
def t_Calendar_date_of (K : Frag) : TS := (tSeq (tIfS (tOr (tNot (tB (tCall (spD K C_is_between) [] E0 (tCons (tVar 2) (tCons (tC (.int 1)) (tCons (tPropD K (He.ga K "Calendar") (C_Calendar_months K) (tVar 0)) tNil)))))) (tNot (tB (tCall (spD K C_is_between) [] E0 (tCons (tVar 3) (tCons (tC (.int 1)) (tCons (tMeth (He.ga K "Calendar") "month_length" (spD K (C_Calendar_month_length K)) [] E0 (tVar 0) (tCons (tVar 1) (tCons (tVar 2) tNil))) tNil))))))) tNever tNext) (tRet (tOp rSubI (tOp rAddI (tMeth (He.ga K "Calendar") "month_start" (spD K (C_Calendar_month_start K)) [] E0 (tVar 0) (tCons (tOp rSubI (tOp rAddI (tOp rMulI (tVar 1) (tPropD K (He.ga K "Calendar") (C_Calendar_months K) (tVar 0))) (tVar 2)) (tC (.int 1))) tNil)) (tVar 3)) (tC (.int 1)))))
abbrev N_Calendar_date_of : List Str := ["self", "year", "month", "day"]
def t_month_line (K : Frag) : TS := (tSeq (tAsg (tMeth (He.ga K "Calendar") "date_of" (spD K (C_Calendar_date_of K)) [] E0 (tVar 0) (tCons (tVar 1) (tCons (tVar 2) (tCons (tC (.int 1)) tNil)))) (gName 3)) (tSeq (tAsg (tMeth (He.ga K "Calendar") "month_length" (spD K (C_Calendar_month_length K)) [] E0 (tVar 0) (tCons (tVar 1) (tCons (tVar 2) tNil))) (gName 4)) (tSeq (tAsg (tLc (iRng1 (tCons (tVar 4) tNil)) (gName 6) tYes (tIf (tB (tMeth (He.ga K "Calendar") "is_work" (spD K (C_Calendar_is_work K)) [] E0 (tVar 0) (tCons (tOp rAddI (tVar 3) (tVar 6)) tNil))) (tC (.str " .")) (tC (.str " o"))) [6]) (gName 5)) (tRet (tOp rAddS (tFmt3 (tVar 2)) (tM1 (rJoin K) (tC (.str "")) (tVar 5)))))))
abbrev N_month_line : List Str := ["calendar", "year", "month", "first", "many", "signs", "day"]
def t_year_table (K : Frag) : TS := (tRet (tM1 (rJoin K) (tC (.str "\n")) (tLc (iRng2 (tCons (tC (.int 1)) (tCons (tOp rAddI (tPropD K (He.ga K "Calendar") (C_Calendar_months K) (tVar 0)) (tC (.int 1))) tNil))) (gName 2) tYes (tCall (spD K (C_month_line K)) [] E0 (tCons (tVar 0) (tCons (tVar 1) (tCons (tVar 2) tNil)))) [2])))
abbrev N_year_table : List Str := ["calendar", "year", "month"]
def t__law_pen (K : Frag) : TS := (tRet (tDisp [((tC (.str "cells")), (tCB (rListOf K) (tCons (tSl (rSlL K) (tVar 0) tNoPart (tPart (tC (.int 63)))) tNil))), ((tC (.str "turn")), (tC (.int 0))), ((tC (.str "left")), (tC (.int 0)))]))
abbrev N__law_pen : List Str := ["_law_script"]
def t__law_draw (K : Frag) : TS := (tSeq (tIfS (tTest (tOp rGtI (tDGet (tVar 0) (tC (.str "left"))) (tC (.int 0)))) (tSeq (tAsg (tOp rModI (tDGet (tVar 0) (tC (.str "left"))) (tVar 1)) (gName 2)) (tSeq (sDPut (tVar 0) (tC (.str "left")) (tOp rDivI (tDGet (tVar 0) (tC (.str "left"))) (tVar 1))) (tRet (tVar 2)))) tNext) (tSeq (tAsg (tDGet (tVar 0) (tC (.str "turn"))) (gName 3)) (tSeq (sDPut (tVar 0) (tC (.str "turn")) (tOp rAddI (tVar 3) (tC (.int 1)))) (tSeq (tAsg (tOp rAddI (tOp rMulI (tC (.int 43)) (tVar 3)) (tC (.int 19))) (gName 4)) (tSeq (tIfS (tTest (tOp (rNeD K) (tDGet (tVar 0) (tC (.str "cells"))) (tLst tNil))) (tAsg (tOp (rIxL K) (tDGet (tVar 0) (tC (.str "cells"))) (tOp rModI (tVar 3) (tCB (rLenSeq K) (tCons (tDGet (tVar 0) (tC (.str "cells"))) tNil)))) (gName 4)) tNext) (tSeq (tIfS (tAnd (tTest (tOp rLtI (tVar 3) (tCB (rLenSeq K) (tCons (tDGet (tVar 0) (tC (.str "cells"))) tNil)))) (tTest (tOp rGeI (tCB rAbs (tCons (tVar 4) tNil)) (tOp rPowI (tC (.int 10)) (tC (.int 18)))))) (tSeq (sDPut (tVar 0) (tC (.str "left")) (tOp rDivI (tOp rSubI (tCB rAbs (tCons (tVar 4) tNil)) (tOp rPowI (tC (.int 10)) (tC (.int 18)))) (tVar 1))) (tRet (tOp rModI (tOp rSubI (tCB rAbs (tCons (tVar 4) tNil)) (tOp rPowI (tC (.int 10)) (tC (.int 18)))) (tVar 1)))) tNext) (tSeq (tAsg (tLst (tCons (tC (.int 2147483629)) (tCons (tC (.int 2147483647)) (tCons (tC (.int 2147483587)) (tCons (tC (.int 2147483563)) (tCons (tC (.int 2147483579)) tNil)))))) (gName 5)) (tSeq (tAsg (tOp (rIxL K) (tVar 5) (tOp rModI (tVar 3) (tC (.int 5)))) (gName 6)) (tSeq (tAsg (tOp rModI (tOp rAddI (tOp rAddI (tOp rAddI (tOp rMulI (tOp rModI (tVar 4) (tVar 6)) (tC (.int 39373))) (tOp rMulI (tOp rMulI (tC (.int 30011)) (tVar 3)) (tVar 3))) (tOp rMulI (tC (.int 8117)) (tVar 3))) (tC (.int 23))) (tVar 6)) (gName 7)) (tSeq (tAsg (tOp rModI (tOp rMulI (tVar 7) (tOp rAddI (tVar 7) (tC (.int 69621)))) (tOp (rIxL K) (tVar 5) (tOp rModI (tOp rAddI (tVar 3) (tC (.int 2))) (tC (.int 5))))) (gName 7)) (tRet (tOp rModI (tOp rDivI (tOp rModI (tOp rAddI (tOp rAddI (tOp rMulI (tVar 7) (tVar 7)) (tOp rMulI (tC (.int 16807)) (tVar 7))) (tVar 3)) (tC (.int 2147483549))) (tC (.int 64))) (tVar 1)))))))))))))
abbrev N__law_draw : List Str := ["_law_pen_here", "_law_many", "_law_digit", "_law_turn", "_law_cell", "_law_primes", "_law_prime", "_law_drawn"]
def t__law_pick (K : Frag) : TS := (tRet (tOp (rIxL K) (tVar 1) (tCall (spD K C__law_draw) [] E0 (tCons (tVar 0) (tCons (tCB (rLenSeq K) (tCons (tVar 1) tNil)) tNil)))))
abbrev N__law_pick : List Str := ["_law_pen_here", "_law_options"]
def b1__law_great (K : Frag) : TS := (tAsg (tOp rAddI (tOp rMulI (tC (.int 10)) (tVar 2)) (tCall (spD K C__law_draw) [] E0 (tCons (tVar 0) (tCons (tC (.int 10)) tNil)))) (gName 2))
def t__law_great (K : Frag) : TS := (tSeq (tAsg (tC (.int 0)) (gName 2)) (tSeq (tFor (iRng1 (tCons (tVar 1) tNil)) (gName 3) (b1__law_great K)) (tRet (tVar 2))))
abbrev N__law_great : List Str := ["_law_pen_here", "_law_digits", "_law_found", "_law_k"]
def b1__law_gcd (K : Frag) : TS := (tPar 0 1 (tCons (tVar 1) (tCons (tOp rModI (tVar 0) (tVar 1)) tNil)))
def t__law_gcd (K : Frag) : TS := (tSeq (tPar 0 1 (tCons (tCB rAbs (tCons (tVar 0) tNil)) (tCons (tCB rAbs (tCons (tVar 1) tNil)) tNil))) (tSeq (tWhile (tTest (tOp rGtI (tVar 1) (tC (.int 0)))) (b1__law_gcd K)) (tRet (tVar 0))))
abbrev N__law_gcd : List Str := ["_law_left", "_law_right"]
def t__law_facts (K : Frag) : TS := (tSeq (tAsg (tOp (rIxL K) (tDGet (tVar 0) (tC (.str "days"))) (tOp rModI (tVar 1) (tDGet (tVar 0) (tC (.str "cycle"))))) (gTup K 4 (gCons (gName 2) (gCons (gName 3) (gCons (gName 4) (gCons (gName 5) gNil)))))) (tRet (tTup (tCons (tOp rAddI (tVar 2) (tOp rMulI (tOp rDivI (tVar 1) (tDGet (tVar 0) (tC (.str "cycle")))) (tCB (rLenSeq K) (tCons (tDGet (tVar 0) (tC (.str "years"))) tNil)))) (tCons (tVar 3) (tCons (tVar 4) (tCons (tVar 5) tNil)))))))
abbrev N__law_facts : List Str := ["_law_plain_here", "_law_date", "_law_year", "_law_month_here", "_law_day", "_law_length"]
def t__law_weekday (K : Frag) : TS := (tRet (tOp rModI (tOp rAddI (tVar 1) (tDGet (tVar 0) (tC (.str "first")))) (tDGet (tVar 0) (tC (.str "week")))))
abbrev N__law_weekday : List Str := ["_law_plain_here", "_law_date"]
def t__law_is_work (K : Frag) : TS := (tSeq (tAsg (tCall (spD K C__law_facts) [] E0 (tCons (tVar 0) (tCons (tVar 1) tNil))) (gTup K 4 (gCons (gName 2) (gCons (gName 3) (gCons (gName 4) (gCons (gName 5) gNil)))))) (tRet (tAndV (tOp (rIn K true) (tCall (spD K C__law_weekday) [] E0 (tCons (tVar 0) (tCons (tVar 1) tNil))) (tDGet (tVar 0) (tC (.str "rest")))) (tOp (rNotInD K) (tTup (tCons (tVar 3) (tCons (tVar 4) tNil))) (tDGet (tVar 0) (tC (.str "holidays")))))))
abbrev N__law_is_work : List Str := ["_law_plain_here", "_law_date", "_law_year", "_law_month_here", "_law_day", "_law_length"]
def b1__law_with_days (K : Frag) : TS := (tSeq (tDrop (tBM K "list" rAppend (tVar 6) (tCons (tCB (rLenSeq K) (tCons (tVar 5) tNil)) tNil))) (tSeq (tAsg (tOp (rIxL K) (tOp (rIxL K) (tVar 0) (tVar 7)) (tVar 8)) (gName 9)) (tDrop (tBM K "list" rExtend (tVar 5) (tCons (tLc (iRng1 (tCons (tVar 9) tNil)) (gName 14) tYes (tTup (tCons (tVar 7) (tCons (tOp rAddI (tVar 8) (tC (.int 1))) (tCons (tOp rAddI (tVar 14) (tC (.int 1))) (tCons (tVar 9) tNil))))) [14]) tNil)))))
def b2__law_with_days (K : Frag) : TS := (tFor (iRng1 (tCons (tCB (rLenSeq K) (tCons (tOp (rIxL K) (tVar 0) (tVar 7)) tNil)) tNil)) (gName 8) (b1__law_with_days K))
def b3__law_with_days (K : Frag) : TS := (tDrop (tBM K "list" rAppend (tVar 12) (tCons (tOp rAddI (tOp (rIxL K) (tVar 12) (tUn rNeg (tC (.int 1)))) (tCB rInt1 (tCons (tVar 13) tNil))) tNil)))
def t__law_with_days (K : Frag) : TS := (tSeq (tPar 5 6 (tCons (tLstM tNil) (tCons (tLstM tNil) tNil))) (tSeq (tFor (iRng1 (tCons (tCB (rLenSeq K) (tCons (tVar 0) tNil)) tNil)) (gName 7) (b2__law_with_days K)) (tSeq (tAsg (tDisp [((tC (.str "years")), (tVar 0)), ((tC (.str "week")), (tVar 1)), ((tC (.str "first")), (tVar 2)), ((tC (.str "rest")), (tVar 3)), ((tC (.str "holidays")), (tVar 4)), ((tC (.str "days")), (tVar 5))]) (gName 10)) (tSeq (tDrop (tBM K "dict" rDUpd (tVar 10) (tCons (tDisp [((tC (.str "begins")), (tVar 6)), ((tC (.str "months")), (tCB (rLenSeq K) (tCons (tOp (rIxL K) (tVar 0) (tC (.int 0))) tNil))), ((tC (.str "cycle")), (tCB (rLenSeq K) (tCons (tVar 5) tNil)))]) tNil))) (tSeq (sDPut (tVar 10) (tC (.str "period")) (tOp rMulI (tOp rDivI (tCB (rLenSeq K) (tCons (tVar 5) tNil)) (tCall (spD K C__law_gcd) [] E0 (tCons (tCB (rLenSeq K) (tCons (tVar 5) tNil)) (tCons (tVar 1) tNil)))) (tVar 1))) (tSeq (tAsg (tTup (tCons (tLc (iRng1 (tCons (tDGet (tVar 10) (tC (.str "period"))) tNil)) (gName 15) tYes (tCall (spD K C__law_is_work) [] E0 (tCons (tVar 10) (tCons (tVar 15) tNil))) [15]) (tCons (tLstM (tCons (tC (.int 0)) tNil)) tNil))) (gTup K 2 (gCons (gName 11) (gCons (gName 12) gNil)))) (tSeq (tFor (iList K (tVar 11)) (gName 13) (b3__law_with_days K)) (tSeq (sDPut (tVar 10) (tC (.str "works")) (tLc (iRng1 (tCons (tDGet (tVar 10) (tC (.str "period"))) tNil)) (gName 15) (tB (tOp (rIxL K) (tVar 11) (tVar 15))) (tVar 15) [15])) (tSeq (sDPut (tVar 10) (tC (.str "ahead")) (tVar 12)) (tRet (tVar 10)))))))))))
abbrev N__law_with_days : List Str := ["_law_lists", "_law_size", "_law_begin", "_law_idle", "_law_free", "_law_cycle", "_law_begins", "_law_year", "_law_month_here", "_law_length", "_law_plain_here", "_law_flags", "_law_ahead", "_law_flag", "_law_day", "_law_date"]
def b1__law_plain (K : Frag) : TS := (tSeq (tAsg (tTup (tCons (tOp rAddI (tC (.int 1)) (tCall (spD K C__law_draw) [] E0 (tCons (tVar 0) (tCons (tVar 2) tNil)))) (tCons (tCB rMin2 (tCons (tC (.int 40)) (tCons (tOp rAddI (tC (.int 1)) (tCall (spD K C__law_draw) [] E0 (tCons (tVar 0) (tCons (tOp rAddI (tVar 3) (tC (.int 1))) tNil)))) tNil))) tNil))) (gName 10)) (tAsg (tOp rCat (tVar 7) (tOp rRep (tLst (tCons (tVar 10) tNil)) (tCB rInt1 (tCons (tOp (rNotInD K) (tVar 10) (tVar 7)) tNil)))) (gName 7)))
def t__law_plain (K : Frag) : TS := (tSeq (tAsg (tTup (tCons (tOp rAddI (tC (.int 1)) (tCall (spD K C__law_draw) [] E0 (tCons (tVar 0) (tCons (tC (.int 3)) tNil)))) (tCons (tOp rAddI (tC (.int 1)) (tCall (spD K C__law_draw) [] E0 (tCons (tVar 0) (tCons (tC (.int 4)) tNil)))) tNil))) (gTup K 2 (gCons (gName 1) (gCons (gName 2) gNil)))) (tSeq (tIfS (tTest (tOp rEq (tCall (spD K C__law_draw) [] E0 (tCons (tVar 0) (tCons (tC (.int 5)) tNil))) (tC (.int 0)))) (tAsg (tTup (tCons (tC (.int 1)) (tCons (tOp rAddI (tC (.int 10)) (tCall (spD K C__law_draw) [] E0 (tCons (tVar 0) (tCons (tC (.int 5)) tNil)))) tNil))) (gTup K 2 (gCons (gName 1) (gCons (gName 2) gNil)))) tNext) (tSeq (tAsg (tTup (tCons (tCall (spD K C__law_pick) [] E0 (tCons (tVar 0) (tCons (tLst (tCons (tC (.int 1)) (tCons (tC (.int 2)) (tCons (tC (.int 3)) (tCons (tC (.int 5)) (tCons (tOp rDivI (tC (.int 40)) (tOp rMulI (tVar 1) (tVar 2))) tNil)))))) tNil))) (tCons (tOp rAddI (tC (.int 1)) (tCall (spD K C__law_draw) [] E0 (tCons (tVar 0) (tCons (tC (.int 5)) tNil)))) tNil))) (gTup K 2 (gCons (gName 3) (gCons (gName 4) gNil)))) (tSeq (tAsg (tLc (iRng1 (tCons (tVar 1) tNil)) (gName 12) tYes (tLc (iRng1 (tCons (tVar 2) tNil)) (gName 13) tYes (tOp rAddI (tC (.int 1)) (tCall (spD K C__law_draw) [] E0 (tCons (tVar 0) (tCons (tVar 3) tNil)))) [13]) [12]) (gName 5)) (tSeq (tAsg (tTup (tCons (tCall (spD K C__law_draw) [] E0 (tCons (tVar 0) (tCons (tC (.int 4)) tNil))) (tCons (tLst tNil) tNil))) (gTup K 2 (gCons (gName 6) (gCons (gName 7) gNil)))) (tSeq (tAsg (tLc (iRng1 (tCons (tVar 4) tNil)) (gName 14) (tTest (tOp rLtI (tCall (spD K C__law_draw) [] E0 (tCons (tVar 0) (tCons (tC (.int 4)) tNil))) (tVar 6))) (tVar 14) [14]) (gName 8)) (tSeq (tFor (iRng1 (tCons (tCall (spD K C__law_draw) [] E0 (tCons (tVar 0) (tCons (tC (.int 3)) tNil))) tNil)) (gName 9) (b1__law_plain K)) (tSeq (tAsg (tCall (spD K C__law_with_days) [] E0 (tCons (tVar 5) (tCons (tVar 4) (tCons (tCall (spD K C__law_draw) [] E0 (tCons (tVar 0) (tCons (tVar 4) tNil))) (tCons (tVar 8) (tCons (tVar 7) tNil)))))) (gName 11)) (tSeq (tIfS (tTest (tOp (rNeD K) (tDGet (tVar 11) (tC (.str "works"))) (tLst tNil))) (tRet (tVar 11)) tNext) (tRet (tCall (spD K C__law_with_days) [] E0 (tCons (tVar 5) (tCons (tVar 4) (tCons (tDGet (tVar 11) (tC (.str "first"))) (tCons (tLst tNil) (tCons (tLst tNil) tNil))))))))))))))))
abbrev N__law_plain : List Str := ["_law_pen_here", "_law_many", "_law_months", "_law_longest", "_law_size", "_law_lists", "_law_share", "_law_free", "_law_idle", "_law_k", "_law_one", "_law_plain_here", "_law_year", "_law_month_here", "_law_day"]
def t__law_calendar (K : Frag) : TS := (tSeq (tPar 1 2 (tCons (tCB (rTupOf K) (tCons (tDGet (tVar 0) (tC (.str "rest"))) tNil)) (tCons (tCB (rTupOf K) (tCons (tDGet (tVar 0) (tC (.str "holidays"))) tNil)) tNil))) (tRet (tMakeN (He.ga K "Calendar") 2 3 (spD K (C_Calendar___init__ K)) (fun vs zs => vs ++ zs) E0 (tCons (tDGet (tVar 0) (tC (.str "years"))) (tCons (tDGet (tVar 0) (tC (.str "week"))) tNil)) (tCons (tDGet (tVar 0) (tC (.str "first"))) (tCons (tVar 1) (tCons (tVar 2) tNil))))))
abbrev N__law_calendar : List Str := ["_law_plain_here", "_law_idle", "_law_free"]
def t__law_month_begin (K : Frag) : TS := (tSeq (tAsg (tCB (rLenSeq K) (tCons (tDGet (tVar 0) (tC (.str "begins"))) tNil)) (gName 2)) (tSeq (tAsg (tOp rDivI (tVar 1) (tVar 2)) (gName 3)) (tRet (tOp rAddI (tOp (rIxL K) (tDGet (tVar 0) (tC (.str "begins"))) (tOp rModI (tVar 1) (tVar 2))) (tOp rMulI (tVar 3) (tDGet (tVar 0) (tC (.str "cycle"))))))))
abbrev N__law_month_begin : List Str := ["_law_plain_here", "_law_number", "_law_many", "_law_rounds"]
def t__law_month (K : Frag) : TS := (tSeq (tAsg (tOp rSubI (tOp rAddI (tOp rMulI (tVar 1) (tDGet (tVar 0) (tC (.str "months")))) (tVar 2)) (tC (.int 1))) (gName 3)) (tSeq (tAsg (tLstRgA (tRg2 (tCall (spD K C__law_month_begin) [] E0 (tCons (tVar 0) (tCons (tVar 3) tNil))) (tCall (spD K C__law_month_begin) [] E0 (tCons (tVar 0) (tCons (tOp rAddI (tVar 3) (tC (.int 1))) tNil))))) (gName 4)) (tRet (tOp rAddS (tBM K "str" rRjust (tCB rStrI (tCons (tVar 2) tNil)) (tCons (tC (.int 3)) tNil)) (tM1 (rJoin K) (tC (.str "")) (tLc (iList K (tVar 4)) (gName 5) tYes (tIf (tB (tCall (spD K C__law_is_work) [] E0 (tCons (tVar 0) (tCons (tVar 5) tNil)))) (tC (.str " .")) (tC (.str " o"))) [5]))))))
abbrev N__law_month : List Str := ["_law_plain_here", "_law_year", "_law_month_here", "_law_number", "_law_dates", "_law_date"]
def t__law_many_months (K : Frag) : TS := (tSeq (tAsg (tLst (tCons (tLc (iRng1 (tCons (tOp rAddI (tC (.int 10)) (tCall (spD K C__law_draw) [] E0 (tCons (tVar 0) (tCons (tC (.int 5)) tNil)))) tNil)) (gName 2) tYes (tOp rAddI (tC (.int 1)) (tCall (spD K C__law_draw) [] E0 (tCons (tVar 0) (tCons (tC (.int 3)) tNil)))) [2]) tNil)) (gName 1)) (tRet (tCall (spD K C__law_with_days) [] E0 (tCons (tVar 1) (tCons (tC (.int 2)) (tCons (tCall (spD K C__law_draw) [] E0 (tCons (tVar 0) (tCons (tC (.int 2)) tNil))) (tCons (tLst (tCons (tCall (spD K C__law_draw) [] E0 (tCons (tVar 0) (tCons (tC (.int 2)) tNil))) tNil)) (tCons (tLst (tCons (tTup (tCons (tC (.int 10)) (tCons (tC (.int 2)) tNil))) (tCons (tTup (tCons (tCB (rLenSeq K) (tCons (tOp (rIxL K) (tVar 1) (tC (.int 0))) tNil)) (tCons (tC (.int 1)) tNil))) tNil))) tNil))))))))
abbrev N__law_many_months : List Str := ["_law_pen_here", "_law_lists", "_law_month_here"]
def b1__law_gregorian (K : Frag) : TS := (tSeq (tAsg (tOp (rIxL K) (tLst (tCons (tC (.int 31)) (tCons (tOp rAddI (tC (.int 28)) (tCB rInt1 (tCons (tVar 1) tNil))) (tCons (tC (.int 31)) (tCons (tC (.int 30)) (tCons (tC (.int 31)) (tCons (tC (.int 30)) (tCons (tC (.int 31)) (tCons (tC (.int 31)) (tCons (tC (.int 30)) (tCons (tC (.int 31)) (tCons (tC (.int 30)) (tCons (tC (.int 31)) tNil))))))))))))) (tVar 5)) (gName 6)) (tSeq (tAsg (tLc (iRng1 (tCons (tVar 6) tNil)) (gName 8) tYes (tIf (tTest (tOp (rIn K false) (tOp rModI (tOp rAddI (tVar 3) (tVar 8)) (tC (.int 7))) (tTup (tCons (tC (.int 5)) (tCons (tC (.int 6)) tNil))))) (tC (.str " o")) (tC (.str " ."))) [8]) (gName 7)) (tSeq (tDrop (tBM K "list" rAppend (tVar 4) (tCons (tOp rAddS (tBM K "str" rRjust (tCB rStrI (tCons (tOp rAddI (tVar 5) (tC (.int 1))) tNil)) (tCons (tC (.int 3)) tNil)) (tM1 (rJoin K) (tC (.str "")) (tVar 7))) tNil))) (tAsg (tOp rAddI (tVar 3) (tVar 6)) (gName 3)))))
def t__law_gregorian (K : Frag) : TS := (tSeq (tAsg (tAndV (tOp rEq (tOp rModI (tVar 0) (tC (.int 4))) (tC (.int 0))) (tOrV (tOp rNe (tOp rModI (tVar 0) (tC (.int 100))) (tC (.int 0))) (tOp rEq (tOp rModI (tVar 0) (tC (.int 400))) (tC (.int 0))))) (gName 1)) (tSeq (tAsg (tOp rAddI (tOp rSubI (tOp rDivI (tOp rAddI (tVar 0) (tC (.int 3))) (tC (.int 4))) (tOp rDivI (tOp rAddI (tVar 0) (tC (.int 99))) (tC (.int 100)))) (tOp rDivI (tOp rAddI (tVar 0) (tC (.int 399))) (tC (.int 400)))) (gName 2)) (tSeq (tAsg (tTup (tCons (tOp rAddI (tOp rAddI (tOp rMulI (tC (.int 365)) (tVar 0)) (tVar 2)) (tC (.int 5))) (tCons (tLstM tNil) tNil))) (gTup K 2 (gCons (gName 3) (gCons (gName 4) gNil)))) (tSeq (tFor (iRng1 (tCons (tC (.int 12)) tNil)) (gName 5) (b1__law_gregorian K)) (tRet (tM1 (rJoin K) (tC (.str "\n")) (tVar 4)))))))
abbrev N__law_gregorian : List Str := ["_law_number", "_law_leap", "_law_leaps", "_law_here", "_law_lines", "_law_month_here", "_law_days", "_law_signs", "_law_day"]
def b1_law (K : Frag) : TS := (tSeq (tAsg (tLc (iRng2 (tCons (tC (.int 1)) (tCons (tOp rAddI (tDGet (tVar 4) (tC (.str "months"))) (tC (.int 1))) tNil))) (gName 8) tYes (tCall (spD K C__law_month) [] E0 (tCons (tVar 4) (tCons (tVar 6) (tCons (tVar 8) tNil)))) [8]) (gName 7)) (tIfS (tTest (tOp rNe (tCB rReprS (tCons (tCall (spD K (C_year_table K)) [] E0 (tCons (tVar 5) (tCons (tVar 6) tNil))) tNil)) (tCB rReprS (tCons (tM1 (rJoin K) (tC (.str "\n")) (tVar 7)) tNil)))) (tRet (tC (.bl false))) tNext))
def b2_law (K : Frag) : TS := (tSeq (tAsg (tIf (tTest (tOp rEq (tCall (spD K C__law_draw) [] E0 (tCons (tVar 1) (tCons (tC (.int 3)) tNil))) (tC (.int 0)))) (tCall (spD K C__law_many_months) [] E0 (tCons (tVar 1) tNil)) (tCall (spD K C__law_plain) [] E0 (tCons (tVar 1) tNil))) (gName 4)) (tSeq (tAsg (tCall (spD K (C__law_calendar K)) [] E0 (tCons (tVar 4) tNil)) (gName 5)) (tFor (iTup K (tTup (tCons (tOp rSubI (tCall (spD K C__law_draw) [] E0 (tCons (tVar 1) (tCons (tC (.int 9)) tNil))) (tC (.int 4))) (tCons (tOp rMulI (tCall (spD K C__law_great) [] E0 (tCons (tVar 1) (tCons (tC (.int 30)) tNil))) (tCall (spD K C__law_pick) [] E0 (tCons (tVar 1) (tCons (tLst (tCons (tC (.int 1)) (tCons (tUn rNeg (tC (.int 1))) tNil))) tNil)))) tNil)))) (gName 6) (b1_law K))))
def t_law (K : Frag) : TS := (tSeq (tAsg (tCall (spD K C__law_pen) [] E0 (tCons (tVar 0) tNil)) (gName 1)) (tSeq (tAsg (tCall (spD K C__law_pick) [] E0 (tCons (tVar 1) (tCons (tLst (tCons (tC (.int 2024)) (tCons (tC (.int 1900)) (tCons (tC (.int 2000)) (tCons (tOp rSubI (tCall (spD K C__law_draw) [] E0 (tCons (tVar 1) (tCons (tC (.int 4000)) tNil))) (tC (.int 2000))) (tCons (tCall (spD K C__law_great) [] E0 (tCons (tVar 1) (tCons (tC (.int 20)) tNil))) tNil)))))) tNil))) (gName 2)) (tSeq (tIfS (tTest (tOp rNe (tCB rReprS (tCons (tCall (spD K (C_year_table K)) [] E0 (tCons (tCMeth0 (He.ga K "Calendar") (spDD K (C_Calendar_gregorian K) dd_Calendar_gregorian) E0 (tC (.ref (He.ga K "Calendar")))) (tCons (tVar 2) tNil))) tNil)) (tCB rReprS (tCons (tCall (spD K C__law_gregorian) [] E0 (tCons (tVar 2) tNil)) tNil)))) (tRet (tC (.bl false))) tNext) (tSeq (tFor (iRng1 (tCons (tOp rAddI (tC (.int 4)) (tCB rMin2 (tCons (tC (.int 4)) (tCons (tCB (rLenSeq K) (tCons (tVar 0) tNil)) tNil)))) tNil)) (gName 3) (b2_law K)) (tRet (tC (.bl true)))))))
abbrev N_law : List Str := ["_law_script", "_law_pen_here", "_law_number", "_law_turn", "_law_plain_here", "_law_guide", "_law_year", "_law_lines", "_law_month_here"]
end K81

set_option maxHeartbeats 1100000
/-! K81B: the step of a proof; the attributes' places. -/
namespace DL
open PySem L2
section
variable {K : Frag} {J : Jd} {δ : En} {S : Store} {P : D → Store → Prop} {x : D} {d : D}
theorem nx_mk {f b c : En → Store → Prop} {r : D → Store → Prop} (h : f δ S) : (Out.mk f r b c).nx δ S := h
theorem rt_mk {f b c : En → Store → Prop} {r : D → Store → Prop} (h : r d S) : (Out.mk f r b c).rt d S := h
theorem bk_mk {f b c : En → Store → Prop} {r : D → Store → Prop} (h : b δ S) : (Out.mk f r b c).bk δ S := h
theorem ct_mk {f b c : En → Store → Prop} {r : D → Store → Prop} (h : c δ S) : (Out.mk f r b c).ct δ S := h
theorem dec_and {p A B : Prop} [Decidable p] (h1 : p → A) (h2 : ¬ p → B) : (decide p = true → A) ∧ (decide p = false → B) := ⟨fun h => h1 (of_decide_eq_true h), fun h => h2 (of_decide_eq_false h)⟩
theorem dec_andN {p A B : Prop} [Decidable p] (h1 : ¬ p → A) (h2 : p → B) : ((!decide p) = true → A) ∧ ((!decide p) = false → B) :=
  ⟨fun h => h1 (by simpa using h), fun h => h2 (by simpa using h)⟩
theorem tt_and {A B : Prop} (h : A) : (true = true → A) ∧ (true = false → B) := ⟨fun _ => h, fun z => (by cases z)⟩
theorem ff_and {A B : Prop} (h : B) : (false = true → A) ∧ (false = false → B) := ⟨fun z => (by cases z), fun _ => h⟩
theorem ntt_and {A B : Prop} (h : B) : ((!true) = true → A) ∧ ((!true) = false → B) := ⟨fun z => (by cases z), fun _ => h⟩
theorem nff_and {A B : Prop} (h : A) : ((!false) = true → A) ∧ ((!false) = false → B) := ⟨fun _ => h, fun z => (by cases z)⟩
theorem par_mk {α : Type} {x y : α} {Q : α → α → Prop} (h : Q x y) : ∃ a b, [x, y] = [a, b] ∧ Q a b := ⟨x, y, rfl, h⟩
theorem ev_callE {C : Ct} {ta : L2.TA} (h : EvA K J ta δ S fun ds S1 => C ds S1 P PX0) : Ev K J (L2.tCall (spD K C) [] L2.E0 ta) δ S P := ev_call (PX := PX0) XkOk.none h
theorem ev_methE {C : Addr} {m : Str} {Cc : Ct} {ta : L2.TE} {t : L2.TA} (h : Ev K J ta δ S fun d S1 => ∃ fs, Insts S1 d C fs ∧ fs.lookup m = none ∧ EvA K J t δ S1 fun ds S2 => Cc (d :: ds) S2 P PX0) : Ev K J (L2.tMeth C m (spD K Cc) [] L2.E0 ta t) δ S P := ev_meth (PX := PX0) XkOk.none h
theorem ev_propE {C : Addr} {Cc : Ct} {ta : L2.TE} (h : Ev K J ta δ S fun d S1 => ∃ fs, Insts S1 d C fs ∧ Cc [d] S1 P PX0) : Ev K J (tPropD K C Cc ta) δ S P := ev_prop (PX := PX0) XkOk.none h
end
end DL

set_option maxHeartbeats 1100000
/-! DLA: comprehensions that change nothing. -/
namespace DL
open PySem L2
section
variable {K : Frag} {J : Jd} {δ : En} {S : Store} {P : D → Store → Prop}
theorem ep_nil {PP : List (D × D) → Store → Prop} (p : PP [] S) : EvP K J [] δ S PP := p
theorem ep_cons {PP : List (D × D) → Store → Prop} {tk tv : TE} {r : List (TE × TE)} (h : Ev K J tk δ S fun x S1 => Ev K J tv δ S1 fun y S2 => EvP K J r δ S2 fun ps S3 => PP ((x, y) :: ps) S3) : EvP K J ((tk, tv) :: r) δ S PP := h
theorem Store.set_id {a : PySem.Addr} {m : M} (h : S a = some m) : S.set a m = S := by
  funext b
  unfold Store.set
  by_cases e : b = a
  · rw [if_pos e, e, h]
  · rw [if_neg e]
theorem s_klst {ds : List D} {lo hi : Option Int} (p : P (.lst (DL.cutD ds lo hi)) S) : Sc K J (rSlL K) (.klst ds) lo hi S P := fun G H vx w j r1 Q k => by
  cases r1 with
  | klst h rs => exact ⟨_, _, rfl, w.sub.l h, k.imm w (fun p G' s hp => .lst hp ((rs.cut lo hi).mono s)) p⟩
theorem c_lenK {ds : List D} (p : P (.int (ds.length : Nat)) S) : Cb K J (rLenSeq K) [.klst ds] S P := fun G H vs w j r Q k => by
  cases r with
  | cons r rr =>
    cases rr
    cases r with
    | klst h rs => exact ⟨_, _, rfl, .inl (w.sub.l h), by rw [rs.length]; exact k.now w (.int _) p⟩
theorem et_yes {PT : Bool → Store → Prop} (p : PT true S) : EvT K J tYes δ S PT := fun G H σ w j e Q k => k G H S true w (Ext.refl w) p
theorem range_map_succ {α : Type} (f : Nat → α) (i : Nat) : (List.range (i + 1)).map f = (List.range i).map f ++ [f i] := by rw [List.range_succ, List.map_append]; rfl
theorem ev_lcP {wi : TI} {g : TG} {te : TE} {vs : List Nat} (f : Nat → D) (hk : GK vs g)
    (h : EvI K J wi δ S fun ds S1 => ds.length ≤ PySem.sizeLine ∧ (∀ (i : Nat) (x : D), ds[i]? = some x → EvG K J g x (wipeD δ vs) S1 fun δ2 S2 => Ev K J te δ2 S2 fun y S3 => y = f i ∧ S3 = S1) ∧ P (.lst ((List.range ds.length).map f)) S1) :
    Ev K J (tLc wi g tYes te vs) δ S P := by
  refine ev_lc hk fun G H σ w j e R k => h G H σ w j e R fun G' H' S' I ds w' xe src ⟨hl, ht, hp⟩ => k G' H' S' I ds w' xe src ⟨fun i acc S2 => acc = (List.range i).map f ∧ S2 = S', ⟨rfl, rfl⟩, ?_, ?_⟩
  · rintro i x acc S2 hx ⟨rfl, rfl⟩
    have lt := (List.getElem?_eq_some_iff.mp hx).1
    intro G2 H2 σ2 v w2 j2 e2 r N o
    refine ht i x hx G2 H2 σ2 v w2 j2 e2 r N fun G3 H3 S3 σ3 δ3 w3 x3 e3 p3 => o G3 H3 S3 σ3 δ3 w3 x3 e3 ?_
    refine et_yes ⟨fun _ => p3.imp fun y S4 hy => ?_, fun z => (by cases z)⟩
    obtain ⟨rfl, rfl⟩ := hy
    exact ⟨by rw [List.length_map, List.length_range]; omega, (range_map_succ f i).symm, rfl⟩
  · rintro acc S2 ⟨rfl, rfl⟩
    exact hp
theorem ev_lcF {wi : TI} {g : TG} {tt : TT} {te : TE} {vs : List Nat} (f : Nat → D) (q : Nat → Bool) (hk : GK vs g)
    (h : EvI K J wi δ S fun ds S1 => ds.length ≤ PySem.sizeLine ∧ (∀ (i : Nat) (x : D), ds[i]? = some x → EvG K J g x (wipeD δ vs) S1 fun δ2 S2 => EvT K J tt δ2 S2 fun b S3 => b = q i ∧ S3 = S1 ∧ (b = true → Ev K J te δ2 S3 fun y S4 => y = f i ∧ S4 = S1)) ∧ P (.lst (((List.range ds.length).filter q).map f)) S1) :
    Ev K J (tLc wi g tt te vs) δ S P := by
  refine ev_lc hk fun G H σ w j e R k => h G H σ w j e R fun G' H' S' I ds w' xe src ⟨hl, ht, hp⟩ => k G' H' S' I ds w' xe src ⟨fun i acc S2 => acc = ((List.range i).filter q).map f ∧ S2 = S', ⟨rfl, rfl⟩, ?_, ?_⟩
  · rintro i x acc S2 hx ⟨rfl, rfl⟩
    have lt := (List.getElem?_eq_some_iff.mp hx).1
    intro G2 H2 σ2 v w2 j2 e2 r N o
    refine ht i x hx G2 H2 σ2 v w2 j2 e2 r N fun G3 H3 S3 σ3 δ3 w3 x3 e3 p3 => o G3 H3 S3 σ3 δ3 w3 x3 e3 ?_
    refine p3.imp fun b S4 ⟨hb, hS, he⟩ => ?_
    subst hS
    refine ⟨fun z => (he z).imp fun y S5 hy => ?_, fun z => ?_⟩
    · obtain ⟨rfl, rfl⟩ := hy
      have l1 : (((List.range i).filter q).map f).length ≤ i := by
        rw [List.length_map]; have := List.length_filter_le q (List.range i); rw [List.length_range] at this; exact this
      refine ⟨by omega, ?_, rfl⟩
      rw [List.range_succ, List.filter_append, List.map_append]
      have : q i = true := by rw [← hb, z]
      simp [this]
    · refine ⟨?_, rfl⟩
      rw [List.range_succ, List.filter_append, List.map_append]
      have : q i = false := by rw [← hb, z]
      simp [this]
  · rintro acc S2 ⟨rfl, rfl⟩
    exact hp
theorem ev_lc2P {wi wi1 : TI} {g g1 : TG} {te : TE} {vs vs1 : List Nat} (inner : Nat → List D) (f : D → D) (hk : GK vs g) (hk1 : GK vs1 g1)
    (h : EvI K J wi δ S fun ds S1 => ((List.range ds.length).flatMap inner).length ≤ PySem.sizeLine ∧ (∀ (i : Nat) (x : D), ds[i]? = some x → EvG K J g x (wipeD δ vs) S1 fun δ2 S2 => EvI K J wi1 δ2 S2 fun (es : List D) S3 => S3 = S1 ∧ es = inner i ∧
      ∀ (j : Nat) (y : D), es[j]? = some y → EvG K J g1 y (wipeD δ2 vs1) S3 fun δ3 S4 => Ev K J te δ3 S4 fun z S5 => z = f y ∧ S5 = S1) ∧ P (.lst (((List.range ds.length).flatMap inner).map f)) S1) :
    Ev K J (tLc2 wi g tYes wi1 g1 tYes te vs vs1) δ S P := by
  refine ev_lc2 hk hk1 fun G H σ w j e R k => h G H σ w j e R fun G' H' S' I ds w' xe src ⟨hl, ht, hp⟩ => k G' H' S' I ds w' xe src ⟨fun i acc S2 => acc = ((List.range i).flatMap inner).map f ∧ S2 = S', ⟨rfl, rfl⟩, ?_, ?_⟩
  · rintro i x acc S2 hx ⟨rfl, rfl⟩
    have lt := (List.getElem?_eq_some_iff.mp hx).1
    have sub : ((List.range (i + 1)).flatMap inner).length ≤ ((List.range ds.length).flatMap inner).length := by
      have e : List.range ds.length = List.range (i + 1) ++ (List.range (ds.length - (i + 1))).map (fun z => i + 1 + z) := by
        rw [← List.range_add]
        exact congrArg List.range (by omega)
      rw [e, List.flatMap_append, List.length_append]
      exact Nat.le_add_right _ _
    have next : (List.range (i + 1)).flatMap inner = (List.range i).flatMap inner ++ inner i := by rw [List.range_succ, List.flatMap_append]; simp
    intro G2 H2 σ2 v w2 j2 e2 r N o
    refine ht i x hx G2 H2 σ2 v w2 j2 e2 r N fun G3 H3 S3 σ3 δ3 w3 x3 e3 p3 => o G3 H3 S3 σ3 δ3 w3 x3 e3 ?_
    refine et_yes ⟨fun _ => ?_, fun z => (by cases z)⟩
    intro G4 H4 σ4 w4 j4 e4 R4 k4
    refine p3 G4 H4 σ4 w4 j4 e4 R4 fun G5 H5 S5 I5 es w5 x5 src5 ⟨hS, hes, ht1⟩ => k4 G5 H5 S5 I5 es w5 x5 src5 ?_
    subst hS; subst hes
    refine ⟨fun j acc S6 => acc = ((List.range i).flatMap inner).map f ++ ((inner i).take j).map f ∧ S6 = S5, ⟨by simp, rfl⟩, ?_, ?_⟩
    · rintro j y acc S6 hy ⟨rfl, rfl⟩
      have ltj := (List.getElem?_eq_some_iff.mp hy).1
      intro G7 H7 σ7 v7 w7 j7 e7 r7 N7 o7
      refine ht1 j y hy G7 H7 σ7 v7 w7 j7 e7 r7 N7 fun G8 H8 S8 σ8 δ8 w8 x8 e8 p8 => o7 G8 H8 S8 σ8 δ8 w8 x8 e8 ?_
      refine et_yes ⟨fun _ => p8.imp fun z S9 hz => ?_, fun z => (by cases z)⟩
      obtain ⟨rfl, rfl⟩ := hz
      refine ⟨?_, ?_, rfl⟩
      · rw [List.length_append, List.length_map, List.length_map, List.length_take]
        rw [next, List.length_append] at sub
        omega
      · rw [List.take_add_one, hy, List.map_append, List.append_assoc]
        rfl
    · rintro acc S6 ⟨rfl, rfl⟩
      refine ⟨?_, rfl⟩
      rw [List.take_length, next, List.map_append]
  · rintro acc S2 ⟨rfl, rfl⟩
    exact hp
theorem map_get {α β : Type} {f : α → β} {xs : List α} {i : Nat} {y : β} (h : (xs.map f)[i]? = some y) : ∃ x, xs[i]? = some x ∧ y = f x := by
  rw [List.getElem?_map] at h
  obtain ⟨x, h1, h2⟩ := Option.map_eq_some_iff.mp h
  exact ⟨x, h1, h2.symm⟩
theorem range_map_get {α : Type} (xs : List α) (f : α → D) (z : α) : (List.range xs.length).map (fun i => f (xs.getD i z)) = xs.map f := by
  (refine List.ext_getElem (by simp) fun i h1 h2 => ?_)
  simp only [List.getElem_map, List.getElem_range]
  rw [List.getD_eq_getElem?_getD, List.getElem?_eq_getElem (by simpa using h2)]
  rfl
theorem range_flatMap_get {α β : Type} (xs : List (List α)) (f : α → β) : (List.range xs.length).flatMap (fun i => (xs.getD i []).map f) = xs.flatten.map f := by
  have : ∀ (xs : List (List α)), (List.range xs.length).flatMap (fun i => (xs.getD i []).map f) = xs.flatten.map f := by
    intro xs
    induction xs with
    | nil => rfl
    | cons x xs ih =>
      rw [List.length_cons, List.range_succ_eq_map, List.flatMap_cons, List.flatten_cons, List.map_append, ← ih, List.flatMap_map]
      rfl
  exact this xs
end
end DL

set_option maxHeartbeats 410000
namespace K81
open PySem L2 DL PyProof.Rows
local macro_rules | `(tactic| walk_at "dw") => `(tactic| first
  | (with_reducible apply run_seq) | (with_reducible apply run_if)
  | ((with_reducible apply run_set); dsimp only [outD]) | ((with_reducible apply run_next); dsimp only [outD]) | ((with_reducible apply run_ret); dsimp only [outD]) | ((with_reducible apply run_retN); dsimp only [outD]) | ((with_reducible apply run_drop); dsimp only [outD])
  | ((with_reducible apply run_brk); dsimp only [outD]) | ((with_reducible apply run_cont); dsimp only [outD]) | ((with_reducible apply run_asg); dsimp only [outD]) | ((with_reducible apply run_par); dsimp only [outD])
  | (with_reducible apply par_mk)
  | ((with_reducible apply ev_var); · rfl)
  | (with_reducible apply ev_int) | (with_reducible apply ev_str) | (with_reducible apply ev_bl) | (with_reducible apply ev_non) | (with_reducible apply ev_ty)
  | (with_reducible apply ev_dgetS)
  | (with_reducible apply ev_op) | (with_reducible apply ev_un) | (with_reducible apply ea_cons) | (with_reducible apply ea_nil)
  | (with_reducible apply ev_isiT) | (with_reducible apply ev_cb) | (with_reducible apply ev_tup) | (with_reducible apply ev_lstM') | (with_reducible apply ev_lst)
  | (with_reducible apply o_add) | (with_reducible apply o_sub) | (with_reducible apply o_lt) | (with_reducible apply o_le) | (with_reducible apply o_gt) | (with_reducible apply o_ge) | (with_reducible apply o_eqI) | (with_reducible apply o_neI) | (with_reducible apply o_eqS) | (with_reducible apply o_neS) | (with_reducible apply u_neg)
  | (with_reducible apply et_test) | (with_reducible apply et_B) | (with_reducible apply et_not) | (with_reducible apply et_and) | (with_reducible apply et_or) | (with_reducible apply isB)
  | (with_reducible apply ev_andV) | (with_reducible apply ev_orV) | (with_reducible apply ev_notV) | (with_reducible apply ev_if) | (with_reducible apply ev_chain)
  | (with_reducible apply tt_and) | (with_reducible apply ff_and) | (with_reducible apply ntt_and)
  | (with_reducible apply ev_callE) | (with_reducible apply ev_methE) | (with_reducible apply ev_propE)
  | (with_reducible apply eg_name) | (with_reducible apply egs_nil) | (with_reducible apply egs_cons) | ((with_reducible apply eg_tup); · rfl)
  | (with_reducible apply c_abs) | (with_reducible apply c_min2) | (with_reducible apply c_max2) | (with_reducible apply c_int) | (with_reducible apply c_intB)
  | (with_reducible apply ev_bm) | (with_reducible apply ev_m1) | (with_reducible apply ei_rng1) | (with_reducible apply ei_rng2) | (with_reducible apply ei_list) | (with_reducible apply ei_tup))
section
variable {K : Frag} {E : XK}
theorem run_is_integer : ∀ J ds S P PX, J.S = S → C_is_integer ds S P PX → J.X K E PX → Run K J (t_is_integer K) (startD N_is_integer ds) S (outD J P) := by
  rintro J ds S P PX hS ⟨i, rfl, p⟩ hX
  unfold t_is_integer
  repeat walk_at "dw"
  refine c_isi (t := "int") (b := true) rfl (by decide +kernel) ?_
  repeat walk_at "dw"
  refine c_isi (t := "int") (b := false) rfl (by decide +kernel) ?_
  repeat walk_at "dw"
  exact .now p
theorem gcd_step {x y : Int} (hx : 0 ≤ x) (hy : 0 ≤ y) : Int.gcd y (x % y) = Int.gcd x y := by
  obtain ⟨x, rfl⟩ := Int.eq_ofNat_of_zero_le hx
  obtain ⟨y, rfl⟩ := Int.eq_ofNat_of_zero_le hy
  rw [← Int.natCast_emod]
  show Nat.gcd y (x % y) = Nat.gcd x y
  rw [Nat.gcd_comm x y, Nat.gcd_rec y x, Nat.gcd_comm]
theorem abs_if (a : Int) : (if a < 0 then -a else a) = (a.natAbs : Int) := by split <;> omega
theorem run_common_divisor : ∀ J ds S P PX, J.S = S → C_common_divisor ds S P PX → J.X K E PX → Run K J (t_common_divisor K) (startD N_common_divisor ds) S (outD J P) := by
  rintro J ds S P PX hS ⟨a, b, rfl, p⟩ hX
  unfold t_common_divisor
  repeat walk_at "dw"
  rw [abs_if, abs_if]
  refine run_while (fun m δ' S' => ∃ x y : Int, 0 ≤ x ∧ 0 ≤ y ∧ Int.gcd x y = Int.gcd a b ∧ δ' = [some (.int x), some (.int y)] ∧ S' = S ∧ m = y.toNat) _ ⟨_, _, Int.natCast_nonneg _, Int.natCast_nonneg _, ?_, rfl, rfl, rfl⟩ ?_
  · show Nat.gcd _ _ = Nat.gcd _ _
    rw [Int.natAbs_natCast, Int.natAbs_natCast]
  · rintro m δ' S' ⟨x, y, hx, hy, hg, rfl, rfl, rfl⟩
    repeat walk_at "dw"
    refine dec_and (fun h => ?_) (fun h => ?_)
    · unfold b1_common_divisor
      repeat walk_at "dw"
      refine o_modP h ?_
      repeat walk_at "dw"
      have l1 := Int.emod_nonneg x (show y ≠ 0 by omega)
      have l2 := Int.emod_lt_of_pos x h
      exact ⟨_, by omega, y, x % y, hy, l1, (gcd_step hx hy).trans hg, rfl, rfl, rfl⟩
    · repeat walk_at "dw"
      have e : y = 0 := by omega
      subst e
      rw [Int.gcd_zero_right] at hg
      have e2 : x = (Int.gcd a b : Int) := by rw [← hg]; omega
      rw [e2]
      exact .now p
theorem run_common_multiple : ∀ J ds S P PX, J.S = S → C_common_multiple ds S P PX → J.X K E PX → Run K J (t_common_multiple K) (startD N_common_multiple ds) S (outD J P) := by
  rintro J ds S P PX hS ⟨a, b, rfl, a0, a1, b0, b1, p⟩ hX
  unfold t_common_multiple
  repeat walk_at "dw"
  refine ⟨a, b, rfl, ?_⟩
  have g0 : 0 < Int.gcd a b := Int.gcd_pos_of_ne_zero_left b (by omega)
  have g1 : (Int.gcd a b : Int) ≤ a := Int.le_of_dvd a0 (Int.gcd_dvd_left ..)
  refine o_fdivP (by omega) (by omega) ?_
  repeat walk_at "dw"
  refine o_mul (.inr ⟨by omega, by omega⟩) ?_
  repeat walk_at "dw"
  exact .now p
theorem run_is_row : ∀ J ds S P PX, J.S = S → C_is_row ds S P PX → J.X K E PX → Run K J (t_is_row K) (startD N_is_row ds) S (outD J P) := by
  rintro J ds S P PX hS ⟨d, xs, rfl, h, p⟩ hX
  unfold t_is_row
  repeat walk_at "dw"
  rcases h with rfl | rfl
  · exact ⟨["list", "tuple"], "list", true, rfl, by decide, rfl, by decide +kernel, .now p⟩
  · exact ⟨["list", "tuple"], "tuple", true, rfl, by decide, rfl, by decide +kernel, .now p⟩
theorem run_is_between : ∀ J ds S P PX, J.S = S → C_is_between ds S P PX → J.X K E PX → Run K J (t_is_between K) (startD N_is_between ds) S (outD J P) := by
  rintro J ds S P PX hS ⟨v, a, b, rfl, p⟩ hX
  unfold t_is_between
  repeat walk_at "dw"
  refine ⟨v, rfl, ?_⟩
  repeat walk_at "dw"
  refine dec_and (fun h => ?_) (fun h => ?_)
  · rw [decide_eq_true h, Bool.true_and] at p
    repeat walk_at "dw"
    exact .now p
  · rw [decide_eq_false h, Bool.false_and] at p
    repeat walk_at "dw"
    exact .now p
end

end K81

set_option maxHeartbeats 410000
namespace K81
open PySem L2 DL PyProof.Rows
local macro_rules | `(tactic| walk_at "dw") => `(tactic| first
  | (with_reducible apply run_seq) | (with_reducible apply run_if)
  | ((with_reducible apply run_set); dsimp only [outD]) | ((with_reducible apply run_next); dsimp only [outD]) | ((with_reducible apply run_ret); dsimp only [outD]) | ((with_reducible apply run_retN); dsimp only [outD]) | ((with_reducible apply run_drop); dsimp only [outD])
  | ((with_reducible apply run_brk); dsimp only [outD]) | ((with_reducible apply run_cont); dsimp only [outD]) | ((with_reducible apply run_asg); dsimp only [outD]) | ((with_reducible apply run_par); dsimp only [outD])
  | (with_reducible apply par_mk)
  | ((with_reducible apply ev_var); · rfl)
  | (with_reducible apply ev_int) | (with_reducible apply ev_str) | (with_reducible apply ev_bl) | (with_reducible apply ev_non) | (with_reducible apply ev_ty)
  | (with_reducible apply ev_dgetS)
  | (with_reducible apply ev_op) | (with_reducible apply ev_un) | (with_reducible apply ea_cons) | (with_reducible apply ea_nil)
  | (with_reducible apply ev_isiT) | (with_reducible apply ev_cb) | (with_reducible apply ev_tup) | (with_reducible apply ev_lstM') | (with_reducible apply ev_lst)
  | (with_reducible apply o_add) | (with_reducible apply o_sub) | (with_reducible apply o_lt) | (with_reducible apply o_le) | (with_reducible apply o_gt) | (with_reducible apply o_ge) | (with_reducible apply o_eqI) | (with_reducible apply o_neI) | (with_reducible apply o_eqS) | (with_reducible apply o_neS) | (with_reducible apply u_neg)
  | (with_reducible apply et_test) | (with_reducible apply et_B) | (with_reducible apply et_not) | (with_reducible apply et_and) | (with_reducible apply et_or) | (with_reducible apply isB)
  | (with_reducible apply ev_andV) | (with_reducible apply ev_orV) | (with_reducible apply ev_notV) | (with_reducible apply ev_if) | (with_reducible apply ev_chain)
  | (with_reducible apply tt_and) | (with_reducible apply ff_and) | (with_reducible apply ntt_and)
  | (with_reducible apply ev_callE) | (with_reducible apply ev_methE) | (with_reducible apply ev_propE)
  | (with_reducible apply eg_name) | (with_reducible apply egs_nil) | (with_reducible apply egs_cons) | ((with_reducible apply eg_tup); · rfl)
  | (with_reducible apply c_abs) | (with_reducible apply c_min2) | (with_reducible apply c_max2) | (with_reducible apply c_int) | (with_reducible apply c_intB)
  | (with_reducible apply ev_bm) | (with_reducible apply ev_m1) | (with_reducible apply ei_rng1) | (with_reducible apply ei_rng2) | (with_reducible apply ei_list) | (with_reducible apply ei_tup))
section
variable {K : Frag} {E : XK}
theorem rg2 (n : Nat) (h : n < 1000000) : Rg (n : Int) := ⟨by omega, by omega⟩
theorem all_true (n : Nat) : (List.range n).map (fun _ => D.bl true) = ((List.range n).map fun _ => true).map D.bl := by rw [List.map_map]; rfl
theorem all_id (n : Nat) : ((List.range n).map fun _ => true).all id = true := by rw [List.all_eq_true]; intro b h; obtain ⟨_, _, rfl⟩ := List.mem_map.mp h; rfl
theorem Cal.Ok.head {c : Cal} (h : c.Ok) : ∃ y ys, c.yrs = y :: ys ∧ y.length = c.mo := by
  have h1 := h.y1
  cases e : c.yrs with
  | nil => rw [e] at h1; simp at h1
  | cons y ys => exact ⟨y, ys, rfl, h.same y (by rw [e]; exact List.mem_cons_self ..)⟩
theorem flat_len {m : Nat} : ∀ (yrs : List (List Int)), (∀ y ∈ yrs, y.length = m) → yrs.flatten.length = yrs.length * m
  | [], _ => by simp
  | y :: ys, h => by
    rw [List.flatten_cons, List.length_append, flat_len ys fun z hz => h z (List.mem_cons_of_mem _ hz), h y (List.mem_cons_self ..), List.length_cons, Nat.succ_mul]
    omega
theorem Cal.Ok.len {c : Cal} (h : c.Ok) : c.lens.length = c.yrs.length * c.mo := flat_len _ h.same
theorem Cal.Ok.len_le {c : Cal} (h : c.Ok) : c.lens.length ≤ 5600 := by
  rw [h.len]
  exact Nat.le_trans (Nat.mul_le_mul h.y2 h.m2) (by decide)
theorem Cal.Ok.len_pos {c : Cal} (h : c.Ok) : 1 ≤ c.lens.length := by
  rw [h.len]
  exact Nat.mul_pos h.y1 h.m1
theorem run_are_years : ∀ J ds S P PX, J.S = S → C_are_years ds S P PX → J.X K E PX → Run K J (t_are_years K) (startD N_are_years ds) S (outD J P) := by
  rintro J ds S P PX hS ⟨c, rfl, ok, p⟩ hX
  obtain ⟨y0, ys, e0, h0⟩ := ok.head
  have first : L2.atI (c.yrs.map intsD) 0 = some (intsD y0) := by rw [e0]; exact atI_nn (by decide) rfl
  have y1 := ok.y1
  have y2 := ok.y2
  have m1 := ok.m1
  have m2 := ok.m2
  unfold t_are_years
  repeat walk_at "dw"
  refine ⟨_, _, rfl, .inl rfl, ?_⟩
  repeat walk_at "dw"
  refine c_lenSeq .l ?_
  repeat walk_at "dw"
  rw [List.length_map]
  refine dec_and (fun _ => ?_) (fun h => absurd (show (1 : Int) ≤ _ by omega) h)
  repeat walk_at "dw"
  rw [decide_eq_true (show ((c.yrs.length : Nat) : Int) ≤ 400 by omega)]
  repeat walk_at "dw"
  refine ev_lcP (fun _ => .bl true) (gk_name (by decide)) ?_
  repeat walk_at "dw"
  refine ⟨_, rfl, by rw [List.length_map]; exact Nat.le_trans y2 (by decide), fun i x hx => ?_, ?_⟩
  · obtain ⟨y, hy, rfl⟩ := map_get hx
    repeat walk_at "dw"
    exact ⟨_, _, rfl, .inl rfl, rfl, rfl⟩
  repeat walk_at "dw"
  rw [all_true]
  refine c_all .v ?_
  rw [all_id]
  repeat walk_at "dw"
  refine o_ixL .v first ?_
  repeat walk_at "dw"
  refine c_lenSeq .l ?_
  repeat walk_at "dw"
  rw [List.length_map, h0]
  refine dec_and (fun _ => ?_) (fun h => absurd (show (1 : Int) ≤ _ by omega) h)
  repeat walk_at "dw"
  rw [decide_eq_true (show ((c.mo : Nat) : Int) ≤ 14 by omega)]
  repeat walk_at "dw"
  refine ev_lcP (fun _ => .bl true) (gk_name (by decide)) ?_
  repeat walk_at "dw"
  refine ⟨_, rfl, by rw [List.length_map]; exact Nat.le_trans y2 (by decide), fun i x hx => ?_, ?_⟩
  · obtain ⟨y, hy, rfl⟩ := map_get hx
    repeat walk_at "dw"
    refine c_lenSeq .l ?_
    repeat walk_at "dw"
    refine o_ixL .v first ?_
    repeat walk_at "dw"
    refine c_lenSeq .l ?_
    repeat walk_at "dw"
    rw [List.length_map, List.length_map, ok.same y (List.mem_of_getElem? hy), h0]
    exact ⟨by simp, rfl⟩
  repeat walk_at "dw"
  rw [all_true]
  refine c_all .v ?_
  rw [all_id]
  repeat walk_at "dw"
  refine ev_lc2P (fun i => (c.yrs.getD i []).map D.int) (fun _ => .bl true) (gk_name (by decide)) (gk_name (by decide)) ?_
  repeat walk_at "dw"
  have fl : (List.range (c.yrs.map intsD).length).flatMap (fun i => (c.yrs.getD i []).map D.int) = c.lens.map D.int := by rw [List.length_map]; exact range_flatMap_get c.yrs D.int
  have ll := ok.len_le
  refine ⟨_, rfl, by rw [fl, List.length_map]; exact Nat.le_trans ll (by decide), fun i x hx => ?_, ?_⟩
  · obtain ⟨y, hy, rfl⟩ := map_get hx
    repeat walk_at "dw"
    refine ⟨_, rfl, rfl, ?_, fun j z hz => ?_⟩
    · rw [List.getD_eq_getElem?_getD, hy]; rfl
    · obtain ⟨n, hn, rfl⟩ := map_get hz
      have := ok.days y (List.mem_of_getElem? hy) n (List.mem_of_getElem? hn)
      repeat walk_at "dw"
      refine ⟨_, _, _, rfl, ?_⟩
      rw [decide_eq_true this.1, decide_eq_true this.2]
      exact ⟨rfl, rfl⟩
  · have al : c.lens.map (fun _ => D.bl true) = (c.lens.map fun _ => true).map D.bl := by rw [List.map_map]; rfl
    rw [fl, List.map_map]
    repeat walk_at "dw"
    refine c_all (bs := c.lens.map fun _ => true) (by rw [← al]; exact .v) ?_
    have ai : (c.lens.map fun _ => true).all id = true := by rw [List.all_eq_true]; intro b h; obtain ⟨_, _, rfl⟩ := List.mem_map.mp h; rfl
    rw [ai]
    exact .now p
theorem rngs_all (n : Nat) (x : D) (f : Int → Bool) {ns : List Int} : True := trivial
theorem run_are_weekdays : ∀ J ds S P PX, J.S = S → C_are_weekdays ds S P PX → J.X K E PX → Run K J (t_are_weekdays K) (startD N_are_weekdays ds) S (outD J P) := by
  rintro J ds S P PX hS ⟨rest, wk, rfl, nd, few, rng, p⟩ hX
  unfold t_are_weekdays
  repeat walk_at "dw"
  refine ⟨_, _, rfl, .inr rfl, ?_⟩
  repeat walk_at "dw"
  refine ev_lcP (fun _ => .bl true) (gk_name (by decide)) ?_
  repeat walk_at "dw"
  refine ⟨_, rfl, by rw [List.length_map]; exact Nat.le_trans few (by decide), fun i x hx => ?_, ?_⟩
  · obtain ⟨r, hr, rfl⟩ := map_get hx
    have := rng r (List.mem_of_getElem? hr)
    repeat walk_at "dw"
    refine ⟨_, _, _, rfl, ?_⟩
    rw [decide_eq_true this.1, decide_eq_true (show r ≤ wk - 1 by omega)]
    exact ⟨rfl, rfl⟩
  repeat walk_at "dw"
  rw [all_true]
  refine c_all .v ?_
  rw [all_id]
  repeat walk_at "dw"
  refine ev_lenSetD ?_
  repeat walk_at "dw"
  refine ⟨rest, rfl, nd, few, ?_⟩
  repeat walk_at "dw"
  refine c_lenSeq .t ?_
  repeat walk_at "dw"
  rw [List.length_map, decide_eq_true rfl]
  exact .now p
theorem run_are_holidays : ∀ J ds S P PX, J.S = S → C_are_holidays ds S P PX → J.X K E PX → Run K J (t_are_holidays K) (startD N_are_holidays ds) S (outD J P) := by
  rintro J ds S P PX hS ⟨free, m, rfl, nd, few, rng, p⟩ hX
  unfold t_are_holidays
  repeat walk_at "dw"
  refine ⟨_, _, rfl, .inr rfl, ?_⟩
  repeat walk_at "dw"
  refine run_for ?_
  repeat walk_at "dw"
  refine ⟨_, rfl, fun i δ' S' => S' = S ∧ ∃ z, δ' = [some (.tup (free.map pairD)), some (.int m), z], ⟨rfl, none, rfl⟩, ?_, ?_⟩
  · rintro i x δ' S' hx ⟨rfl, z, rfl⟩
    obtain ⟨q, hq, rfl⟩ := map_get hx
    have rq := rng q (List.mem_of_getElem? hq)
    refine eg_name ?_
    unfold b1_are_holidays
    repeat walk_at "dw"
    refine c_isi (t := "tuple") (b := true) rfl (by decide +kernel) ?_
    repeat walk_at "dw"
    refine c_lenSeq .t ?_
    repeat walk_at "dw"
    rw [decide_eq_true (show (([D.int q.1, D.int q.2].length : Nat) : Int) = 2 from rfl)]
    repeat walk_at "dw"
    refine o_ixT (atI_nn (i := 0) (by decide) rfl) ?_
    repeat walk_at "dw"
    refine ⟨_, _, _, rfl, ?_⟩
    rw [decide_eq_true rq.1, decide_eq_true rq.2.1, Bool.and_true]
    repeat walk_at "dw"
    refine o_ixT (atI_nn (i := 1) (by decide) rfl) ?_
    repeat walk_at "dw"
    refine ⟨_, _, _, rfl, ?_⟩
    rw [decide_eq_true rq.2.2.1, decide_eq_true rq.2.2.2, Bool.and_true]
    repeat walk_at "dw"
    exact ⟨rfl, _, rfl⟩
  · rintro δ' S' ⟨rfl, z, rfl⟩
    repeat walk_at "dw"
    refine ev_lenSetT ?_
    repeat walk_at "dw"
    refine ⟨free, rfl, nd, few, ?_⟩
    repeat walk_at "dw"
    refine c_lenSeq .t ?_
    repeat walk_at "dw"
    rw [List.length_map, decide_eq_true rfl]
    exact .now p
theorem psums_len : ∀ (s : Int) (xs : List Int), (psums s xs).length = xs.length + 1
  | _, [] => rfl
  | s, x :: xs => by rw [psums, List.length_cons, psums_len, List.length_cons]
theorem psums_get : ∀ (s : Int) (xs : List Int) (k : Nat), k ≤ xs.length → (psums s xs)[k]? = some (s + (xs.take k).sum)
  | s, [], 0, _ => by simp [psums]
  | s, x :: xs, 0, _ => by simp [psums]
  | s, x :: xs, k + 1, h => by
    rw [psums, List.getElem?_cons_succ, psums_get (s + x) xs k (by simpa using h), List.take_succ_cons, List.sum_cons]
    congr 1
    omega
theorem psums_take (xs : List Int) : psums 0 xs = (List.range (xs.length + 1)).map fun k => (xs.take k).sum := by
  (refine List.ext_getElem? fun k => ?_)
  by_cases h : k ≤ xs.length
  · rw [psums_get 0 xs k h, List.getElem?_map, List.getElem?_range (by omega)]
    simp
  · rw [List.getElem?_eq_none (by rw [psums_len]; omega), List.getElem?_eq_none (by simp; omega)]
theorem run_month_starts : ∀ J ds S P PX, J.S = S → C_month_starts ds S P PX → J.X K E PX → Run K J (t_month_starts K) (startD N_month_starts ds) S (outD J P) := by
  rintro J ds S P PX hS ⟨ns, rfl, few, p⟩ hX
  unfold t_month_starts
  repeat walk_at "dw"
  refine ⟨by decide, fun q hq hq2 => ?_⟩
  repeat walk_at "dw"
  refine run_for ?_
  repeat walk_at "dw"
  refine ⟨_, rfl, fun i δ' S' => i ≤ ns.length ∧ S' = S.set q (intsM ((List.range (i + 1)).map fun k => (ns.take k).sum)) ∧ ∃ z, δ' = [some (intsD ns), some (.loc q), z], ⟨Nat.zero_le _, rfl, none, rfl⟩, ?_, ?_⟩
  · rintro i x δ' S' hx ⟨hi, rfl, z, rfl⟩
    obtain ⟨n, hn, rfl⟩ := map_get hx
    have lt := (List.getElem?_eq_some_iff.mp hn).1
    refine eg_name ?_
    unfold b1_month_starts
    repeat walk_at "dw"
    refine ⟨ty_list (.m Store.set_same), ?_⟩
    repeat walk_at "dw"
    refine o_ixL (.m Store.set_same) (atI_last (z := .int (ns.take i).sum) ?_) ?_
    · simp [List.getElem?_map, List.getElem?_range]
    repeat walk_at "dw"
    refine m_append Store.set_same ?_ ?_
    · rw [List.length_map, List.length_map, List.length_range]; exact Nat.lt_of_le_of_lt (show i + 1 ≤ 1000000 by omega) (by decide)
    repeat walk_at "dw"
    rw [Store.set_set]
    refine ⟨lt, congrArg (fun l => S.set q (M.lst l)) ?_, _, rfl⟩
    rw [range_map_succ _ (i + 1), List.map_append, List.take_add_one, hn, List.sum_append]
    simp
  · rintro δ' S' ⟨hi, rfl, z, rfl⟩
    refine run_frz (i := 1) rfl Store.set_same (by rw [hS] at *; exact hq2) ?_
    rw [Store.del_set hq]
    repeat walk_at "dw"
    refine .now ?_
    rw [List.length_map, ← psums_take] at *
    exact p
end

end K81

set_option maxHeartbeats 410000
namespace K81
open PySem L2 DL PyProof.Rows
local macro_rules | `(tactic| walk_at "dw") => `(tactic| first
  | (with_reducible apply run_seq) | (with_reducible apply run_if)
  | ((with_reducible apply run_set); dsimp only [outD]) | ((with_reducible apply run_next); dsimp only [outD]) | ((with_reducible apply run_ret); dsimp only [outD]) | ((with_reducible apply run_retN); dsimp only [outD]) | ((with_reducible apply run_drop); dsimp only [outD])
  | ((with_reducible apply run_brk); dsimp only [outD]) | ((with_reducible apply run_cont); dsimp only [outD]) | ((with_reducible apply run_asg); dsimp only [outD]) | ((with_reducible apply run_par); dsimp only [outD])
  | (with_reducible apply par_mk)
  | ((with_reducible apply ev_var); · rfl)
  | (with_reducible apply ev_int) | (with_reducible apply ev_str) | (with_reducible apply ev_bl) | (with_reducible apply ev_non) | (with_reducible apply ev_ty)
  | (with_reducible apply ev_dgetS)
  | (with_reducible apply ev_op) | (with_reducible apply ev_un) | (with_reducible apply ea_cons) | (with_reducible apply ea_nil)
  | (with_reducible apply ev_isiT) | (with_reducible apply ev_cb) | (with_reducible apply ev_tup) | (with_reducible apply ev_lstM') | (with_reducible apply ev_lst)
  | (with_reducible apply o_add) | (with_reducible apply o_sub) | (with_reducible apply o_lt) | (with_reducible apply o_le) | (with_reducible apply o_gt) | (with_reducible apply o_ge) | (with_reducible apply o_eqI) | (with_reducible apply o_neI) | (with_reducible apply o_eqS) | (with_reducible apply o_neS) | (with_reducible apply u_neg)
  | (with_reducible apply et_test) | (with_reducible apply et_B) | (with_reducible apply et_not) | (with_reducible apply et_and) | (with_reducible apply et_or) | (with_reducible apply isB)
  | (with_reducible apply ev_andV) | (with_reducible apply ev_orV) | (with_reducible apply ev_notV) | (with_reducible apply ev_if) | (with_reducible apply ev_chain)
  | (with_reducible apply tt_and) | (with_reducible apply ff_and) | (with_reducible apply ntt_and)
  | (with_reducible apply ev_callE) | (with_reducible apply ev_methE) | (with_reducible apply ev_propE)
  | (with_reducible apply eg_name) | (with_reducible apply egs_nil) | (with_reducible apply egs_cons) | ((with_reducible apply eg_tup); · rfl)
  | (with_reducible apply c_abs) | (with_reducible apply c_min2) | (with_reducible apply c_max2) | (with_reducible apply c_int) | (with_reducible apply c_intB)
  | (with_reducible apply ev_sl) | (with_reducible apply eo_none) | (with_reducible apply eo_some) | (with_reducible apply et_yes)
  | (with_reducible apply ev_bm) | (with_reducible apply ev_m1) | (with_reducible apply ei_rng1) | (with_reducible apply ei_rng2) | (with_reducible apply ei_list) | (with_reducible apply ei_tup))
section
variable {K : Frag} {E : XK}
theorem ints_at {ns : List Int} {k : Nat} (h : k < ns.length) : (ns.map D.int)[k]? = some (.int (ns.getD k 0)) := by
  rw [List.getElem?_map, List.getD_eq_getElem?_getD, List.getElem?_eq_getElem h]
  rfl
theorem run_month_at : ∀ J ds S P PX, J.S = S → C_month_at ds S P PX → J.X K E PX → Run K J (t_month_at K) (startD N_month_at ds) S (outD J P) := by
  rintro J ds S P PX hS ⟨ns, day, rfl, two, few, low, high, p⟩ hX
  unfold t_month_at
  repeat walk_at "dw"
  refine c_lenSeq .l ?_
  repeat walk_at "dw"
  rw [List.length_map]
  refine run_while (fun m δ' S' => ∃ lo hi : Nat, lo < hi ∧ hi < ns.length ∧ ns.getD lo 0 ≤ day ∧ day < ns.getD hi 0 ∧ (∃ z, δ' = [some (intsD ns), some (.int day), some (.int lo), some (.int hi), z]) ∧ S' = S ∧ m = hi - lo) _ ⟨0, ns.length - 1, by omega, by omega, low, high, ⟨none, ?_⟩, rfl, rfl⟩ ?_
  · have e : ((ns.length : Nat) : Int) - 1 = ((ns.length - 1 : Nat) : Int) := by omega
    rw [e]
    rfl
  · rintro m δ' S' ⟨lo, hi, h1, h2, h3, h4, ⟨z, rfl⟩, rfl, rfl⟩
    repeat walk_at "dw"
    refine dec_and (fun h => ?_) (fun h => ?_)
    · unfold b1_month_at
      repeat walk_at "dw"
      refine o_fdivP (by decide) (by decide) ?_
      have e : ((lo : Int) + (hi : Int)) / 2 = (((lo + hi) / 2 : Nat) : Int) := by omega
      rw [e]
      repeat walk_at "dw"
      refine o_ixL .v (L2.atI_nat (ints_at (show (lo + hi) / 2 < ns.length by omega))) ?_
      repeat walk_at "dw"
      refine dec_and (fun q => ?_) (fun q => ?_)
      · repeat walk_at "dw"
        exact ⟨_, by omega, (lo + hi) / 2, hi, by omega, h2, q, h4, ⟨_, rfl⟩, rfl, rfl⟩
      · repeat walk_at "dw"
        exact ⟨_, by omega, lo, (lo + hi) / 2, by omega, by omega, h3, by omega, ⟨_, rfl⟩, rfl, rfl⟩
    · repeat walk_at "dw"
      have e : hi = lo + 1 := by omega
      subst e
      exact .now (p lo h2 h3 h4)
theorem evens : ∀ (G : Hp), Reps K G (([31, 28, 31, 30, 31, 30, 31, 31, 30, 31, 30, 31] : List Int).map V.int) (([31, 28, 31, 30, 31, 30, 31, 31, 30, 31, 30, 31] : List Int).map D.int) := fun G => ints_reps _
theorem run_gregorian_years (F : Fx K) : ∀ J ds S P PX, J.S = S → C_gregorian_years ds S P PX → J.X K E PX → Run K J (t_gregorian_years K) (startD N_gregorian_years ds) S (outD J P) := by
  rintro J ds S P PX hS ⟨rfl, p⟩ hX
  unfold t_gregorian_years
  repeat walk_at "dw"
  refine ev_kt F.even evens ?_
  repeat walk_at "dw"
  refine o_ixT (atI_nn (i := 0) (by decide) rfl) ?_
  repeat walk_at "dw"
  refine ev_kt F.even evens ?_
  repeat walk_at "dw"
  refine o_ixT (atI_nn (i := 1) (by decide) rfl) ?_
  repeat walk_at "dw"
  refine ea_star ?_
  repeat walk_at "dw"
  refine ev_kt F.even evens ?_
  repeat walk_at "dw"
  refine ⟨_, rfl, ?_⟩
  repeat walk_at "dw"
  refine s_tup ?_
  refine ⟨_, .t, ?_⟩
  repeat walk_at "dw"
  refine ⟨by decide, ?_⟩
  repeat walk_at "dw"
  refine ev_lcP (fun i => intsD [31, if i % 4 = 0 ∧ (i % 100 ≠ 0 ∨ i = 0) then 29 else 28, 31, 30, 31, 30, 31, 31, 30, 31, 30, 31]) (gk_name (by decide)) ?_
  repeat walk_at "dw"
  refine ⟨_, rfl, ⟨by decide, by decide⟩, by rw [rgD_len]; decide, fun i x hx => ?_, ?_⟩
  · obtain ⟨hi, rfl⟩ := rgD_get hx
    have hi2 : i < 400 := hi
    repeat walk_at "dw"
    refine o_modP (by decide) ?_
    repeat walk_at "dw"
    refine dec_and (fun q => ?_) (fun q => ?_)
    · repeat walk_at "dw"
      refine o_modP (by decide) ?_
      repeat walk_at "dw"
      refine dec_andN (fun r => ?_) (fun r => ?_)
      · repeat walk_at "dw"
        rw [if_pos ⟨by omega, .inl (by omega)⟩]
        exact ⟨rfl, rfl⟩
      · repeat walk_at "dw"
        refine dec_and (fun r2 => ?_) (fun r2 => ?_)
        · repeat walk_at "dw"
          rw [if_pos ⟨by omega, .inr (by omega)⟩]
          exact ⟨rfl, rfl⟩
        · repeat walk_at "dw"
          refine ev_kt F.even evens ?_
          repeat walk_at "dw"
          refine c_listOf .t ?_
          rw [if_neg (by omega)]
          exact ⟨rfl, rfl⟩
    · repeat walk_at "dw"
      refine ev_kt F.even evens ?_
      repeat walk_at "dw"
      refine c_listOf .t ?_
      rw [if_neg (by omega)]
      exact ⟨rfl, rfl⟩
  · rw [rgD_len]
    refine .now ?_
    have e : intssD gYears = .lst ((List.range 400).map fun i => intsD [31, if i % 4 = 0 ∧ (i % 100 ≠ 0 ∨ i = 0) then 29 else 28, 31, 30, 31, 30, 31, 31, 30, 31, 30, 31]) := by
      unfold intssD gYears
      rw [List.map_map]
      rfl
    rw [e] at p
    exact p
/-! ### the calendar's attributes -/
variable {c : Cal} {ex : List (Str × D)}
theorem lk_years : List.lookup ("all_years" : Str) (c.fs ++ ex) = some (.tup (c.yrs.map fun y => .tup (y.map .int))) := rfl
theorem lk_week : List.lookup ("days_of_week" : Str) (c.fs ++ ex) = some (.int c.wk) := rfl
theorem lk_begins : List.lookup ("begins" : Str) (c.fs ++ ex) = some (.int c.fst) := rfl
theorem lk_rests : List.lookup ("rests" : Str) (c.fs ++ ex) = some (.tup (c.rest.map .int)) := rfl
theorem lk_free : List.lookup ("free_days" : Str) (c.fs ++ ex) = some (.tup (c.free.map pairD)) := rfl
theorem lk_lens : List.lookup ("lengths" : Str) (c.fs ++ ex) = some (intsD c.lens) := rfl
theorem lk_starts : List.lookup ("starts" : Str) (c.fs ++ ex) = some (intsD (psums 0 c.lens)) := rfl
theorem lk_turn : List.lookup ("turn" : Str) (c.fs ++ ex) = some (.int c.per) := rfl
theorem CalAt.fld {S : Store} {d : D} (h : CalAt K S d c) {f : Str} {x : D} {δ : En} {J : Jd} {P : D → Store → Prop} {ta : TE} : True := trivial
theorem lk_none (hex : ex = [] ∨ ∃ w, ex = [(("works" : Str), w)]) {m : Str} (h : List.lookup m (c.fs ++ [(("works" : Str), D.non)]) = none) : List.lookup m (c.fs ++ ex) = none := by
  rcases hex with rfl | ⟨w, rfl⟩
  · rw [List.append_nil]
    rw [List.lookup_append] at h
    cases q : List.lookup m c.fs with
    | none => rfl
    | some z => rw [q] at h; cases h
  · rw [List.lookup_append] at h ⊢
    cases q : List.lookup m c.fs with
    | none =>
      rw [q] at h
      simp only [List.lookup_cons, List.lookup_nil] at h ⊢
      cases b : (m == "works") with
      | true => rw [b] at h; cases h
      | false => rfl
    | some z => rw [q] at h; cases h
theorem sum_tot : (c.lens.take c.lens.length).sum = c.tot := by rw [List.take_length]; rfl
theorem at_last : L2.atI ((psums 0 c.lens).map D.int) (-1) = some (.int c.tot) := by
  refine atI_last ?_
  rw [List.length_map, psums_len, List.getElem?_map, psums_get 0 _ _ (by omega)]
  show some (D.int (0 + (c.lens.take (c.lens.length + 1 - 1)).sum)) = _
  rw [Nat.add_sub_cancel, sum_tot, Int.zero_add]
theorem Cal.Ok.dpos (ok : c.Ok) : ∀ d ∈ c.lens, 1 ≤ d ∧ d ≤ 40 := fun d h => by
  obtain ⟨y, hy, hd⟩ := List.mem_flatten.mp h
  exact ok.days y hy d hd
theorem sum_bd {a b : Int} : ∀ xs : List Int, (∀ x ∈ xs, a ≤ x ∧ x ≤ b) → xs.length * a ≤ xs.sum ∧ xs.sum ≤ xs.length * b
  | [], _ => by simp
  | x :: xs, h => by
    (have h1 := h x (List.mem_cons_self ..))
    have h2 := sum_bd xs fun y hy => h y (List.mem_cons_of_mem _ hy)
    rw [List.sum_cons, List.length_cons, Int.natCast_add, Int.add_mul, Int.add_mul]
    omega
theorem Cal.Ok.tot_pos (ok : c.Ok) : 1 ≤ c.tot ∧ c.tot ≤ 224000 := by
  have h := sum_bd c.lens ok.dpos
  have h1 := ok.len_pos
  have h2 := ok.len_le
  have e : c.tot = c.lens.sum := rfl
  omega
theorem sum_nn : ∀ l : List Int, (∀ z ∈ l, 0 ≤ z) → 0 ≤ l.sum
  | [], _ => by simp
  | a :: l, h => by
    have h1 := h a (List.mem_cons_self ..)
    have h2 := sum_nn l fun z hz => h z (List.mem_cons_of_mem _ hz)
    rw [List.sum_cons]
    omega
theorem mIdx_eq : ∀ (xs : List Int) (k : Nat) (r : Int), (∀ x ∈ xs, 0 ≤ x) → k < xs.length → (xs.take k).sum ≤ r → r < (xs.take (k + 1)).sum → mIdx xs r = k
  | [], k, r, _, h, _, _ => by simp at h
  | x :: xs, 0, r, hx, _, _, h2 => by
    rw [mIdx, if_pos]
    simpa using h2
  | x :: xs, k + 1, r, hx, h, h1, h2 => by
    rw [List.take_succ_cons, List.sum_cons] at h1 h2
    have p : 0 ≤ (xs.take k).sum := sum_nn _ fun z hz => hx z (List.mem_cons_of_mem _ (List.mem_of_mem_take hz))
    rw [mIdx, if_neg (by omega), mIdx_eq xs k (r - x) (fun z hz => hx z (List.mem_cons_of_mem _ hz)) (by simpa using h) (by omega) (by omega)]
theorem run_Calendar_weekday (F : Fx K) : ∀ J ds S P PX, J.S = S → C_Calendar_weekday K ds S P PX → J.X K E PX → Run K J (t_Calendar_weekday K) (startD N_Calendar_weekday ds) S (outD J P) := by
  rintro J ds S P PX hS ⟨d, c, date, rfl, ⟨ex, hex, hi⟩, ok, p⟩ hX
  have w1 := ok.w1
  unfold t_Calendar_weekday
  repeat walk_at "dw"
  refine ev_fld F.c F.begins ?_
  repeat walk_at "dw"
  refine ⟨_, _, hi, lk_begins, ?_⟩
  repeat walk_at "dw"
  refine ev_fld F.c F.days_of_week ?_
  repeat walk_at "dw"
  refine ⟨_, _, hi, lk_week, ?_⟩
  refine o_modP (by omega) ?_
  exact .now p
theorem run_Calendar_months (F : Fx K) : ∀ J ds S P PX, J.S = S → C_Calendar_months K ds S P PX → J.X K E PX → Run K J (t_Calendar_months K) (startD N_Calendar_months ds) S (outD J P) := by
  rintro J ds S P PX hS ⟨d, c, rfl, ⟨ex, hex, hi⟩, ok, p⟩ hX
  obtain ⟨y0, ys, e0, h0⟩ := ok.head
  unfold t_Calendar_months
  repeat walk_at "dw"
  refine ev_fld F.c F.all_years ?_
  repeat walk_at "dw"
  refine ⟨_, _, hi, lk_years, ?_⟩
  repeat walk_at "dw"
  rw [e0]
  refine o_ixT (d := .tup (y0.map .int)) (atI_nn (by decide) rfl) ?_
  repeat walk_at "dw"
  refine c_lenSeq .t ?_
  rw [List.length_map, h0]
  exact .now p
theorem run_Calendar_period (F : Fx K) : ∀ J ds S P PX, J.S = S → C_Calendar_period K ds S P PX → J.X K E PX → Run K J (t_Calendar_period K) (startD N_Calendar_period ds) S (outD J P) := by
  rintro J ds S P PX hS ⟨d, c, rfl, ⟨ex, hex, hi⟩, p⟩ hX
  unfold t_Calendar_period
  repeat walk_at "dw"
  refine ev_fld F.c F.turn ?_
  repeat walk_at "dw"
  exact ⟨_, _, hi, lk_turn, .now p⟩
theorem run_Calendar_month_start (F : Fx K) : ∀ J ds S P PX, J.S = S → C_Calendar_month_start K ds S P PX → J.X K E PX → Run K J (t_Calendar_month_start K) (startD N_Calendar_month_start ds) S (outD J P) := by
  rintro J ds S P PX hS ⟨d, c, n, rfl, ⟨ex, hex, hi⟩, ok, p⟩ hX
  have l1 := ok.len_pos
  have l2 := ok.len_le
  have t := ok.tot_pos
  have m1 := Int.emod_nonneg n (show (c.lens.length : Int) ≠ 0 by omega)
  have m2 := Int.emod_lt_of_pos n (show 0 < (c.lens.length : Int) by omega)
  unfold t_Calendar_month_start
  repeat walk_at "dw"
  refine ev_fld F.c F.lengths ?_
  repeat walk_at "dw"
  refine ⟨_, _, hi, lk_lens, ?_⟩
  repeat walk_at "dw"
  refine c_lenSeq .l ?_
  repeat walk_at "dw"
  rw [List.length_map]
  refine o_fdivP (by omega) (by omega) ?_
  repeat walk_at "dw"
  refine ev_fld F.c F.starts ?_
  repeat walk_at "dw"
  refine ⟨_, _, hi, lk_starts, ?_⟩
  repeat walk_at "dw"
  refine o_ixL .v at_last ?_
  repeat walk_at "dw"
  refine o_mul (.inr ⟨by omega, by omega⟩) ?_
  repeat walk_at "dw"
  refine ev_fld F.c F.starts ?_
  repeat walk_at "dw"
  refine ⟨_, _, hi, lk_starts, ?_⟩
  repeat walk_at "dw"
  refine o_modP (by omega) ?_
  refine o_ixL (d := .int (c.lens.take (n % c.lens.length).toNat).sum) .v (atI_nn m1 ?_) ?_
  · rw [List.getElem?_map, psums_get 0 _ _ (by omega), Int.zero_add]
    rfl
  repeat walk_at "dw"
  exact .now p
theorem run_Calendar_month_days (F : Fx K) : ∀ J ds S P PX, J.S = S → C_Calendar_month_days K ds S P PX → J.X K E PX → Run K J (t_Calendar_month_days K) (startD N_Calendar_month_days ds) S (outD J P) := by
  rintro J ds S P PX hS ⟨d, c, n, rfl, ⟨ex, hex, hi⟩, ok, p⟩ hX
  have l1 := ok.len_pos
  have m1 := Int.emod_nonneg n (show (c.lens.length : Int) ≠ 0 by omega)
  have m2 := Int.emod_lt_of_pos n (show 0 < (c.lens.length : Int) by omega)
  unfold t_Calendar_month_days
  repeat walk_at "dw"
  refine ev_fld F.c F.lengths ?_
  repeat walk_at "dw"
  refine ⟨_, _, hi, lk_lens, ?_⟩
  repeat walk_at "dw"
  refine ev_fld F.c F.lengths ?_
  repeat walk_at "dw"
  refine ⟨_, _, hi, lk_lens, ?_⟩
  repeat walk_at "dw"
  refine c_lenSeq .l ?_
  repeat walk_at "dw"
  rw [List.length_map]
  refine o_modP (by omega) ?_
  refine o_ixL .v (atI_nn m1 (ints_at (by omega))) ?_
  exact .now p
theorem run_Calendar_month_number (F : Fx K) : ∀ J ds S P PX, J.S = S → C_Calendar_month_number K ds S P PX → J.X K E PX → Run K J (t_Calendar_month_number K) (startD N_Calendar_month_number ds) S (outD J P) := by
  rintro J ds S P PX hS ⟨d, c, n, rfl, ⟨ex, hex, hi⟩, ok, p⟩ hX
  have l1 := ok.len_pos
  have l2 := ok.len_le
  have t := ok.tot_pos
  have m1 := Int.emod_nonneg n (show c.tot ≠ 0 by omega)
  have m2 := Int.emod_lt_of_pos n (show 0 < c.tot by omega)
  unfold t_Calendar_month_number
  repeat walk_at "dw"
  refine ev_fld F.c F.starts ?_
  repeat walk_at "dw"
  refine ⟨_, _, hi, lk_starts, ?_⟩
  repeat walk_at "dw"
  refine o_ixL .v at_last ?_
  repeat walk_at "dw"
  refine o_fdivP (by omega) (by omega) ?_
  repeat walk_at "dw"
  refine ev_fld F.c F.lengths ?_
  repeat walk_at "dw"
  refine ⟨_, _, hi, lk_lens, ?_⟩
  repeat walk_at "dw"
  refine c_lenSeq .l ?_
  repeat walk_at "dw"
  rw [List.length_map]
  refine o_mul (.inr ⟨by omega, by omega⟩) ?_
  repeat walk_at "dw"
  refine ev_fld F.c F.starts ?_
  repeat walk_at "dw"
  refine ⟨_, _, hi, lk_starts, ?_⟩
  repeat walk_at "dw"
  refine o_modP (by omega) ?_
  repeat walk_at "dw"
  have g : ∀ k, k ≤ c.lens.length → (psums 0 c.lens).getD k 0 = (c.lens.take k).sum := fun k hk => by
    rw [List.getD_eq_getElem?_getD, psums_get 0 _ _ hk, Int.zero_add]
    rfl
  refine ⟨psums 0 c.lens, n % c.tot, rfl, by rw [psums_len]; omega, by rw [psums_len]; omega, ?_, ?_, fun k hk h1 h2 => ?_⟩
  · rw [g 0 (by omega)]; simpa using m1
  · rw [psums_len, Nat.add_sub_cancel, g _ (Nat.le_refl _), sum_tot]; exact m2
  · rw [psums_len] at hk
    rw [g k (by omega)] at h1
    rw [g (k + 1) (by omega)] at h2
    have e := mIdx_eq c.lens k (n % c.tot) (fun x hx => by have := ok.dpos x hx; omega) (by omega) h1 h2
    repeat walk_at "dw"
    rw [← e]
    exact .now p
end

end K81

set_option maxHeartbeats 410000
namespace K81
open PySem L2 DL PyProof.Rows
local macro_rules | `(tactic| walk_at "dw") => `(tactic| first
  | (with_reducible apply run_seq) | (with_reducible apply run_if)
  | ((with_reducible apply run_set); dsimp only [outD]) | ((with_reducible apply run_next); dsimp only [outD]) | ((with_reducible apply run_ret); dsimp only [outD]) | ((with_reducible apply run_retN); dsimp only [outD]) | ((with_reducible apply run_drop); dsimp only [outD])
  | ((with_reducible apply run_brk); dsimp only [outD]) | ((with_reducible apply run_cont); dsimp only [outD]) | ((with_reducible apply run_asg); dsimp only [outD]) | ((with_reducible apply run_par); dsimp only [outD])
  | (with_reducible apply par_mk)
  | ((with_reducible apply ev_var); · rfl)
  | (with_reducible apply ev_int) | (with_reducible apply ev_str) | (with_reducible apply ev_bl) | (with_reducible apply ev_non) | (with_reducible apply ev_ty)
  | (with_reducible apply ev_dgetS)
  | (with_reducible apply ev_op) | (with_reducible apply ev_un) | (with_reducible apply ea_cons) | (with_reducible apply ea_nil)
  | (with_reducible apply ev_isiT) | (with_reducible apply ev_cb) | (with_reducible apply ev_tup) | (with_reducible apply ev_lstM') | (with_reducible apply ev_lst)
  | (with_reducible apply o_add) | (with_reducible apply o_sub) | (with_reducible apply o_lt) | (with_reducible apply o_le) | (with_reducible apply o_gt) | (with_reducible apply o_ge) | (with_reducible apply o_eqI) | (with_reducible apply o_neI) | (with_reducible apply o_eqS) | (with_reducible apply o_neS) | (with_reducible apply u_neg)
  | (with_reducible apply et_test) | (with_reducible apply et_B) | (with_reducible apply et_not) | (with_reducible apply et_and) | (with_reducible apply et_or) | (with_reducible apply isB)
  | (with_reducible apply ev_andV) | (with_reducible apply ev_orV) | (with_reducible apply ev_notV) | (with_reducible apply ev_if) | (with_reducible apply ev_chain)
  | (with_reducible apply tt_and) | (with_reducible apply ff_and) | (with_reducible apply ntt_and)
  | (with_reducible apply ev_callE) | (with_reducible apply ev_methE) | (with_reducible apply ev_propE)
  | (with_reducible apply eg_name) | (with_reducible apply egs_nil) | (with_reducible apply egs_cons) | ((with_reducible apply eg_tup); · rfl)
  | (with_reducible apply c_abs) | (with_reducible apply c_min2) | (with_reducible apply c_max2) | (with_reducible apply c_int) | (with_reducible apply c_intB)
  | (with_reducible apply ev_sl) | (with_reducible apply eo_none) | (with_reducible apply eo_some) | (with_reducible apply et_yes)
  | (with_reducible apply ev_bm) | (with_reducible apply ev_m1) | (with_reducible apply ei_rng1) | (with_reducible apply ei_rng2) | (with_reducible apply ei_list) | (with_reducible apply ei_tup))
section
variable {K : Frag} {E : XK} {c : Cal} {ex : List (Str × D)}
theorem Cal.Ok.mo2 (ok : c.Ok) : (1 : Int) ≤ c.mo ∧ (c.mo : Int) ≤ 14 := ⟨by have := ok.m1; omega, by have := ok.m2; omega⟩
theorem run_Calendar_parts : ∀ J ds S P PX, J.S = S → C_Calendar_parts K ds S P PX → J.X K E PX → Run K J (t_Calendar_parts K) (startD N_Calendar_parts ds) S (outD J P) := by
  rintro J ds S P PX hS ⟨d, c, n, rfl, ⟨ex, hex, hi⟩, ok, p⟩ hX
  have mo := ok.mo2
  have at_ : CalAt K S d c := ⟨ex, hex, hi⟩
  unfold t_Calendar_parts
  repeat walk_at "dw"
  refine ⟨_, hi, lk_none hex rfl, ?_⟩
  repeat walk_at "dw"
  refine ⟨_, _, _, rfl, at_, ok, ?_⟩
  repeat walk_at "dw"
  refine ⟨_, hi, _, _, rfl, at_, ok, ?_⟩
  refine o_fdivP (by omega) (by omega) ?_
  repeat walk_at "dw"
  refine ⟨_, hi, _, _, rfl, at_, ok, ?_⟩
  refine o_modP (by omega) ?_
  repeat walk_at "dw"
  refine ⟨_, hi, lk_none hex rfl, ?_⟩
  repeat walk_at "dw"
  refine ⟨_, _, _, rfl, at_, ok, ?_⟩
  repeat walk_at "dw"
  exact ⟨(by decide : 3 ≤ PySem.sizeLine), .now p⟩
theorem run_Calendar_is_work (F : Fx K) : ∀ J ds S P PX, J.S = S → C_Calendar_is_work K ds S P PX → J.X K E PX → Run K J (t_Calendar_is_work K) (startD N_Calendar_is_work ds) S (outD J P) := by
  rintro J ds S P PX hS ⟨d, c, n, rfl, ⟨ex, hex, hi⟩, ok, p⟩ hX
  have at_ : CalAt K S d c := ⟨ex, hex, hi⟩
  unfold t_Calendar_is_work
  unfold Cal.work at p
  repeat walk_at "dw"
  refine ⟨_, hi, lk_none hex rfl, ?_⟩
  repeat walk_at "dw"
  refine ⟨_, _, _, rfl, at_, ok, ?_⟩
  repeat walk_at "dw"
  refine ev_fld F.c F.rests ?_
  repeat walk_at "dw"
  refine ⟨_, _, hi, lk_rests, ?_⟩
  refine o_inI .t ?_
  (rw [if_neg Bool.false_ne_true])
  repeat walk_at "dw"
  refine dec_and (fun q => ?_) (fun q => ?_)
  · rw [decide_eq_true q] at p
    repeat walk_at "dw"
    exact .now p
  · rw [decide_eq_false q] at p
    repeat walk_at "dw"
    refine ev_fld F.c F.free_days ?_
    repeat walk_at "dw"
    refine ⟨_, _, hi, lk_free, ?_⟩
    repeat walk_at "dw"
    refine ⟨by decide, ?_⟩
    refine o_eqNilT pl_tpairs ?_
    repeat walk_at "dw"
    cases e : (c.free.map DL.pairD).isEmpty with
    | true =>
      have e2 : c.free = [] := by simpa using e
      rw [e2] at p
      repeat walk_at "dw"
      exact .now p
    | false =>
      repeat walk_at "dw"
      refine ⟨_, hi, lk_none hex rfl, ?_⟩
      repeat walk_at "dw"
      refine ⟨_, _, _, rfl, at_, ok, ?_⟩
      repeat walk_at "dw"
      refine ⟨1, rfl, ?_⟩
      repeat walk_at "dw"
      refine s_tup ?_
      repeat walk_at "dw"
      refine ev_fld F.c F.free_days ?_
      repeat walk_at "dw"
      refine ⟨_, _, hi, lk_free, ?_⟩
      refine o_notInPT (p := c.mday n) ?_
      exact .now p
theorem run_Calendar_month_length : ∀ J ds S P PX, J.S = S → C_Calendar_month_length K ds S P PX → J.X K E PX → Run K J (t_Calendar_month_length K) (startD N_Calendar_month_length ds) S (outD J P) := by
  rintro J ds S P PX hS ⟨d, c, y, m, rfl, ⟨ex, hex, hi⟩, ok, m1, m2, p⟩ hX
  have mo := ok.mo2
  have at_ : CalAt K S d c := ⟨ex, hex, hi⟩
  unfold t_Calendar_month_length
  repeat walk_at "dw"
  refine ⟨_, hi, _, _, rfl, at_, ok, ?_⟩
  repeat walk_at "dw"
  refine ⟨_, _, _, rfl, ?_⟩
  rw [decide_eq_true m1, decide_eq_true m2, Bool.and_true]
  repeat walk_at "dw"
  refine ⟨_, hi, lk_none hex rfl, ?_⟩
  repeat walk_at "dw"
  refine ⟨_, hi, _, _, rfl, at_, ok, ?_⟩
  refine o_mul (.inr ⟨by omega, by omega⟩) ?_
  repeat walk_at "dw"
  refine ⟨_, _, _, rfl, at_, ok, ?_⟩
  exact .now p
theorem emod_lt {c : Cal} (ok : c.Ok) (n : Int) : (n % c.lens.length).toNat < c.lens.length := by
  have l1 := ok.len_pos
  have m1 := Int.emod_nonneg n (show (c.lens.length : Int) ≠ 0 by omega)
  have m2 := Int.emod_lt_of_pos n (show 0 < (c.lens.length : Int) by omega)
  omega
theorem mdays_bd {c : Cal} (ok : c.Ok) (n : Int) : 1 ≤ c.mdays n ∧ c.mdays n ≤ 40 := by
  have h := emod_lt ok n
  unfold Cal.mdays
  rw [List.getD_eq_getElem?_getD, List.getElem?_eq_getElem h]
  exact ok.dpos _ (List.getElem_mem h)
theorem run_Calendar_date_of : ∀ J ds S P PX, J.S = S → C_Calendar_date_of K ds S P PX → J.X K E PX → Run K J (t_Calendar_date_of K) (startD N_Calendar_date_of ds) S (outD J P) := by
  rintro J ds S P PX hS ⟨d, c, y, m, rfl, ⟨ex, hex, hi⟩, ok, m1, m2, p⟩ hX
  have mo := ok.mo2
  have at_ : CalAt K S d c := ⟨ex, hex, hi⟩
  have bd := mdays_bd ok (y * c.mo + m - 1)
  unfold t_Calendar_date_of
  repeat walk_at "dw"
  refine ⟨_, hi, _, _, rfl, at_, ok, ?_⟩
  repeat walk_at "dw"
  refine ⟨_, _, _, rfl, ?_⟩
  rw [decide_eq_true m1, decide_eq_true m2, Bool.and_true]
  repeat walk_at "dw"
  refine ⟨_, hi, lk_none hex rfl, ?_⟩
  repeat walk_at "dw"
  refine ⟨_, _, _, _, rfl, at_, ok, m1, m2, ?_⟩
  repeat walk_at "dw"
  refine ⟨_, _, _, rfl, ?_⟩
  rw [decide_eq_true (show (1 : Int) ≤ 1 by decide), decide_eq_true bd.1, Bool.and_true]
  repeat walk_at "dw"
  refine ⟨_, hi, lk_none hex rfl, ?_⟩
  repeat walk_at "dw"
  refine ⟨_, hi, _, _, rfl, at_, ok, ?_⟩
  refine o_mul (.inr ⟨by omega, by omega⟩) ?_
  repeat walk_at "dw"
  refine ⟨_, _, _, rfl, at_, ok, ?_⟩
  repeat walk_at "dw"
  rw [Int.add_sub_cancel]
  exact .now p
end

end K81

set_option maxHeartbeats 410000
namespace K81
open PySem L2 DL PyProof.Rows
local macro_rules | `(tactic| walk_at "dw") => `(tactic| first
  | (with_reducible apply run_seq) | (with_reducible apply run_if)
  | ((with_reducible apply run_set); dsimp only [outD]) | ((with_reducible apply run_next); dsimp only [outD]) | ((with_reducible apply run_ret); dsimp only [outD]) | ((with_reducible apply run_retN); dsimp only [outD]) | ((with_reducible apply run_drop); dsimp only [outD])
  | ((with_reducible apply run_brk); dsimp only [outD]) | ((with_reducible apply run_cont); dsimp only [outD]) | ((with_reducible apply run_asg); dsimp only [outD]) | ((with_reducible apply run_par); dsimp only [outD])
  | (with_reducible apply par_mk)
  | ((with_reducible apply ev_var); · rfl)
  | (with_reducible apply ev_int) | (with_reducible apply ev_str) | (with_reducible apply ev_bl) | (with_reducible apply ev_non) | (with_reducible apply ev_ty)
  | (with_reducible apply ev_dgetS)
  | (with_reducible apply ev_op) | (with_reducible apply ev_un) | (with_reducible apply ea_cons) | (with_reducible apply ea_nil)
  | (with_reducible apply ev_isiT) | (with_reducible apply ev_cb) | (with_reducible apply ev_tup) | (with_reducible apply ev_lstM') | (with_reducible apply ev_lst)
  | (with_reducible apply o_add) | (with_reducible apply o_sub) | (with_reducible apply o_lt) | (with_reducible apply o_le) | (with_reducible apply o_gt) | (with_reducible apply o_ge) | (with_reducible apply o_eqI) | (with_reducible apply o_neI) | (with_reducible apply o_eqS) | (with_reducible apply o_neS) | (with_reducible apply u_neg)
  | (with_reducible apply et_test) | (with_reducible apply et_B) | (with_reducible apply et_not) | (with_reducible apply et_and) | (with_reducible apply et_or) | (with_reducible apply isB)
  | (with_reducible apply ev_andV) | (with_reducible apply ev_orV) | (with_reducible apply ev_notV) | (with_reducible apply ev_if) | (with_reducible apply ev_chain)
  | (with_reducible apply tt_and) | (with_reducible apply ff_and) | (with_reducible apply ntt_and)
  | (with_reducible apply ev_callE) | (with_reducible apply ev_methE) | (with_reducible apply ev_propE)
  | (with_reducible apply eg_name) | (with_reducible apply egs_nil) | (with_reducible apply egs_cons) | ((with_reducible apply eg_tup); · rfl)
  | (with_reducible apply c_abs) | (with_reducible apply c_min2) | (with_reducible apply c_max2) | (with_reducible apply c_int) | (with_reducible apply c_intB)
  | (with_reducible apply ev_sl) | (with_reducible apply eo_none) | (with_reducible apply eo_some) | (with_reducible apply et_yes)
  | (with_reducible apply ev_bm) | (with_reducible apply ev_m1) | (with_reducible apply ei_rng1) | (with_reducible apply ei_rng2) | (with_reducible apply ei_list) | (with_reducible apply ei_tup))
section
variable {K : Frag} {E : XK} {c : Cal} {ex : List (Str × D)}
theorem o_addS {J : Jd} {S : Store} {P : D → Store → Prop} {a b : Str} (hz : a.length + b.length ≤ PySem.sizeLine) (p : P (.str (a ++ b)) S) : Op K J rAddS (.str a) (.str b) S P := fun G H vx vy w j r1 r2 Q k => by
  cases r1; cases r2
  exact ⟨a, b, rfl, rfl, hz, k.now w (.str _) p⟩
theorem CalAt.set {S : Store} {d : D} {q : Addr} {m : M} (h : CalAt K S d c) (hq : S q = none) : CalAt K (S.set q m) d c := by
  obtain ⟨ex, hex, hi⟩ := h
  refine ⟨ex, hex, ?_⟩
  rcases hi with e | ⟨a, e, hs⟩
  · exact .inl e
  · refine .inr ⟨a, e, ?_⟩
    rw [Store.set_ne (by rintro rfl; rw [hq] at hs; cases hs)]
    exact hs
theorem CalAt.ne {S : Store} {d : D} {q : Addr} (h : CalAt K S d c) (hq : S q = none) : d ≠ .loc q := by
  rintro rfl
  obtain ⟨ex, hex, hi⟩ := h
  rcases hi with e | ⟨a, e, hs⟩
  · cases e
  · cases e; rw [hq] at hs; cases hs
theorem run_Calendar_first_works : ∀ J ds S P PX, J.S = S → C_Calendar_first_works K ds S P PX → J.X K E PX → Run K J (t_Calendar_first_works K) (startD N_Calendar_first_works ds) S (outD J P) := by
  rintro J ds S P PX hS ⟨d, c, rfl, at_, ok, small, p⟩ hX
  obtain ⟨ex, hex, hi⟩ := id at_
  unfold t_Calendar_first_works
  repeat walk_at "dw"
  refine ⟨_, hi, _, _, rfl, at_, ?_⟩
  repeat walk_at "dw"
  refine ⟨by decide, fun q hq hq2 => ?_⟩
  repeat walk_at "dw"
  refine run_for ?_
  have pos : Rg c.per := ⟨by
    have t := ok.tot_pos
    have w1 := ok.w1
    have : 0 ≤ c.per := Int.mul_nonneg (Int.ediv_nonneg (by omega) (by omega)) (by omega)
    omega, by omega⟩
  repeat walk_at "dw"
  refine ⟨c.per, rfl, pos, fun i δ' S' => ∃ ws : List Int, ws.length ≤ i ∧ S' = S.set q (intsM ws) ∧ (ws = [] → ∀ j : Nat, j < i → c.work j = false) ∧ ∃ z, δ' = [some d, some (.int c.per), some (.loc q), z], ⟨[], Nat.le_refl _, rfl, fun _ j h => by omega, none, rfl⟩, ?_, ?_⟩
  · rintro i x δ' S' hx ⟨ws, hl, rfl, hw, z, rfl⟩
    obtain ⟨lt, rfl⟩ := rgD_get hx
    rw [Int.zero_add] at *
    have at2 : CalAt K (S.set q (intsM ws)) d c := at_.set hq
    obtain ⟨ex2, hex2, hi2⟩ := id at2
    refine eg_name ?_
    unfold b1_Calendar_first_works
    repeat walk_at "dw"
    refine ⟨_, hi2, lk_none hex2 rfl, ?_⟩
    repeat walk_at "dw"
    refine ⟨_, _, _, rfl, at2, ok, ?_⟩
    repeat walk_at "dw"
    cases hwk : c.work i with
    | false =>
      repeat walk_at "dw"
      refine ⟨ws, by omega, rfl, fun e j hj => ?_, _, rfl⟩
      by_cases h : j = i
      · subst h; exact hwk
      · exact hw e j (by omega)
    | true =>
      repeat walk_at "dw"
      refine ⟨ty_list (.m Store.set_same), ?_⟩
      repeat walk_at "dw"
      refine m_append Store.set_same ?_ ?_
      · rw [List.length_map]; exact Nat.lt_of_le_of_lt (show ws.length ≤ 200000 by omega) (by decide)
      rw [Store.set_set]
      repeat walk_at "dw"
      refine dec_and (fun h => ?_) (fun h => ?_)
      · refine run_frz (i := 2) rfl Store.set_same (by rw [hS]; exact hq) ?_
        rw [Store.del_set hq]
        repeat walk_at "dw"
        refine .now ?_
        have := p (ws ++ [(i : Int)]) (fun z => by simp at z)
        unfold intsD at this
        rw [List.map_append] at this
        exact this
      · repeat walk_at "dw"
        refine ⟨ws ++ [(i : Int)], by rw [List.length_append]; exact Nat.add_le_add_right hl 1, ?_, fun z => by simp at z, _, rfl⟩
        show S.set q (.lst _) = S.set q (.lst ((ws ++ [(i : Int)]).map D.int))
        rw [List.map_append]
        rfl
  · rintro δ' S' ⟨ws, hl, rfl, hw, z, rfl⟩
    rw [rgD_len] at hw
    refine run_frz (i := 2) rfl Store.set_same (by rw [hS]; exact hq) ?_
    rw [Store.del_set hq]
    repeat walk_at "dw"
    refine .now (p ws fun e i h0 h1 => ?_)
    have := hw e i.toNat (by omega)
    rwa [Int.toNat_of_nonneg h0] at this
end

end K81

set_option maxHeartbeats 410000
namespace K81
open PySem L2 DL PyProof.Rows
local macro_rules | `(tactic| walk_at "dw") => `(tactic| first
  | (with_reducible apply run_seq) | (with_reducible apply run_if)
  | ((with_reducible apply run_set); dsimp only [outD]) | ((with_reducible apply run_next); dsimp only [outD]) | ((with_reducible apply run_ret); dsimp only [outD]) | ((with_reducible apply run_retN); dsimp only [outD]) | ((with_reducible apply run_drop); dsimp only [outD])
  | ((with_reducible apply run_brk); dsimp only [outD]) | ((with_reducible apply run_cont); dsimp only [outD]) | ((with_reducible apply run_asg); dsimp only [outD]) | ((with_reducible apply run_par); dsimp only [outD])
  | (with_reducible apply par_mk)
  | ((with_reducible apply ev_var); · rfl)
  | (with_reducible apply ev_int) | (with_reducible apply ev_str) | (with_reducible apply ev_bl) | (with_reducible apply ev_non) | (with_reducible apply ev_ty)
  | (with_reducible apply ev_dgetS)
  | (with_reducible apply ev_op) | (with_reducible apply ev_un) | (with_reducible apply ea_cons) | (with_reducible apply ea_nil)
  | (with_reducible apply ev_isiT) | (with_reducible apply ev_cb) | (with_reducible apply ev_tup) | (with_reducible apply ev_lstM') | (with_reducible apply ev_lst)
  | (with_reducible apply o_add) | (with_reducible apply o_sub) | (with_reducible apply o_lt) | (with_reducible apply o_le) | (with_reducible apply o_gt) | (with_reducible apply o_ge) | (with_reducible apply o_eqI) | (with_reducible apply o_neI) | (with_reducible apply o_eqS) | (with_reducible apply o_neS) | (with_reducible apply u_neg)
  | (with_reducible apply et_test) | (with_reducible apply et_B) | (with_reducible apply et_not) | (with_reducible apply et_and) | (with_reducible apply et_or) | (with_reducible apply isB)
  | (with_reducible apply ev_andV) | (with_reducible apply ev_orV) | (with_reducible apply ev_notV) | (with_reducible apply ev_if) | (with_reducible apply ev_chain)
  | (with_reducible apply tt_and) | (with_reducible apply ff_and) | (with_reducible apply ntt_and)
  | (with_reducible apply ev_callE) | (with_reducible apply ev_methE) | (with_reducible apply ev_propE)
  | (with_reducible apply eg_name) | (with_reducible apply egs_nil) | (with_reducible apply egs_cons) | ((with_reducible apply eg_tup); · rfl)
  | (with_reducible apply c_abs) | (with_reducible apply c_min2) | (with_reducible apply c_max2) | (with_reducible apply c_int) | (with_reducible apply c_intB)
  | (with_reducible apply ev_sl) | (with_reducible apply eo_none) | (with_reducible apply eo_some) | (with_reducible apply et_yes)
  | (with_reducible apply ev_bm) | (with_reducible apply ev_m1) | (with_reducible apply ei_rng1) | (with_reducible apply ei_rng2) | (with_reducible apply ei_list) | (with_reducible apply ei_tup))
section
variable {K : Frag} {E : XK} {c : Cal} {ex : List (Str × D)}
theorem range_map_getD {α β : Type} (xs : List α) (f : α → β) (z : α) : (List.range xs.length).map (fun i => f (xs.getD i z)) = xs.map f := by
  (refine List.ext_getElem (by simp) fun i h1 h2 => ?_)
  simp only [List.getElem_map, List.getElem_range]
  rw [List.getD_eq_getElem?_getD, List.getElem?_eq_getElem (by simpa using h2)]
  rfl
theorem run_Calendar___init__ (F : Fx K) : ∀ J ds S P PX, J.S = S → C_Calendar___init__ K ds S P PX → J.X K E PX → Run K J (t_Calendar___init__ K) (startD N_Calendar___init__ ds) S (outD J P) := by
  rintro J ds S P PX hS ⟨x, c, rfl, hx, ok, f0, f1, rnd, rfew, rbd, hnd, hfew, hbd, small, wk, p⟩ hX
  obtain ⟨y0, ys, e0, h0⟩ := ok.head
  have first : L2.atI (c.yrs.map intsD) 0 = some (intsD y0) := by rw [e0]; exact atI_nn (by decide) rfl
  have w1 := ok.w1
  have w2 := ok.w2
  have mo := ok.mo2
  have tp := ok.tot_pos
  unfold t_Calendar___init__
  repeat walk_at "dw"
  refine ⟨c, rfl, ok, ?_⟩
  repeat walk_at "dw"
  refine ⟨_, _, _, rfl, ?_⟩
  rw [decide_eq_true w1, decide_eq_true w2, Bool.and_true]
  repeat walk_at "dw"
  refine ⟨_, _, _, rfl, ?_⟩
  rw [decide_eq_true f0, decide_eq_true (show c.fst ≤ c.wk - 1 by omega), Bool.and_true]
  repeat walk_at "dw"
  refine ⟨c.rest, c.wk, rfl, rnd, rfew, rbd, ?_⟩
  repeat walk_at "dw"
  refine o_ixL .v first ?_
  repeat walk_at "dw"
  refine c_lenSeq .l ?_
  repeat walk_at "dw"
  rw [List.length_map, h0]
  refine ⟨c.free, c.mo, rfl, hnd, hfew, hbd, ?_⟩
  repeat walk_at "dw"
  refine run_fld F.c F.all_years ?_
  repeat walk_at "dw"
  refine ev_lcP (fun i => (fun y : List Int => D.tup (y.map .int)) (c.yrs.getD i [])) (gk_name (by decide)) ?_
  repeat walk_at "dw"
  refine ⟨_, rfl, by rw [List.length_map]; exact Nat.le_trans ok.y2 (by decide), fun i z hz => ?_, ?_⟩
  · obtain ⟨y, hy, rfl⟩ := map_get hz
    repeat walk_at "dw"
    refine c_tupOf .l ?_
    refine ⟨?_, rfl⟩
    rw [List.getD_eq_getElem?_getD, hy]
    rfl
  have e9 : (List.range (c.yrs.map intsD).length).map (fun i => (fun y : List Int => D.tup (y.map .int)) (c.yrs.getD i [])) = c.yrs.map fun y => .tup (y.map .int) := by
    rw [List.length_map]
    exact range_map_getD c.yrs (fun y : List Int => D.tup (y.map .int)) []
  rw [e9]
  repeat walk_at "dw"
  refine c_tupOf .l ?_
  repeat walk_at "dw"
  refine ⟨x, _, rfl, hx, by decide, ?_⟩
  repeat walk_at "dw"
  refine ⟨(by decide : 2 ≤ PySem.sizeLine), ?_⟩
  repeat walk_at "dw"
  refine eg_fld F.c F.days_of_week ?_
  repeat walk_at "dw"
  refine ⟨x, _, rfl, Store.set_same, (by decide : 1 < 1000), ?_⟩
  rw [Store.set_set]
  repeat walk_at "dw"
  refine eg_fld F.c F.begins ?_
  repeat walk_at "dw"
  refine ⟨x, _, rfl, Store.set_same, (by decide : 2 < 1000), ?_⟩
  rw [Store.set_set]
  repeat walk_at "dw"
  refine c_sortI .t fun rest' hr' _ => ?_
  repeat walk_at "dw"
  refine c_tupOf .l ?_
  repeat walk_at "dw"
  refine c_sortP .t fun free' hf' => ?_
  repeat walk_at "dw"
  refine c_tupOf .l ?_
  repeat walk_at "dw"
  refine ⟨(by decide : 2 ≤ PySem.sizeLine), ?_⟩
  repeat walk_at "dw"
  refine eg_fld F.c F.rests ?_
  repeat walk_at "dw"
  refine ⟨x, _, rfl, Store.set_same, (by decide : 3 < 1000), ?_⟩
  rw [Store.set_set]
  repeat walk_at "dw"
  refine eg_fld F.c F.free_days ?_
  repeat walk_at "dw"
  refine ⟨x, _, rfl, Store.set_same, (by decide : 4 < 1000), ?_⟩
  rw [Store.set_set]
  repeat walk_at "dw"
  refine run_fld F.c F.lengths ?_
  repeat walk_at "dw"
  have fl : (List.range (c.yrs.map intsD).length).flatMap (fun i => (c.yrs.getD i []).map D.int) = c.lens.map D.int := by rw [List.length_map]; exact range_flatMap_get c.yrs D.int
  have ll := ok.len_le
  refine ev_lc2P (fun i => (c.yrs.getD i []).map D.int) (fun d => d) (gk_name (by decide)) (gk_name (by decide)) ?_
  repeat walk_at "dw"
  refine ⟨_, rfl, by rw [fl, List.length_map]; exact Nat.le_trans ll (by decide), fun i z hz => ?_, ?_⟩
  · obtain ⟨y, hy, rfl⟩ := map_get hz
    repeat walk_at "dw"
    refine ⟨_, rfl, rfl, ?_, fun j z hz => ?_⟩
    · rw [List.getD_eq_getElem?_getD, hy]; rfl
    · repeat walk_at "dw"
      exact ⟨rfl, rfl⟩
  rw [fl, List.map_id']
  repeat walk_at "dw"
  refine ⟨x, _, rfl, Store.set_same, (by decide : 5 < 1000), ?_⟩
  rw [Store.set_set]
  repeat walk_at "dw"
  refine run_fld F.c F.starts ?_
  repeat walk_at "dw"
  refine ev_fld F.c F.lengths ?_
  repeat walk_at "dw"
  refine ⟨_, intsD c.lens, .inr ⟨x, rfl, Store.set_same⟩, rfl, ?_⟩
  repeat walk_at "dw"
  refine ⟨c.lens, rfl, by omega, ?_⟩
  repeat walk_at "dw"
  refine ⟨x, _, rfl, Store.set_same, (by decide : 6 < 1000), ?_⟩
  rw [Store.set_set]
  repeat walk_at "dw"
  refine run_fld F.c F.turn ?_
  repeat walk_at "dw"
  refine ev_fld F.c F.starts ?_
  repeat walk_at "dw"
  refine ⟨_, intsD (psums 0 c.lens), .inr ⟨x, rfl, Store.set_same⟩, rfl, ?_⟩
  repeat walk_at "dw"
  refine o_ixL .v at_last ?_
  repeat walk_at "dw"
  refine ⟨_, _, rfl, by omega, by omega, by omega, by omega, ?_⟩
  repeat walk_at "dw"
  refine ⟨x, _, rfl, Store.set_same, (by decide : 7 < 1000), ?_⟩
  rw [Store.set_set]
  generalize hc' : ({ c with rest := rest', free := free' } : Cal) = c'
  have ok' : c'.Ok := by subst hc'; exact ⟨ok.y1, ok.y2, ok.same, ok.m1, ok.m2, ok.days, ok.w1, ok.w2⟩
  have work' : ∀ d, c'.work d = c.work d := fun d => by
    subst hc'
    unfold Cal.work
    congr 2
    · exact decide_eq_decide.mpr hr'.mem_iff
    · exact decide_eq_decide.mpr hf'.mem_iff
  have per' : c'.per = c.per := by subst hc'; rfl
  have fs' : putD "turn" (.int (c.tot / (Int.gcd c.tot c.wk : Int) * c.wk)) (putD "starts" (intsD (psums 0 c.lens)) (putD "lengths" (.lst (c.lens.map .int)) (putD "free_days" (.tup (free'.map DL.pairD)) (putD "rests" (.tup (rest'.map .int)) (putD "begins" (.int c.fst) (putD "days_of_week" (.int c.wk) (putD "all_years" (.tup (c.yrs.map fun y => .tup (y.map .int))) []))))))) = c'.fs := by
    subst hc'
    rfl
  rw [fs']
  have at_ : CalAt K (S.set x (.ins (calA K) c'.fs)) (.loc x) c' := ⟨[], .inl rfl, .inr ⟨x, rfl, by rw [List.append_nil]; exact Store.set_same⟩⟩
  have hi : Insts (S.set x (.ins (calA K) c'.fs)) (.loc x) (calA K) (c'.fs ++ []) := .inr ⟨x, rfl, by rw [List.append_nil]; exact Store.set_same⟩
  repeat walk_at "dw"
  refine ⟨_, hi, _, _, rfl, at_, ?_⟩
  repeat walk_at "dw"
  rw [decide_eq_false (show ¬ (200000 < c'.per) by omega)]
  repeat walk_at "dw"
  refine run_fld F.c F.works ?_
  repeat walk_at "dw"
  refine ⟨_, hi, lk_none (.inl rfl) rfl, ?_⟩
  repeat walk_at "dw"
  refine ⟨_, _, rfl, at_, ok', by omega, fun ws hw => ?_⟩
  repeat walk_at "dw"
  refine ⟨x, _, rfl, Store.set_same, (by decide : 8 < 1000), ?_⟩
  rw [Store.set_set]
  have fin : putD "works" (intsD ws) c'.fs = c'.fs ++ [(("works" : Str), intsD ws)] := rfl
  rw [fin]
  repeat walk_at "dw"
  refine ev_fld F.c F.works ?_
  repeat walk_at "dw"
  refine ⟨_, intsD ws, .inr ⟨x, rfl, Store.set_same⟩, rfl, ?_⟩
  repeat walk_at "dw"
  refine ⟨by decide, ?_⟩
  refine o_eqNil pl_ints ?_
  repeat walk_at "dw"
  cases ws with
  | nil =>
    obtain ⟨i, i0, i1, i2⟩ := wk
    have := hw rfl i i0 (by omega)
    rw [work', i2] at this
    cases this
  | cons a l =>
    rw [show (List.map D.int (a :: l)).isEmpty = false from rfl]
    repeat walk_at "dw"
    have := p rest' free' (a :: l) hr' hf'
    rw [hc'] at this
    exact .now this
end

end K81

set_option maxHeartbeats 410000
namespace K81
open PySem L2 DL PyProof.Rows
local macro_rules | `(tactic| walk_at "dw") => `(tactic| first
  | (with_reducible apply run_seq) | (with_reducible apply run_if)
  | ((with_reducible apply run_set); dsimp only [outD]) | ((with_reducible apply run_next); dsimp only [outD]) | ((with_reducible apply run_ret); dsimp only [outD]) | ((with_reducible apply run_retN); dsimp only [outD]) | ((with_reducible apply run_drop); dsimp only [outD])
  | ((with_reducible apply run_brk); dsimp only [outD]) | ((with_reducible apply run_cont); dsimp only [outD]) | ((with_reducible apply run_asg); dsimp only [outD]) | ((with_reducible apply run_par); dsimp only [outD])
  | (with_reducible apply par_mk)
  | ((with_reducible apply ev_var); · rfl)
  | (with_reducible apply ev_int) | (with_reducible apply ev_str) | (with_reducible apply ev_bl) | (with_reducible apply ev_non) | (with_reducible apply ev_ty)
  | (with_reducible apply ev_dgetS)
  | (with_reducible apply ev_op) | (with_reducible apply ev_un) | (with_reducible apply ea_cons) | (with_reducible apply ea_nil)
  | (with_reducible apply ev_isiT) | (with_reducible apply ev_cb) | (with_reducible apply ev_tup) | (with_reducible apply ev_lstM') | (with_reducible apply ev_lst)
  | (with_reducible apply o_add) | (with_reducible apply o_sub) | (with_reducible apply o_lt) | (with_reducible apply o_le) | (with_reducible apply o_gt) | (with_reducible apply o_ge) | (with_reducible apply o_eqI) | (with_reducible apply o_neI) | (with_reducible apply o_eqS) | (with_reducible apply o_neS) | (with_reducible apply u_neg)
  | (with_reducible apply et_test) | (with_reducible apply et_B) | (with_reducible apply et_not) | (with_reducible apply et_and) | (with_reducible apply et_or) | (with_reducible apply isB)
  | (with_reducible apply ev_andV) | (with_reducible apply ev_orV) | (with_reducible apply ev_notV) | (with_reducible apply ev_if) | (with_reducible apply ev_chain)
  | (with_reducible apply tt_and) | (with_reducible apply ff_and) | (with_reducible apply ntt_and)
  | (with_reducible apply ev_callE) | (with_reducible apply ev_methE) | (with_reducible apply ev_propE)
  | (with_reducible apply eg_name) | (with_reducible apply egs_nil) | (with_reducible apply egs_cons) | ((with_reducible apply eg_tup); · rfl)
  | (with_reducible apply c_abs) | (with_reducible apply c_min2) | (with_reducible apply c_max2) | (with_reducible apply c_int) | (with_reducible apply c_intB)
  | (with_reducible apply ev_sl) | (with_reducible apply eo_none) | (with_reducible apply eo_some) | (with_reducible apply et_yes)
  | (with_reducible apply ev_bm) | (with_reducible apply ev_m1) | (with_reducible apply ei_rng1) | (with_reducible apply ei_rng2) | (with_reducible apply ei_list) | (with_reducible apply ei_tup))
section
variable {K : Frag} {E : XK} {c : Cal} {ex : List (Str × D)}
theorem gOk (rest : List Int) : (gCal rest).Ok where
  y1 := by show 1 ≤ gYears.length; decide +kernel
  y2 := by show gYears.length ≤ 400; decide +kernel
  same := by
    have h : ∀ y ∈ gYears, y.length = 12 := by decide +kernel
    intro y hy
    rw [h y hy]
    show 12 = (gYears.headD []).length
    decide +kernel
  m1 := by show 1 ≤ ((gYears).headD []).length; decide +kernel
  m2 := by show ((gYears).headD []).length ≤ 14; decide +kernel
  days := by
    have h : ∀ y ∈ gYears, ∀ d ∈ y, 1 ≤ d ∧ d ≤ 40 := by decide +kernel
    exact h
  w1 := by show (1 : Int) ≤ 7; decide
  w2 := by show (7 : Int) ≤ 10; decide
theorem gTot (rest : List Int) : (gCal rest).tot = 146097 := by show (gYears.flatten).sum = 146097; decide +kernel
theorem gPer (rest : List Int) : (gCal rest).per = 146097 := by
  unfold Cal.per
  rw [gTot]
  show (146097 : Int) / (Int.gcd 146097 7 : Int) * 7 = 146097
  decide +kernel
theorem run_Calendar_gregorian (F : Fx K) : ∀ J ds S P PX, J.S = S → C_Calendar_gregorian K ds S P PX → J.X K E PX → Run K J (t_Calendar_gregorian K) (startD N_Calendar_gregorian ds) S (outD J P) := by
  rintro J ds S P PX hS ⟨rfl, p⟩ hX
  unfold t_Calendar_gregorian
  repeat walk_at "dw"
  refine ev_makeNL rfl (ev_makeN (PX := PX0) XkOk.none ?_)
  repeat walk_at "dw"
  refine ⟨rfl, ?_⟩
  repeat walk_at "dw"
  refine ⟨rfl, rfl, fun x hx hx2 => ⟨x, gCal [5, 6], rfl, Store.set_same, gOk _, by show (0 : Int) ≤ 5; decide, by show (5 : Int) < 7; decide, by show ([5, 6] : List Int).Nodup; decide, by show ([5, 6] : List Int).length ≤ 4000; decide, ?_, List.Pairwise.nil, by show (0 : Nat) < 64; decide, fun p hp => (by cases hp), by rw [gPer]; decide, ⟨2, by decide, by rw [gPer]; decide, ?_⟩, ?_⟩⟩
  · intro r hr
    have : ∀ r ∈ ([5, 6] : List Int), 0 ≤ r ∧ r < 7 := by decide
    exact this r hr
  · show (!decide (((2 : Int) + 5) % 7 ∈ ([5, 6] : List Int)) && !decide (_ ∈ ([] : List (Int × Int)))) = true
    simp
  · intro rest free ws hr hf
    have ef : free = [] := hf.eq_nil
    subst ef
    rw [Store.set_set]
    refine ⟨rfl, .inr ⟨_, Store.set_same, ?_⟩⟩
    rw [Store.del_set hx]
    exact .now (p rest ws hr)
/-! ### texts -/
/-- a short text of small signs -/
def Good (n : Nat) (x : Str) : Prop := x.length ≤ n ∧ ∀ k ∈ x.cps.toList, k < 16 ^ 8
theorem Good.mono {n m : Nat} {x : Str} (h : Good n x) (l : n ≤ m) : Good m x := ⟨Nat.le_trans h.1 l, h.2⟩
theorem Good.append {n m : Nat} {x y : Str} (h : Good n x) (h' : Good m y) : Good (n + m) (x ++ y) := by
  refine ⟨by rw [Str.length_append]; exact Nat.add_le_add h.1 h'.1, fun k hk => ?_⟩
  rw [Str.cps_append, Array.toList_append] at hk
  (rcases List.mem_append.mp hk with hk | hk)
  · exact h.2 k hk
  · exact h'.2 k hk
theorem glue_good {n : Nat} {sep : Str} (hs : Good 1 sep) : ∀ (l : List Str) (m : Nat) (a : Array Nat), (∀ y ∈ l, Good n y) → Good m ⟨a⟩ → Good (m + l.length * (n + 1)) ⟨l.foldl (fun acc p => acc ++ sep.cps ++ p.cps) a⟩
  | [], m, a, _, h => by simpa using h
  | y :: l, m, a, hy, h => by
    rw [List.foldl_cons]
    have h1 : Good (m + 1 + n) ⟨a ++ sep.cps ++ y.cps⟩ := (Good.append h hs).append (hy y (List.mem_cons_self ..))
    have h2 := glue_good hs l _ _ (fun z hz => hy z (List.mem_cons_of_mem _ hz)) h1
    refine h2.mono ?_
    rw [List.length_cons, Nat.add_mul]
    omega
theorem Good.join {n : Nat} {sep : Str} {l : List Str} (hs : Good 1 sep) (h : ∀ y ∈ l, Good n y) : Good ((l.length + 1) * (n + 1)) (Txt.join sep l) := by
  cases l with
  | nil => exact ⟨Nat.zero_le _, fun k hk => by simp [Txt.join, Builtin.Str.glued, Str.empty] at hk⟩
  | cons y l =>
    have := glue_good hs l n y.cps (fun z hz => h z (List.mem_cons_of_mem _ hz)) (h y (List.mem_cons_self ..))
    refine Good.mono this ?_
    rw [List.length_cons, Nat.add_mul, Nat.add_mul]
    omega
theorem good_num {m : Int} (h1 : 1 ≤ m) (h2 : m ≤ 14) : Good 3 (Txt.rjust (toString m) 3) := by
  have e : m = 1 ∨ m = 2 ∨ m = 3 ∨ m = 4 ∨ m = 5 ∨ m = 6 ∨ m = 7 ∨ m = 8 ∨ m = 9 ∨ m = 10 ∨ m = 11 ∨ m = 12 ∨ m = 13 ∨ m = 14 := by omega
  have d : ∀ x : Str, (decide (x.length ≤ 3) && x.cps.toList.all fun k => decide (k < 16 ^ 8)) = true → Good 3 x := fun x h => by
    rw [Bool.and_eq_true, List.all_eq_true] at h
    exact ⟨of_decide_eq_true h.1, fun k hk => of_decide_eq_true (h.2 k hk)⟩
  rcases e with rfl | rfl | rfl | rfl | rfl | rfl | rfl | rfl | rfl | rfl | rfl | rfl | rfl | rfl <;> exact d _ (by decide +kernel)
theorem good_work : Good 2 (" ." : Str) := ⟨by decide +kernel, by decide +kernel⟩
theorem good_free : Good 2 (" o" : Str) := ⟨by decide +kernel, by decide +kernel⟩
theorem good_sep : Good 1 (Str.empty : Str) := ⟨by decide +kernel, by decide +kernel⟩
theorem good_nl : Good 1 ("\n" : Str) := ⟨by decide +kernel, by decide +kernel⟩
theorem mdays_bd' (ok : c.Ok) (n : Int) : (c.mdays n).toNat ≤ 40 := by have := mdays_bd ok n; omega
theorem good_line (ok : c.Ok) {y m : Int} (h1 : 1 ≤ m) (h2 : m ≤ c.mo) : Good 200 (c.line y m) := by
  have mo := ok.mo2
  have := mdays_bd' ok (y * c.mo + m - 1)
  unfold Cal.line
  refine (Good.append (good_num h1 (by omega)) (Good.join (n := 2) good_sep fun z hz => ?_)).mono ?_
  · obtain ⟨i, _, rfl⟩ := List.mem_map.mp hz
    split
    · exact good_work
    · exact good_free
  · (rw [List.length_map, List.length_range])
    omega
theorem good_table (ok : c.Ok) (y : Int) : Good 4000 (c.table y) := by
  have mo := ok.m2
  unfold Cal.table
  refine (Good.join (n := 200) good_nl fun z hz => ?_).mono ?_
  · obtain ⟨i, hi, rfl⟩ := List.mem_map.mp hz
    have := List.mem_range.mp hi
    exact good_line ok (by omega) (by omega)
  · (rw [List.length_map, List.length_range])
    have : (c.mo + 1) * (200 + 1) ≤ 15 * 201 := Nat.mul_le_mul (by omega) (by omega)
    omega
theorem sum_good {n : Nat} : ∀ {l : List Str}, (∀ y ∈ l, Good n y) → (l.map (·.length)).sum ≤ l.length * n
  | [], _ => by simp
  | y :: l, h => by
    rw [List.map_cons, List.sum_cons, List.length_cons, Nat.add_mul]
    have := sum_good fun z hz => h z (List.mem_cons_of_mem _ hz)
    have := (h y (List.mem_cons_self ..)).1
    omega
theorem run_month_line : ∀ J ds S P PX, J.S = S → C_month_line K ds S P PX → J.X K E PX → Run K J (t_month_line K) (startD N_month_line ds) S (outD J P) := by
  rintro J ds S P PX hS ⟨d, c, y, m, rfl, ⟨ex, hex, hi⟩, ok, m1, m2, p⟩ hX
  have mo := ok.mo2
  have at_ : CalAt K S d c := ⟨ex, hex, hi⟩
  have bd := mdays_bd ok (y * c.mo + m - 1)
  have bd2 := mdays_bd' ok (y * c.mo + m - 1)
  unfold t_month_line
  repeat walk_at "dw"
  refine ⟨_, hi, lk_none hex rfl, ?_⟩
  repeat walk_at "dw"
  refine ⟨_, _, _, _, rfl, at_, ok, m1, m2, ?_⟩
  repeat walk_at "dw"
  refine ⟨_, hi, lk_none hex rfl, ?_⟩
  repeat walk_at "dw"
  refine ⟨_, _, _, _, rfl, at_, ok, m1, m2, ?_⟩
  repeat walk_at "dw"
  refine ev_lcP (fun i => D.str (if c.work (c.mstart (y * c.mo + m - 1) + (i : Int)) then " ." else " o")) (gk_name (by decide)) ?_
  repeat walk_at "dw"
  refine ⟨_, rfl, ⟨by omega, by omega⟩, by rw [rgD_len]; exact Nat.le_trans bd2 (by decide), fun i x hx => ?_, ?_⟩
  · obtain ⟨lt, rfl⟩ := rgD_get hx
    rw [Int.zero_add]
    repeat walk_at "dw"
    refine ⟨_, hi, lk_none hex rfl, ?_⟩
    repeat walk_at "dw"
    refine ⟨_, _, _, rfl, at_, ok, ?_⟩
    repeat walk_at "dw"
    cases c.work (c.mstart (y * c.mo + m - 1) + (i : Int)) with
    | true => repeat walk_at "dw"
              exact ⟨rfl, rfl⟩
    | false => repeat walk_at "dw"
               exact ⟨rfl, rfl⟩
  repeat walk_at "dw"
  refine ev_fmt3 ?_
  repeat walk_at "dw"
  refine ⟨m, rfl, m1, by omega, ?_⟩
  repeat walk_at "dw"
  refine ⟨⟨_, rfl⟩, ?_⟩
  repeat walk_at "dw"
  have gd : ∀ z ∈ ((List.range (c.mdays (y * c.mo + m - 1)).toNat).map fun (i : Nat) => (if c.work (c.mstart (y * c.mo + m - 1) + (i : Int)) then " ." else " o" : Str)), Good 2 z := fun z hz => by
    obtain ⟨i, _, rfl⟩ := List.mem_map.mp hz
    split
    · exact good_work
    · exact good_free
  refine m_join (ys := (List.range (c.mdays (y * c.mo + m - 1)).toNat).map fun (i : Nat) => (if c.work (c.mstart (y * c.mo + m - 1) + (i : Int)) then " ." else " o" : Str)) ?_ ?_ ?_
  · rw [rgD_len, List.map_map]
    exact .l
  · have := sum_good gd
    rw [List.length_map, List.length_range] at this ⊢
    show _ + _ * 0 ≤ _
    omega
  · have gl := good_line ok (y := y) m1 m2
    refine o_addS ?_ ?_
    · rw [← Str.length_append]
      exact Nat.le_trans gl.1 (by decide)
    · exact .now p
theorem run_year_table : ∀ J ds S P PX, J.S = S → C_year_table K ds S P PX → J.X K E PX → Run K J (t_year_table K) (startD N_year_table ds) S (outD J P) := by
  rintro J ds S P PX hS ⟨d, c, y, rfl, ⟨ex, hex, hi⟩, ok, p⟩ hX
  have mo := ok.mo2
  have m2 := ok.m2
  have at_ : CalAt K S d c := ⟨ex, hex, hi⟩
  unfold t_year_table
  repeat walk_at "dw"
  refine ⟨⟨_, rfl⟩, ?_⟩
  refine ev_lcP (fun i => D.str (c.line y ((i : Int) + 1))) (gk_name (by decide)) ?_
  repeat walk_at "dw"
  refine ⟨_, hi, _, _, rfl, at_, ok, ?_⟩
  repeat walk_at "dw"
  have e1 : ((c.mo : Int) + 1 - 1).toNat = c.mo := by omega
  refine ⟨1, _, rfl, ⟨by decide, by decide⟩, ⟨by omega, by omega⟩, by rw [rgD_len, e1]; exact Nat.le_trans m2 (by decide), fun i x hx => ?_, ?_⟩
  · obtain ⟨lt, rfl⟩ := rgD_get hx
    rw [e1] at lt
    repeat walk_at "dw"
    refine ⟨_, _, _, _, rfl, at_, ok, by omega, by omega, ?_⟩
    rw [Int.add_comm]
    exact ⟨rfl, rfl⟩
  rw [rgD_len, e1]
  have gd : ∀ z ∈ (List.range c.mo).map fun (i : Nat) => c.line y ((i : Int) + 1), Good 200 z := fun z hz => by
    obtain ⟨i, h, rfl⟩ := List.mem_map.mp hz
    have := List.mem_range.mp h
    exact good_line ok (by omega) (by omega)
  refine m_join (ys := (List.range c.mo).map fun (i : Nat) => c.line y ((i : Int) + 1)) ?_ ?_ (.now p)
  · rw [List.map_map]
    exact .l
  · have := sum_good gd
    rw [List.length_map, List.length_range] at this ⊢
    show _ + _ * 1 ≤ _
    omega
end

end K81

set_option maxHeartbeats 410000
namespace K81
open PySem L2 DL PyProof.Rows
local macro_rules | `(tactic| walk_at "dw") => `(tactic| first
  | (with_reducible apply run_seq) | (with_reducible apply run_if)
  | ((with_reducible apply run_set); (try dsimp only [outD])) | ((with_reducible apply run_next); (try dsimp only [outD])) | ((with_reducible apply run_ret); (try dsimp only [outD])) | ((with_reducible apply run_retN); (try dsimp only [outD])) | ((with_reducible apply run_drop); (try dsimp only [outD]))
  | ((with_reducible apply run_brk); (try dsimp only [outD])) | ((with_reducible apply run_cont); (try dsimp only [outD])) | ((with_reducible apply run_asg); (try dsimp only [outD])) | ((with_reducible apply run_par); (try dsimp only [outD]))
  | (with_reducible apply par_mk)
  | ((with_reducible apply ev_var); · rfl)
  | (with_reducible apply ev_int) | (with_reducible apply ev_str) | (with_reducible apply ev_bl) | (with_reducible apply ev_non) | (with_reducible apply ev_ty)
  | (with_reducible apply ev_dgetS)
  | (with_reducible apply ev_op) | (with_reducible apply ev_un) | (with_reducible apply ea_cons) | (with_reducible apply ea_nil)
  | (with_reducible apply ev_isiT) | (with_reducible apply ev_cb) | (with_reducible apply ev_tup) | (with_reducible apply ev_lstM') | (with_reducible apply ev_lst)
  | (with_reducible apply o_add) | (with_reducible apply o_sub) | (with_reducible apply o_lt) | (with_reducible apply o_le) | (with_reducible apply o_gt) | (with_reducible apply o_ge) | (with_reducible apply o_eqI) | (with_reducible apply o_neI) | (with_reducible apply o_eqS) | (with_reducible apply o_neS) | (with_reducible apply u_neg)
  | (with_reducible apply et_test) | (with_reducible apply et_B) | (with_reducible apply et_not) | (with_reducible apply et_and) | (with_reducible apply et_or) | (with_reducible apply isB)
  | (with_reducible apply ev_andV) | (with_reducible apply ev_orV) | (with_reducible apply ev_notV) | (with_reducible apply ev_if) | (with_reducible apply ev_chain)
  | (with_reducible apply tt_and) | (with_reducible apply ff_and) | (with_reducible apply ntt_and)
  | (with_reducible apply ev_callE) | (with_reducible apply ev_methE) | (with_reducible apply ev_propE)
  | (with_reducible apply eg_name) | (with_reducible apply egs_nil) | (with_reducible apply egs_cons) | ((with_reducible apply eg_tup); · rfl)
  | (with_reducible apply c_abs) | (with_reducible apply c_min2) | (with_reducible apply c_max2) | (with_reducible apply c_int) | (with_reducible apply c_intB)
  | (with_reducible apply ep_cons) | (with_reducible apply ep_nil) | (with_reducible apply ev_sl) | (with_reducible apply eo_none) | (with_reducible apply eo_some) | (with_reducible apply et_yes)
  | (with_reducible apply ev_bm) | (with_reducible apply ev_m1) | (with_reducible apply ei_rng1) | (with_reducible apply ei_rng2) | (with_reducible apply ei_list) | (with_reducible apply ei_tup))
section
variable {K : Frag} {E : XK} {c : Cal} {ex : List (Key × D)}
theorem nff_and {A B : Prop} (h : A) : ((!false) = true → A) ∧ ((!false) = false → B) := ⟨fun _ => h, fun z => (by cases z)⟩
theorem cut_ints (ns : List Int) (lo hi : Option Int) : ∃ ms : List Int, DL.cutD (ns.map D.int) lo hi = ms.map D.int := ⟨(ns.drop (HT.sIx (ns.map D.int).length 0 lo)).take (HT.sIx (ns.map D.int).length (ns.map D.int).length hi - HT.sIx (ns.map D.int).length 0 lo), by
  unfold DL.cutD
  rw [List.map_take, List.map_drop]⟩
theorem run__law_pen : ∀ J ds S P PX, J.S = S → C__law_pen ds S P PX → J.X K E PX → Run K J (t__law_pen K) (startD N__law_pen ds) S (outD J P) := by
  rintro J ds S P PX hS ⟨ns, rfl, p⟩ hX
  unfold t__law_pen
  repeat walk_at "dw"
  refine ev_dispM fun q hq hq2 => ?_
  repeat walk_at "dw"
  refine ⟨63, rfl, ?_⟩
  refine s_klst ?_
  obtain ⟨ms, e⟩ := cut_ints ns none (some 63)
  rw [e]
  repeat walk_at "dw"
  refine c_listOf .l ?_
  repeat walk_at "dw"
  refine ⟨[(.inr "cells", intsD ms), (.inr "turn", .int 0), (.inr "left", .int 0)], rfl, (by decide : 3 ≤ 15), Store.set_same, ?_⟩
  rw [Store.set_set]
  exact .now (p q _ hq ⟨ms, 0, 0, rfl, by decide, by decide, by decide⟩)
theorem primes_at {i : Int} (h0 : 0 ≤ i) (h1 : i < 5) : ∃ p : Int, L2.atI [D.int 2147483629, D.int 2147483647, D.int 2147483587, D.int 2147483563, D.int 2147483579] i = some (.int p) ∧ 0 < p ∧ p < 2147483648 := by
  have e : i = 0 ∨ i = 1 ∨ i = 2 ∨ i = 3 ∨ i = 4 := by omega
  rcases e with rfl | rfl | rfl | rfl | rfl
  · exact ⟨_, atI_nn (by decide) rfl, by decide, by decide⟩
  · exact ⟨_, atI_nn (by decide) rfl, by decide, by decide⟩
  · exact ⟨_, atI_nn (by decide) rfl, by decide, by decide⟩
  · exact ⟨_, atI_nn (by decide) rfl, by decide, by decide⟩
  · exact ⟨_, atI_nn (by decide) rfl, by decide, by decide⟩
theorem run__law_draw : ∀ J ds S P PX, J.S = S → C__law_draw ds S P PX → J.X K E PX → Run K J (t__law_draw K) (startD N__law_draw ds) S (outD J P) := by
  rintro J ds S P PX hS ⟨a, m, t, n, rfl, hs, ⟨cells, t0, l, rfl, h0, h1, h2⟩, lo, few, p⟩ hX
  unfold t__law_draw
  repeat walk_at "dw"
  refine ⟨_, _, .m hs, rfl, ?_⟩
  repeat walk_at "dw"
  refine dec_and (fun hl => ?_) (fun hl => ?_)
  · repeat walk_at "dw"
    refine ⟨_, _, .m hs, rfl, ?_⟩
    repeat walk_at "dw"
    refine o_modP few.1 ?_
    repeat walk_at "dw"
    refine run_dput ?_
    repeat walk_at "dw"
    refine ⟨_, _, .m hs, rfl, ?_⟩
    repeat walk_at "dw"
    refine o_fdivP few.1 few.2 ?_
    repeat walk_at "dw"
    refine ⟨a, _, .inr "left", rfl, hs, rfl, (by decide : 3 < PySem.sizeLine), ?_⟩
    repeat walk_at "dw"
    refine .now (p _ _ (Int.emod_nonneg _ (by have := few.1; omega)) (Int.emod_lt_of_pos _ few.1) ⟨cells, t0, l / n, rfl, h0, by omega, Int.ediv_nonneg h2 (by have := few.1; omega)⟩)
  · repeat walk_at "dw"
    refine ⟨_, _, .m hs, rfl, ?_⟩
    repeat walk_at "dw"
    refine run_dput ?_
    repeat walk_at "dw"
    refine ⟨a, _, .inr "turn", rfl, hs, rfl, (by decide : 3 < PySem.sizeLine), ?_⟩
    have e1 : putKD [((.inr "cells" : Key), intsD cells), (.inr "turn", .int t0), (.inr "left", .int l)] (.inr "turn") (.int (t0 + 1)) = [(.inr "cells", intsD cells), (.inr "turn", .int (t0 + 1)), (.inr "left", .int l)] := rfl
    rw [e1]
    generalize hS1 : S.set a (.dK [(.inr "cells", intsD cells), (.inr "turn", .int (t0 + 1)), (.inr "left", .int l)]) = S1
    have hs1 : S1 a = some (.dK [(.inr "cells", intsD cells), (.inr "turn", .int (t0 + 1)), (.inr "left", .int l)]) := by rw [← hS1]; exact Store.set_same
    have fin1 : ∀ i, 0 ≤ i → i < n → P (.int i) S1 := fun i i0 i1 => by
      rw [← hS1]
      exact p i _ i0 i1 ⟨cells, t0 + 1, l, rfl, by omega, by omega, h2⟩
    have lo2 := lo.2
    repeat walk_at "dw"
    refine o_mul (.inl ⟨by decide, by decide⟩) ?_
    repeat walk_at "dw"
    have rest : ∀ cell : Int, DL.Run K J (tSeq (tIfS (tAnd (tTest (tOp rLtI (tVar 3) (tCB (rLenSeq K) (tCons (tDGet (tVar 0) (tC (.str "cells"))) tNil)))) (tTest (tOp rGeI (tCB rAbs (tCons (tVar 4) tNil)) (tOp rPowI (tC (.int 10)) (tC (.int 18)))))) (tSeq (sDPut (tVar 0) (tC (.str "left")) (tOp rDivI (tOp rSubI (tCB rAbs (tCons (tVar 4) tNil)) (tOp rPowI (tC (.int 10)) (tC (.int 18)))) (tVar 1))) (tRet (tOp rModI (tOp rSubI (tCB rAbs (tCons (tVar 4) tNil)) (tOp rPowI (tC (.int 10)) (tC (.int 18)))) (tVar 1)))) tNext) (tSeq (tAsg (tLst (tCons (tC (.int 2147483629)) (tCons (tC (.int 2147483647)) (tCons (tC (.int 2147483587)) (tCons (tC (.int 2147483563)) (tCons (tC (.int 2147483579)) tNil)))))) (gName 5)) (tSeq (tAsg (tOp (rIxL K) (tVar 5) (tOp rModI (tVar 3) (tC (.int 5)))) (gName 6)) (tSeq (tAsg (tOp rModI (tOp rAddI (tOp rAddI (tOp rAddI (tOp rMulI (tOp rModI (tVar 4) (tVar 6)) (tC (.int 39373))) (tOp rMulI (tOp rMulI (tC (.int 30011)) (tVar 3)) (tVar 3))) (tOp rMulI (tC (.int 8117)) (tVar 3))) (tC (.int 23))) (tVar 6)) (gName 7)) (tSeq (tAsg (tOp rModI (tOp rMulI (tVar 7) (tOp rAddI (tVar 7) (tC (.int 69621)))) (tOp (rIxL K) (tVar 5) (tOp rModI (tOp rAddI (tVar 3) (tC (.int 2))) (tC (.int 5))))) (gName 7)) (tRet (tOp rModI (tOp rDivI (tOp rModI (tOp rAddI (tOp rAddI (tOp rMulI (tVar 7) (tVar 7)) (tOp rMulI (tC (.int 16807)) (tVar 7))) (tVar 3)) (tC (.int 2147483549))) (tC (.int 64))) (tVar 1)))))))) [some (.loc a), some (.int n), none, some (.int t0), some (.int cell), none, none, none] S1 (outD J P) := by
      intro cell
      repeat walk_at "dw"
      refine ⟨_, _, .m hs1, rfl, ?_⟩
      repeat walk_at "dw"
      refine c_lenSeq .l ?_
      repeat walk_at "dw"
      have tail : DL.Run K J (tSeq (tAsg (tLst (tCons (tC (.int 2147483629)) (tCons (tC (.int 2147483647)) (tCons (tC (.int 2147483587)) (tCons (tC (.int 2147483563)) (tCons (tC (.int 2147483579)) tNil)))))) (gName 5)) (tSeq (tAsg (tOp (rIxL K) (tVar 5) (tOp rModI (tVar 3) (tC (.int 5)))) (gName 6)) (tSeq (tAsg (tOp rModI (tOp rAddI (tOp rAddI (tOp rAddI (tOp rMulI (tOp rModI (tVar 4) (tVar 6)) (tC (.int 39373))) (tOp rMulI (tOp rMulI (tC (.int 30011)) (tVar 3)) (tVar 3))) (tOp rMulI (tC (.int 8117)) (tVar 3))) (tC (.int 23))) (tVar 6)) (gName 7)) (tSeq (tAsg (tOp rModI (tOp rMulI (tVar 7) (tOp rAddI (tVar 7) (tC (.int 69621)))) (tOp (rIxL K) (tVar 5) (tOp rModI (tOp rAddI (tVar 3) (tC (.int 2))) (tC (.int 5))))) (gName 7)) (tRet (tOp rModI (tOp rDivI (tOp rModI (tOp rAddI (tOp rAddI (tOp rMulI (tVar 7) (tVar 7)) (tOp rMulI (tC (.int 16807)) (tVar 7))) (tVar 3)) (tC (.int 2147483549))) (tC (.int 64))) (tVar 1))))))) [some (.loc a), some (.int n), none, some (.int t0), some (.int cell), none, none, none] S1 (outD J P) := by
        obtain ⟨p1, e1, q1, q2⟩ := primes_at (Int.emod_nonneg t0 (show (5 : Int) ≠ 0 by decide)) (Int.emod_lt_of_pos t0 (show (0 : Int) < 5 by decide))
        obtain ⟨p2, e2, q3, q4⟩ := primes_at (Int.emod_nonneg (t0 + 2) (show (5 : Int) ≠ 0 by decide)) (Int.emod_lt_of_pos (t0 + 2) (show (0 : Int) < 5 by decide))
        repeat walk_at "dw"
        refine ⟨by decide, ?_⟩
        repeat walk_at "dw"
        refine o_modP (by decide) ?_
        refine o_ixL .v e1 ?_
        repeat walk_at "dw"
        refine o_modP q1 ?_
        repeat walk_at "dw"
        refine o_mul (.inr ⟨by decide, by decide⟩) ?_
        repeat walk_at "dw"
        refine o_mul (.inl ⟨by decide, by decide⟩) ?_
        repeat walk_at "dw"
        refine o_mul (.inr ⟨by omega, by omega⟩) ?_
        repeat walk_at "dw"
        refine o_mul (.inl ⟨by decide, by decide⟩) ?_
        repeat walk_at "dw"
        refine o_modP q1 ?_
        generalize hz : (cell % p1 * 39373 + 30011 * t0 * t0 + 8117 * t0 + 23) % p1 = z
        have z0 : 0 ≤ z := by rw [← hz]; exact Int.emod_nonneg _ (by omega)
        have z1 : z < p1 := by rw [← hz]; exact Int.emod_lt_of_pos _ q1
        repeat walk_at "dw"
        refine o_mul (.inl ⟨by omega, by omega⟩) ?_
        repeat walk_at "dw"
        refine o_modP (by decide) ?_
        refine o_ixL .v e2 ?_
        refine o_modP q3 ?_
        generalize hy : z * (z + 69621) % p2 = y
        have y0 : 0 ≤ y := by rw [← hy]; exact Int.emod_nonneg _ (by omega)
        have y1 : y < p2 := by rw [← hy]; exact Int.emod_lt_of_pos _ q3
        repeat walk_at "dw"
        refine o_mul (.inl ⟨by omega, by omega⟩) ?_
        repeat walk_at "dw"
        refine o_mul (.inl ⟨by decide, by decide⟩) ?_
        repeat walk_at "dw"
        refine o_modP (by decide) ?_
        repeat walk_at "dw"
        refine o_fdivP (by decide) (by decide) ?_
        repeat walk_at "dw"
        refine o_modP few.1 ?_
        exact .now (fin1 _ (Int.emod_nonneg _ (by have := few.1; omega)) (Int.emod_lt_of_pos _ few.1))
      refine dec_and (fun hl => ?_) (fun hl => ?_)
      · repeat walk_at "dw"
        refine o_pow ⟨by decide, by decide, by decide⟩ ?_
        repeat walk_at "dw"
        refine dec_and (fun hb => ?_) (fun hb => ?_)
        · repeat walk_at "dw"
          refine run_dput ?_
          repeat walk_at "dw"
          refine o_pow ⟨by decide, by decide, by decide⟩ ?_
          repeat walk_at "dw"
          refine o_fdivP few.1 few.2 ?_
          repeat walk_at "dw"
          refine ⟨a, _, .inr "left", rfl, hs1, rfl, (by decide : 3 < PySem.sizeLine), ?_⟩
          repeat walk_at "dw"
          refine o_pow ⟨by decide, by decide, by decide⟩ ?_
          repeat walk_at "dw"
          refine o_modP few.1 ?_
          rw [← hS1, Store.set_set]
          refine .now (p _ _ (Int.emod_nonneg _ (by have := few.1; omega)) (Int.emod_lt_of_pos _ few.1) ⟨cells, t0 + 1, _, rfl, by omega, by omega, Int.ediv_nonneg (by omega) (by have := few.1; omega)⟩)
        · exact run_next tail
      · exact ff_and (run_next tail)
    repeat walk_at "dw"
    refine ⟨_, _, .m hs1, rfl, ?_⟩
    repeat walk_at "dw"
    refine ⟨by decide, ?_⟩
    refine o_neNil pl_ints ?_
    repeat walk_at "dw"
    cases he : (cells.map D.int).isEmpty with
    | true => exact ntt_and (run_next (rest _))
    | false =>
      refine nff_and ?_
      repeat walk_at "dw"
      refine ⟨_, _, .m hs1, rfl, ?_⟩
      repeat walk_at "dw"
      refine ⟨_, _, .m hs1, rfl, ?_⟩
      repeat walk_at "dw"
      refine c_lenSeq .l ?_
      have pos : 0 < cells.length := by
        cases cells with
        | nil => simp at he
        | cons a l => simp
      repeat walk_at "dw"
      rw [List.length_map]
      refine o_modP (by omega) ?_
      have i0 := Int.emod_nonneg t0 (show (cells.length : Int) ≠ 0 by omega)
      have i1 := Int.emod_lt_of_pos t0 (show (0 : Int) < cells.length by omega)
      refine o_ixL .v (atI_nn i0 (ints_at (by omega))) ?_
      exact rest _
end

end K81

set_option maxHeartbeats 410000
namespace K81
open PySem L2 DL PyProof.Rows
local macro_rules | `(tactic| walk_at "dw") => `(tactic| first
  | (with_reducible apply run_seq) | (with_reducible apply run_if)
  | ((with_reducible apply run_set); dsimp only [outD]) | ((with_reducible apply run_next); dsimp only [outD]) | ((with_reducible apply run_ret); dsimp only [outD]) | ((with_reducible apply run_retN); dsimp only [outD]) | ((with_reducible apply run_drop); dsimp only [outD])
  | ((with_reducible apply run_brk); dsimp only [outD]) | ((with_reducible apply run_cont); dsimp only [outD]) | ((with_reducible apply run_asg); dsimp only [outD]) | ((with_reducible apply run_par); dsimp only [outD])
  | (with_reducible apply par_mk)
  | ((with_reducible apply ev_var); · rfl)
  | (with_reducible apply ev_int) | (with_reducible apply ev_str) | (with_reducible apply ev_bl) | (with_reducible apply ev_non) | (with_reducible apply ev_ty)
  | (with_reducible apply ev_dgetS)
  | (with_reducible apply ev_op) | (with_reducible apply ev_un) | (with_reducible apply ea_cons) | (with_reducible apply ea_nil)
  | (with_reducible apply ev_isiT) | (with_reducible apply ev_cb) | (with_reducible apply ev_tup) | (with_reducible apply ev_lstM') | (with_reducible apply ev_lst)
  | (with_reducible apply o_add) | (with_reducible apply o_sub) | (with_reducible apply o_lt) | (with_reducible apply o_le) | (with_reducible apply o_gt) | (with_reducible apply o_ge) | (with_reducible apply o_eqI) | (with_reducible apply o_neI) | (with_reducible apply o_eqS) | (with_reducible apply o_neS) | (with_reducible apply u_neg)
  | (with_reducible apply et_test) | (with_reducible apply et_B) | (with_reducible apply et_not) | (with_reducible apply et_and) | (with_reducible apply et_or) | (with_reducible apply isB)
  | (with_reducible apply ev_andV) | (with_reducible apply ev_orV) | (with_reducible apply ev_notV) | (with_reducible apply ev_if) | (with_reducible apply ev_chain)
  | (with_reducible apply tt_and) | (with_reducible apply ff_and) | (with_reducible apply ntt_and)
  | (with_reducible apply ev_callE) | (with_reducible apply ev_methE) | (with_reducible apply ev_propE)
  | (with_reducible apply eg_name) | (with_reducible apply egs_nil) | (with_reducible apply egs_cons) | ((with_reducible apply eg_tup); · rfl)
  | (with_reducible apply c_abs) | (with_reducible apply c_min2) | (with_reducible apply c_max2) | (with_reducible apply c_int) | (with_reducible apply c_intB)
  | (with_reducible apply ep_cons) | (with_reducible apply ep_nil) | (with_reducible apply ev_sl) | (with_reducible apply eo_none) | (with_reducible apply eo_some) | (with_reducible apply et_yes)
  | (with_reducible apply ev_bm) | (with_reducible apply ev_m1) | (with_reducible apply ei_rng1) | (with_reducible apply ei_rng2) | (with_reducible apply ei_list) | (with_reducible apply ei_tup))
section
variable {K : Frag} {E : XK} {c : Cal} {ex : List (Key × D)}
theorem run__law_pick : ∀ J ds S P PX, J.S = S → C__law_pick ds S P PX → J.X K E PX → Run K J (t__law_pick K) (startD N__law_pick ds) S (outD J P) := by
  rintro J ds S P PX hS ⟨a, m, t, ns, rfl, hs, pn, lo, pos, few, p⟩ hX
  unfold t__law_pick
  repeat walk_at "dw"
  refine c_lenSeq .l ?_
  rw [List.length_map]
  repeat walk_at "dw"
  refine ⟨a, m, t, _, rfl, hs, pn, lo, ⟨by omega, by omega⟩, fun i m' h0 h1 pn' => ?_⟩
  have lt : i.toNat < ns.length := by omega
  refine o_ixL .v (atI_nn h0 (ints_at lt)) ?_
  refine .now (p _ m' ?_ pn')
  rw [List.getD_eq_getElem?_getD, List.getElem?_eq_getElem lt]
  exact List.getElem_mem lt
theorem run__law_great : ∀ J ds S P PX, J.S = S → C__law_great ds S P PX → J.X K E PX → Run K J (t__law_great K) (startD N__law_great ds) S (outD J P) := by
  rintro J ds S P PX hS ⟨a, m, t, k, rfl, hs, pn, lo, k0, k1, p⟩ hX
  have lo1 := lo.1
  have lo2 := lo.2
  unfold t__law_great
  repeat walk_at "dw"
  refine run_for ?_
  repeat walk_at "dw"
  refine ⟨k, rfl, ⟨by omega, by omega⟩, fun i δ' S' => i ≤ k.toNat ∧ ∃ m', PenM m' (t + i) ∧ S' = S.set a m' ∧ ∃ f : Int, 0 ≤ f ∧ ∃ z, δ' = [some (.loc a), some (.int k), some (.int f), z], ⟨Nat.zero_le _, m, by simpa using pn, (Store.set_id hs).symm, 0, by decide, none, rfl⟩, ?_, ?_⟩
  · rintro i x δ' S' hx ⟨hi, m1, pn1, rfl, f, f0, z, rfl⟩
    obtain ⟨lt, rfl⟩ := rgD_get hx
    refine eg_name ?_
    unfold b1__law_great
    repeat walk_at "dw"
    refine o_mul (.inl ⟨by decide, by decide⟩) ?_
    repeat walk_at "dw"
    refine ⟨a, m1, t + i, 10, rfl, Store.set_same, pn1, ⟨by omega, by omega⟩, ⟨by decide, by decide⟩, fun j m2 j0 j1 pn2 => ?_⟩
    rw [Store.set_set]
    repeat walk_at "dw"
    have e : t + ((i + 1 : Nat) : Int) = t + i + 1 := by omega
    exact ⟨lt, m2, by rw [e]; exact pn2, rfl, _, by omega, _, rfl⟩
  · rintro δ' S' ⟨hi, m1, pn1, rfl, f, f0, z, rfl⟩
    rw [rgD_len] at pn1
    have e : t + ((k.toNat : Nat) : Int) = t + k := by omega
    rw [e] at pn1
    repeat walk_at "dw"
    exact .now (p f m1 f0 pn1)
theorem run__law_gcd : ∀ J ds S P PX, J.S = S → C__law_gcd ds S P PX → J.X K E PX → Run K J (t__law_gcd K) (startD N__law_gcd ds) S (outD J P) := by
  rintro J ds S P PX hS ⟨a, b, rfl, p⟩ hX
  unfold t__law_gcd
  repeat walk_at "dw"
  rw [abs_if, abs_if]
  refine run_while (fun m δ' S' => ∃ x y : Int, 0 ≤ x ∧ 0 ≤ y ∧ Int.gcd x y = Int.gcd a b ∧ δ' = [some (.int x), some (.int y)] ∧ S' = S ∧ m = y.toNat) _ ⟨_, _, Int.natCast_nonneg _, Int.natCast_nonneg _, ?_, rfl, rfl, rfl⟩ ?_
  · show Nat.gcd _ _ = Nat.gcd _ _
    rw [Int.natAbs_natCast, Int.natAbs_natCast]
  · rintro m δ' S' ⟨x, y, hx, hy, hg, rfl, rfl, rfl⟩
    repeat walk_at "dw"
    refine dec_and (fun h => ?_) (fun h => ?_)
    · unfold b1__law_gcd
      repeat walk_at "dw"
      refine o_modP h ?_
      repeat walk_at "dw"
      have l1 := Int.emod_nonneg x (show y ≠ 0 by omega)
      have l2 := Int.emod_lt_of_pos x h
      exact ⟨_, by omega, y, x % y, hy, l1, (gcd_step hx hy).trans hg, rfl, rfl, rfl⟩
    · repeat walk_at "dw"
      have e : y = 0 := by omega
      subst e
      rw [Int.gcd_zero_right] at hg
      have e2 : x = (Int.gcd a b : Int) := by rw [← hg]; omega
      rw [e2]
      exact .now p
/-! ### the law's record -/
theorem pl_years : valD (plB c ++ ex) (.inr "years") = some (intssD c.yrs) := rfl
theorem pl_week : valD (plB c ++ ex) (.inr "week") = some (.int c.wk) := rfl
theorem pl_first : valD (plB c ++ ex) (.inr "first") = some (.int c.fst) := rfl
theorem pl_rest : valD (plB c ++ ex) (.inr "rest") = some (intsD c.rest) := rfl
theorem pl_holidays : valD (plB c ++ ex) (.inr "holidays") = some (pairsD c.free) := rfl
theorem pl_days : valD (plB c ++ ex) (.inr "days") = some (.lst ((cyc c.mo 0 c.lens).map quadD)) := rfl
theorem pl_begins : valD (plB c ++ ex) (.inr "begins") = some (intsD ((psums 0 c.lens).dropLast)) := rfl
theorem pl_months : valD (plB c ++ ex) (.inr "months") = some (.int c.mo) := rfl
theorem pl_cycle : valD (plB c ++ ex) (.inr "cycle") = some (.int c.tot) := rfl
theorem cyc_get (mo : Nat) : ∀ (k0 : Nat) (xs : List Int) (r : Int), (∀ x ∈ xs, 0 ≤ x) → 0 ≤ r → r < xs.sum → mIdx xs r < xs.length ∧ (xs.take (mIdx xs r)).sum ≤ r ∧ r < (xs.take (mIdx xs r + 1)).sum ∧
    (cyc mo k0 xs)[r.toNat]? = some ((((k0 + mIdx xs r) / mo : Nat) : Int), (((k0 + mIdx xs r) % mo : Nat) : Int) + 1, r - (xs.take (mIdx xs r)).sum + 1, xs.getD (mIdx xs r) 0)
  | k0, [], r, _, h0, h1 => by simp at h1; omega
  | k0, x :: xs, r, hx, h0, h1 => by
    have hx0 := hx x (List.mem_cons_self ..)
    rw [List.sum_cons] at h1
    by_cases h : r < x
    · rw [mIdx, if_pos h]
      refine ⟨by simp, by simpa using h0, by simpa using h, ?_⟩
      unfold cyc
      rw [List.getElem?_append_left (by rw [List.length_map, List.length_range]; omega), List.getElem?_map, List.getElem?_range (by omega)]
      simp only [Option.map_some, Nat.add_zero, List.take_zero, List.sum_nil, List.getD_cons_zero]
      congr 4
      omega
    · rw [mIdx, if_neg h]
      obtain ⟨a1, a2, a3, a4⟩ := cyc_get mo (k0 + 1) xs (r - x) (fun z hz => hx z (List.mem_cons_of_mem _ hz)) (by omega) (by omega)
      refine ⟨by simpa using a1, ?_, ?_, ?_⟩
      · rw [List.take_succ_cons, List.sum_cons]; omega
      · rw [List.take_succ_cons, List.sum_cons]; omega
      · unfold cyc
        rw [List.getElem?_append_right (by rw [List.length_map, List.length_range]; omega), List.length_map, List.length_range]
        have e : r.toNat - x.toNat = (r - x).toNat := by omega
        rw [e, a4, List.take_succ_cons, List.sum_cons, List.getD_cons_succ]
        have e2 : k0 + 1 + mIdx xs (r - x) = k0 + (mIdx xs (r - x) + 1) := by omega
        rw [e2]
        congr 4
        omega
theorem Cal.Ok.facts (ok : c.Ok) (n : Int) : mIdx c.lens (n % c.tot) < c.lens.length ∧ (cyc c.mo 0 c.lens)[(n % c.tot).toNat]? = some (((mIdx c.lens (n % c.tot) / c.mo : Nat) : Int), (c.mday n).1, (c.mday n).2, c.mdays (c.mnum n)) ∧
    ((mIdx c.lens (n % c.tot) / c.mo : Nat) : Int) + n / c.tot * c.yrs.length = c.mnum n / c.mo := by
  have tp := ok.tot_pos
  have mo := ok.mo2
  have lp := ok.len_pos
  have r0 := Int.emod_nonneg n (show c.tot ≠ 0 by omega)
  have r1 := Int.emod_lt_of_pos n (show 0 < c.tot by omega)
  obtain ⟨a1, a2, a3, a4⟩ := cyc_get c.mo 0 c.lens (n % c.tot) (fun x hx => by have := ok.dpos x hx; omega) r0 r1
  generalize hk : mIdx c.lens (n % c.tot) = k at a1 a2 a3 a4
  have num : c.mnum n = n / c.tot * c.lens.length + (k : Nat) := by unfold Cal.mnum; rw [hk]
  have nmod : c.mnum n % c.lens.length = (k : Int) := by
    rw [num, Int.add_comm, Int.add_mul_emod_self_right]
    exact Int.emod_eq_of_lt (by omega) (by omega)
  have ndiv : c.mnum n / c.lens.length = n / c.tot := by
    rw [num, Int.add_comm, Int.add_mul_ediv_right _ _ (by omega), Int.ediv_eq_zero_of_lt (by omega) (by omega), Int.zero_add]
  have num2 : c.mnum n = (k : Int) + n / c.tot * c.yrs.length * c.mo := by
    rw [num, ok.len, Int.natCast_mul, Int.mul_assoc, Int.add_comm]
  have start : c.mstart (c.mnum n) = n / c.tot * c.tot + (c.lens.take k).sum := by
    unfold Cal.mstart
    rw [nmod, ndiv, Int.toNat_natCast]
  refine ⟨a1, ?_, ?_⟩
  · rw [a4, Nat.zero_add]
    have dm := Int.emod_def n c.tot
    have dm2 := Int.mul_comm (n / c.tot) c.tot
    have e1 : (c.mday n).1 = ((k % c.mo : Nat) : Int) + 1 := by
      show c.mnum n % c.mo + 1 = _
      rw [num2, Int.add_mul_emod_self_right, Int.natCast_emod]
    have e2 : (c.mday n).2 = n % c.tot - (c.lens.take k).sum + 1 := by
      show n - c.mstart (c.mnum n) + 1 = _
      rw [start]
      omega
    have e3 : c.mdays (c.mnum n) = c.lens.getD k 0 := by
      unfold Cal.mdays
      rw [nmod, Int.toNat_natCast]
    rw [e1, e2, e3]
  · rw [num2, Int.add_mul_ediv_right _ _ (by omega), Int.natCast_ediv]
theorem run__law_facts : ∀ J ds S P PX, J.S = S → C__law_facts ds S P PX → J.X K E PX → Run K J (t__law_facts K) (startD N__law_facts ds) S (outD J P) := by
  rintro J ds S P PX hS ⟨d, c, n, rfl, ⟨ex, hd⟩, ok, p⟩ hX
  have tp := ok.tot_pos
  have y2 := ok.y2
  obtain ⟨b1, b2, b3⟩ := ok.facts n
  have r0 := Int.emod_nonneg n (show c.tot ≠ 0 by omega)
  unfold t__law_facts
  repeat walk_at "dw"
  refine ⟨_, _, hd, pl_days, ?_⟩
  repeat walk_at "dw"
  refine ⟨_, _, hd, pl_cycle, ?_⟩
  refine o_modP (by omega) ?_
  refine o_ixL (d := quadD _) .v (atI_nn r0 (by rw [List.getElem?_map, b2]; rfl)) ?_
  refine eg_tup rfl ?_
  repeat walk_at "dw"
  refine ⟨_, _, hd, pl_cycle, ?_⟩
  refine o_fdivP (by omega) (by omega) ?_
  repeat walk_at "dw"
  refine ⟨_, _, hd, pl_years, ?_⟩
  repeat walk_at "dw"
  refine c_lenSeq .l ?_
  rw [List.length_map]
  refine o_mul (.inr ⟨by omega, by omega⟩) ?_
  repeat walk_at "dw"
  refine ⟨(by decide : 4 ≤ PySem.sizeLine), .now ?_⟩
  rw [b3]
  exact p
theorem run__law_weekday : ∀ J ds S P PX, J.S = S → C__law_weekday ds S P PX → J.X K E PX → Run K J (t__law_weekday K) (startD N__law_weekday ds) S (outD J P) := by
  rintro J ds S P PX hS ⟨d, c, n, rfl, ⟨ex, hd⟩, ok, p⟩ hX
  have w1 := ok.w1
  unfold t__law_weekday
  repeat walk_at "dw"
  refine ⟨_, _, hd, pl_first, ?_⟩
  repeat walk_at "dw"
  refine ⟨_, _, hd, pl_week, ?_⟩
  refine o_modP (by omega) ?_
  exact .now p
theorem run__law_is_work : ∀ J ds S P PX, J.S = S → C__law_is_work ds S P PX → J.X K E PX → Run K J (t__law_is_work K) (startD N__law_is_work ds) S (outD J P) := by
  rintro J ds S P PX hS ⟨d, c, n, rfl, ⟨ex, hd⟩, ok, p⟩ hX
  unfold Cal.work at p
  unfold t__law_is_work
  repeat walk_at "dw"
  refine ⟨_, _, _, rfl, ⟨ex, hd⟩, ok, ?_⟩
  refine eg_tup rfl ?_
  repeat walk_at "dw"
  refine ⟨_, _, _, rfl, ⟨ex, hd⟩, ok, ?_⟩
  repeat walk_at "dw"
  refine ⟨_, _, hd, pl_rest, ?_⟩
  refine o_inI .l ?_
  rw [if_pos rfl]
  repeat walk_at "dw"
  refine dec_andN (fun q => ?_) (fun q => ?_)
  · rw [decide_eq_false q] at p
    repeat walk_at "dw"
    refine ⟨(by decide : 2 ≤ PySem.sizeLine), ?_⟩
    repeat walk_at "dw"
    refine ⟨_, _, hd, pl_holidays, ?_⟩
    refine o_notInP (p := c.mday n) ?_
    exact .now p
  · rw [decide_eq_true q] at p
    exact .now p
theorem begins_at {k : Nat} (h : k < c.lens.length) : ((psums 0 c.lens).dropLast.map D.int)[k]? = some (.int (c.lens.take k).sum) := by
  rw [List.getElem?_map, List.getElem?_dropLast, psums_len, if_pos (by omega), psums_get 0 _ _ (by omega), Int.zero_add]
  rfl
theorem run__law_month_begin : ∀ J ds S P PX, J.S = S → C__law_month_begin ds S P PX → J.X K E PX → Run K J (t__law_month_begin K) (startD N__law_month_begin ds) S (outD J P) := by
  rintro J ds S P PX hS ⟨d, c, n, rfl, ⟨ex, hd⟩, ok, p⟩ hX
  have tp := ok.tot_pos
  have lp := ok.len_pos
  have ll := ok.len_le
  have m1 := Int.emod_nonneg n (show (c.lens.length : Int) ≠ 0 by omega)
  have m2 := Int.emod_lt_of_pos n (show 0 < (c.lens.length : Int) by omega)
  have len : (psums 0 c.lens).dropLast.length = c.lens.length := by rw [List.length_dropLast, psums_len]; omega
  unfold t__law_month_begin
  repeat walk_at "dw"
  refine ⟨_, _, hd, pl_begins, ?_⟩
  repeat walk_at "dw"
  refine c_lenSeq .l ?_
  rw [List.length_map, len]
  repeat walk_at "dw"
  refine o_fdivP (by omega) (by omega) ?_
  repeat walk_at "dw"
  refine ⟨_, _, hd, pl_begins, ?_⟩
  repeat walk_at "dw"
  refine o_modP (by omega) ?_
  refine o_ixL .v (atI_nn m1 (begins_at (by omega))) ?_
  repeat walk_at "dw"
  refine ⟨_, _, hd, pl_cycle, ?_⟩
  refine o_mul (.inr ⟨by omega, by omega⟩) ?_
  repeat walk_at "dw"
  rw [Int.add_comm]
  exact .now p
theorem mstart_succ (ok : c.Ok) (n : Int) : c.mstart (n + 1) - c.mstart n = c.mdays n := by
  have lp := ok.len_pos
  have m1 := Int.emod_nonneg n (show (c.lens.length : Int) ≠ 0 by omega)
  have m2 := Int.emod_lt_of_pos n (show 0 < (c.lens.length : Int) by omega)
  have dm := Int.emod_def n c.lens.length
  generalize hr : n % (c.lens.length : Int) = r at m1 m2 dm
  generalize hq : n / (c.lens.length : Int) = q at dm
  have lt : r.toNat < c.lens.length := by omega
  have step : (c.lens.take (r.toNat + 1)).sum = (c.lens.take r.toNat).sum + c.lens.getD r.toNat 0 := by
    rw [List.take_add_one, List.getD_eq_getElem?_getD, List.getElem?_eq_getElem lt, List.sum_append]
    simp
  have e0 : c.mstart n = q * c.tot + (c.lens.take r.toNat).sum := by unfold Cal.mstart; rw [hr, hq]
  have e1 : c.mdays n = c.lens.getD r.toNat 0 := by unfold Cal.mdays; rw [hr]
  have n1 : n + 1 = (r + 1) + q * (c.lens.length : Int) := by rw [Int.mul_comm]; omega
  by_cases h : r + 1 < c.lens.length
  · have em : (n + 1) % (c.lens.length : Int) = r + 1 := by rw [n1, Int.add_mul_emod_self_right]; exact Int.emod_eq_of_lt (by omega) h
    have ed : (n + 1) / (c.lens.length : Int) = q := by rw [n1, Int.add_mul_ediv_right _ _ (by omega), Int.ediv_eq_zero_of_lt (by omega) h, Int.zero_add]
    have e2 : c.mstart (n + 1) = q * c.tot + (c.lens.take (r.toNat + 1)).sum := by
      unfold Cal.mstart
      rw [em, ed, show (r + 1).toNat = r.toNat + 1 by omega]
    rw [e2, e0, e1, step]
    omega
  · have er : r + 1 = (c.lens.length : Int) := by omega
    have n2 : n + 1 = 0 + (q + 1) * (c.lens.length : Int) := by rw [Int.add_mul]; omega
    have em : (n + 1) % (c.lens.length : Int) = 0 := by rw [n2, Int.add_mul_emod_self_right]; rfl
    have ed : (n + 1) / (c.lens.length : Int) = q + 1 := by rw [n2, Int.add_mul_ediv_right _ _ (by omega), Int.ediv_eq_zero_of_lt (by omega) (by omega), Int.zero_add]
    have e2 : c.mstart (n + 1) = (q + 1) * c.tot := by
      unfold Cal.mstart
      rw [em, ed]
      simp
    have full : (c.lens.take (r.toNat + 1)).sum = c.tot := by
      rw [show r.toNat + 1 = c.lens.length by omega]
      exact sum_tot
    rw [full] at step
    rw [e2, e0, e1, Int.add_mul]
    omega
end

end K81

set_option maxHeartbeats 410000
namespace K81
open PySem L2 DL PyProof.Rows
local macro_rules | `(tactic| walk_at "dw") => `(tactic| first
  | (with_reducible apply run_seq) | (with_reducible apply run_if)
  | ((with_reducible apply run_set); dsimp only [outD]) | ((with_reducible apply run_next); dsimp only [outD]) | ((with_reducible apply run_ret); dsimp only [outD]) | ((with_reducible apply run_retN); dsimp only [outD]) | ((with_reducible apply run_drop); dsimp only [outD])
  | ((with_reducible apply run_brk); dsimp only [outD]) | ((with_reducible apply run_cont); dsimp only [outD]) | ((with_reducible apply run_asg); dsimp only [outD]) | ((with_reducible apply run_par); dsimp only [outD])
  | (with_reducible apply par_mk)
  | ((with_reducible apply ev_var); · rfl)
  | (with_reducible apply ev_int) | (with_reducible apply ev_str) | (with_reducible apply ev_bl) | (with_reducible apply ev_non) | (with_reducible apply ev_ty)
  | (with_reducible apply ev_dgetS)
  | (with_reducible apply ev_op) | (with_reducible apply ev_un) | (with_reducible apply ea_cons) | (with_reducible apply ea_nil)
  | (with_reducible apply ev_isiT) | (with_reducible apply ev_cb) | (with_reducible apply ev_tup) | (with_reducible apply ev_lstM') | (with_reducible apply ev_lst)
  | (with_reducible apply o_add) | (with_reducible apply o_sub) | (with_reducible apply o_lt) | (with_reducible apply o_le) | (with_reducible apply o_gt) | (with_reducible apply o_ge) | (with_reducible apply o_eqI) | (with_reducible apply o_neI) | (with_reducible apply o_eqS) | (with_reducible apply o_neS) | (with_reducible apply u_neg)
  | (with_reducible apply et_test) | (with_reducible apply et_B) | (with_reducible apply et_not) | (with_reducible apply et_and) | (with_reducible apply et_or) | (with_reducible apply isB)
  | (with_reducible apply ev_andV) | (with_reducible apply ev_orV) | (with_reducible apply ev_notV) | (with_reducible apply ev_if) | (with_reducible apply ev_chain)
  | (with_reducible apply tt_and) | (with_reducible apply ff_and) | (with_reducible apply ntt_and)
  | (with_reducible apply ev_callE) | (with_reducible apply ev_methE) | (with_reducible apply ev_propE)
  | (with_reducible apply eg_name) | (with_reducible apply egs_nil) | (with_reducible apply egs_cons) | ((with_reducible apply eg_tup); · rfl)
  | (with_reducible apply c_abs) | (with_reducible apply c_min2) | (with_reducible apply c_max2) | (with_reducible apply c_int) | (with_reducible apply c_intB)
  | (with_reducible apply ep_cons) | (with_reducible apply ep_nil) | (with_reducible apply ev_sl) | (with_reducible apply eo_none) | (with_reducible apply eo_some) | (with_reducible apply et_yes)
  | (with_reducible apply ev_bm) | (with_reducible apply ev_m1) | (with_reducible apply ei_rng1) | (with_reducible apply ei_rng2) | (with_reducible apply ei_list) | (with_reducible apply ei_tup))
section
variable {K : Frag} {E : XK} {c : Cal} {ex : List (Key × D)}
theorem run__law_month : ∀ J ds S P PX, J.S = S → C__law_month ds S P PX → J.X K E PX → Run K J (t__law_month K) (startD N__law_month ds) S (outD J P) := by
  rintro J ds S P PX hS ⟨d, c, y, m, rfl, ⟨ex, hd⟩, ok, m1, m2, p⟩ hX
  have mo := ok.mo2
  have bd := mdays_bd ok (y * c.mo + m - 1)
  have bd2 := mdays_bd' ok (y * c.mo + m - 1)
  have st := mstart_succ ok (y * c.mo + m - 1)
  unfold t__law_month
  repeat walk_at "dw"
  refine ⟨_, _, hd, pl_months, ?_⟩
  refine o_mul (.inr ⟨by omega, by omega⟩) ?_
  repeat walk_at "dw"
  refine ev_lstRg2 ?_
  repeat walk_at "dw"
  refine ⟨_, _, _, rfl, ⟨ex, hd⟩, ok, ?_⟩
  repeat walk_at "dw"
  refine ⟨_, _, _, rfl, ⟨ex, hd⟩, ok, ?_⟩
  (refine ⟨_, _, rfl, rfl, ?_, ?_⟩)
  · rw [st]; exact Nat.le_trans bd2 (by decide)
  rw [st]
  repeat walk_at "dw"
  refine c_strI ?_ ?_
  · have e : m.natAbs < 2 ^ 1920 := Nat.lt_of_lt_of_le (show m.natAbs < 2 ^ 4 by omega) (Nat.pow_le_pow_right (by decide) (by decide))
    exact (Nat.log2_lt (by omega)).mpr e
  refine ⟨ty_str, ?_⟩
  repeat walk_at "dw"
  refine m_rjust (by decide) ?_
  repeat walk_at "dw"
  refine ⟨⟨_, rfl⟩, ?_⟩
  refine ev_lcP (fun i => D.str (if c.work (c.mstart (y * c.mo + m - 1) + (i : Int)) then " ." else " o")) (gk_name (by decide)) ?_
  repeat walk_at "dw"
  refine ⟨_, rfl, by rw [rgD_len]; exact Nat.le_trans bd2 (by decide), fun i x hx => ?_, ?_⟩
  · obtain ⟨lt, rfl⟩ := rgD_get hx
    repeat walk_at "dw"
    refine ⟨_, _, _, rfl, ⟨ex, hd⟩, ok, ?_⟩
    repeat walk_at "dw"
    cases c.work (c.mstart (y * c.mo + m - 1) + (i : Int)) with
    | true => repeat walk_at "dw"
              exact ⟨rfl, rfl⟩
    | false => repeat walk_at "dw"
               exact ⟨rfl, rfl⟩
  have gd : ∀ z ∈ ((List.range (c.mdays (y * c.mo + m - 1)).toNat).map fun (i : Nat) => (if c.work (c.mstart (y * c.mo + m - 1) + (i : Int)) then " ." else " o" : Str)), Good 2 z := fun z hz => by
    obtain ⟨i, _, rfl⟩ := List.mem_map.mp hz
    split
    · exact good_work
    · exact good_free
  refine m_join (ys := (List.range (c.mdays (y * c.mo + m - 1)).toNat).map fun (i : Nat) => (if c.work (c.mstart (y * c.mo + m - 1) + (i : Int)) then " ." else " o" : Str)) ?_ ?_ ?_
  · rw [rgD_len, List.map_map]
    exact .l
  · have := sum_good gd
    rw [List.length_map, List.length_range] at this ⊢
    show _ + _ * 0 ≤ _
    omega
  · have gl := good_line ok (y := y) m1 m2
    refine o_addS ?_ ?_
    · rw [← Str.length_append]
      exact Nat.le_trans gl.1 (by decide)
    · exact .now p
theorem run__law_calendar (F : Fx K) : ∀ J ds S P PX, J.S = S → C__law_calendar K ds S P PX → J.X K E PX → Run K J (t__law_calendar K) (startD N__law_calendar ds) S (outD J P) := by
  rintro J ds S P PX hS ⟨c, ws, ahead, rfl, sm, small, wk, p⟩ hX
  have ok : c.Ok := sm.toOk
  unfold t__law_calendar
  repeat walk_at "dw"
  refine ⟨_, _, .v, pl_rest, ?_⟩
  repeat walk_at "dw"
  refine c_tupOf .l ?_
  repeat walk_at "dw"
  refine ⟨_, _, .v, pl_holidays, ?_⟩
  repeat walk_at "dw"
  refine c_tupOf .l ?_
  repeat walk_at "dw"
  refine ev_makeN (PX := PX0) XkOk.none ?_
  repeat walk_at "dw"
  refine ⟨_, _, .v, pl_years, ?_⟩
  repeat walk_at "dw"
  refine ⟨_, _, .v, pl_week, ?_⟩
  repeat walk_at "dw"
  refine ⟨_, _, .v, pl_first, ?_⟩
  repeat walk_at "dw"
  refine ⟨rfl, rfl, fun x hx hx2 => ⟨x, c, rfl, Store.set_same, ok, sm.f1, sm.f2, sm.r1, sm.r3, sm.r2, sm.h1, sm.h2, sm.h3, small, wk, fun rest free ws hr hf => ?_⟩⟩
  rw [Store.set_set]
  refine ⟨rfl, .inr ⟨_, Store.set_same, ?_⟩⟩
  rw [Store.del_set hx]
  exact .now (p rest free ws hr hf)
end

end K81

set_option maxHeartbeats 410000
namespace K81
open PySem L2 DL PyProof.Rows
local macro_rules | `(tactic| walk_at "dw") => `(tactic| first
  | (with_reducible apply run_seq) | (with_reducible apply run_if)
  | ((with_reducible apply run_set); dsimp only [outD]) | ((with_reducible apply run_next); dsimp only [outD]) | ((with_reducible apply run_ret); dsimp only [outD]) | ((with_reducible apply run_retN); dsimp only [outD]) | ((with_reducible apply run_drop); dsimp only [outD])
  | ((with_reducible apply run_brk); dsimp only [outD]) | ((with_reducible apply run_cont); dsimp only [outD]) | ((with_reducible apply run_asg); dsimp only [outD]) | ((with_reducible apply run_par); dsimp only [outD])
  | (with_reducible apply par_mk)
  | ((with_reducible apply ev_var); · rfl)
  | (with_reducible apply ev_int) | (with_reducible apply ev_str) | (with_reducible apply ev_bl) | (with_reducible apply ev_non) | (with_reducible apply ev_ty)
  | (with_reducible apply ev_dgetS)
  | (with_reducible apply ev_op) | (with_reducible apply ev_un) | (with_reducible apply ea_cons) | (with_reducible apply ea_nil)
  | (with_reducible apply ev_isiT) | (with_reducible apply ev_cb) | (with_reducible apply ev_tup) | (with_reducible apply ev_lstM') | (with_reducible apply ev_lst)
  | (with_reducible apply o_add) | (with_reducible apply o_sub) | (with_reducible apply o_lt) | (with_reducible apply o_le) | (with_reducible apply o_gt) | (with_reducible apply o_ge) | (with_reducible apply o_eqI) | (with_reducible apply o_neI) | (with_reducible apply o_eqS) | (with_reducible apply o_neS) | (with_reducible apply u_neg)
  | (with_reducible apply et_test) | (with_reducible apply et_B) | (with_reducible apply et_not) | (with_reducible apply et_and) | (with_reducible apply et_or) | (with_reducible apply isB)
  | (with_reducible apply ev_andV) | (with_reducible apply ev_orV) | (with_reducible apply ev_notV) | (with_reducible apply ev_if) | (with_reducible apply ev_chain)
  | (with_reducible apply tt_and) | (with_reducible apply ff_and) | (with_reducible apply ntt_and)
  | (with_reducible apply ev_callE) | (with_reducible apply ev_methE) | (with_reducible apply ev_propE)
  | (with_reducible apply eg_name) | (with_reducible apply egs_nil) | (with_reducible apply egs_cons) | ((with_reducible apply eg_tup); · rfl)
  | (with_reducible apply c_abs) | (with_reducible apply c_min2) | (with_reducible apply c_max2) | (with_reducible apply c_int) | (with_reducible apply c_intB)
  | (with_reducible apply ep_cons) | (with_reducible apply ep_nil) | (with_reducible apply ev_sl) | (with_reducible apply eo_none) | (with_reducible apply eo_some) | (with_reducible apply et_yes)
  | (with_reducible apply ev_bm) | (with_reducible apply ev_m1) | (with_reducible apply ei_rng1) | (with_reducible apply ei_rng2) | (with_reducible apply ei_list) | (with_reducible apply ei_tup))
section
variable {K : Frag} {E : XK} {c : Cal} {ex : List (Key × D)}
theorem flat_get {m : Nat} : ∀ (yrs : List (List Int)) (r k : Nat) (y : List Int), (∀ y ∈ yrs, y.length = m) → yrs[r]? = some y → k < m → yrs.flatten[r * m + k]? = y[k]?
  | [], r, k, y, _, h, _ => by simp at h
  | x :: xs, 0, k, y, hm, h, hk => by
    have e : x = y := by simpa using h
    subst e
    rw [List.flatten_cons, Nat.zero_mul, Nat.zero_add, List.getElem?_append_left (by rw [hm x (List.mem_cons_self ..)]; exact hk)]
  | x :: xs, r + 1, k, y, hm, h, hk => by
    rw [List.flatten_cons, List.getElem?_append_right (by rw [hm x (List.mem_cons_self ..), Nat.add_mul]; omega), hm x (List.mem_cons_self ..)]
    rw [show (r + 1) * m + k - m = r * m + k by rw [Nat.add_mul]; omega]
    exact flat_get xs r k y (fun z hz => hm z (List.mem_cons_of_mem _ hz)) (by simpa using h) hk
def gLeap (n : Int) : Bool := decide (n % 4 = 0) && (!decide (n % 100 = 0) || decide (n % 400 = 0))
def gLeaps (n : Int) : Int := (n + 3) / 4 - (n + 99) / 100 + (n + 399) / 400
def gDay (b : Bool) (k : Nat) : Int := ([31, 28 + (if b then 1 else 0), 31, 30, 31, 30, 31, 31, 30, 31, 30, 31] : List Int).getD k 0
theorem gMo (rest : List Int) : (gCal rest).mo = 12 := by show (gYears.headD []).length = 12; decide +kernel
theorem gLen (rest : List Int) : (gCal rest).lens.length = 4800 := by show gYears.flatten.length = 4800; decide +kernel
theorem gDays (rest : List Int) (n : Int) {k : Nat} (hk : k < 12) : (gCal rest).mdays (n * 12 + k) = gDay (gLeap n) k := by
  unfold Cal.mdays
  rw [gLen]
  have e1 : ((n * 12 + (k : Int)) % ((4800 : Nat) : Int)).toNat = (n % 400).toNat * 12 + k := by omega
  rw [e1, List.getD_eq_getElem?_getD]
  have lt : (n % 400).toNat < 400 := by omega
  have h12 : ∀ y ∈ gYears, y.length = 12 := by decide +kernel
  have at_ : gYears[(n % 400).toNat]? = some [31, if (n % 400).toNat % 4 = 0 ∧ ((n % 400).toNat % 100 ≠ 0 ∨ (n % 400).toNat = 0) then 29 else 28, 31, 30, 31, 30, 31, 31, 30, 31, 30, 31] := by
    unfold gYears
    rw [List.getElem?_map, List.getElem?_range lt]
    rfl
  show (gYears.flatten[_]?).getD 0 = _
  rw [flat_get gYears _ k _ h12 at_ hk]
  have e : k = 0 ∨ k = 1 ∨ k = 2 ∨ k = 3 ∨ k = 4 ∨ k = 5 ∨ k = 6 ∨ k = 7 ∨ k = 8 ∨ k = 9 ∨ k = 10 ∨ k = 11 := by omega
  rcases e with rfl | rfl | rfl | rfl | rfl | rfl | rfl | rfl | rfl | rfl | rfl | rfl
  · rfl
  · show (if (n % 400).toNat % 4 = 0 ∧ ((n % 400).toNat % 100 ≠ 0 ∨ (n % 400).toNat = 0) then (29 : Int) else 28) = 28 + (if gLeap n then 1 else 0)
    unfold gLeap
    by_cases a : n % 4 = 0
    · by_cases b : n % 100 = 0
      · by_cases d : n % 400 = 0
        · rw [if_pos ⟨by omega, .inr (by omega)⟩]; simp [a, b, d]
        · rw [if_neg (by omega)]; simp [a, b, d]
      · rw [if_pos ⟨by omega, .inl (by omega)⟩]; simp [a, b]
    · rw [if_neg (by omega)]; simp [a]
  all_goals rfl
theorem gLeaps_succ (n : Int) : gLeaps (n + 1) = gLeaps n + (if gLeap n then 1 else 0) := by
  unfold gLeaps gLeap
  by_cases a : n % 4 = 0
  · by_cases b : n % 100 = 0
    · by_cases d : n % 400 = 0
      · simp only [a, b, d, decide_true, Bool.not_true, Bool.or_true, Bool.and_true, if_true]; omega
      · simp only [a, b, d, decide_true, decide_false, Bool.not_true, Bool.or_false, Bool.and_false, Bool.false_eq_true, if_false]; omega
    · simp only [a, b, decide_true, decide_false, Bool.not_false, Bool.true_or, Bool.and_true, if_true]; omega
  · simp only [a, decide_false, Bool.false_and, Bool.false_eq_true, if_false]; omega
theorem gYear_step (rest : List Int) (n : Int) : (gCal rest).mstart ((n + 1) * 12) = (gCal rest).mstart (n * 12) + 365 + (if gLeap n then 1 else 0) := by
  have s : ∀ k : Nat, k < 12 → (gCal rest).mstart (n * 12 + (k : Int) + 1) = (gCal rest).mstart (n * 12 + (k : Int)) + gDay (gLeap n) k := fun k hk => by
    have h1 := mstart_succ (gOk rest) (n * 12 + (k : Int))
    rw [gDays rest n hk] at h1
    omega
  have e0 := s 0 (by decide); have e1 := s 1 (by decide); have e2 := s 2 (by decide); have e3 := s 3 (by decide); have e4 := s 4 (by decide); have e5 := s 5 (by decide)
  have e6 := s 6 (by decide); have e7 := s 7 (by decide); have e8 := s 8 (by decide); have e9 := s 9 (by decide); have e10 := s 10 (by decide); have e11 := s 11 (by decide)
  have p : (n + 1) * 12 = n * 12 + ((11 : Nat) : Int) + 1 := by omega
  rw [p]
  simp only [gDay, List.getD_cons_zero, List.getD_cons_succ] at e0 e1 e2 e3 e4 e5 e6 e7 e8 e9 e10 e11
  have q0 : n * 12 + ((0 : Nat) : Int) = n * 12 := by omega
  have q : ∀ k : Nat, n * 12 + ((k : Nat) : Int) + 1 = n * 12 + ((k + 1 : Nat) : Int) := fun k => by omega
  rw [q] at e0 e1 e2 e3 e4 e5 e6 e7 e8 e9 e10
  rw [q0] at e0
  generalize (gCal rest).mstart (n * 12) = z0 at *
  generalize (gCal rest).mstart (n * 12 + ((0 + 1 : Nat) : Int)) = z1 at *
  generalize (gCal rest).mstart (n * 12 + ((1 + 1 : Nat) : Int)) = z2 at *
  generalize (gCal rest).mstart (n * 12 + ((2 + 1 : Nat) : Int)) = z3 at *
  generalize (gCal rest).mstart (n * 12 + ((3 + 1 : Nat) : Int)) = z4 at *
  generalize (gCal rest).mstart (n * 12 + ((4 + 1 : Nat) : Int)) = z5 at *
  generalize (gCal rest).mstart (n * 12 + ((5 + 1 : Nat) : Int)) = z6 at *
  generalize (gCal rest).mstart (n * 12 + ((6 + 1 : Nat) : Int)) = z7 at *
  generalize (gCal rest).mstart (n * 12 + ((7 + 1 : Nat) : Int)) = z8 at *
  generalize (gCal rest).mstart (n * 12 + ((8 + 1 : Nat) : Int)) = z9 at *
  generalize (gCal rest).mstart (n * 12 + ((9 + 1 : Nat) : Int)) = z10 at *
  generalize (gCal rest).mstart (n * 12 + ((10 + 1 : Nat) : Int)) = z11 at *
  omega
theorem gStart (rest : List Int) (n : Int) : (gCal rest).mstart (n * 12) = 365 * n + gLeaps n := by
  have zero : (gCal rest).mstart (0 * 12) = 365 * 0 + gLeaps 0 := by
    unfold Cal.mstart
    rw [gLen]
    show (0 * 12 : Int) / ((4800 : Nat) : Int) * _ + (List.take 0 _).sum = _
    simp [gLeaps]
  have up : ∀ i : Nat, (gCal rest).mstart ((i : Int) * 12) = 365 * (i : Int) + gLeaps i := fun i => by
    induction i with
    | zero => exact zero
    | succ i ih =>
      have h1 := gYear_step rest i
      have h2 := gLeaps_succ i
      rw [Int.natCast_add, Int.natCast_one, h1, h2, ih]
      omega
  have down : ∀ i : Nat, (gCal rest).mstart (-(i : Int) * 12) = 365 * -(i : Int) + gLeaps (-(i : Int)) := fun i => by
    induction i with
    | zero => exact zero
    | succ i ih =>
      have h1 := gYear_step rest (-((i + 1 : Nat) : Int))
      have h2 := gLeaps_succ (-((i + 1 : Nat) : Int))
      have e : -((i + 1 : Nat) : Int) + 1 = -(i : Int) := by omega
      rw [e] at h1 h2
      rw [ih, h2] at h1
      omega
  rcases Int.eq_nat_or_neg n with ⟨i, rfl | rfl⟩
  · exact up i
  · exact down i
theorem gWork {rest : List Int} (h : rest.Perm [5, 6]) (d : Int) : (gCal rest).work d = !decide ((d + 5) % 7 ∈ ([5, 6] : List Int)) := by
  show (!decide ((d + 5) % 7 ∈ rest) && !decide (_ ∈ ([] : List (Int × Int)))) = _
  have e : decide ((d + 5) % 7 ∈ rest) = decide ((d + 5) % 7 ∈ ([5, 6] : List Int)) := decide_eq_decide.mpr h.mem_iff
  rw [e]
  simp
theorem o_addS' {J : Jd} {S : Store} {P : D → Store → Prop} {a b : Str} (hz : a.length + b.length ≤ PySem.sizeLine) (p : P (.str (a ++ b)) S) : Op K J rAddS (.str a) (.str b) S P := o_addS hz p
theorem gLine {rest : List Int} (h : rest.Perm [5, 6]) (n : Int) {k : Nat} (hk : k < 12) : (gCal rest).line n ((k : Int) + 1) = Txt.rjust (toString ((k : Int) + 1)) 3 ++ Txt.join Str.empty ((List.range (gDay (gLeap n) k).toNat).map fun (i : Nat) =>
    if decide (((gCal rest).mstart (n * 12 + (k : Int)) + (i : Int) + 5) % 7 ∈ ([5, 6] : List Int)) then " o" else " .") := by
  unfold Cal.line
  have e : n * ((gCal rest).mo : Int) + ((k : Int) + 1) - 1 = n * 12 + (k : Int) := by rw [gMo]; omega
  rw [e]
  dsimp only
  rw [gDays rest n hk]
  congr 2
  (refine List.map_congr_left fun i _ => ?_)
  rw [gWork h]
  cases decide (((gCal rest).mstart (n * 12 + (k : Int)) + (i : Int) + 5) % 7 ∈ ([5, 6] : List Int)) <;> rfl
theorem gDay_bd (b : Bool) {k : Nat} (hk : k < 12) : 28 ≤ gDay b k ∧ gDay b k ≤ 31 := by
  have e : k = 0 ∨ k = 1 ∨ k = 2 ∨ k = 3 ∨ k = 4 ∨ k = 5 ∨ k = 6 ∨ k = 7 ∨ k = 8 ∨ k = 9 ∨ k = 10 ∨ k = 11 := by omega
  rcases e with rfl | rfl | rfl | rfl | rfl | rfl | rfl | rfl | rfl | rfl | rfl | rfl <;> cases b <;> decide
theorem gDay_at (b : Bool) {k : Nat} (hk : k < 12) : L2.atI [D.int 31, D.int (28 + (if b = true then 1 else 0)), D.int 31, D.int 30, D.int 31, D.int 30, D.int 31, D.int 31, D.int 30, D.int 31, D.int 30, D.int 31] (k : Int) = some (.int (gDay b k)) := by
  have e : k = 0 ∨ k = 1 ∨ k = 2 ∨ k = 3 ∨ k = 4 ∨ k = 5 ∨ k = 6 ∨ k = 7 ∨ k = 8 ∨ k = 9 ∨ k = 10 ∨ k = 11 := by omega
  rcases e with rfl | rfl | rfl | rfl | rfl | rfl | rfl | rfl | rfl | rfl | rfl | rfl <;> exact L2.atI_nat rfl
theorem run__law_gregorian : ∀ J ds S P PX, J.S = S → C__law_gregorian ds S P PX → J.X K E PX → Run K J (t__law_gregorian K) (startD N__law_gregorian ds) S (outD J P) := by
  rintro J ds S P PX hS ⟨n, rfl, p⟩ hX
  unfold t__law_gregorian
  refine run_seq (run_set (Ev.imp (P := fun d S1 => d = .bl (gLeap n) ∧ S1 = S) ?_ fun d S1 h => ?_))
  · unfold gLeap
    repeat walk_at "dw"
    refine o_modP (by decide) ?_
    repeat walk_at "dw"
    refine dec_and (fun q => ?_) (fun q => ?_)
    · repeat walk_at "dw"
      refine o_modP (by decide) ?_
      repeat walk_at "dw"
      refine dec_andN (fun r => ?_) (fun r => ?_)
      · exact ⟨by simp [q, r], rfl⟩
      · repeat walk_at "dw"
        refine o_modP (by decide) ?_
        repeat walk_at "dw"
        exact ⟨by simp [q, r], rfl⟩
    · exact ⟨by simp [q], rfl⟩
  obtain ⟨rfl, rfl⟩ := h
  dsimp only [outD]
  have pre : ∀ rest : List Int, rest.Perm [5, 6] → (gCal rest).mstart (n * 12) = 365 * n + gLeaps n := fun rest _ => gStart rest n
  have g0 := gStart [5, 6] n
  repeat walk_at "dw"
  refine o_fdivP (by decide) (by decide) ?_
  repeat walk_at "dw"
  refine o_fdivP (by decide) (by decide) ?_
  repeat walk_at "dw"
  refine o_fdivP (by decide) (by decide) ?_
  repeat walk_at "dw"
  refine o_mul (.inl ⟨by decide, by decide⟩) ?_
  repeat walk_at "dw"
  refine ⟨by decide, fun q hq hq2 => ?_⟩
  repeat walk_at "dw"
  refine ⟨(by decide : 2 ≤ PySem.sizeLine), ?_⟩
  repeat walk_at "dw"
  have hq1 : S1 q = none := hq
  refine run_for ?_
  repeat walk_at "dw"
  refine ⟨12, rfl, ⟨by decide, by decide⟩, fun i δ' S' => i ≤ 12 ∧ S' = S1.set q (.lst ((List.range i).map fun (j : Nat) => D.str ((gCal [5, 6]).line n ((j : Int) + 1)))) ∧
    ∃ z1 z2 z3 z4, δ' = [some (.int n), some (.bl (gLeap n)), some (.int (gLeaps n)), some (.int ((gCal [5, 6]).mstart (n * 12 + (i : Int)) + 5)), some (.loc q), z1, z2, z3, z4], ⟨by decide, rfl, none, none, none, none, ?_⟩, ?_, ?_⟩
  · have e : (gCal [5, 6]).mstart (n * 12 + ((0 : Nat) : Int)) = 365 * n + gLeaps n := by rw [← g0]; congr 1; omega
    rw [e]
    rfl
  · rintro i x δ' S' hx ⟨hi, rfl, z1, z2, z3, z4, rfl⟩
    obtain ⟨lt, rfl⟩ := rgD_get hx
    have lt2 : i < 12 := lt
    have bd := gDay_bd (gLeap n) lt2
    rw [Int.zero_add]
    refine eg_name ?_
    unfold b1__law_gregorian
    repeat walk_at "dw"
    refine ⟨(by decide : 12 ≤ PySem.sizeLine), ?_⟩
    repeat walk_at "dw"
    refine o_ixL .v (gDay_at (gLeap n) lt2) ?_
    refine run_seq (run_set ?_)
    refine ev_lcP (fun j => D.str (if decide (((gCal [5, 6]).mstart (n * 12 + (i : Int)) + (j : Int) + 5) % 7 ∈ ([5, 6] : List Int)) then " o" else " .")) (gk_name (by decide)) ?_
    repeat walk_at "dw"
    refine ⟨_, rfl, ⟨by omega, by omega⟩, by rw [rgD_len]; exact Nat.le_trans (show (gDay (gLeap n) i).toNat ≤ 31 by omega) (by decide), fun j x hx => ?_, ?_⟩
    · obtain ⟨ltj, rfl⟩ := rgD_get hx
      repeat walk_at "dw"
      refine o_modP (by decide) ?_
      repeat walk_at "dw"
      refine ⟨(by decide : 2 ≤ PySem.sizeLine), ?_⟩
      refine o_inI (ns := [5, 6]) .t ?_
      rw [if_neg Bool.false_ne_true, Int.zero_add]
      have e : (gCal [5, 6]).mstart (n * 12 + (i : Int)) + 5 + (j : Int) = (gCal [5, 6]).mstart (n * 12 + (i : Int)) + (j : Int) + 5 := by omega
      rw [e]
      repeat walk_at "dw"
      cases decide (((gCal [5, 6]).mstart (n * 12 + (i : Int)) + (j : Int) + 5) % 7 ∈ ([5, 6] : List Int)) with
      | true => repeat walk_at "dw"
                exact ⟨rfl, rfl⟩
      | false => repeat walk_at "dw"
                 exact ⟨rfl, rfl⟩
    rw [rgD_len]
    dsimp only
    have gl := good_line (gOk [5, 6]) (y := n) (m := (i : Int) + 1) (by omega) (by rw [gMo]; omega)
    have el := gLine (List.Perm.refl [5, 6]) n lt2
    repeat walk_at "dw"
    refine ⟨ty_list (.m Store.set_same), ?_⟩
    repeat walk_at "dw"
    refine c_strI ?_ ?_
    · have e : ((i : Int) + 1).natAbs < 2 ^ 1920 := Nat.lt_of_lt_of_le (show ((i : Int) + 1).natAbs < 2 ^ 4 by omega) (Nat.pow_le_pow_right (by decide) (by decide))
      exact (Nat.log2_lt (by omega)).mpr e
    refine ⟨ty_str, ?_⟩
    repeat walk_at "dw"
    refine m_rjust (by decide) ?_
    repeat walk_at "dw"
    refine ⟨⟨_, rfl⟩, ?_⟩
    repeat walk_at "dw"
    refine m_join (ys := (List.range (gDay (gLeap n) i).toNat).map fun (j : Nat) => (if decide (((gCal [5, 6]).mstart (n * 12 + (i : Int)) + (j : Int) + 5) % 7 ∈ ([5, 6] : List Int)) then " o" else " ." : Str)) ?_ ?_ ?_
    · rw [List.map_map]
      exact .l
    · have gd : ∀ z ∈ ((List.range (gDay (gLeap n) i).toNat).map fun (j : Nat) => (if decide (((gCal [5, 6]).mstart (n * 12 + (i : Int)) + (j : Int) + 5) % 7 ∈ ([5, 6] : List Int)) then " o" else " ." : Str)), Good 2 z := fun z hz => by
        obtain ⟨j, _, rfl⟩ := List.mem_map.mp hz
        split
        · exact good_free
        · exact good_work
      have := sum_good gd
      rw [List.length_map, List.length_range] at this ⊢
      show _ + _ * 0 ≤ _
      omega
    refine o_addS ?_ ?_
    · rw [← Str.length_append]
      show (Txt.rjust (toString ((i : Int) + 1)) 3 ++ Txt.join Str.empty _).length ≤ _
      rw [← el]
      exact Nat.le_trans gl.1 (by decide)
    have el2 : Txt.rjust (toString ((i : Int) + 1)) 3 ++ Txt.join "" ((List.range (gDay (gLeap n) i).toNat).map fun (j : Nat) => (if decide (((gCal [5, 6]).mstart (n * 12 + (i : Int)) + (j : Int) + 5) % 7 ∈ ([5, 6] : List Int)) then " o" else " ." : Str)) = (gCal [5, 6]).line n ((i : Int) + 1) := el.symm
    rw [el2]
    repeat walk_at "dw"
    refine m_append Store.set_same ?_ ?_
    · rw [List.length_map, List.length_range]; exact Nat.lt_of_le_of_lt hi (by decide)
    rw [Store.set_set]
    repeat walk_at "dw"
    have ms := mstart_succ (gOk [5, 6]) (n * 12 + (i : Int))
    rw [gDays [5, 6] n lt2] at ms
    have e3 : (gCal [5, 6]).mstart (n * 12 + (i : Int)) + 5 + gDay (gLeap n) i = (gCal [5, 6]).mstart (n * 12 + ((i + 1 : Nat) : Int)) + 5 := by
      have e4 : n * 12 + ((i + 1 : Nat) : Int) = n * 12 + (i : Int) + 1 := by omega
      rw [e4]
      omega
    rw [e3]
    exact ⟨lt2, by rw [range_map_succ], _, _, _, _, rfl⟩
  · rintro δ' S' ⟨hi, rfl, z1, z2, z3, z4, rfl⟩
    rw [rgD_len]
    refine run_frz (i := 4) rfl Store.set_same (by rw [hS]; exact hq1) ?_
    rw [Store.del_set hq1]
    repeat walk_at "dw"
    refine ⟨⟨_, rfl⟩, ?_⟩
    repeat walk_at "dw"
    have gd : ∀ z ∈ (List.range 12).map fun (j : Nat) => (gCal [5, 6]).line n ((j : Int) + 1), Good 200 z := fun z hz => by
      obtain ⟨j, h, rfl⟩ := List.mem_map.mp hz
      have := List.mem_range.mp h
      exact good_line (gOk _) (by omega) (by rw [gMo]; omega)
    refine m_join (ys := (List.range 12).map fun (j : Nat) => (gCal [5, 6]).line n ((j : Int) + 1)) ?_ ?_ ?_
    · rw [List.map_map]
      exact .l
    · have := sum_good gd
      rw [List.length_map, List.length_range] at this ⊢
      show _ + _ * 1 ≤ _
      omega
    · have := p [5, 6] (List.Perm.refl _)
      unfold Cal.table at this
      rw [gMo] at this
      exact .now this
end

end K81

set_option maxHeartbeats 410000
namespace K81
open PySem L2 DL PyProof.Rows
local macro_rules | `(tactic| walk_at "dw") => `(tactic| first
  | (with_reducible apply run_seq) | (with_reducible apply run_if)
  | ((with_reducible apply run_set); (try dsimp only [outD])) | ((with_reducible apply run_next); (try dsimp only [outD])) | ((with_reducible apply run_ret); (try dsimp only [outD])) | ((with_reducible apply run_retN); (try dsimp only [outD])) | ((with_reducible apply run_drop); (try dsimp only [outD]))
  | ((with_reducible apply run_brk); (try dsimp only [outD])) | ((with_reducible apply run_cont); (try dsimp only [outD])) | ((with_reducible apply run_asg); (try dsimp only [outD])) | ((with_reducible apply run_par); (try dsimp only [outD]))
  | (with_reducible apply par_mk)
  | ((with_reducible apply ev_var); · rfl)
  | (with_reducible apply ev_int) | (with_reducible apply ev_str) | (with_reducible apply ev_bl) | (with_reducible apply ev_non) | (with_reducible apply ev_ty)
  | (with_reducible apply ev_dgetS)
  | (with_reducible apply ev_op) | (with_reducible apply ev_un) | (with_reducible apply ea_cons) | (with_reducible apply ea_nil)
  | (with_reducible apply ev_isiT) | (with_reducible apply ev_cb) | (with_reducible apply ev_tup) | (with_reducible apply ev_lstM') | (with_reducible apply ev_lst)
  | (with_reducible apply o_add) | (with_reducible apply o_sub) | (with_reducible apply o_lt) | (with_reducible apply o_le) | (with_reducible apply o_gt) | (with_reducible apply o_ge) | (with_reducible apply o_eqI) | (with_reducible apply o_neI) | (with_reducible apply o_eqS) | (with_reducible apply o_neS) | (with_reducible apply u_neg)
  | (with_reducible apply et_test) | (with_reducible apply et_B) | (with_reducible apply et_not) | (with_reducible apply et_and) | (with_reducible apply et_or) | (with_reducible apply isB)
  | (with_reducible apply ev_andV) | (with_reducible apply ev_orV) | (with_reducible apply ev_notV) | (with_reducible apply ev_if) | (with_reducible apply ev_chain)
  | (with_reducible apply tt_and) | (with_reducible apply ff_and) | (with_reducible apply ntt_and)
  | (with_reducible apply ev_callE) | (with_reducible apply ev_methE) | (with_reducible apply ev_propE)
  | (with_reducible apply eg_name) | (with_reducible apply egs_nil) | (with_reducible apply egs_cons) | ((with_reducible apply eg_tup); · rfl)
  | (with_reducible apply c_abs) | (with_reducible apply c_min2) | (with_reducible apply c_max2) | (with_reducible apply c_int) | (with_reducible apply c_intB)
  | (with_reducible apply ep_cons) | (with_reducible apply ep_nil) | (with_reducible apply ev_sl) | (with_reducible apply eo_none) | (with_reducible apply eo_some) | (with_reducible apply et_yes)
  | (with_reducible apply ev_bm) | (with_reducible apply ev_m1) | (with_reducible apply ei_rng1) | (with_reducible apply ei_rng2) | (with_reducible apply ei_list) | (with_reducible apply ei_tup))
section
variable {K : Frag} {E : XK} {c : Cal} {ex : List (Key × D)}
/-- S' differs from S at the addresses L alone, where S has nothing -/
structure Own (S : Store) (L : List Addr) (S' : Store) : Prop where
  out : ∀ b, b ∉ L → S' b = S b
  nn : ∀ p ∈ L, S p = none
theorem Own.nil {S : Store} : Own S [] S := ⟨fun _ _ => rfl, fun p h => (by cases h)⟩
theorem Own.set {S S' : Store} {L : List Addr} {p : Addr} {m : M} (h : Own S L S') (hp : p ∈ L) : Own S L (S'.set p m) :=
  ⟨fun b hb => by rw [Store.set_ne (by rintro rfl; exact hb hp)]; exact h.out b hb, h.nn⟩
theorem Own.del {S S' : Store} {L : List Addr} {p : Addr} (h : Own S L S') (hp : p ∈ L) : Own S L (S'.del p) :=
  ⟨fun b hb => by rw [Store.del_ne (by rintro rfl; exact hb hp)]; exact h.out b hb, h.nn⟩
theorem Own.new {S S' : Store} {L : List Addr} {p : Addr} {m : M} (h : Own S L S') (hn : S p = none) : Own S (p :: L) (S'.set p m) :=
  ⟨fun b hb => by
    rw [List.mem_cons, not_or] at hb
    rw [Store.set_ne hb.1]; exact h.out b hb.2, fun q hq => by
    (rcases List.mem_cons.mp hq with rfl | hq)
    · exact hn
    · exact h.nn q hq⟩
theorem Own.drop {S S' : Store} {L : List Addr} (h : Own S L S') : Drop S S' S := fun b => by
  by_cases hb : b ∈ L
  · exact .inr ⟨h.nn b hb, h.nn b hb⟩
  · exact .inl (h.out b hb).symm
theorem cyc_append (mo : Nat) : ∀ (k0 : Nat) (xs ys : List Int), cyc mo k0 (xs ++ ys) = cyc mo k0 xs ++ cyc mo (k0 + xs.length) ys
  | k0, [], ys => by simp [cyc]
  | k0, x :: xs, ys => by
    rw [List.cons_append, cyc, cyc, cyc_append mo (k0 + 1) xs ys, List.append_assoc, List.length_cons]
    congr 3
    omega
theorem cyc_len (mo : Nat) : ∀ (k0 : Nat) (xs : List Int), (∀ x ∈ xs, 0 ≤ x) → (((cyc mo k0 xs).length : Nat) : Int) = xs.sum
  | k0, [], _ => by simp [cyc]
  | k0, x :: xs, h => by
    (have h1 := h x (List.mem_cons_self ..))
    have h2 := cyc_len mo (k0 + 1) xs fun z hz => h z (List.mem_cons_of_mem _ hz)
    rw [cyc, List.length_append, List.length_map, List.length_range, List.sum_cons, Int.natCast_add, h2]
    omega
theorem Cal.Sm.tot_le (sm : c.Sm) : c.tot ≤ 560 := by
  have h := sum_bd c.lens sm.toOk.dpos
  have h1 := sm.l
  have e : c.tot = c.lens.sum := rfl
  omega
theorem Cal.Ok.gcd_pos (ok : c.Ok) : 0 < Int.gcd c.tot c.wk := Int.gcd_pos_of_ne_zero_left _ (by have := ok.tot_pos; omega)
theorem Cal.Sm.per_bd (sm : c.Sm) : 1 ≤ c.per ∧ c.per ≤ 5600 := by
  have ok := sm.toOk
  have t := ok.tot_pos
  have t2 := sm.tot_le
  have g := ok.gcd_pos
  have w1 := ok.w1
  have w2 := ok.w2
  have gd : (Int.gcd c.tot c.wk : Int) ∣ c.tot := Int.gcd_dvd_left ..
  have q1 : 1 ≤ c.tot / (Int.gcd c.tot c.wk : Int) := by
    have := Int.ediv_mul_cancel gd
    rcases Int.lt_or_le 0 (c.tot / (Int.gcd c.tot c.wk : Int)) with h | h
    · omega
    · have := Int.mul_le_mul_of_nonneg_right h (show (0 : Int) ≤ (Int.gcd c.tot c.wk : Int) by omega)
      omega
  have q2 : c.tot / (Int.gcd c.tot c.wk : Int) ≤ 560 := Int.le_trans (Int.ediv_le_self _ (by omega)) t2
  unfold Cal.per
  generalize c.tot / (Int.gcd c.tot c.wk : Int) = q at q1 q2
  constructor
  · have := Int.mul_le_mul q1 w1 (by decide) (by omega); omega
  · exact Int.le_trans (Int.mul_le_mul q2 w2 (by omega) (by omega)) (by decide)
theorem step_at (ok : c.Ok) {y mi : Nat} {yl : List Int} {x : Int} (hy : c.yrs[y]? = some yl) (hx : yl[mi]? = some x) : y * c.mo + mi < c.lens.length ∧ c.lens[y * c.mo + mi]? = some x ∧ (y * c.mo + mi) / c.mo = y ∧ (y * c.mo + mi) % c.mo = mi ∧ mi < c.mo := by
  have hl := ok.same yl (List.mem_of_getElem? hy)
  have lt := (List.getElem?_eq_some_iff.mp hx).1
  have m1 := ok.m1
  have e := flat_get c.yrs y mi yl ok.same hy (by omega)
  rw [hx] at e
  refine ⟨(List.getElem?_eq_some_iff.mp e).1, e, ?_, ?_, by omega⟩
  · rw [Nat.add_comm, Nat.add_mul_div_right _ _ (by omega), Nat.div_eq_of_lt (by omega), Nat.zero_add]
  · rw [Nat.add_comm, Nat.add_mul_mod_self_right]; exact Nat.mod_eq_of_lt (by omega)
/-- the days up to month k -/
abbrev mA (c : Cal) (k : Nat) : M := .lst ((cyc c.mo 0 (c.lens.take k)).map quadD)
abbrev mB (c : Cal) (k : Nat) : M := .lst ((List.range k).map fun j => D.int (c.lens.take j).sum)
theorem mA_step (ok : c.Ok) {k : Nat} {x : Int} (h : c.lens[k]? = some x) : (cyc c.mo 0 (c.lens.take (k + 1))).map quadD = (cyc c.mo 0 (c.lens.take k)).map quadD ++ (List.range x.toNat).map fun (d : Nat) => D.tup [.int ((k / c.mo : Nat) : Int), .int (((k % c.mo : Nat) : Int) + 1), .int ((d : Int) + 1), .int x] := by
  have lt := (List.getElem?_eq_some_iff.mp h).1
  rw [List.take_add_one, h, cyc_append, List.map_append, List.length_take, Nat.min_eq_left (Nat.le_of_lt lt), Nat.zero_add]
  congr 1
  show ((cyc c.mo k [x])).map quadD = _
  unfold cyc
  rw [cyc, List.append_nil, List.map_map]
  rfl
theorem days_run (ok : c.Ok) {p5 p6 : Addr} (ne : p5 ≠ p6) {J : Jd} {S S0 : Store} {R : Out} {δ' : En} {y mi : Nat} {yl : List Int} {x : Int} {a b d e z9 : Option D} (hy : c.yrs[y]? = some yl) (hx : yl[mi]? = some x) (small : c.lens.length ≤ 14)
    (hδ : δ' = some (intssD c.yrs) :: a :: b :: d :: e :: some (.loc p5) :: some (.loc p6) :: some (.int (y : Int)) :: some (.int (mi : Int)) :: z9 :: none :: none :: none :: none :: none :: none :: []) (h5 : S p5 = some (mA c (y * c.mo + mi))) (h6 : S p6 = some (mB c (y * c.mo + mi))) (own : Own S0 [p6, p5] S)
    (k : ∀ S' z, S' p5 = some (mA c (y * c.mo + mi + 1)) → S' p6 = some (mB c (y * c.mo + mi + 1)) → Own S0 [p6, p5] S' → R.nx (δ'.set 9 (some z)) S') : DL.Run K J (b1__law_with_days K) δ' S R := by
  subst hδ
  obtain ⟨k1, k2, k3, k4, k5⟩ := step_at ok hy hx
  have xb := ok.dpos x (List.mem_of_getElem? k2)
  have cl := cyc_len c.mo 0 (c.lens.take (y * c.mo + mi)) fun z hz => by have := ok.dpos z (List.mem_of_mem_take hz); omega
  unfold b1__law_with_days
  repeat walk_at "dw"
  refine ⟨ty_list (.m h6), ?_⟩
  repeat walk_at "dw"
  refine c_lenSeq (.m h5) ?_
  rw [List.length_map, cl]
  repeat walk_at "dw"
  refine m_append h6 ?_ ?_
  · rw [List.length_map, List.length_range]; exact Nat.lt_of_lt_of_le k1 (Nat.le_trans small (by decide))
  repeat walk_at "dw"
  refine o_ixL .v (L2.atI_nat (by rw [List.getElem?_map, hy]; rfl)) ?_
  repeat walk_at "dw"
  refine o_ixL .v (L2.atI_nat (by rw [List.getElem?_map, hx]; rfl)) ?_
  have h5' : ∀ m, (S.set p6 m) p5 = some (mA c (y * c.mo + mi)) := fun m => by rw [Store.set_ne ne]; exact h5
  repeat walk_at "dw"
  refine ⟨ty_list (.m (h5' _)), ?_⟩
  repeat walk_at "dw"
  refine ev_lcP (fun (d : Nat) => D.tup [.int (y : Int), .int ((mi : Int) + 1), .int ((d : Int) + 1), .int x]) (gk_name (by decide)) ?_
  repeat walk_at "dw"
  refine ⟨x, rfl, ⟨by omega, by omega⟩, by rw [rgD_len]; exact Nat.le_trans (show x.toNat ≤ 40 by omega) (by decide), fun j q hq => ?_, ?_⟩
  · obtain ⟨lj, rfl⟩ := rgD_get hq
    rw [Int.zero_add]
    repeat walk_at "dw"
    exact ⟨(by decide : 4 ≤ PySem.sizeLine), rfl, rfl⟩
  rw [rgD_len]
  repeat walk_at "dw"
  have tl : (c.lens.take (y * c.mo + mi)).sum ≤ 560 := by
    have h := sum_bd (c.lens.take (y * c.mo + mi)) fun z hz => ok.dpos z (List.mem_of_mem_take hz)
    have h2 : (c.lens.take (y * c.mo + mi)).length ≤ 14 := Nat.le_trans (List.length_take_le ..) (by omega)
    omega
  refine m_extend (h5' _) .v ?_ ?_
  · rw [List.length_map, List.length_map, List.length_range]
    exact Nat.le_trans (show _ ≤ 1000 by omega) (by decide)
  repeat walk_at "dw"
  refine k _ _ ?_ ?_ ((own.set (by simp)).set (by simp))
  · rw [Store.set_same, mA, mA_step ok k2, k3, k4]
  · rw [Store.set_ne (Ne.symm ne), Store.set_same, mB, range_map_succ]
end

end K81

set_option maxHeartbeats 410000
namespace K81
open PySem L2 DL PyProof.Rows
local macro_rules | `(tactic| walk_at "dw") => `(tactic| first
  | (with_reducible apply run_seq) | (with_reducible apply run_if)
  | ((with_reducible apply run_set); (try dsimp only [outD])) | ((with_reducible apply run_next); (try dsimp only [outD])) | ((with_reducible apply run_ret); (try dsimp only [outD])) | ((with_reducible apply run_retN); (try dsimp only [outD])) | ((with_reducible apply run_drop); (try dsimp only [outD]))
  | ((with_reducible apply run_brk); (try dsimp only [outD])) | ((with_reducible apply run_cont); (try dsimp only [outD])) | ((with_reducible apply run_asg); (try dsimp only [outD])) | ((with_reducible apply run_par); (try dsimp only [outD]))
  | (with_reducible apply par_mk)
  | ((with_reducible apply ev_var); · rfl)
  | (with_reducible apply ev_int) | (with_reducible apply ev_str) | (with_reducible apply ev_bl) | (with_reducible apply ev_non) | (with_reducible apply ev_ty)
  | (with_reducible apply ev_dgetS)
  | (with_reducible apply ev_op) | (with_reducible apply ev_un) | (with_reducible apply ea_cons) | (with_reducible apply ea_nil)
  | (with_reducible apply ev_isiT) | (with_reducible apply ev_cb) | (with_reducible apply ev_tup) | (with_reducible apply ev_lstM') | (with_reducible apply ev_lst)
  | (with_reducible apply o_add) | (with_reducible apply o_sub) | (with_reducible apply o_lt) | (with_reducible apply o_le) | (with_reducible apply o_gt) | (with_reducible apply o_ge) | (with_reducible apply o_eqI) | (with_reducible apply o_neI) | (with_reducible apply o_eqS) | (with_reducible apply o_neS) | (with_reducible apply u_neg)
  | (with_reducible apply et_test) | (with_reducible apply et_B) | (with_reducible apply et_not) | (with_reducible apply et_and) | (with_reducible apply et_or) | (with_reducible apply isB)
  | (with_reducible apply ev_andV) | (with_reducible apply ev_orV) | (with_reducible apply ev_notV) | (with_reducible apply ev_if) | (with_reducible apply ev_chain)
  | (with_reducible apply tt_and) | (with_reducible apply ff_and) | (with_reducible apply ntt_and)
  | (with_reducible apply ev_callE) | (with_reducible apply ev_methE) | (with_reducible apply ev_propE)
  | (with_reducible apply eg_name) | (with_reducible apply egs_nil) | (with_reducible apply egs_cons) | ((with_reducible apply eg_tup); · rfl)
  | (with_reducible apply c_abs) | (with_reducible apply c_min2) | (with_reducible apply c_max2) | (with_reducible apply c_int) | (with_reducible apply c_intB)
  | (with_reducible apply ep_cons) | (with_reducible apply ep_nil) | (with_reducible apply ev_sl) | (with_reducible apply eo_none) | (with_reducible apply eo_some) | (with_reducible apply et_yes)
  | (with_reducible apply ev_bm) | (with_reducible apply ev_m1) | (with_reducible apply ei_rng1) | (with_reducible apply ei_rng2) | (with_reducible apply ei_list) | (with_reducible apply ei_tup))
section
variable {K : Frag} {E : XK} {c : Cal} {ex : List (Key × D)}
theorem begins_eq (c : Cal) : (List.range c.lens.length).map (fun j => D.int (c.lens.take j).sum) = ((psums 0 c.lens).dropLast).map D.int := by
  rw [psums_take, List.range_succ, List.map_append, List.map_singleton, List.dropLast_concat, List.map_map]
  rfl
theorem Drop.of {S0 S S' : Store} {q : Addr} (h : ∀ b, b ≠ q → S' b = S b) (hq : S' q = none) (h0 : S0 q = none) : Drop S0 S S' := fun b => by
  by_cases e : b = q
  · subst e; exact .inr ⟨hq, h0⟩
  · exact .inl (h b e)
theorem filter_map_int (q : Int → Bool) (n : Nat) : ((List.range n).filter fun i => q ((i : Nat) : Int)).map (fun i => D.int ((i : Nat) : Int)) = (((List.range n).map fun i => ((i : Nat) : Int)).filter q).map D.int := by
  rw [List.filter_map, List.map_map]
  rfl
theorem run__law_with_days : ∀ J ds S P PX, J.S = S → C__law_with_days ds S P PX → J.X K E PX → Run K J (t__law_with_days K) (startD N__law_with_days ds) S (outD J P) := by
  rintro J ds S P PX hS ⟨c, rfl, sm, p⟩ hX
  have ok := sm.toOk
  have tp := ok.tot_pos
  have pb := sm.per_bd
  have gp := ok.gcd_pos
  have w1 := ok.w1
  have w2 := ok.w2
  obtain ⟨y0, ys, e0, h0⟩ := ok.head
  have first : L2.atI (c.yrs.map intsD) 0 = some (intsD y0) := by rw [e0]; exact atI_nn (by decide) rfl
  unfold t__law_with_days
  repeat walk_at "dw"
  refine ⟨by decide, fun p5 hp5 hq5 => ?_⟩
  repeat walk_at "dw"
  refine ⟨by decide, fun p6 hp6 hq6 => ?_⟩
  rw [hS] at hq5 hq6
  repeat walk_at "dw"
  have ne : p5 ≠ p6 := by rintro rfl; rw [Store.set_same] at hp6; cases hp6
  have own0 : Own S [p6, p5] ((S.set p5 (.lst [])).set p6 (.lst [])) := (Own.nil.new hq5).new hq6
  have a5 : ((S.set p5 (.lst [])).set p6 (.lst [])) p5 = some (mA c (0 * c.mo)) := by rw [Store.set_ne ne, Store.set_same]; simp [mA, cyc]
  have a6 : ((S.set p5 (.lst [])).set p6 (.lst [])) p6 = some (mB c (0 * c.mo)) := by rw [Store.set_same]; simp [mB]
  generalize (S.set p5 (.lst [])).set p6 (.lst []) = S1 at own0 a5 a6
  refine run_for ?_
  repeat walk_at "dw"
  refine c_lenSeq .l ?_
  rw [List.length_map]
  repeat walk_at "dw"
  have y2 := ok.y2
  refine ⟨c.yrs.length, rfl, ⟨by omega, by omega⟩, fun y δ' S' => y ≤ c.yrs.length ∧ S' p5 = some (mA c (y * c.mo)) ∧ S' p6 = some (mB c (y * c.mo)) ∧ Own S [p6, p5] S' ∧
    ∃ z7 z8 z9, δ' = [some (intssD c.yrs), some (.int c.wk), some (.int c.fst), some (intsD c.rest), some (pairsD c.free), some (.loc p5), some (.loc p6), z7, z8, z9, none, none, none, none, none, none], ⟨Nat.zero_le _, a5, a6, own0, none, none, none, rfl⟩, ?_, ?_⟩
  · rintro y x δ' S' hx ⟨hy, h5, h6, own, z7, z8, z9, rfl⟩
    obtain ⟨lt, rfl⟩ := rgD_get hx
    rw [Int.zero_add]
    have lty : y < c.yrs.length := by omega
    have hyl : c.yrs[y]? = some c.yrs[y] := List.getElem?_eq_getElem lty
    have hl := ok.same _ (List.mem_of_getElem? hyl)
    refine eg_name ?_
    unfold b2__law_with_days
    refine run_for ?_
    repeat walk_at "dw"
    refine o_ixL .v (L2.atI_nat (by rw [List.getElem?_map, hyl]; rfl)) ?_
    repeat walk_at "dw"
    refine c_lenSeq .l ?_
    rw [List.length_map, hl]
    repeat walk_at "dw"
    have mo := ok.mo2
    refine ⟨c.mo, rfl, ⟨by omega, by omega⟩, fun mi δ' S' => mi ≤ c.mo ∧ S' p5 = some (mA c (y * c.mo + mi)) ∧ S' p6 = some (mB c (y * c.mo + mi)) ∧ Own S [p6, p5] S' ∧
      ∃ z8 z9, δ' = [some (intssD c.yrs), some (.int c.wk), some (.int c.fst), some (intsD c.rest), some (pairsD c.free), some (.loc p5), some (.loc p6), some (.int (y : Int)), z8, z9, none, none, none, none, none, none], ⟨Nat.zero_le _, h5, h6, own, z8, z9, rfl⟩, ?_, ?_⟩
    · rintro mi x δ2 S2 hx ⟨hm, g5, g6, own2, z8, z9, rfl⟩
      obtain ⟨ltm, rfl⟩ := rgD_get hx
      rw [Int.zero_add]
      have ltm2 : mi < c.mo := by omega
      have hxl : (c.yrs[y])[mi]? = some (c.yrs[y])[mi] := List.getElem?_eq_getElem (by rw [hl]; exact ltm2)
      refine eg_name ?_
      refine days_run ok ne hyl hxl sm.l rfl g5 g6 own2 fun S3 z k5 k6 own3 => ?_
      exact ⟨by omega, k5, k6, own3, _, _, rfl⟩
    · rintro δ2 S2 ⟨hm, g5, g6, own2, z8, z9, rfl⟩
      rw [rgD_len, Int.toNat_natCast] at g5 g6
      have e : (y + 1) * c.mo = y * c.mo + c.mo := by rw [Nat.add_mul]; omega
      exact ⟨by omega, by rw [e]; exact g5, by rw [e]; exact g6, own2, _, _, _, rfl⟩
  rintro δ' S' ⟨hy, h5, h6, own, z7, z8, z9, rfl⟩
  rw [rgD_len, Int.toNat_natCast, ← ok.len] at h5 h6
  have n5 : J.S p5 = none := by rw [hS]; exact hq5
  have n6 : J.S p6 = none := by rw [hS]; exact hq6
  refine run_frz (i := 5) rfl h5 n5 ?_
  refine run_frz (i := 6) (p := p6) rfl (by rw [Store.del_ne (Ne.symm ne)]; exact h6) n6 ?_
  have own1 : Own S [p6, p5] ((S'.del p5).del p6) := (own.del (by simp)).del (by simp)
  generalize (S'.del p5).del p6 = T at own1
  have days : M.d (mA c c.lens.length) = .lst ((cyc c.mo 0 c.lens).map quadD) := by
    show D.lst _ = _
    rw [List.take_length]
  have begs : M.d (mB c c.lens.length) = intsD ((psums 0 c.lens).dropLast) := by
    show D.lst _ = D.lst _
    rw [begins_eq]
  rw [days, begs]
  have dl : ((((cyc c.mo 0 c.lens).map quadD).length : Nat) : Int) = c.tot := by
    rw [List.length_map, cyc_len c.mo 0 c.lens fun z hz => by have := ok.dpos z hz; omega]
    rfl
  repeat walk_at "dw"
  refine ev_dispM fun pa hpa hqa => ?_
  rw [hS] at hqa
  repeat walk_at "dw"
  refine ⟨[(.inr "years", intssD c.yrs), (.inr "week", .int c.wk), (.inr "first", .int c.fst), (.inr "rest", intsD c.rest), (.inr "holidays", pairsD c.free), (.inr "days", .lst ((cyc c.mo 0 c.lens).map quadD))], rfl, (by decide : 6 ≤ 15), Store.set_same, ?_⟩
  rw [Store.set_set]
  generalize hT1 : T.set pa _ = T1
  have ta : T1 pa = some (.dK [(.inr "years", intssD c.yrs), (.inr "week", .int c.wk), (.inr "first", .int c.fst), (.inr "rest", intsD c.rest), (.inr "holidays", pairsD c.free), (.inr "days", .lst ((cyc c.mo 0 c.lens).map quadD))]) := by rw [← hT1, Store.set_same]; rfl
  have own2 : Own S [pa, p6, p5] T1 := by rw [← hT1]; exact own1.new hqa
  clear hT1
  repeat walk_at "dw"
  refine ⟨ty_dict (.m ta), ?_⟩
  repeat walk_at "dw"
  refine ev_dispM fun pb hpb hqb => ?_
  rw [hS] at hqb
  repeat walk_at "dw"
  refine o_ixL .v first ?_
  repeat walk_at "dw"
  refine c_lenSeq .l ?_
  rw [List.length_map, h0]
  repeat walk_at "dw"
  refine c_lenSeq .l ?_
  rw [dl]
  repeat walk_at "dw"
  refine ⟨[(.inr "begins", intsD ((psums 0 c.lens).dropLast)), (.inr "months", .int c.mo), (.inr "cycle", .int c.tot)], rfl, (by decide : 3 ≤ 15), Store.set_same, ?_⟩
  rw [Store.set_set]
  have nab : pa ≠ pb := by rintro rfl; rw [ta] at hpb; cases hpb
  repeat walk_at "dw"
  refine m_dupd (kvs := [(.inr "years", intssD c.yrs), (.inr "week", .int c.wk), (.inr "first", .int c.fst), (.inr "rest", intsD c.rest), (.inr "holidays", pairsD c.free), (.inr "days", .lst ((cyc c.mo 0 c.lens).map quadD))]) (by rw [Store.set_ne nab]; exact ta) (.m Store.set_same) (fun z => nab (by injection z with z; exact z.symm)) (by decide : 9 ≤ PySem.sizeLine) ?_
  generalize hT2 : Store.set _ pa _ = T2
  have ta2 : T2 pa = some (.dK (plB c)) := by rw [← hT2, Store.set_same]; rfl
  have own3 : Own S [pb, pa, p6, p5] T2 := by rw [← hT2]; exact (own2.new hqb).set (by simp)
  clear hT2
  repeat walk_at "dw"
  refine run_dput ?_
  repeat walk_at "dw"
  refine c_lenSeq .l ?_
  rw [dl]
  repeat walk_at "dw"
  refine c_lenSeq .l ?_
  rw [dl]
  repeat walk_at "dw"
  refine ⟨_, _, rfl, ?_⟩
  have gle : (Int.gcd c.tot c.wk : Int) ≤ c.tot := Int.le_of_dvd (by omega) (Int.gcd_dvd_left ..)
  refine o_fdivP (by omega) (by omega) ?_
  repeat walk_at "dw"
  refine o_mul (.inr ⟨by omega, by omega⟩) ?_
  repeat walk_at "dw"
  refine ⟨pa, _, .inr "period", rfl, ta2, rfl, (by decide : 9 < PySem.sizeLine), ?_⟩
  generalize hT3 : T2.set pa _ = T3
  have ta3 : T3 pa = some (.dK (plB c ++ [(.inr "period", .int c.per)])) := by rw [← hT3, Store.set_same]; rfl
  have own4 : Own S [pb, pa, p6, p5] T3 := by rw [← hT3]; exact own3.set (by simp)
  clear hT3
  have pl : PlAt T3 (.loc pa) c := ⟨_, .m ta3⟩
  repeat walk_at "dw"
  refine ev_lcP (fun i => D.bl (c.work i)) (gk_name (by decide)) ?_
  repeat walk_at "dw"
  refine ⟨_, _, .m ta3, rfl, ?_⟩
  repeat walk_at "dw"
  refine ⟨c.per, rfl, ⟨by omega, by omega⟩, by rw [rgD_len]; exact Nat.le_trans (show c.per.toNat ≤ 5600 by omega) (by decide), fun i x hx => ?_, ?_⟩
  · obtain ⟨lt, rfl⟩ := rgD_get hx
    rw [Int.zero_add]
    repeat walk_at "dw"
    exact ⟨_, _, _, rfl, pl, ok, rfl, rfl⟩
  rw [rgD_len]
  repeat walk_at "dw"
  refine ⟨by decide, fun pc hpc hqc => ?_⟩
  rw [hS] at hqc
  repeat walk_at "dw"
  refine ⟨(by decide : 2 ≤ PySem.sizeLine), ?_⟩
  repeat walk_at "dw"
  have nac : pa ≠ pc := by rintro rfl; rw [ta3] at hpc; cases hpc
  refine run_for ?_
  repeat walk_at "dw"
  refine ⟨_, rfl, fun i δ' S' => ∃ l : List Int, 1 ≤ l.length ∧ l.length ≤ i + 1 ∧ S' pc = some (intsM l) ∧ S' pa = some (.dK (plB c ++ [(.inr "period", .int c.per)])) ∧ Own S [pc, pb, pa, p6, p5] S' ∧ ∃ z13, δ' = [some (intssD c.yrs), some (.int c.wk), some (.int c.fst), some (intsD c.rest), some (pairsD c.free), some (.lst ((cyc c.mo 0 c.lens).map quadD)), some (intsD ((psums 0 c.lens).dropLast)), z7, z8, z9, some (.loc pa), some (.lst ((List.range c.per.toNat).map fun (i : Nat) => D.bl (c.work (i : Int)))), some (.loc pc), z13, none, none],
    ⟨[0], by decide, by decide, Store.set_same, by rw [Store.set_ne nac]; exact ta3, own4.new hqc, none, rfl⟩, ?_, ?_⟩
  · rintro i x δ' S2 hx ⟨l, l1, l2, kc, ka, own5, z13, rfl⟩
    have lt : i < c.per.toNat := by have := (List.getElem?_eq_some_iff.mp hx).1; simpa using this
    obtain ⟨j, hj, rfl⟩ := map_get hx
    refine eg_name ?_
    unfold b3__law_with_days
    repeat walk_at "dw"
    refine ⟨ty_list (.m kc), ?_⟩
    repeat walk_at "dw"
    refine o_ixL (.m kc) (atI_last (z := .int (l.getD (l.length - 1) 0)) ?_) ?_
    · rw [List.length_map]; exact ints_at (by omega)
    repeat walk_at "dw"
    refine m_append kc ?_ ?_
    · rw [List.length_map]; exact Nat.lt_of_le_of_lt (show l.length ≤ 5601 by omega) (by decide)
    repeat walk_at "dw"
    refine ⟨l ++ [l.getD (l.length - 1) 0 + (if c.work j then 1 else 0)], by rw [List.length_append]; exact Nat.le_trans l1 (Nat.le_add_right _ _), by rw [List.length_append]; exact Nat.add_le_add_right l2 1, ?_, by rw [Store.set_ne nac]; exact ka, own5.set (by simp), _, rfl⟩
    rw [Store.set_same]
    show some (M.lst _) = some (M.lst ((l ++ [_]).map D.int))
    rw [List.map_append]
    rfl
  rintro δ' S2 ⟨l, l1, l2, kc, ka, own5, z13, rfl⟩
  refine run_frz (i := 12) rfl kc (by rw [hS]; exact hqc) ?_
  have ka2 : (S2.del pc) pa = some (.dK (plB c ++ [(.inr "period", .int c.per)])) := by rw [Store.del_ne nac]; exact ka
  have own6 : Own S [pc, pb, pa, p6, p5] (S2.del pc) := own5.del (by simp)
  generalize S2.del pc = T4 at ka2 own6
  repeat walk_at "dw"
  refine run_dput ?_
  refine ev_lcF (fun i => D.int ((i : Nat) : Int)) (fun i => c.work i) (gk_name (by decide)) ?_
  repeat walk_at "dw"
  refine ⟨_, _, .m ka2, rfl, ?_⟩
  repeat walk_at "dw"
  refine ⟨c.per, rfl, ⟨by omega, by omega⟩, by rw [rgD_len]; exact Nat.le_trans (show c.per.toNat ≤ 5600 by omega) (by decide), fun i x hx => ?_, ?_⟩
  · obtain ⟨lt, rfl⟩ := rgD_get hx
    rw [Int.zero_add]
    repeat walk_at "dw"
    refine o_ixL .v (L2.atI_nat (by rw [List.getElem?_map, List.getElem?_range (by omega)]; rfl)) ?_
    repeat walk_at "dw"
    refine ⟨rfl, rfl, fun _ => ?_⟩
    repeat walk_at "dw"
    exact ⟨rfl, rfl⟩
  rw [rgD_len]
  have wk : ((List.range c.per.toNat).filter fun i => c.work ((i : Nat) : Int)).map (fun i => D.int ((i : Nat) : Int)) = (wdays c).map D.int := filter_map_int c.work c.per.toNat
  rw [wk]
  repeat walk_at "dw"
  refine ⟨pa, _, .inr "works", rfl, ka2, rfl, (by decide : 10 < PySem.sizeLine), ?_⟩
  generalize hT5 : T4.set pa _ = T5
  have ta5 : T5 pa = some (.dK (plB c ++ [(.inr "period", .int c.per), (.inr "works", intsD (wdays c))])) := by rw [← hT5, Store.set_same]; rfl
  have own7 : Own S [pc, pb, pa, p6, p5] T5 := by rw [← hT5]; exact own6.set (by simp)
  clear hT5
  repeat walk_at "dw"
  refine run_dput ?_
  repeat walk_at "dw"
  refine ⟨pa, _, .inr "ahead", rfl, ta5, rfl, (by decide : 11 < PySem.sizeLine), ?_⟩
  generalize hT6 : T5.set pa _ = T6
  have ta6 : T6 pa = some (.dK (plB c ++ [(.inr "period", .int c.per), (.inr "works", intsD (wdays c)), (.inr "ahead", intsD l)])) := by rw [← hT6, Store.set_same]; rfl
  have own8 : Own S [pc, pb, pa, p6, p5] T6 := by rw [← hT6]; exact own7.set (by simp)
  clear hT6
  refine run_frz (i := 10) rfl ta6 (by rw [hS]; exact hqa) ?_
  repeat walk_at "dw"
  refine .drop (S' := S) ?_ (p l)
  rw [hS]
  exact (own8.del (by simp)).drop
end

end K81

set_option maxHeartbeats 410000
namespace K81
open PySem L2 DL PyProof.Rows
local macro_rules | `(tactic| walk_at "dw") => `(tactic| first
  | (with_reducible apply run_seq) | (with_reducible apply run_if)
  | ((with_reducible apply run_set); (try dsimp only [outD])) | ((with_reducible apply run_next); (try dsimp only [outD])) | ((with_reducible apply run_ret); (try dsimp only [outD])) | ((with_reducible apply run_retN); (try dsimp only [outD])) | ((with_reducible apply run_drop); (try dsimp only [outD]))
  | ((with_reducible apply run_brk); (try dsimp only [outD])) | ((with_reducible apply run_cont); (try dsimp only [outD])) | ((with_reducible apply run_asg); (try dsimp only [outD])) | ((with_reducible apply run_par); (try dsimp only [outD]))
  | (with_reducible apply par_mk)
  | ((with_reducible apply ev_var); · rfl)
  | (with_reducible apply ev_int) | (with_reducible apply ev_str) | (with_reducible apply ev_bl) | (with_reducible apply ev_non) | (with_reducible apply ev_ty)
  | (with_reducible apply ev_dgetS)
  | (with_reducible apply ev_op) | (with_reducible apply ev_un) | (with_reducible apply ea_cons) | (with_reducible apply ea_nil)
  | (with_reducible apply ev_isiT) | (with_reducible apply ev_cb) | (with_reducible apply ev_tup) | (with_reducible apply ev_lstM') | (with_reducible apply ev_lst)
  | (with_reducible apply o_add) | (with_reducible apply o_sub) | (with_reducible apply o_lt) | (with_reducible apply o_le) | (with_reducible apply o_gt) | (with_reducible apply o_ge) | (with_reducible apply o_eqI) | (with_reducible apply o_neI) | (with_reducible apply o_eqS) | (with_reducible apply o_neS) | (with_reducible apply u_neg)
  | (with_reducible apply et_test) | (with_reducible apply et_B) | (with_reducible apply et_not) | (with_reducible apply et_and) | (with_reducible apply et_or) | (with_reducible apply isB)
  | (with_reducible apply ev_andV) | (with_reducible apply ev_orV) | (with_reducible apply ev_notV) | (with_reducible apply ev_if) | (with_reducible apply ev_chain)
  | (with_reducible apply tt_and) | (with_reducible apply ff_and) | (with_reducible apply ntt_and)
  | (with_reducible apply ev_callE) | (with_reducible apply ev_methE) | (with_reducible apply ev_propE)
  | (with_reducible apply eg_name) | (with_reducible apply egs_nil) | (with_reducible apply egs_cons) | ((with_reducible apply eg_tup); · rfl)
  | (with_reducible apply c_abs) | (with_reducible apply c_min2) | (with_reducible apply c_max2) | (with_reducible apply c_int) | (with_reducible apply c_intB)
  | (with_reducible apply ep_cons) | (with_reducible apply ep_nil) | (with_reducible apply ev_sl) | (with_reducible apply eo_none) | (with_reducible apply eo_some) | (with_reducible apply et_yes)
  | (with_reducible apply ev_bm) | (with_reducible apply ev_m1) | (with_reducible apply ei_rng1) | (with_reducible apply ei_rng2) | (with_reducible apply ei_list) | (with_reducible apply ei_tup))
section
variable {K : Frag} {E : XK} {c : Cal} {ex : List (Key × D)}
theorem perm_table {rest : List Int} {free : List (Int × Int)} (hr : rest.Perm c.rest) (hf : free.Perm c.free) (y : Int) : ({ c with rest := rest, free := free } : Cal).table y = c.table y := by
  have w : ∀ d, ({ c with rest := rest, free := free } : Cal).work d = c.work d := fun d => by
    unfold Cal.work
    congr 2
    · exact decide_eq_decide.mpr hr.mem_iff
    · exact decide_eq_decide.mpr hf.mem_iff
  unfold Cal.table
  congr 1
  (refine List.map_congr_left fun i _ => ?_)
  unfold Cal.line
  dsimp only
  congr 2
  refine List.map_congr_left fun j _ => ?_
  show (if ({ c with rest := rest, free := free } : Cal).work _ = true then _ else _) = _
  rw [w]
  rfl
theorem run_law (F : Fx K) : ∀ J ds S P PX, J.S = S → C_law ds S P PX → J.X K E PX → Run K J (t_law K) (startD N_law ds) S (outD J P) := by
  rintro J ds S P PX hS ⟨ns, rfl, few, p⟩ hX
  unfold t_law
  repeat walk_at "dw"
  refine ⟨ns, rfl, fun a m ha pn => ?_⟩
  repeat walk_at "dw"
  refine ⟨a, m, 0, 4000, rfl, Store.set_same, pn, ⟨by decide, by decide⟩, ⟨by decide, by decide⟩, fun i m1 i0 i1 pn1 => ?_⟩
  rw [Store.set_set]
  repeat walk_at "dw"
  refine ⟨a, m1, 1, 20, rfl, Store.set_same, pn1, ⟨by decide, by decide⟩, by decide, by decide, fun g m2 g0 pn2 => ?_⟩
  rw [Store.set_set]
  repeat walk_at "dw"
  refine ⟨(by decide : 5 ≤ PySem.sizeLine), ?_⟩
  repeat walk_at "dw"
  refine ⟨a, m2, 21, [2024, 1900, 2000, i - 2000, g], rfl, Store.set_same, pn2, ⟨by decide, by decide⟩, (by decide : 0 < 5), (by decide : 5 < 1000000), fun n m3 _ pn3 => ?_⟩
  rw [Store.set_set]
  repeat walk_at "dw"
  refine ev_cmd0 (PX := PX0) XkOk.none ⟨rfl, fun rest ws hr => ?_⟩
  repeat walk_at "dw"
  refine ⟨_, gCal rest, n, rfl, ⟨_, .inr ⟨_, rfl⟩, .inl rfl⟩, gOk rest, ?_⟩
  have gt := good_table (gOk rest) n
  have rl : (reprText ((gCal rest).table n)).length ≤ PySem.sizeLine := Nat.le_trans (StrLaws.reprText_len _ gt.2) (Nat.le_trans (show 10 * ((gCal rest).table n).length + 2 ≤ 40002 by have := gt.1; omega) (by decide))
  repeat walk_at "dw"
  refine c_repr rl ?_
  repeat walk_at "dw"
  refine ⟨n, rfl, fun rest' hr' => ?_⟩
  have same : (gCal rest').table n = (gCal rest).table n := perm_table (c := gCal rest) (rest := rest') (free := []) (hr'.trans hr.symm) (List.Perm.refl _) n
  rw [same]
  repeat walk_at "dw"
  refine c_repr rl ?_
  repeat walk_at "dw"
  rw [decide_eq_true rfl]
  repeat walk_at "dw"
  refine run_for ?_
  repeat walk_at "dw"
  refine c_lenK ?_
  rw [List.length_map]
  repeat walk_at "dw"
  have mn : (if ((ns.length : Nat) : Int) < 4 then ((ns.length : Nat) : Int) else 4) ≤ 4 ∧ 0 ≤ (if ((ns.length : Nat) : Int) < 4 then ((ns.length : Nat) : Int) else 4) := by split <;> omega
  generalize (if ((ns.length : Nat) : Int) < 4 then ((ns.length : Nat) : Int) else 4) = k at mn
  refine ⟨_, rfl, ⟨by omega, by omega⟩, fun i δ' S' => i ≤ 8 ∧ (∃ m', S' a = some m' ∧ PenM m' (22 + 1033 * i)) ∧ ∃ z2 z3 z4 z5 z6 z7 z8, δ' = [some (.klst (ns.map .int)), some (.loc a), z2, z3, z4, z5, z6, z7, z8], ⟨by decide, ⟨m3, Store.set_same, by simpa using pn3⟩, _, _, _, _, _, _, _, rfl⟩, ?_, ?_⟩
  · rintro r x δ' S1 hx ⟨hr8, ⟨m0, hm, pn0⟩, z2, z3, z4, z5, z6, z7, z8, rfl⟩
    obtain ⟨lt, rfl⟩ := rgD_get hx
    have r8 : r < 8 := by omega
    refine eg_name ?_
    unfold b2_law
    refine run_seq (run_set (Ev.imp (P := fun d S2 => ∃ c ahead m', d = plainD c (wdays c) ahead ∧ c.Sm ∧ (∃ i : Int, 0 ≤ i ∧ i < c.per ∧ c.work i = true) ∧ PenM m' (22 + 1033 * r + 1001) ∧ S2 = S1.set a m') ?_ fun d S2 h => ?_))
    · repeat walk_at "dw"
      refine ⟨a, m0, _, 3, rfl, hm, pn0, ⟨by omega, by omega⟩, ⟨by decide, by decide⟩, fun i m1 i0 i1 pn1 => ?_⟩
      repeat walk_at "dw"
      refine dec_and (fun q => ?_) (fun q => ?_)
      · repeat walk_at "dw"
        refine ⟨a, m1, _, rfl, Store.set_same, pn1, ⟨by omega, by omega⟩, fun c ahead m2 sm wk pn2 => ?_⟩
        rw [Store.set_set]
        refine ⟨c, ahead, m2, rfl, sm, wk, ?_, rfl⟩
        rw [show (22 + 1033 * (r : Int) + 1001) = 22 + 1033 * (r : Int) + 1 + 1000 by omega]
        exact pn2
      · repeat walk_at "dw"
        refine ⟨a, m1, _, rfl, Store.set_same, pn1, ⟨by omega, by omega⟩, fun c ahead m2 sm wk pn2 => ?_⟩
        rw [Store.set_set]
        refine ⟨c, ahead, m2, rfl, sm, wk, ?_, rfl⟩
        rw [show (22 + 1033 * (r : Int) + 1001) = 22 + 1033 * (r : Int) + 1 + 1000 by omega]
        exact pn2
    obtain ⟨c, ahead, m4, rfl, sm, wk, pn4, rfl⟩ := h
    have ok := sm.toOk
    have pb := sm.per_bd
    dsimp only
    repeat walk_at "dw"
    refine ⟨c, _, _, rfl, sm, by omega, wk, fun rest free ws hr hf => ?_⟩
    generalize hc' : ({ c with rest := rest, free := free } : Cal) = c'
    have ok' : c'.Ok := by subst hc'; exact ⟨ok.y1, ok.y2, ok.same, ok.m1, ok.m2, ok.days, ok.w1, ok.w2⟩
    have tab : ∀ y, c'.table y = c.table y := fun y => by subst hc'; exact perm_table hr hf y
    repeat walk_at "dw"
    refine run_for ?_
    repeat walk_at "dw"
    refine ⟨a, m4, _, 9, rfl, Store.set_same, pn4, ⟨by omega, by omega⟩, ⟨by decide, by decide⟩, fun y1 m5 _ _ pn5 => ?_⟩
    rw [Store.set_set]
    repeat walk_at "dw"
    refine ⟨a, m5, _, 30, rfl, Store.set_same, pn5, ⟨by omega, by omega⟩, by decide, by decide, fun y2 m6 _ pn6 => ?_⟩
    rw [Store.set_set]
    repeat walk_at "dw"
    refine ⟨(by decide : 2 ≤ PySem.sizeLine), ?_⟩
    repeat walk_at "dw"
    refine ⟨a, m6, _, [1, -1], rfl, Store.set_same, pn6, ⟨by omega, by omega⟩, (by decide : 0 < 2), (by decide : 2 < 1000000), fun sg m7 hsg pn7 => ?_⟩
    rw [Store.set_set]
    have sb : -1 ≤ sg ∧ sg ≤ 1 := by
      rcases List.mem_cons.mp hsg with rfl | hsg
      · decide
      · rcases List.mem_cons.mp hsg with rfl | hsg
        · decide
        · cases hsg
    refine o_mul (.inr ⟨by omega, by omega⟩) ?_
    repeat walk_at "dw"
    refine ⟨(by decide : 2 ≤ PySem.sizeLine), ?_⟩
    refine ⟨_, rfl, fun i δ' S' => S' = S1.set a m7 ∧ ∃ z6 z7 z8, δ' = [some (.klst (ns.map .int)), some (.loc a), z2, some (.int (0 + (r : Int))), some (plainD c (wdays c) ahead), some (.ins (calA K) (c'.fs ++ [(("works" : Str), intsD ws)])), z6, z7, z8], ⟨rfl, _, _, _, rfl⟩, ?_, ?_⟩
    · rintro j x δ' S2 hx ⟨rfl, z6, z7, z8, rfl⟩
      have ey : ∃ y : Int, x = .int y := by
        have hm := List.mem_of_getElem? hx
        (rcases List.mem_cons.mp hm with rfl | hm)
        · exact ⟨_, rfl⟩
        · rcases List.mem_cons.mp hm with rfl | hm
          · exact ⟨_, rfl⟩
          · cases hm
      obtain ⟨y, rfl⟩ := ey
      have mo := ok.mo2
      have m2 := ok.m2
      have e1 : ((c.mo : Int) + 1 - 1).toNat = c.mo := by omega
      refine eg_name ?_
      unfold b1_law
      refine run_seq (run_set ?_)
      refine ev_lcP (fun i => D.str (c.line y ((i : Int) + 1))) (gk_name (by decide)) ?_
      repeat walk_at "dw"
      refine ⟨_, _, .v, pl_months, ?_⟩
      repeat walk_at "dw"
      refine ⟨1, _, rfl, ⟨by decide, by decide⟩, ⟨by omega, by omega⟩, by rw [rgD_len, e1]; exact Nat.le_trans m2 (by decide), fun i x hx => ?_, ?_⟩
      · obtain ⟨lt, rfl⟩ := rgD_get hx
        rw [e1] at lt
        repeat walk_at "dw"
        refine ⟨_, c, _, _, rfl, ⟨_, .v⟩, ok, by omega, by omega, ?_⟩
        rw [Int.add_comm]
        exact ⟨rfl, rfl⟩
      rw [rgD_len, e1]
      dsimp only
      have gt := good_table ok y
      have rl : (reprText (c.table y)).length ≤ PySem.sizeLine := Nat.le_trans (StrLaws.reprText_len _ gt.2) (Nat.le_trans (show 10 * (c.table y).length + 2 ≤ 40002 by have := gt.1; omega) (by decide))
      repeat walk_at "dw"
      refine ⟨_, c', y, rfl, ⟨_, .inr ⟨_, rfl⟩, .inl rfl⟩, ok', ?_⟩
      rw [tab]
      repeat walk_at "dw"
      refine c_repr rl ?_
      repeat walk_at "dw"
      refine ⟨⟨_, rfl⟩, ?_⟩
      repeat walk_at "dw"
      have gd : ∀ z ∈ (List.range c.mo).map fun (i : Nat) => c.line y ((i : Int) + 1), Good 200 z := fun z hz => by
        obtain ⟨i, h, rfl⟩ := List.mem_map.mp hz
        have := List.mem_range.mp h
        exact good_line ok (by omega) (by omega)
      refine m_join (ys := (List.range c.mo).map fun (i : Nat) => c.line y ((i : Int) + 1)) ?_ ?_ ?_
      · rw [List.map_map]
        exact .l
      · have := sum_good gd
        rw [List.length_map, List.length_range] at this ⊢
        show _ + _ * 1 ≤ _
        omega
      have et : Txt.join "\n" ((List.range c.mo).map fun (i : Nat) => c.line y ((i : Int) + 1)) = c.table y := rfl
      rw [et]
      repeat walk_at "dw"
      refine c_repr rl ?_
      repeat walk_at "dw"
      rw [show (!decide (reprText (c.table y) = reprText (c.table y))) = false by simp]
      repeat walk_at "dw"
      exact ⟨rfl, _, _, _, rfl⟩
    · rintro δ' S2 ⟨rfl, z6, z7, z8, rfl⟩
      dsimp only
      refine ⟨r8, ⟨m7, Store.set_same, ?_⟩, _, _, _, _, _, _, _, rfl⟩
      rw [show (22 + 1033 * ((r + 1 : Nat) : Int)) = 22 + 1033 * (r : Int) + 1001 + 1 + 30 + 1 by omega]
      exact pn7
  · rintro δ' S1 ⟨_, _, z2, z3, z4, z5, z6, z7, z8, rfl⟩
    repeat walk_at "dw"
    exact .now (p _)
end

end K81

set_option maxHeartbeats 410000
namespace K81
open PySem L2 DL PyProof.Rows
local macro_rules | `(tactic| walk_at "dw") => `(tactic| first
  | (with_reducible apply run_seq) | (with_reducible apply run_if)
  | ((with_reducible apply run_set); (try dsimp only [outD])) | ((with_reducible apply run_next); (try dsimp only [outD])) | ((with_reducible apply run_ret); (try dsimp only [outD])) | ((with_reducible apply run_retN); (try dsimp only [outD])) | ((with_reducible apply run_drop); (try dsimp only [outD]))
  | ((with_reducible apply run_brk); (try dsimp only [outD])) | ((with_reducible apply run_cont); (try dsimp only [outD])) | ((with_reducible apply run_asg); (try dsimp only [outD])) | ((with_reducible apply run_par); (try dsimp only [outD]))
  | (with_reducible apply par_mk)
  | ((with_reducible apply ev_var); · rfl)
  | (with_reducible apply ev_int) | (with_reducible apply ev_str) | (with_reducible apply ev_bl) | (with_reducible apply ev_non) | (with_reducible apply ev_ty)
  | (with_reducible apply ev_dgetS)
  | (with_reducible apply ev_op) | (with_reducible apply ev_un) | (with_reducible apply ea_cons) | (with_reducible apply ea_nil)
  | (with_reducible apply ev_isiT) | (with_reducible apply ev_cb) | (with_reducible apply ev_tup) | (with_reducible apply ev_lstM') | (with_reducible apply ev_lst)
  | (with_reducible apply o_add) | (with_reducible apply o_sub) | (with_reducible apply o_lt) | (with_reducible apply o_le) | (with_reducible apply o_gt) | (with_reducible apply o_ge) | (with_reducible apply o_eqI) | (with_reducible apply o_neI) | (with_reducible apply o_eqS) | (with_reducible apply o_neS) | (with_reducible apply u_neg)
  | (with_reducible apply et_test) | (with_reducible apply et_B) | (with_reducible apply et_not) | (with_reducible apply et_and) | (with_reducible apply et_or) | (with_reducible apply isB)
  | (with_reducible apply ev_andV) | (with_reducible apply ev_orV) | (with_reducible apply ev_notV) | (with_reducible apply ev_if) | (with_reducible apply ev_chain)
  | (with_reducible apply tt_and) | (with_reducible apply ff_and) | (with_reducible apply ntt_and)
  | (with_reducible apply ev_callE) | (with_reducible apply ev_methE) | (with_reducible apply ev_propE)
  | (with_reducible apply eg_name) | (with_reducible apply egs_nil) | (with_reducible apply egs_cons) | ((with_reducible apply eg_tup); · rfl)
  | (with_reducible apply c_abs) | (with_reducible apply c_min2) | (with_reducible apply c_max2) | (with_reducible apply c_int) | (with_reducible apply c_intB)
  | (with_reducible apply ep_cons) | (with_reducible apply ep_nil) | (with_reducible apply ev_sl) | (with_reducible apply eo_none) | (with_reducible apply eo_some) | (with_reducible apply et_yes)
  | (with_reducible apply ev_bm) | (with_reducible apply ev_m1) | (with_reducible apply ei_rng1) | (with_reducible apply ei_rng2) | (with_reducible apply ei_list) | (with_reducible apply ei_tup))
section
variable {K : Frag} {E : XK} {c : Cal} {ex : List (Key × D)}
theorem mIdx_le : ∀ (xs : List Int) (r : Int), (∀ x ∈ xs, 1 ≤ x) → 0 ≤ r → (mIdx xs r : Int) ≤ r
  | [], r, _, h => by simpa [mIdx] using h
  | x :: xs, r, hx, h => by
    have h1 := hx x (List.mem_cons_self ..)
    by_cases q : r < x
    · rw [mIdx, if_pos q]; exact h
    · rw [mIdx, if_neg q]
      have := mIdx_le xs (r - x) (fun z hz => hx z (List.mem_cons_of_mem _ hz)) (by omega)
      omega
theorem many_work {xs : List Int} {f r : Int} (hl : 10 ≤ xs.length) (hx : ∀ x ∈ xs, 1 ≤ x) (f0 : 0 ≤ f) (f1 : f < 2) (r0 : 0 ≤ r) (r1 : r < 2) (sm : (⟨[xs], 2, f, [r], [(10, 2), ((xs.length : Int), 1)]⟩ : Cal).Sm) :
    ∃ i : Int, 0 ≤ i ∧ i < (⟨[xs], 2, f, [r], [(10, 2), ((xs.length : Int), 1)]⟩ : Cal).per ∧ (⟨[xs], 2, f, [r], [(10, 2), ((xs.length : Int), 1)]⟩ : Cal).work i = true := by
  generalize hc : (⟨[xs], 2, f, [r], [(10, 2), ((xs.length : Int), 1)]⟩ : Cal) = c at *
  have ok := sm.toOk
  have tp := ok.tot_pos
  have lens : c.lens = xs := by subst hc; simp [Cal.lens]
  have mo : c.mo = xs.length := by subst hc; rfl
  have tot10 : 10 ≤ c.tot := by
    have h := sum_bd (a := 1) (b := 40) c.lens ok.dpos
    rw [lens] at h
    have e : c.tot = xs.sum := by rw [← lens]; rfl
    omega
  have per2 : 2 ≤ c.per := by
    have g := ok.gcd_pos
    have gd : (Int.gcd c.tot c.wk : Int) ∣ c.tot := Int.gcd_dvd_left ..
    have q1 : 1 ≤ c.tot / (Int.gcd c.tot c.wk : Int) := by
      have := Int.ediv_mul_cancel gd
      rcases Int.lt_or_le 0 (c.tot / (Int.gcd c.tot c.wk : Int)) with h | h
      · omega
      · have := Int.mul_le_mul_of_nonneg_right h (show (0 : Int) ≤ (Int.gcd c.tot c.wk : Int) by omega)
        omega
    have w2 : c.wk = 2 := by subst hc; rfl
    unfold Cal.per
    generalize c.tot / (Int.gcd c.tot c.wk : Int) = q at q1
    rw [w2]
    omega
  have early : ∀ i : Int, 0 ≤ i → i ≤ 1 → (c.mday i).1 ≤ 2 := fun i i0 i1 => by
    have e1 : i / c.tot = 0 := Int.ediv_eq_zero_of_lt i0 (by omega)
    have e2 : i % c.tot = i := Int.emod_eq_of_lt i0 (by omega)
    have e3 := mIdx_le c.lens i (fun x hx2 => (ok.dpos x hx2).1) i0
    have e4 : c.mnum i = (mIdx c.lens i : Int) := by unfold Cal.mnum; rw [e1, e2]; omega
    show c.mnum i % c.mo + 1 ≤ 2
    have e5 : c.mnum i % (c.mo : Int) ≤ c.mnum i := by
      rw [e4, mo, ← Int.natCast_emod]
      have := Nat.mod_le (mIdx c.lens i) xs.length
      omega
    omega
  have notin : ∀ i : Int, 0 ≤ i → i ≤ 1 → c.mday i ∉ c.free := fun i i0 i1 h => by
    have e := early i i0 i1
    have fr : c.free = [(10, 2), ((xs.length : Int), 1)] := by subst hc; rfl
    rw [fr] at h
    rcases List.mem_cons.mp h with h | h
    · rw [h] at e; simp at e
    · rcases List.mem_cons.mp h with h | h
      · rw [h] at e; simp only at e; omega
      · cases h
  have rs : c.rest = [r] := by subst hc; rfl
  have wd : ∀ i, c.wday i = (i + f) % 2 := fun i => by subst hc; rfl
  by_cases q : f % 2 = r
  · refine ⟨1, by decide, by omega, ?_⟩
    unfold Cal.work
    rw [decide_eq_false (notin 1 (by decide) (by decide)), rs, wd, decide_eq_false (by simp; omega)]
    rfl
  · refine ⟨0, by decide, by omega, ?_⟩
    unfold Cal.work
    rw [decide_eq_false (notin 0 (by decide) (by decide)), rs, wd, decide_eq_false (by simp; omega)]
    rfl
theorem run__law_many_months : ∀ J ds S P PX, J.S = S → C__law_many_months ds S P PX → J.X K E PX → Run K J (t__law_many_months K) (startD N__law_many_months ds) S (outD J P) := by
  rintro J ds S P PX hS ⟨a, m, t, rfl, hs, pn, lo, p⟩ hX
  have lo1 := lo.1
  have lo2 := lo.2
  unfold t__law_many_months
  refine run_seq (run_set (ev_lst (ea_cons ?_)))
  refine ev_lc (gk_name (by decide)) ?_
  repeat walk_at "dw"
  refine ⟨a, m, t, 5, rfl, hs, pn, ⟨by omega, by omega⟩, ⟨by decide, by decide⟩, fun n m1 n0 n1 pn1 => ?_⟩
  repeat walk_at "dw"
  refine ⟨10 + n, rfl, ⟨by omega, by omega⟩, fun i acc S' => ∃ xs : List Int, acc = xs.map D.int ∧ xs.length = i ∧ i ≤ (10 + n).toNat ∧ (∀ x ∈ xs, 1 ≤ x ∧ x ≤ 3) ∧ ∃ m', PenM m' (t + 1 + i) ∧ S' = S.set a m', ⟨[], rfl, rfl, Nat.zero_le _, fun x h => (by cases h), m1, by simpa using pn1, rfl⟩, ?_, ?_⟩
  · rintro i x acc S' hx ⟨xs, rfl, hl, hi, hb, m2, pn2, rfl⟩
    have lt := (rgD_get hx).1
    refine eg_name ?_
    repeat walk_at "dw"
    refine ⟨a, m2, _, 3, rfl, Store.set_same, pn2, ⟨by omega, by omega⟩, ⟨by decide, by decide⟩, fun d m3 d0 d1 pn3 => ?_⟩
    rw [Store.set_set]
    repeat walk_at "dw"
    refine ⟨?_, xs ++ [1 + d], by rw [List.map_append]; rfl, by rw [List.length_append, hl]; rfl, by omega, fun z hz => ?_, m3, ?_, rfl⟩
    · rw [List.length_map, hl]; exact Nat.lt_of_lt_of_le (show i < 20 by omega) (by decide)
    · rcases List.mem_append.mp hz with hz | hz
      · exact hb z hz
      · rw [List.mem_singleton] at hz; omega
    · rw [show t + 1 + ((i + 1 : Nat) : Int) = t + 1 + (i : Int) + 1 by omega]; exact pn3
  rintro acc S' ⟨xs, rfl, hl, hi, hb, m2, pn2, rfl⟩
  rw [rgD_len] at hl
  have l10 : 10 ≤ xs.length := by omega
  have l14 : xs.length ≤ 14 := by omega
  repeat walk_at "dw"
  refine ⟨(by decide : 1 ≤ PySem.sizeLine), ?_⟩
  dsimp only
  repeat walk_at "dw"
  refine ⟨a, m2, _, 2, rfl, Store.set_same, pn2, ⟨by omega, by rw [rgD_len]; omega⟩, ⟨by decide, by decide⟩, fun f m3 f0 f1 pn3 => ?_⟩
  rw [Store.set_set]
  repeat walk_at "dw"
  refine ⟨a, m3, _, 2, rfl, Store.set_same, pn3, ⟨by omega, by rw [rgD_len]; omega⟩, ⟨by decide, by decide⟩, fun r m4 r0 r1 pn4 => ?_⟩
  rw [Store.set_set]
  repeat walk_at "dw"
  refine ⟨(by decide : 1 ≤ PySem.sizeLine), ?_⟩
  repeat walk_at "dw"
  refine ⟨(by decide : 2 ≤ PySem.sizeLine), ?_⟩
  repeat walk_at "dw"
  refine o_ixL (d := .lst (xs.map D.int)) .v (atI_nn (i := 0) (by decide) rfl) ?_
  repeat walk_at "dw"
  refine c_lenSeq .l ?_
  rw [List.length_map]
  repeat walk_at "dw"
  refine ⟨(by decide : 2 ≤ PySem.sizeLine), ?_⟩
  repeat walk_at "dw"
  refine ⟨(by decide : 2 ≤ PySem.sizeLine), ?_⟩
  repeat walk_at "dw"
  have sm : (⟨[xs], 2, f, [r], [(10, 2), ((xs.length : Int), 1)]⟩ : Cal).Sm := {
    y1 := Nat.le_refl 1
    y2 := by show 1 ≤ 400; decide
    same := fun y hy => by rw [List.mem_singleton.mp hy]; rfl
    m1 := by show 1 ≤ xs.length; omega
    m2 := l14
    days := fun y hy d hd => by rw [List.mem_singleton.mp hy] at hd; have := hb d hd; omega
    w1 := by show (1 : Int) ≤ 2; decide
    w2 := by show (2 : Int) ≤ 10; decide
    l := by show ([xs].flatten).length ≤ 14; simpa using l14
    f1 := f0
    f2 := f1
    r1 := by simp
    r2 := fun z hz => by rw [List.mem_singleton.mp hz]; exact ⟨r0, r1⟩
    r3 := by show 1 ≤ 4000; decide
    h1 := by simp
    h2 := by show 2 < 64; decide
    h3 := fun z hz => by
      have mo : ((⟨[xs], 2, f, [r], [(10, 2), ((xs.length : Int), 1)]⟩ : Cal).mo : Int) = xs.length := rfl
      rw [mo]
      (rcases List.mem_cons.mp hz with rfl | hz)
      · exact ⟨by decide, by show (10 : Int) ≤ xs.length; omega, by decide, by decide⟩
      · (rw [List.mem_singleton.mp hz])
        exact ⟨by show (1 : Int) ≤ xs.length; omega, by show (xs.length : Int) ≤ xs.length; omega, by show (1 : Int) ≤ 1; decide, by show (1 : Int) ≤ 40; decide⟩ }
  refine ⟨⟨[xs], 2, f, [r], [(10, 2), ((xs.length : Int), 1)]⟩, rfl, sm, fun ahead => ?_⟩
  refine .now (p _ ahead m4 sm (many_work l10 (fun x hx => (hb x hx).1) f0 f1 r0 r1 sm) ?_)
  obtain ⟨cells, t0, l, e, a0, a1, a2⟩ := pn4
  refine ⟨cells, t0, l, e, a0, ?_, a2⟩
  rw [rgD_len] at a1
  omega
end

end K81

set_option maxHeartbeats 410000
namespace K81
open PySem L2 DL PyProof.Rows
local macro_rules | `(tactic| walk_at "dw") => `(tactic| first
  | (with_reducible apply run_seq) | (with_reducible apply run_if)
  | ((with_reducible apply run_set); (try dsimp only [outD])) | ((with_reducible apply run_next); (try dsimp only [outD])) | ((with_reducible apply run_ret); (try dsimp only [outD])) | ((with_reducible apply run_retN); (try dsimp only [outD])) | ((with_reducible apply run_drop); (try dsimp only [outD]))
  | ((with_reducible apply run_brk); (try dsimp only [outD])) | ((with_reducible apply run_cont); (try dsimp only [outD])) | ((with_reducible apply run_asg); (try dsimp only [outD])) | ((with_reducible apply run_par); (try dsimp only [outD]))
  | (with_reducible apply par_mk)
  | ((with_reducible apply ev_var); · rfl)
  | (with_reducible apply ev_int) | (with_reducible apply ev_str) | (with_reducible apply ev_bl) | (with_reducible apply ev_non) | (with_reducible apply ev_ty)
  | (with_reducible apply ev_dgetS)
  | (with_reducible apply ev_op) | (with_reducible apply ev_un) | (with_reducible apply ea_cons) | (with_reducible apply ea_nil)
  | (with_reducible apply ev_isiT) | (with_reducible apply ev_cb) | (with_reducible apply ev_tup) | (with_reducible apply ev_lstM') | (with_reducible apply ev_lst)
  | (with_reducible apply o_add) | (with_reducible apply o_sub) | (with_reducible apply o_lt) | (with_reducible apply o_le) | (with_reducible apply o_gt) | (with_reducible apply o_ge) | (with_reducible apply o_eqI) | (with_reducible apply o_neI) | (with_reducible apply o_eqS) | (with_reducible apply o_neS) | (with_reducible apply u_neg)
  | (with_reducible apply et_test) | (with_reducible apply et_B) | (with_reducible apply et_not) | (with_reducible apply et_and) | (with_reducible apply et_or) | (with_reducible apply isB)
  | (with_reducible apply ev_andV) | (with_reducible apply ev_orV) | (with_reducible apply ev_notV) | (with_reducible apply ev_if) | (with_reducible apply ev_chain)
  | (with_reducible apply tt_and) | (with_reducible apply ff_and) | (with_reducible apply ntt_and)
  | (with_reducible apply ev_callE) | (with_reducible apply ev_methE) | (with_reducible apply ev_propE)
  | (with_reducible apply eg_name) | (with_reducible apply egs_nil) | (with_reducible apply egs_cons) | ((with_reducible apply eg_tup); · rfl)
  | (with_reducible apply c_abs) | (with_reducible apply c_min2) | (with_reducible apply c_max2) | (with_reducible apply c_int) | (with_reducible apply c_intB)
  | (with_reducible apply ep_cons) | (with_reducible apply ep_nil) | (with_reducible apply ev_sl) | (with_reducible apply eo_none) | (with_reducible apply eo_some) | (with_reducible apply et_yes)
  | (with_reducible apply ev_bm) | (with_reducible apply ev_m1) | (with_reducible apply ei_rng1) | (with_reducible apply ei_rng2) | (with_reducible apply ei_list) | (with_reducible apply ei_tup))
section
variable {K : Frag} {E : XK} {c : Cal} {ex : List (Key × D)}
theorem PenM.mono {m : M} {t t' : Int} (h : PenM m t) (l : t ≤ t') : PenM m t' := by
  obtain ⟨cells, t0, x, e, a0, a1, a2⟩ := h
  exact ⟨cells, t0, x, e, a0, by omega, a2⟩
theorem wdays_ex (h : ((wdays c).map D.int).isEmpty = false) : ∃ i : Int, 0 ≤ i ∧ i < c.per ∧ c.work i = true := by
  cases e : wdays c with
  | nil => rw [e] at h; cases h
  | cons x l =>
    have hx : x ∈ wdays c := by rw [e]; exact List.mem_cons_self ..
    obtain ⟨h1, h2⟩ := List.mem_filter.mp hx
    obtain ⟨i, hi, rfl⟩ := List.mem_map.mp h1
    have := List.mem_range.mp hi
    exact ⟨i, by omega, by omega, h2⟩
theorem run_imp0 {J : Jd} {t : TS} {δ : En} {S : Store} {R : Out} (Q : En → Store → Prop) (h : DL.Run K J t δ S ⟨Q, fun _ _ => False, fun _ _ => False, fun _ _ => False⟩) (k : ∀ δ' S', Q δ' S' → R.nx δ' S') : DL.Run K J t δ S R :=
  h.imp k (fun _ _ z => z.elim) (fun _ _ z => z.elim) (fun _ _ z => z.elim)
theorem run__law_plain : ∀ J ds S P PX, J.S = S → C__law_plain ds S P PX → J.X K E PX → Run K J (t__law_plain K) (startD N__law_plain ds) S (outD J P) := by
  rintro J ds S P PX hS ⟨a, m, t, rfl, hs, pn, lo, p⟩ hX
  have lo1 := lo.1
  have lo2 := lo.2
  unfold t__law_plain
  repeat walk_at "dw"
  refine ⟨a, m, t, 3, rfl, hs, pn, ⟨by omega, by omega⟩, ⟨by decide, by decide⟩, fun q1 m1 a0 a1 pn1 => ?_⟩
  repeat walk_at "dw"
  refine ⟨a, m1, _, 4, rfl, Store.set_same, pn1, ⟨by omega, by omega⟩, ⟨by decide, by decide⟩, fun q2 m2 b0 b1 pn2 => ?_⟩
  rw [Store.set_set]
  repeat walk_at "dw"
  refine ⟨(by decide : 2 ≤ PySem.sizeLine), eg_tup rfl (egs_cons (eg_name (egs_cons (eg_name (egs_nil ?_)))))⟩
  refine run_seq (run_imp0 (fun δ' S' => ∃ mn mo m', 1 ≤ mn ∧ mn ≤ 3 ∧ 1 ≤ mo ∧ mo ≤ 14 ∧ 1 ≤ mn * mo ∧ mn * mo ≤ 14 ∧ PenM m' (t + 4) ∧ S' = S.set a m' ∧ δ' = [some (.loc a), some (.int mn), some (.int mo), none, none, none, none, none, none, none, none, none, none, none, none]) ?_ ?_)
  · repeat walk_at "dw"
    refine ⟨a, m2, _, 5, rfl, Store.set_same, pn2, ⟨by omega, by omega⟩, ⟨by decide, by decide⟩, fun q3 m3 c0 c1 pn3 => ?_⟩
    rw [Store.set_set]
    repeat walk_at "dw"
    refine dec_and (fun q => ?_) (fun q => ?_)
    · repeat walk_at "dw"
      refine ⟨a, m3, _, 5, rfl, Store.set_same, pn3, ⟨by omega, by omega⟩, ⟨by decide, by decide⟩, fun q4 m4 d0 d1 pn4 => ?_⟩
      rw [Store.set_set]
      repeat walk_at "dw"
      refine ⟨(by decide : 2 ≤ PySem.sizeLine), ?_⟩
      repeat walk_at "dw"
      exact ⟨1, 10 + q4, m4, by decide, by decide, by omega, by omega, by omega, by omega, pn4.mono (by omega), rfl, rfl⟩
    · repeat walk_at "dw"
      have h : (1 + q1 = 1 ∨ 1 + q1 = 2 ∨ 1 + q1 = 3) := by omega
      refine ⟨1 + q1, 1 + q2, m3, by omega, by omega, by omega, by omega, ?_, ?_, pn3.mono (by omega), rfl, rfl⟩
      · rcases h with h | h | h <;> rw [h] <;> omega
      · rcases h with h | h | h <;> rw [h] <;> omega
  rintro δ' S' ⟨mn, mo, m3, n1, n2, o1, o2, p1, p2, pn3, rfl, rfl⟩
  clear pn1 pn2 a0 a1 b0 b1
  dsimp only
  repeat walk_at "dw"
  refine o_mul (.inr ⟨by omega, by omega⟩) ?_
  refine o_fdivP (by omega) (by omega) ?_
  have lg0 : 2 ≤ 40 / (mn * mo) ∧ 40 / (mn * mo) ≤ 40 := by
    generalize mn * mo = z at p1 p2
    refine ⟨?_, Int.ediv_le_self _ (by decide)⟩
    have := Int.le_ediv_of_mul_le (a := 2) (b := 40) (c := z) (by omega) (by omega)
    exact this
  repeat walk_at "dw"
  refine ⟨(by decide : 5 ≤ PySem.sizeLine), ?_⟩
  repeat walk_at "dw"
  refine ⟨a, m3, _, [1, 2, 3, 5, 40 / (mn * mo)], rfl, Store.set_same, pn3, ⟨by omega, by omega⟩, (by decide : 0 < 5), (by decide : 5 < 1000000), fun lg m4 hlg pn4 => ?_⟩
  rw [Store.set_set]
  have lb : 1 ≤ lg ∧ lg ≤ 40 := by
    generalize 40 / (mn * mo) = z at hlg lg0
    simp only [List.mem_cons, List.not_mem_nil, or_false] at hlg
    omega
  repeat walk_at "dw"
  refine ⟨a, m4, _, 5, rfl, Store.set_same, pn4, ⟨by omega, by omega⟩, ⟨by decide, by decide⟩, fun sz m5 e0 e1 pn5 => ?_⟩
  rw [Store.set_set]
  repeat walk_at "dw"
  refine ⟨(by decide : 2 ≤ PySem.sizeLine), eg_tup rfl (egs_cons (eg_name (egs_cons (eg_name (egs_nil ?_)))))⟩
  refine run_seq (run_set ?_)
  refine ev_lc (gk_name (by decide)) ?_
  repeat walk_at "dw"
  refine ⟨mn, rfl, ⟨by omega, by omega⟩, fun i acc S' => ∃ yrs : List (List Int), acc = yrs.map intsD ∧ yrs.length = i ∧ i ≤ mn.toNat ∧ (∀ y ∈ yrs, y.length = mo.toNat ∧ ∀ d ∈ y, 1 ≤ d ∧ d ≤ 40) ∧ ∃ m', PenM m' (t + 6 + 14 * i) ∧ S' = S.set a m', ⟨[], rfl, rfl, Nat.zero_le _, fun y h => (by cases h), m5, pn5.mono (by omega), rfl⟩, ?_, ?_⟩
  · rintro i x acc S' hx ⟨yrs, rfl, hl, hi, hb, m6, pn6, rfl⟩
    have lt := (rgD_get hx).1
    refine eg_name ?_
    refine et_yes ⟨fun _ => ?_, fun z => (by cases z)⟩
    refine ev_lc (gk_name (by decide)) ?_
    repeat walk_at "dw"
    refine ⟨mo, rfl, ⟨by omega, by omega⟩, fun j acc S' => ∃ xs : List Int, acc = xs.map D.int ∧ xs.length = j ∧ j ≤ mo.toNat ∧ (∀ d ∈ xs, 1 ≤ d ∧ d ≤ 40) ∧ ∃ m', PenM m' (t + 6 + 14 * i + j) ∧ S' = S.set a m', ⟨[], rfl, rfl, Nat.zero_le _, fun y h => (by cases h), m6, pn6.mono (by omega), rfl⟩, ?_, ?_⟩
    · rintro j x acc S' hx ⟨xs, rfl, hxl, hj, hxb, m7, pn7, rfl⟩
      have ltj := (rgD_get hx).1
      refine eg_name ?_
      repeat walk_at "dw"
      refine ⟨a, m7, _, lg, rfl, Store.set_same, pn7, ⟨by omega, by omega⟩, ⟨by omega, by omega⟩, fun d m8 d0 d1 pn8 => ?_⟩
      rw [Store.set_set]
      repeat walk_at "dw"
      refine ⟨?_, xs ++ [1 + d], by rw [List.map_append]; rfl, by rw [List.length_append, hxl]; rfl, by omega, fun z hz => ?_, m8, pn8.mono (by omega), rfl⟩
      · rw [List.length_map, hxl]; exact Nat.lt_of_lt_of_le (show j < 20 by omega) (by decide)
      · rcases List.mem_append.mp hz with hz | hz
        · exact hxb z hz
        · rw [List.mem_singleton] at hz; omega
    rintro acc S' ⟨xs, rfl, hxl, hj, hxb, m7, pn7, rfl⟩
    rw [rgD_len] at hxl pn7
    refine ⟨?_, yrs ++ [xs], by rw [List.map_append]; rfl, by rw [List.length_append, hl]; rfl, by omega, fun y hy => ?_, m7, pn7.mono (by omega), rfl⟩
    · rw [List.length_map, hl]; exact Nat.lt_of_lt_of_le (show i < 20 by omega) (by decide)
    · rcases List.mem_append.mp hy with hy | hy
      · exact hb y hy
      · rw [List.mem_singleton] at hy
        subst hy
        exact ⟨hxl, hxb⟩
  rintro acc S' ⟨yrs, rfl, hl, hi, hb, m6, pn6, rfl⟩
  rw [rgD_len] at hl pn6
  have pn6 := pn6.mono (show _ ≤ t + 48 by omega)
  dsimp only
  repeat walk_at "dw"
  refine ⟨a, m6, _, 4, rfl, Store.set_same, pn6, ⟨by omega, by omega⟩, ⟨by decide, by decide⟩, fun sh m7 f0 f1 pn7 => ?_⟩
  rw [Store.set_set]
  repeat walk_at "dw"
  refine ⟨by decide, ?_⟩
  repeat walk_at "dw"
  refine ⟨(by decide : 2 ≤ PySem.sizeLine), eg_tup rfl (egs_cons (eg_name (egs_cons (eg_name (egs_nil ?_)))))⟩
  refine run_seq (run_set ?_)
  refine ev_lc (gk_name (by decide)) ?_
  repeat walk_at "dw"
  refine ⟨1 + sz, rfl, ⟨by omega, by omega⟩, fun i acc S' => i ≤ (1 + sz).toNat ∧ ∃ l : List Int, acc = l.map D.int ∧ l.Nodup ∧ (∀ r ∈ l, 0 ≤ r ∧ r < i) ∧ l.length ≤ i ∧ ∃ m', PenM m' (t + 49 + i) ∧ S' = S.set a m', ⟨Nat.zero_le _, [], rfl, List.Pairwise.nil, fun y h => (by cases h), Nat.le_refl _, m7, pn7.mono (by omega), rfl⟩, ?_, ?_⟩
  · rintro i x acc S' hx ⟨hi, l, rfl, nd, lb2, ll, m8, pn8, rfl⟩
    obtain ⟨lt, rfl⟩ := rgD_get hx
    refine eg_name ?_
    repeat walk_at "dw"
    refine ⟨a, m8, _, 4, rfl, Store.set_same, pn8, ⟨by omega, by omega⟩, ⟨by decide, by decide⟩, fun d m9 d0 d1 pn9 => ?_⟩
    rw [Store.set_set]
    repeat walk_at "dw"
    refine dec_and (fun q => ?_) (fun q => ?_)
    · repeat walk_at "dw"
      refine ⟨?_, by omega, l ++ [0 + (i : Int)], by rw [List.map_append]; rfl, ?_, fun r hr => ?_, by rw [List.length_append]; exact Nat.add_le_add_right ll 1, m9, pn9.mono (by omega), rfl⟩
      · rw [List.length_map]; exact Nat.lt_of_lt_of_le (show l.length < 20 by omega) (by decide)
      · refine List.nodup_append.mpr ⟨nd, by simp, fun x hx y hy => ?_⟩
        have := lb2 x hx
        rw [List.mem_singleton] at hy
        omega
      · (rcases List.mem_append.mp hr with hr | hr)
        · have := lb2 r hr; omega
        · rw [List.mem_singleton] at hr; omega
    · exact ⟨by omega, l, rfl, nd, fun r hr => by have := lb2 r hr; omega, by omega, m9, pn9.mono (by omega), rfl⟩
  rintro acc S' ⟨_, idle, rfl, ind, ib, il, m8, pn8, rfl⟩
  rw [rgD_len] at ib il pn8
  have pn8 := pn8.mono (show _ ≤ t + 54 by omega)
  dsimp only
  refine run_seq (run_for ?_)
  repeat walk_at "dw"
  refine ⟨a, m8, _, 3, rfl, Store.set_same, pn8, ⟨by omega, by omega⟩, ⟨by decide, by decide⟩, fun rd m9 g0 g1 pn9 => ?_⟩
  rw [Store.set_set]
  repeat walk_at "dw"
  refine ⟨rd, rfl, ⟨by omega, by omega⟩, fun i δ' S' => i ≤ 2 ∧ ∃ fr : List (Int × Int), fr.Nodup ∧ fr.length ≤ i ∧ (∀ p ∈ fr, 1 ≤ p.1 ∧ p.1 ≤ mo ∧ 1 ≤ p.2 ∧ p.2 ≤ 40) ∧ (∃ m', PenM m' (t + 55 + 2 * i) ∧ S' = S.set a m') ∧ ∃ z9 z10, δ' = [some (.loc a), some (.int mn), some (.int mo), some (.int lg), some (.int (1 + sz)), some (intssD yrs), some (.int sh), some (pairsD fr), some (intsD idle), z9, z10, none, none, none, none],
    ⟨by decide, [], List.Pairwise.nil, Nat.le_refl _, fun p h => (by cases h), ⟨m9, pn9.mono (by omega), rfl⟩, none, none, rfl⟩, ?_, ?_⟩
  · rintro i x δ' S' hx ⟨hi, fr, nd, fl, fb, ⟨ma, pna, rfl⟩, z9, z10, rfl⟩
    have lt := (rgD_get hx).1
    refine eg_name ?_
    unfold b1__law_plain
    repeat walk_at "dw"
    refine ⟨a, ma, _, mo, rfl, Store.set_same, pna, ⟨by omega, by omega⟩, ⟨by omega, by omega⟩, fun d1 mb h0 h1 pnb => ?_⟩
    rw [Store.set_set]
    repeat walk_at "dw"
    refine ⟨a, mb, _, lg + 1, rfl, Store.set_same, pnb, ⟨by omega, by omega⟩, ⟨by omega, by omega⟩, fun d2 mc i0 i1 pnc => ?_⟩
    rw [Store.set_set]
    repeat walk_at "dw"
    have mb2 : 1 ≤ (if 1 + d2 < 40 then 1 + d2 else 40) ∧ (if 1 + d2 < 40 then 1 + d2 else 40) ≤ 40 := by split <;> omega
    generalize (if 1 + d2 < 40 then 1 + d2 else 40) = dd at mb2
    refine ⟨(by decide : 2 ≤ PySem.sizeLine), ?_⟩
    repeat walk_at "dw"
    refine ⟨(by decide : 1 ≤ PySem.sizeLine), ?_⟩
    repeat walk_at "dw"
    refine o_notInP (p := (1 + d1, dd)) (ps := fr) ?_
    repeat walk_at "dw"
    by_cases q : (1 + d1, dd) ∈ fr
    · rw [decide_eq_true q]
      refine o_rep .v (by decide) (by decide) (by show 1 * 0 ≤ PySem.sizeLine; decide) ?_
      have el : fr.map DL.pairD ++ (List.replicate (if (!true) = true then (1 : Int) else 0).toNat [D.tup [D.int (1 + d1), D.int dd]]).flatten = fr.map DL.pairD := by simp
      refine o_cat .v .v ?_ ?_
      · rw [List.length_map]; exact Nat.le_trans (show fr.length + 0 ≤ 20 by omega) (by decide)
      · rw [el]
        exact ⟨by omega, fr, nd, by omega, fb, ⟨mc, pnc.mono (by omega), rfl⟩, _, _, rfl⟩
    · rw [decide_eq_false q]
      refine o_rep .v (by decide) (by decide) (by show 1 * 1 ≤ PySem.sizeLine; decide) ?_
      have el : fr.map DL.pairD ++ (List.replicate (if (!false) = true then (1 : Int) else 0).toNat [D.tup [D.int (1 + d1), D.int dd]]).flatten = (fr ++ [(1 + d1, dd)]).map DL.pairD := by rw [List.map_append]; rfl
      refine o_cat .v .v ?_ ?_
      · rw [List.length_map]; exact Nat.le_trans (show fr.length + 1 ≤ 20 by omega) (by decide)
      · rw [el]
        refine ⟨by omega, fr ++ [(1 + d1, dd)], List.nodup_append.mpr ⟨nd, by simp, fun x hx y hy => ?_⟩, by rw [List.length_append]; exact Nat.add_le_add_right fl 1, fun z hz => ?_, ⟨mc, pnc.mono (by omega), rfl⟩, _, _, rfl⟩
        · rw [List.mem_singleton] at hy
          rintro rfl
          subst hy
          exact q hx
        · rcases List.mem_append.mp hz with hz | hz
          · exact fb z hz
          · rw [List.mem_singleton] at hz
            subst hz
            exact ⟨by omega, by show 1 + d1 ≤ mo; omega, mb2.1, mb2.2⟩
  rintro δ' S' ⟨_, fr, nd, fl, fb, ⟨ma, pna, rfl⟩, z9, z10, rfl⟩
  rw [rgD_len] at fl pna
  have pna := pna.mono (show _ ≤ t + 59 by omega)
  dsimp only
  refine run_seq (run_set ?_)
  repeat walk_at "dw"
  refine ⟨a, ma, _, 1 + sz, rfl, Store.set_same, pna, ⟨by omega, by omega⟩, ⟨by omega, by omega⟩, fun f md k0 k1 pnd => ?_⟩
  rw [Store.set_set]
  repeat walk_at "dw"
  have pnd := pnd.mono (show _ ≤ t + 1000 by omega)
  obtain ⟨y0, ys, ey⟩ : ∃ y0 ys, yrs = y0 :: ys := by
    cases yrs with
    | nil => simp at hl; omega
    | cons y0 ys => exact ⟨_, _, rfl⟩
  have smk : ∀ (rest : List Int) (free : List (Int × Int)), rest.Nodup → (∀ r ∈ rest, 0 ≤ r ∧ r < 1 + sz) → rest.length ≤ 4000 → free.Nodup → free.length < 64 → (∀ p ∈ free, 1 ≤ p.1 ∧ p.1 ≤ mo ∧ 1 ≤ p.2 ∧ p.2 ≤ 40) → (⟨yrs, 1 + sz, f, rest, free⟩ : Cal).Sm := fun rest free r1 r2 r3 h1 h2 h3 => by
    have emo : (⟨yrs, 1 + sz, f, rest, free⟩ : Cal).mo = mo.toNat := by
      show (yrs.headD []).length = _
      rw [ey]
      exact (hb y0 (by rw [ey]; exact List.mem_cons_self ..)).1
    have ok : (⟨yrs, 1 + sz, f, rest, free⟩ : Cal).Ok := {
      y1 := by show 1 ≤ yrs.length; omega
      y2 := by show yrs.length ≤ 400; omega
      same := fun y hy => by rw [emo]; exact (hb y hy).1
      m1 := by rw [emo]; omega
      m2 := by rw [emo]; omega
      days := fun y hy d hd => (hb y hy).2 d hd
      w1 := by show (1 : Int) ≤ 1 + sz; omega
      w2 := by show 1 + sz ≤ (10 : Int); omega }
    exact { ok with
      l := by
        rw [ok.len, emo]
        show yrs.length * mo.toNat ≤ 14
        rw [hl]
        have : ((mn.toNat * mo.toNat : Nat) : Int) = mn * mo := by rw [Int.natCast_mul, Int.toNat_of_nonneg (by omega), Int.toNat_of_nonneg (by omega)]
        omega
      f1 := k0
      f2 := k1
      r1 := r1
      r2 := r2
      r3 := r3
      h1 := h1
      h2 := h2
      h3 := fun z hz => by
        have := h3 z hz
        rw [emo]
        exact ⟨this.1, by omega, this.2.2⟩ }
  have sm := smk idle fr ind (fun r hr => by have := ib r hr; omega) (by omega) nd (by omega) fb
  refine ⟨⟨yrs, 1 + sz, f, idle, fr⟩, rfl, sm, fun ahead => ?_⟩
  repeat walk_at "dw"
  refine ⟨_, _, .v, rfl, ?_⟩
  repeat walk_at "dw"
  refine ⟨by decide, ?_⟩
  refine o_neNil pl_ints ?_
  repeat walk_at "dw"
  cases he : ((wdays ⟨yrs, 1 + sz, f, idle, fr⟩).map D.int).isEmpty with
  | false =>
    refine nff_and ?_
    repeat walk_at "dw"
    exact .now (p _ ahead md sm (wdays_ex he) pnd)
  | true =>
    refine ntt_and (run_next ?_)
    dsimp only
    repeat walk_at "dw"
    refine ⟨_, _, .v, rfl, ?_⟩
    repeat walk_at "dw"
    refine ⟨by decide, ?_⟩
    repeat walk_at "dw"
    refine ⟨by decide, ?_⟩
    repeat walk_at "dw"
    have sm2 := smk [] [] List.Pairwise.nil (fun r hr => (by cases hr)) (by decide) List.Pairwise.nil (by decide) (fun r hr => (by cases hr))
    refine ⟨⟨yrs, 1 + sz, f, [], []⟩, rfl, sm2, fun ahead2 => ?_⟩
    have pb := sm2.per_bd
    refine .now (p _ ahead2 md sm2 ⟨0, by decide, by omega, ?_⟩ pnd)
    show (!decide (_ ∈ ([] : List Int)) && !decide (_ ∈ ([] : List (Int × Int)))) = true
    simp
end

end K81

set_option maxHeartbeats 0
/-! K81G: what the head looks at (printed by k81head.py). -/
namespace K81
open PySem PySem.Spec PyProof.Rows L2 DL
def top (i : Nat) : Stmt := PySem.Challenge.pw_dayrecipes_k81_years_as_tables.main.body.getD i (.Pass ⟨0, 0, 0, 0⟩)
abbrev s_is_integer : Stmt := top 25
abbrev s_common_divisor : Stmt := top 26
abbrev s_common_multiple : Stmt := top 27
abbrev s_is_row : Stmt := top 31
abbrev s_is_between : Stmt := top 32
abbrev s_are_years : Stmt := top 33
abbrev s_are_weekdays : Stmt := top 34
abbrev s_are_holidays : Stmt := top 35
abbrev s_month_starts : Stmt := top 36
abbrev s_month_at : Stmt := top 37
abbrev s_gregorian_years : Stmt := top 38
abbrev s_Calendar_weekday : Stmt := inClass (top 39) 25
abbrev s_Calendar_months : Stmt := inClass (top 39) 15
abbrev s_Calendar_period : Stmt := inClass (top 39) 17
abbrev s_Calendar_month_start : Stmt := inClass (top 39) 19
abbrev s_Calendar_month_days : Stmt := inClass (top 39) 20
abbrev s_Calendar_month_number : Stmt := inClass (top 39) 21
abbrev s_Calendar_parts : Stmt := inClass (top 39) 24
abbrev s_Calendar_is_work : Stmt := inClass (top 39) 26
abbrev s_Calendar_first_works : Stmt := inClass (top 39) 7
abbrev s_Calendar___init__ : Stmt := inClass (top 39) 0
abbrev s_Calendar_gregorian : Stmt := inClass (top 39) 2
abbrev s_Calendar_month_length : Stmt := inClass (top 39) 22
abbrev s_Calendar_date_of : Stmt := inClass (top 39) 23
abbrev s_month_line : Stmt := top 22
abbrev s_year_table : Stmt := top 23
abbrev s__law_pen : Stmt := top 41
abbrev s__law_draw : Stmt := top 42
abbrev s__law_pick : Stmt := top 43
abbrev s__law_great : Stmt := top 44
abbrev s__law_gcd : Stmt := top 45
abbrev s__law_facts : Stmt := top 49
abbrev s__law_weekday : Stmt := top 50
abbrev s__law_is_work : Stmt := top 51
abbrev s__law_with_days : Stmt := top 47
abbrev s__law_plain : Stmt := top 46
abbrev s__law_calendar : Stmt := top 48
abbrev s__law_month_begin : Stmt := top 52
abbrev s__law_month : Stmt := top 53
abbrev s__law_many_months : Stmt := top 54
abbrev s__law_gregorian : Stmt := top 55
abbrev s_law : Stmt := top 56
/-- a def that stands at an address found by a path of one's own -/
structure DefA where
  ad : Frag → Addr
  name : Str
  qual : Str
  params : Arguments
  body : List Stmt
  scope : Scope
  dfl : List He.Dv := []
  kwd : List (Str × He.Dv) := []
def seenA (K : Frag) (a : Addr) : He.FnW := match K.lookup a with
  | some ⟨_, _, .func f, _⟩ => some (f.name, f.qualname, f.params, f.body, f.scope, f.globals, f.closure, f.builtins)
  | _ => none
def DefA.wanted (d : DefA) : He.FnW := some (d.name, d.qual, d.params, .stmts d.body, d.scope, mainGlobals, [], builtinsNs)
def DefA.fits (K : Frag) (d : DefA) : Bool := PySem.W.keepIn K (.ref (d.ad K)) && (match K.lookup (d.ad K) with
  | some ⟨_, _, .func f, _⟩ => PySem.W.codeIn K f.code d.qual && (He.dflB K f.defaults (d.dfl.map (He.Dv.v K)) && He.kwdB K f.kwdefaults (d.kwd.map fun z => (z.1, z.2.v K)))
  | _ => false)
theorem DefA.fun_ {K : Frag} {d : DefA} (same : seenA K (d.ad K) = d.wanted) (fit : d.fits K = true) : ∃ fd, FunD K d.name d.qual d.params d.body d.scope (d.dfl.map (He.Dv.v K)) (d.kwd.map fun z => (z.1, z.2.v K)) (d.ad K) fd := by
  obtain ⟨kp, rest⟩ := He.ba fit
  unfold seenA at same
  rcases q : K.lookup (d.ad K) with _ | ⟨oc, od, dt, osl⟩
  · rw [q] at rest; cases rest
  rw [q] at rest same
  cases dt <;> first | cases rest; done | skip
  rename_i f
  obtain ⟨n1, n2, n3, n4, n5, n6, n7, n8, n9, n10, n11, n12, n13, n14, n15⟩ := f
  have eqs : (some (n1, n2, n3, n4, n5, n6, n7, n15) : He.FnW) = some (d.name, d.qual, d.params, .stmts d.body, d.scope, mainGlobals, [], builtinsNs) := same
  simp only [Option.some.injEq, Prod.mk.injEq] at eqs
  obtain ⟨rfl, rfl, rfl, e4, rfl, rfl, rfl, rfl⟩ := eqs
  subst e4
  obtain ⟨c1, c2⟩ := He.ba (show (PySem.W.codeIn K n13 d.qual && (He.dflB K n8 (d.dfl.map (He.Dv.v K)) && He.kwdB K n9 (d.kwd.map fun z => (z.1, z.2.v K)))) = true from rest)
  obtain ⟨c3, c4⟩ := He.ba c2
  exact ⟨_, ⟨oc, od, n8, n9, n10, n11, n12, n13, n14, osl, rfl, q, c1, He.dflB_ok c3, He.kwdB_ok c4⟩, kp⟩
/-- the keyword default x of the def at a, an object -/
def kwA (a : Frag → Addr) (x : Str) (K : Frag) : Addr := match K.lookup (a K) with
  | some ⟨_, _, .func f, _⟩ => (match f.kwdefaults with
    | .ref D => (match PySem.W.nsIn K D x with
      | some (some (.ref b)) => b
      | _ => 0)
    | _ => 0)
  | _ => 0
def tupA (K : Frag) (a : Addr) (vs : List V) : Bool := match K.lookup a with
  | some ⟨.type "tuple", _, .seq its _, _⟩ => He.relAll vs its.toList && decide (its.size ≤ PySem.sizeLine)
  | _ => false
theorem tupA_ok {K : Frag} {a : Addr} {vs : List V} (h : tupA K a vs = true) (H : Hp) : SqT K H a vs := by
  unfold tupA at h
  rcases q : K.lookup a with _ | ⟨oc, od, dt, osl⟩
  · rw [q] at h; cases h
  rw [q] at h
  split at h
  · rename_i z
    cases z
    obtain ⟨h1, h2⟩ := He.ba h
    exact .inr ⟨_, _, _, q, rfl, rfl, of_decide_eq_true h2, He.relAll_ok h1⟩
  · cases h
def propA (K : Frag) (m : Str) : Bool := He.eqO (PySem.W.findIn K (.ref (He.ga K "Calendar")) m) (some (some (.ref (He.ma K (He.ga K "Calendar") m)))) && (He.eqO (PySem.W.specialIn K (.ref (He.ma K (He.ga K "Calendar") m)) "__get__") (some (some (.builtin "property.__get__"))) &&
  (decide (PySem.W.takesIn K (.ref (He.ma K (He.ga K "Calendar") m)) = some true) && (match PySem.W.recIn K (He.ma K (He.ga K "Calendar") m) "property" with
    | some (.ref g :: _) => decide (g = pgA K "Calendar" m)
    | _ => false)))
theorem propA_ok {K : Frag} {m : Str} (h : propA K m = true) : PropOf K (He.ga K "Calendar") m (He.ma K (He.ga K "Calendar") m) (pgA K "Calendar" m) := by
  obtain ⟨h1, h2⟩ := He.ba h
  obtain ⟨h3, h4⟩ := He.ba h2
  obtain ⟨h5, h6⟩ := He.ba h4
  refine ⟨He.eqO_ok h1, He.eqO_ok h3, of_decide_eq_true h5, ?_⟩
  split at h6
  · rename_i g rest q
    exact ⟨rest, by rw [q, of_decide_eq_true h6]⟩
  · cases h6
def cmA (K : Frag) : Bool := PySem.W.readsIn K (He.ga K "Calendar") (.type "type") && (He.eqO (PySem.W.specialIn K (.ref (He.ga K "Calendar")) "__getattribute__") (some (some (.builtin "type.__getattribute__"))) && ((match PySem.W.findCls K (.ref (He.ga K "Calendar")) (.type "type") "gregorian" with
    | some (.get (.builtin b) (.ref p) .none (.ref C)) => decide (b = "classmethod.__get__") && (decide (p = He.ma K (He.ga K "Calendar") "gregorian") && decide (C = He.ga K "Calendar"))
    | _ => false) && ((match PySem.W.recIn K (He.ma K (He.ga K "Calendar") "gregorian") "classmethod" with
    | some (.ref g :: _) => decide (g = cgA K "Calendar" "gregorian")
    | _ => false) && PySem.W.fnIn K (cgA K "Calendar" "gregorian"))))
theorem cmA_ok {K : Frag} (h : cmA K = true) : ClX.CRead K (He.ga K "Calendar") (.type "type") ∧ ClX.CMet K (He.ga K "Calendar") (.type "type") "gregorian" (He.ma K (He.ga K "Calendar") "gregorian") (cgA K "Calendar" "gregorian") := by
  obtain ⟨h1, h2⟩ := He.ba h
  obtain ⟨h3, h4⟩ := He.ba h2
  obtain ⟨h5, h6⟩ := He.ba h4
  obtain ⟨h7, h8⟩ := He.ba h6
  refine ⟨⟨h1, He.eqO_ok h3⟩, ?_, ?_, h8⟩
  · split at h5
    · rename_i b p C q
      obtain ⟨k1, k2⟩ := He.ba h5
      obtain ⟨k3, k4⟩ := He.ba k2
      rw [q, of_decide_eq_true k1, of_decide_eq_true k3, of_decide_eq_true k4]
    · cases h5
  · split at h7
    · rename_i g rest q
      exact ⟨rest, by rw [q, of_decide_eq_true h7]⟩
    · cases h7
/-- what the head looks at -/
def asA (g : Addr → Option Obj) : Nat → List Addr
  | 0 => [mainGlobals, cStatics]
  | n + 1 => He.growD g (asA g n)
def obsA (fa : List He.Fa) (ex : Frag → Bool) (fn : List DefA) (K : Frag) : He.AlD := ((fa.all fun f => f.ok K) && (ex K && fn.all fun d => d.fits K), fn.map fun d => seenA K (d.ad K))
def valA (fn : List DefA) : He.AlD := (true, fn.map DefA.wanted)
def obsAG (n : Nat) (fa : List He.Fa) (ex : Frag → Bool) (fn : List DefA) (g : Addr → Option Obj) : He.AlD := obsA fa ex fn (He.frG g (asA g n))
def hookA (n : Nat) (fa : List He.Fa) (ex : Frag → Bool) (fn : List DefA) : PySem.W.Hook where
  α := He.AlD
  obs := fun s => obsAG n fa ex fn s.heap.get?
  val := fun _ => valA fn
  says := fun _ h => ∃ K : Frag, K.In h ∧ obsA fa ex fn K = valA fn
  of := fun _ _ e => ⟨_, He.frG_in, e⟩
  keeps := fun _ _ _ ⟨K, kin, c⟩ k => ⟨K, PySem.W.Frag.In.keeps kin k, c⟩
section
variable {fa : List He.Fa} {ex : Frag → Bool} {fn : List DefA} {K : Frag}
theorem saysA_fa (c : obsA fa ex fn K = valA fn) {f : He.Fa} (h : f ∈ fa) : f.ok K = true := List.all_eq_true.mp (He.ba (show ((fa.all fun f => f.ok K) && (ex K && fn.all fun d => d.fits K)) = true from congrArg (·.1) c)).1 f h
theorem saysA_ex (c : obsA fa ex fn K = valA fn) : ex K = true := (He.ba (He.ba (show ((fa.all fun f => f.ok K) && (ex K && fn.all fun d => d.fits K)) = true from congrArg (·.1) c)).2).1
theorem saysA_fn (c : obsA fa ex fn K = valA fn) (i : Nat) {d : DefA} (h : fn[i]? = some d) : ∃ fd, FunD K d.name d.qual d.params d.body d.scope (d.dfl.map (He.Dv.v K)) (d.kwd.map fun z => (z.1, z.2.v K)) (d.ad K) fd := by
  have fit := List.all_eq_true.mp (He.ba (He.ba (show ((fa.all fun f => f.ok K) && (ex K && fn.all fun d => d.fits K)) = true from congrArg (·.1) c)).2).2 d (List.mem_of_getElem? h)
  have e : fn.map (fun d => seenA K (d.ad K)) = fn.map DefA.wanted := congrArg (·.2) c
  have e2 : (fn.map fun d => seenA K (d.ad K))[i]? = (fn.map DefA.wanted)[i]? := by rw [e]
  (rw [List.getElem?_map, List.getElem?_map, h] at e2)
  exact DefA.fun_ (Option.some.inj e2) fit
end
def fns : List DefA := [
  ⟨fun K => (He.ga K "is_integer"), "is_integer", "is_integer", defArgs s_is_integer, defBody s_is_integer, defScope s_is_integer, [], []⟩,
  ⟨fun K => (He.ga K "common_divisor"), "common_divisor", "common_divisor", defArgs s_common_divisor, defBody s_common_divisor, defScope s_common_divisor, [], []⟩,
  ⟨fun K => (He.ga K "common_multiple"), "common_multiple", "common_multiple", defArgs s_common_multiple, defBody s_common_multiple, defScope s_common_multiple, [], []⟩,
  ⟨fun K => (He.ga K "is_row"), "is_row", "is_row", defArgs s_is_row, defBody s_is_row, defScope s_is_row, [], []⟩,
  ⟨fun K => (He.ga K "is_between"), "is_between", "is_between", defArgs s_is_between, defBody s_is_between, defScope s_is_between, [], []⟩,
  ⟨fun K => (He.ga K "are_years"), "are_years", "are_years", defArgs s_are_years, defBody s_are_years, defScope s_are_years, [], []⟩,
  ⟨fun K => (He.ga K "are_weekdays"), "are_weekdays", "are_weekdays", defArgs s_are_weekdays, defBody s_are_weekdays, defScope s_are_weekdays, [], []⟩,
  ⟨fun K => (He.ga K "are_holidays"), "are_holidays", "are_holidays", defArgs s_are_holidays, defBody s_are_holidays, defScope s_are_holidays, [], []⟩,
  ⟨fun K => (He.ga K "month_starts"), "month_starts", "month_starts", defArgs s_month_starts, defBody s_month_starts, defScope s_month_starts, [], []⟩,
  ⟨fun K => (He.ga K "month_at"), "month_at", "month_at", defArgs s_month_at, defBody s_month_at, defScope s_month_at, [], []⟩,
  ⟨fun K => (He.ga K "gregorian_years"), "gregorian_years", "gregorian_years", defArgs s_gregorian_years, defBody s_gregorian_years, defScope s_gregorian_years, [], []⟩,
  ⟨fun K => (He.ma K (He.ga K "Calendar") "weekday"), "weekday", "Calendar.weekday", defArgs s_Calendar_weekday, defBody s_Calendar_weekday, defScope s_Calendar_weekday, [], []⟩,
  ⟨fun K => (pgA K "Calendar" "months"), "months", "Calendar.months", defArgs s_Calendar_months, defBody s_Calendar_months, defScope s_Calendar_months, [], []⟩,
  ⟨fun K => (pgA K "Calendar" "period"), "period", "Calendar.period", defArgs s_Calendar_period, defBody s_Calendar_period, defScope s_Calendar_period, [], []⟩,
  ⟨fun K => (He.ma K (He.ga K "Calendar") "month_start"), "month_start", "Calendar.month_start", defArgs s_Calendar_month_start, defBody s_Calendar_month_start, defScope s_Calendar_month_start, [], []⟩,
  ⟨fun K => (He.ma K (He.ga K "Calendar") "month_days"), "month_days", "Calendar.month_days", defArgs s_Calendar_month_days, defBody s_Calendar_month_days, defScope s_Calendar_month_days, [], []⟩,
  ⟨fun K => (He.ma K (He.ga K "Calendar") "month_number"), "month_number", "Calendar.month_number", defArgs s_Calendar_month_number, defBody s_Calendar_month_number, defScope s_Calendar_month_number, [], []⟩,
  ⟨fun K => (He.ma K (He.ga K "Calendar") "parts"), "parts", "Calendar.parts", defArgs s_Calendar_parts, defBody s_Calendar_parts, defScope s_Calendar_parts, [], []⟩,
  ⟨fun K => (He.ma K (He.ga K "Calendar") "is_work"), "is_work", "Calendar.is_work", defArgs s_Calendar_is_work, defBody s_Calendar_is_work, defScope s_Calendar_is_work, [], []⟩,
  ⟨fun K => (He.ma K (He.ga K "Calendar") "first_works"), "first_works", "Calendar.first_works", defArgs s_Calendar_first_works, defBody s_Calendar_first_works, defScope s_Calendar_first_works, [], []⟩,
  ⟨fun K => (He.ma K (He.ga K "Calendar") "__init__"), "__init__", "Calendar.__init__", defArgs s_Calendar___init__, defBody s_Calendar___init__, defScope s_Calendar___init__, [.int 7], []⟩,
  ⟨fun K => (cgA K "Calendar" "gregorian"), "gregorian", "Calendar.gregorian", defArgs s_Calendar_gregorian, defBody s_Calendar_gregorian, defScope s_Calendar_gregorian, [], [("rest", .adr (kwA (fun K => (cgA K "Calendar" "gregorian")) "rest")), ("holidays", .adr (kwA (fun K => (cgA K "Calendar" "gregorian")) "holidays"))]⟩,
  ⟨fun K => (He.ma K (He.ga K "Calendar") "month_length"), "month_length", "Calendar.month_length", defArgs s_Calendar_month_length, defBody s_Calendar_month_length, defScope s_Calendar_month_length, [], []⟩,
  ⟨fun K => (He.ma K (He.ga K "Calendar") "date_of"), "date_of", "Calendar.date_of", defArgs s_Calendar_date_of, defBody s_Calendar_date_of, defScope s_Calendar_date_of, [], []⟩,
  ⟨fun K => (He.ga K "month_line"), "month_line", "month_line", defArgs s_month_line, defBody s_month_line, defScope s_month_line, [], []⟩,
  ⟨fun K => (He.ga K "year_table"), "year_table", "year_table", defArgs s_year_table, defBody s_year_table, defScope s_year_table, [], []⟩,
  ⟨fun K => (He.ga K "_law_pen"), "_law_pen", "_law_pen", defArgs s__law_pen, defBody s__law_pen, defScope s__law_pen, [], []⟩,
  ⟨fun K => (He.ga K "_law_draw"), "_law_draw", "_law_draw", defArgs s__law_draw, defBody s__law_draw, defScope s__law_draw, [], []⟩,
  ⟨fun K => (He.ga K "_law_pick"), "_law_pick", "_law_pick", defArgs s__law_pick, defBody s__law_pick, defScope s__law_pick, [], []⟩,
  ⟨fun K => (He.ga K "_law_great"), "_law_great", "_law_great", defArgs s__law_great, defBody s__law_great, defScope s__law_great, [], []⟩,
  ⟨fun K => (He.ga K "_law_gcd"), "_law_gcd", "_law_gcd", defArgs s__law_gcd, defBody s__law_gcd, defScope s__law_gcd, [], []⟩,
  ⟨fun K => (He.ga K "_law_facts"), "_law_facts", "_law_facts", defArgs s__law_facts, defBody s__law_facts, defScope s__law_facts, [], []⟩,
  ⟨fun K => (He.ga K "_law_weekday"), "_law_weekday", "_law_weekday", defArgs s__law_weekday, defBody s__law_weekday, defScope s__law_weekday, [], []⟩,
  ⟨fun K => (He.ga K "_law_is_work"), "_law_is_work", "_law_is_work", defArgs s__law_is_work, defBody s__law_is_work, defScope s__law_is_work, [], []⟩,
  ⟨fun K => (He.ga K "_law_with_days"), "_law_with_days", "_law_with_days", defArgs s__law_with_days, defBody s__law_with_days, defScope s__law_with_days, [], []⟩,
  ⟨fun K => (He.ga K "_law_plain"), "_law_plain", "_law_plain", defArgs s__law_plain, defBody s__law_plain, defScope s__law_plain, [], []⟩,
  ⟨fun K => (He.ga K "_law_calendar"), "_law_calendar", "_law_calendar", defArgs s__law_calendar, defBody s__law_calendar, defScope s__law_calendar, [], []⟩,
  ⟨fun K => (He.ga K "_law_month_begin"), "_law_month_begin", "_law_month_begin", defArgs s__law_month_begin, defBody s__law_month_begin, defScope s__law_month_begin, [], []⟩,
  ⟨fun K => (He.ga K "_law_month"), "_law_month", "_law_month", defArgs s__law_month, defBody s__law_month, defScope s__law_month, [], []⟩,
  ⟨fun K => (He.ga K "_law_many_months"), "_law_many_months", "_law_many_months", defArgs s__law_many_months, defBody s__law_many_months, defScope s__law_many_months, [], []⟩,
  ⟨fun K => (He.ga K "_law_gregorian"), "_law_gregorian", "_law_gregorian", defArgs s__law_gregorian, defBody s__law_gregorian, defScope s__law_gregorian, [], []⟩,
  ⟨fun K => (He.ga K "law"), "law", "law", defArgs s_law, defBody s_law, defScope s_law, [], []⟩]
def fas : List He.Fa := [.free "abs", .free "all", .free "bool", .free "int", .free "isinstance", .free "len", .free "list", .free "min", .free "range", .free "repr", .free "set", .free "sorted", .free "str", .free "tuple", .glo "Calendar", .glo "EVEN", .glo "_law_calendar", .glo "_law_draw", .glo "_law_facts", .glo "_law_gcd", .glo "_law_great", .glo "_law_gregorian", .glo "_law_is_work", .glo "_law_many_months", .glo "_law_month", .glo "_law_month_begin", .glo "_law_pen", .glo "_law_pick", .glo "_law_plain", .glo "_law_weekday", .glo "_law_with_days", .glo "are_holidays", .glo "are_weekdays", .glo "are_years", .glo "common_divisor", .glo "common_multiple", .glo "gregorian_years", .glo "is_between", .glo "is_integer", .glo "is_row", .glo "month_at", .glo "month_line", .glo "month_starts", .glo "year_table", .int "MAX_DAYS" 40, .int "MAX_MONTHS" 14, .int "MAX_PERIOD" 200000, .int "MAX_WEEK" 10, .int "MAX_YEARS" 400, .int "SHORT_PERIOD" 2000, .cls "Calendar", .mkr "Calendar", .meth "Calendar" "date_of", .meth "Calendar" "first_works", .meth "Calendar" "is_work", .meth "Calendar" "month_days", .meth "Calendar" "month_length", .meth "Calendar" "month_number", .meth "Calendar" "month_start", .meth "Calendar" "parts", .meth "Calendar" "weekday", .noat "Calendar" "all_years", .noat "Calendar" "days_of_week", .noat "Calendar" "begins", .noat "Calendar" "rests", .noat "Calendar" "free_days", .noat "Calendar" "lengths", .noat "Calendar" "starts", .noat "Calendar" "turn", .noat "Calendar" "works", .glo "law"]
def exs (K : Frag) : Bool := cmA K && (propA K "months" && propA K "period" && (tupA K (He.ga K "EVEN") (([31, 28, 31, 30, 31, 30, 31, 31, 30, 31, 30, 31] : List Int).map V.int) && (tupA K (kwA (fun K => cgA K "Calendar" "gregorian") "rest" K) [.int 5, .int 6] && tupA K (kwA (fun K => cgA K "Calendar" "gregorian") "holidays" K) [])))
end K81

set_option maxHeartbeats 4100000
/-! K81T: the walk over the text (printed by k81walk.py). -/
namespace K81
open PySem L2 DL PyProof.Rows
/-- what the head tells of the module -/
structure Tx (K : Frag) (mg : Str → Option Value) : Prop where
  n_abs : mg "abs" = none
  n_all : mg "all" = none
  n_bool : mg "bool" = none
  n_int : mg "int" = none
  n_isinstance : mg "isinstance" = none
  n_len : mg "len" = none
  n_list : mg "list" = none
  n_min : mg "min" = none
  n_range : mg "range" = none
  n_repr : mg "repr" = none
  n_set : mg "set" = none
  n_sorted : mg "sorted" = none
  n_str : mg "str" = none
  n_tuple : mg "tuple" = none
  g_Calendar : mg "Calendar" = some (.ref (He.ga K "Calendar"))
  g_EVEN : mg "EVEN" = some (.ref (He.ga K "EVEN"))
  g__law_calendar : mg "_law_calendar" = some (.ref (He.ga K "_law_calendar"))
  g__law_draw : mg "_law_draw" = some (.ref (He.ga K "_law_draw"))
  g__law_facts : mg "_law_facts" = some (.ref (He.ga K "_law_facts"))
  g__law_gcd : mg "_law_gcd" = some (.ref (He.ga K "_law_gcd"))
  g__law_great : mg "_law_great" = some (.ref (He.ga K "_law_great"))
  g__law_gregorian : mg "_law_gregorian" = some (.ref (He.ga K "_law_gregorian"))
  g__law_is_work : mg "_law_is_work" = some (.ref (He.ga K "_law_is_work"))
  g__law_many_months : mg "_law_many_months" = some (.ref (He.ga K "_law_many_months"))
  g__law_month : mg "_law_month" = some (.ref (He.ga K "_law_month"))
  g__law_month_begin : mg "_law_month_begin" = some (.ref (He.ga K "_law_month_begin"))
  g__law_pen : mg "_law_pen" = some (.ref (He.ga K "_law_pen"))
  g__law_pick : mg "_law_pick" = some (.ref (He.ga K "_law_pick"))
  g__law_plain : mg "_law_plain" = some (.ref (He.ga K "_law_plain"))
  g__law_weekday : mg "_law_weekday" = some (.ref (He.ga K "_law_weekday"))
  g__law_with_days : mg "_law_with_days" = some (.ref (He.ga K "_law_with_days"))
  g_are_holidays : mg "are_holidays" = some (.ref (He.ga K "are_holidays"))
  g_are_weekdays : mg "are_weekdays" = some (.ref (He.ga K "are_weekdays"))
  g_are_years : mg "are_years" = some (.ref (He.ga K "are_years"))
  g_common_divisor : mg "common_divisor" = some (.ref (He.ga K "common_divisor"))
  g_common_multiple : mg "common_multiple" = some (.ref (He.ga K "common_multiple"))
  g_gregorian_years : mg "gregorian_years" = some (.ref (He.ga K "gregorian_years"))
  g_is_between : mg "is_between" = some (.ref (He.ga K "is_between"))
  g_is_integer : mg "is_integer" = some (.ref (He.ga K "is_integer"))
  g_is_row : mg "is_row" = some (.ref (He.ga K "is_row"))
  g_month_at : mg "month_at" = some (.ref (He.ga K "month_at"))
  g_month_line : mg "month_line" = some (.ref (He.ga K "month_line"))
  g_month_starts : mg "month_starts" = some (.ref (He.ga K "month_starts"))
  g_year_table : mg "year_table" = some (.ref (He.ga K "year_table"))
  k_MAX_DAYS : ∃ u, mg "MAX_DAYS" = some u ∧ RelV (.int 40) u
  k_MAX_MONTHS : ∃ u, mg "MAX_MONTHS" = some u ∧ RelV (.int 14) u
  k_MAX_PERIOD : ∃ u, mg "MAX_PERIOD" = some u ∧ RelV (.int 200000) u
  k_MAX_WEEK : ∃ u, mg "MAX_WEEK" = some u ∧ RelV (.int 10) u
  k_MAX_YEARS : ∃ u, mg "MAX_YEARS" = some u ∧ RelV (.int 400) u
  k_SHORT_PERIOD : ∃ u, mg "SHORT_PERIOD" = some u ∧ RelV (.int 2000) u
  c_Calendar : Cls K (He.ga K "Calendar")
  mk_Calendar : Mk K (He.ga K "Calendar") (He.ma K (He.ga K "Calendar") "__init__")
  m_Calendar_date_of : Meth K (He.ga K "Calendar") "date_of" (He.ma K (He.ga K "Calendar") "date_of")
  m_Calendar_first_works : Meth K (He.ga K "Calendar") "first_works" (He.ma K (He.ga K "Calendar") "first_works")
  m_Calendar_is_work : Meth K (He.ga K "Calendar") "is_work" (He.ma K (He.ga K "Calendar") "is_work")
  m_Calendar_month_days : Meth K (He.ga K "Calendar") "month_days" (He.ma K (He.ga K "Calendar") "month_days")
  m_Calendar_month_length : Meth K (He.ga K "Calendar") "month_length" (He.ma K (He.ga K "Calendar") "month_length")
  m_Calendar_month_number : Meth K (He.ga K "Calendar") "month_number" (He.ma K (He.ga K "Calendar") "month_number")
  m_Calendar_month_start : Meth K (He.ga K "Calendar") "month_start" (He.ma K (He.ga K "Calendar") "month_start")
  m_Calendar_parts : Meth K (He.ga K "Calendar") "parts" (He.ma K (He.ga K "Calendar") "parts")
  m_Calendar_weekday : Meth K (He.ga K "Calendar") "weekday" (He.ma K (He.ga K "Calendar") "weekday")
  p_Calendar_months : PropOf K (He.ga K "Calendar") "months" (He.ma K (He.ga K "Calendar") "months") (pgA K "Calendar" "months")
  p_Calendar_period : PropOf K (He.ga K "Calendar") "period" (He.ma K (He.ga K "Calendar") "period") (pgA K "Calendar" "period")
  cr_Calendar : ClX.CRead K (He.ga K "Calendar") (.type "type")
  cm_Calendar_gregorian : ClX.CMet K (He.ga K "Calendar") (.type "type") "gregorian" (He.ma K (He.ga K "Calendar") "gregorian") (cgA K "Calendar" "gregorian")
  a_all_years : NoAttr K (He.ga K "Calendar") "all_years"
  a_days_of_week : NoAttr K (He.ga K "Calendar") "days_of_week"
  a_begins : NoAttr K (He.ga K "Calendar") "begins"
  a_rests : NoAttr K (He.ga K "Calendar") "rests"
  a_free_days : NoAttr K (He.ga K "Calendar") "free_days"
  a_lengths : NoAttr K (He.ga K "Calendar") "lengths"
  a_starts : NoAttr K (He.ga K "Calendar") "starts"
  a_turn : NoAttr K (He.ga K "Calendar") "turn"
  a_works : NoAttr K (He.ga K "Calendar") "works"
  even : ∀ H, SqT K H (He.ga K "EVEN") (([31, 28, 31, 30, 31, 30, 31, 31, 30, 31, 30, 31] : List Int).map V.int)
  d_is_integer : ∃ fd, FunD K "is_integer" "is_integer" (defArgs s_is_integer) (defBody s_is_integer) (defScope s_is_integer) [] [] (He.ga K "is_integer") fd
  d_common_divisor : ∃ fd, FunD K "common_divisor" "common_divisor" (defArgs s_common_divisor) (defBody s_common_divisor) (defScope s_common_divisor) [] [] (He.ga K "common_divisor") fd
  d_common_multiple : ∃ fd, FunD K "common_multiple" "common_multiple" (defArgs s_common_multiple) (defBody s_common_multiple) (defScope s_common_multiple) [] [] (He.ga K "common_multiple") fd
  d_is_row : ∃ fd, FunD K "is_row" "is_row" (defArgs s_is_row) (defBody s_is_row) (defScope s_is_row) [] [] (He.ga K "is_row") fd
  d_is_between : ∃ fd, FunD K "is_between" "is_between" (defArgs s_is_between) (defBody s_is_between) (defScope s_is_between) [] [] (He.ga K "is_between") fd
  d_are_years : ∃ fd, FunD K "are_years" "are_years" (defArgs s_are_years) (defBody s_are_years) (defScope s_are_years) [] [] (He.ga K "are_years") fd
  d_are_weekdays : ∃ fd, FunD K "are_weekdays" "are_weekdays" (defArgs s_are_weekdays) (defBody s_are_weekdays) (defScope s_are_weekdays) [] [] (He.ga K "are_weekdays") fd
  d_are_holidays : ∃ fd, FunD K "are_holidays" "are_holidays" (defArgs s_are_holidays) (defBody s_are_holidays) (defScope s_are_holidays) [] [] (He.ga K "are_holidays") fd
  d_month_starts : ∃ fd, FunD K "month_starts" "month_starts" (defArgs s_month_starts) (defBody s_month_starts) (defScope s_month_starts) [] [] (He.ga K "month_starts") fd
  d_month_at : ∃ fd, FunD K "month_at" "month_at" (defArgs s_month_at) (defBody s_month_at) (defScope s_month_at) [] [] (He.ga K "month_at") fd
  d_gregorian_years : ∃ fd, FunD K "gregorian_years" "gregorian_years" (defArgs s_gregorian_years) (defBody s_gregorian_years) (defScope s_gregorian_years) [] [] (He.ga K "gregorian_years") fd
  d_Calendar_weekday : ∃ fd, FunD K "weekday" "Calendar.weekday" (defArgs s_Calendar_weekday) (defBody s_Calendar_weekday) (defScope s_Calendar_weekday) [] [] (He.ma K (He.ga K "Calendar") "weekday") fd
  d_Calendar_months : ∃ fd, FunD K "months" "Calendar.months" (defArgs s_Calendar_months) (defBody s_Calendar_months) (defScope s_Calendar_months) [] [] (pgA K "Calendar" "months") fd
  d_Calendar_period : ∃ fd, FunD K "period" "Calendar.period" (defArgs s_Calendar_period) (defBody s_Calendar_period) (defScope s_Calendar_period) [] [] (pgA K "Calendar" "period") fd
  d_Calendar_month_start : ∃ fd, FunD K "month_start" "Calendar.month_start" (defArgs s_Calendar_month_start) (defBody s_Calendar_month_start) (defScope s_Calendar_month_start) [] [] (He.ma K (He.ga K "Calendar") "month_start") fd
  d_Calendar_month_days : ∃ fd, FunD K "month_days" "Calendar.month_days" (defArgs s_Calendar_month_days) (defBody s_Calendar_month_days) (defScope s_Calendar_month_days) [] [] (He.ma K (He.ga K "Calendar") "month_days") fd
  d_Calendar_month_number : ∃ fd, FunD K "month_number" "Calendar.month_number" (defArgs s_Calendar_month_number) (defBody s_Calendar_month_number) (defScope s_Calendar_month_number) [] [] (He.ma K (He.ga K "Calendar") "month_number") fd
  d_Calendar_parts : ∃ fd, FunD K "parts" "Calendar.parts" (defArgs s_Calendar_parts) (defBody s_Calendar_parts) (defScope s_Calendar_parts) [] [] (He.ma K (He.ga K "Calendar") "parts") fd
  d_Calendar_is_work : ∃ fd, FunD K "is_work" "Calendar.is_work" (defArgs s_Calendar_is_work) (defBody s_Calendar_is_work) (defScope s_Calendar_is_work) [] [] (He.ma K (He.ga K "Calendar") "is_work") fd
  d_Calendar_first_works : ∃ fd, FunD K "first_works" "Calendar.first_works" (defArgs s_Calendar_first_works) (defBody s_Calendar_first_works) (defScope s_Calendar_first_works) [] [] (He.ma K (He.ga K "Calendar") "first_works") fd
  d_Calendar___init__ : ∃ fd, FunD K "__init__" "Calendar.__init__" (defArgs s_Calendar___init__) (defBody s_Calendar___init__) (defScope s_Calendar___init__) [V.int 7] [] (He.ma K (He.ga K "Calendar") "__init__") fd
  d_Calendar_gregorian : ∃ ar ah fd, FunD K "gregorian" "Calendar.gregorian" (defArgs s_Calendar_gregorian) (defBody s_Calendar_gregorian) (defScope s_Calendar_gregorian) [] [("rest", V.ref ar), ("holidays", V.ref ah)] (cgA K "Calendar" "gregorian") fd ∧ (∀ H, SqT K H ar [.int 5, .int 6]) ∧ ∀ H, SqT K H ah []
  d_Calendar_month_length : ∃ fd, FunD K "month_length" "Calendar.month_length" (defArgs s_Calendar_month_length) (defBody s_Calendar_month_length) (defScope s_Calendar_month_length) [] [] (He.ma K (He.ga K "Calendar") "month_length") fd
  d_Calendar_date_of : ∃ fd, FunD K "date_of" "Calendar.date_of" (defArgs s_Calendar_date_of) (defBody s_Calendar_date_of) (defScope s_Calendar_date_of) [] [] (He.ma K (He.ga K "Calendar") "date_of") fd
  d_month_line : ∃ fd, FunD K "month_line" "month_line" (defArgs s_month_line) (defBody s_month_line) (defScope s_month_line) [] [] (He.ga K "month_line") fd
  d_year_table : ∃ fd, FunD K "year_table" "year_table" (defArgs s_year_table) (defBody s_year_table) (defScope s_year_table) [] [] (He.ga K "year_table") fd
  d__law_pen : ∃ fd, FunD K "_law_pen" "_law_pen" (defArgs s__law_pen) (defBody s__law_pen) (defScope s__law_pen) [] [] (He.ga K "_law_pen") fd
  d__law_draw : ∃ fd, FunD K "_law_draw" "_law_draw" (defArgs s__law_draw) (defBody s__law_draw) (defScope s__law_draw) [] [] (He.ga K "_law_draw") fd
  d__law_pick : ∃ fd, FunD K "_law_pick" "_law_pick" (defArgs s__law_pick) (defBody s__law_pick) (defScope s__law_pick) [] [] (He.ga K "_law_pick") fd
  d__law_great : ∃ fd, FunD K "_law_great" "_law_great" (defArgs s__law_great) (defBody s__law_great) (defScope s__law_great) [] [] (He.ga K "_law_great") fd
  d__law_gcd : ∃ fd, FunD K "_law_gcd" "_law_gcd" (defArgs s__law_gcd) (defBody s__law_gcd) (defScope s__law_gcd) [] [] (He.ga K "_law_gcd") fd
  d__law_facts : ∃ fd, FunD K "_law_facts" "_law_facts" (defArgs s__law_facts) (defBody s__law_facts) (defScope s__law_facts) [] [] (He.ga K "_law_facts") fd
  d__law_weekday : ∃ fd, FunD K "_law_weekday" "_law_weekday" (defArgs s__law_weekday) (defBody s__law_weekday) (defScope s__law_weekday) [] [] (He.ga K "_law_weekday") fd
  d__law_is_work : ∃ fd, FunD K "_law_is_work" "_law_is_work" (defArgs s__law_is_work) (defBody s__law_is_work) (defScope s__law_is_work) [] [] (He.ga K "_law_is_work") fd
  d__law_with_days : ∃ fd, FunD K "_law_with_days" "_law_with_days" (defArgs s__law_with_days) (defBody s__law_with_days) (defScope s__law_with_days) [] [] (He.ga K "_law_with_days") fd
  d__law_plain : ∃ fd, FunD K "_law_plain" "_law_plain" (defArgs s__law_plain) (defBody s__law_plain) (defScope s__law_plain) [] [] (He.ga K "_law_plain") fd
  d__law_calendar : ∃ fd, FunD K "_law_calendar" "_law_calendar" (defArgs s__law_calendar) (defBody s__law_calendar) (defScope s__law_calendar) [] [] (He.ga K "_law_calendar") fd
  d__law_month_begin : ∃ fd, FunD K "_law_month_begin" "_law_month_begin" (defArgs s__law_month_begin) (defBody s__law_month_begin) (defScope s__law_month_begin) [] [] (He.ga K "_law_month_begin") fd
  d__law_month : ∃ fd, FunD K "_law_month" "_law_month" (defArgs s__law_month) (defBody s__law_month) (defScope s__law_month) [] [] (He.ga K "_law_month") fd
  d__law_many_months : ∃ fd, FunD K "_law_many_months" "_law_many_months" (defArgs s__law_many_months) (defBody s__law_many_months) (defScope s__law_many_months) [] [] (He.ga K "_law_many_months") fd
  d__law_gregorian : ∃ fd, FunD K "_law_gregorian" "_law_gregorian" (defArgs s__law_gregorian) (defBody s__law_gregorian) (defScope s__law_gregorian) [] [] (He.ga K "_law_gregorian") fd
  d_law : ∃ fd, FunD K "law" "law" (defArgs s_law) (defBody s_law) (defScope s_law) [] [] (He.ga K "law") fd
section
variable {P : Program} {w : World} {K : Frag} {mg : Str → Option Value} {base : Heap}
theorem units65 {k : Nat} {A : Around} (hr : Room k A) : A.units + 65 < cLine := by have := hr.un; omega
theorem Tx.fx (T : Tx K mg) : Fx K := ⟨T.c_Calendar, T.a_all_years, T.a_days_of_week, T.a_begins, T.a_rests, T.a_free_days, T.a_lengths, T.a_starts, T.a_turn, T.a_works, T.even⟩
theorem sc_is_integer : FnScope N_is_integer ["value"] (defScope s_is_integer) := ⟨rfl, rfl, rfl, by decide +kernel, rfl, by decide +kernel, by decide +kernel⟩
theorem ty_is_integer (T : Tx K mg) {A : Around} {outer : List Env} {s : Shared} {H : Hp} {E : XK} {cdv : Value} {f : Addr} (hr : Room 0 (A.deeper (envOfC "is_integer" (defScope s_is_integer) s.heap.objs.size f cdv))) :
    PSs (cxOf CX0 P w K mg base N_is_integer "is_integer" (defScope s_is_integer) f cdv A outer s H E).nox (defBody s_is_integer) (t_is_integer K) := by
  unfold t_is_integer
  exact (pss_one (ps_ret (pe_and (pe_callB call_isi (by rfl) T.n_isinstance (by decide +kernel) (pa_cons (pv 0) (pa_cons (pe_bltn (by rfl) T.n_int (by decide +kernel) rfl) pa_nil))) (pe_one (pe_not (pe_callB call_isi (by rfl) T.n_isinstance (by decide +kernel) (pa_cons (pv 0) (pa_cons (pe_bltn (by rfl) T.n_bool (by decide +kernel) rfl) pa_nil))))))))
theorem ok_is_integer (T : Tx K mg) : FnD P w K mg base CX0 1 (He.ga K "is_integer") C_is_integer := by
  obtain ⟨fd, F⟩ := T.d_is_integer
  exact ⟨⟨fd, ["value"], F.ok sc_is_integer (spD_len (C := C_is_integer) (n := 1) fun ds S P PX h => by obtain ⟨_, rfl, _⟩ := h; rfl) (fun cdv A outer s H vs Q E hr h => ⟨t_is_integer K, PSs.nox (ty_is_integer T hr), bodyD (run_is_integer) h⟩), F.bindsN fun _ _ _ _ _ _ us hl => match us, hl with | [_], _ => rfl, F.kp⟩⟩
theorem sc_common_divisor : FnScope N_common_divisor ["one", "other"] (defScope s_common_divisor) := ⟨rfl, rfl, rfl, by decide +kernel, rfl, by decide +kernel, by decide +kernel⟩
theorem ty_common_divisor (T : Tx K mg) {A : Around} {outer : List Env} {s : Shared} {H : Hp} {E : XK} {cdv : Value} {f : Addr} (hr : Room 0 (A.deeper (envOfC "common_divisor" (defScope s_common_divisor) s.heap.objs.size f cdv))) :
    PSs (cxOf CX0 P w K mg base N_common_divisor "common_divisor" (defScope s_common_divisor) f cdv A outer s H E).nox (defBody s_common_divisor) (t_common_divisor K) := by
  unfold t_common_divisor
  exact (pss_cons (ps_par (i := 0) (j := 1) rfl sc_common_divisor.nd rfl rfl (by decide) rfl rfl (pa_cons (pe_callB call_abs (by rfl) T.n_abs (by decide +kernel) (pa_cons (pv 0) pa_nil)) (pa_cons (pe_callB call_abs (by rfl) T.n_abs (by decide +kernel) (pa_cons (pv 1) pa_nil)) pa_nil)) (by rfl)) (pss_cons (ps_while PassesOwn.never (pt_cmpR op_gt (pv 1) pe_int (nomark _)) (pss_one (ps_par (i := 0) (j := 1) rfl sc_common_divisor.nd rfl rfl (by decide) rfl rfl (pa_cons (pv 1) (pa_cons (pe_op op_modN (pv 0) (pv 1)) pa_nil)) (by rfl)))) (pss_one (ps_ret (pv 0)))))
theorem ok_common_divisor (T : Tx K mg) : FnD P w K mg base CX0 1 (He.ga K "common_divisor") C_common_divisor := by
  obtain ⟨fd, F⟩ := T.d_common_divisor
  exact ⟨⟨fd, ["one", "other"], F.ok sc_common_divisor (spD_len (C := C_common_divisor) (n := 2) fun ds S P PX h => by obtain ⟨_, _, rfl, _⟩ := h; rfl) (fun cdv A outer s H vs Q E hr h => ⟨t_common_divisor K, PSs.nox (ty_common_divisor T hr), bodyD (run_common_divisor) h⟩), F.bindsN fun _ _ _ _ _ _ us hl => match us, hl with | [_, _], _ => rfl, F.kp⟩⟩
theorem sc_common_multiple : FnScope N_common_multiple ["one", "other"] (defScope s_common_multiple) := ⟨rfl, rfl, rfl, by decide +kernel, rfl, by decide +kernel, by decide +kernel⟩
theorem ty_common_multiple (T : Tx K mg) {A : Around} {outer : List Env} {s : Shared} {H : Hp} {E : XK} {cdv : Value} {f : Addr} (hr : Room 1 (A.deeper (envOfC "common_multiple" (defScope s_common_multiple) s.heap.objs.size f cdv))) :
    PSs (cxOf CX0 P w K mg base N_common_multiple "common_multiple" (defScope s_common_multiple) f cdv A outer s H E).nox (defBody s_common_multiple) (t_common_multiple K) := by
  unfold t_common_multiple
  exact (pss_one (ps_ret (pe_op op_mul (pe_op op_fdivN (pv 0) (pe_cd (ok_common_divisor T) hr (by decide) (by rfl) T.g_common_divisor (pa_cons (pv 0) (pa_cons (pv 1) pa_nil)))) (pv 1))))
theorem ok_common_multiple (T : Tx K mg) : FnD P w K mg base CX0 2 (He.ga K "common_multiple") C_common_multiple := by
  obtain ⟨fd, F⟩ := T.d_common_multiple
  exact ⟨⟨fd, ["one", "other"], F.ok sc_common_multiple (spD_len (C := C_common_multiple) (n := 2) fun ds S P PX h => by obtain ⟨_, _, rfl, _⟩ := h; rfl) (fun cdv A outer s H vs Q E hr h => ⟨t_common_multiple K, PSs.nox (ty_common_multiple T hr), bodyD (run_common_multiple) h⟩), F.bindsN fun _ _ _ _ _ _ us hl => match us, hl with | [_, _], _ => rfl, F.kp⟩⟩
theorem sc_is_row : FnScope N_is_row ["value"] (defScope s_is_row) := ⟨rfl, rfl, rfl, by decide +kernel, rfl, by decide +kernel, by decide +kernel⟩
theorem ty_is_row (T : Tx K mg) {A : Around} {outer : List Env} {s : Shared} {H : Hp} {E : XK} {cdv : Value} {f : Addr} (hr : Room 0 (A.deeper (envOfC "is_row" (defScope s_is_row) s.heap.objs.size f cdv))) :
    PSs (cxOf CX0 P w K mg base N_is_row "is_row" (defScope s_is_row) f cdv A outer s H E).nox (defBody s_is_row) (t_is_row K) := by
  unfold t_is_row
  exact (pss_one (ps_ret (pe_callB call_isiT (by rfl) T.n_isinstance (by decide +kernel) (pa_cons (pv 0) (pa_cons (pe_tup (pa_cons (pe_bltn (by rfl) T.n_list (by decide +kernel) rfl) (pa_cons (pe_bltn (by rfl) T.n_tuple (by decide +kernel) rfl) pa_nil))) pa_nil)))))
theorem ok_is_row (T : Tx K mg) : FnD P w K mg base CX0 1 (He.ga K "is_row") C_is_row := by
  obtain ⟨fd, F⟩ := T.d_is_row
  exact ⟨⟨fd, ["value"], F.ok sc_is_row (spD_len (C := C_is_row) (n := 1) fun ds S P PX h => by obtain ⟨_, _, rfl, _⟩ := h; rfl) (fun cdv A outer s H vs Q E hr h => ⟨t_is_row K, PSs.nox (ty_is_row T hr), bodyD (run_is_row) h⟩), F.bindsN fun _ _ _ _ _ _ us hl => match us, hl with | [_], _ => rfl, F.kp⟩⟩
theorem sc_is_between : FnScope N_is_between ["value", "low", "high"] (defScope s_is_between) := ⟨rfl, rfl, rfl, by decide +kernel, rfl, by decide +kernel, by decide +kernel⟩
theorem ty_is_between (T : Tx K mg) {A : Around} {outer : List Env} {s : Shared} {H : Hp} {E : XK} {cdv : Value} {f : Addr} (hr : Room 1 (A.deeper (envOfC "is_between" (defScope s_is_between) s.heap.objs.size f cdv))) :
    PSs (cxOf CX0 P w K mg base N_is_between "is_between" (defScope s_is_between) f cdv A outer s H E).nox (defBody s_is_between) (t_is_between K) := by
  unfold t_is_between
  exact (pss_one (ps_ret (pe_and (pe_cd (ok_is_integer T) hr (by decide) (by rfl) T.g_is_integer (pa_cons (pv 0) pa_nil)) (pe_one (pe_chain op_le op_le (pv 1) (pv 0) (pv 2))))))
theorem ok_is_between (T : Tx K mg) : FnD P w K mg base CX0 2 (He.ga K "is_between") C_is_between := by
  obtain ⟨fd, F⟩ := T.d_is_between
  exact ⟨⟨fd, ["value", "low", "high"], F.ok sc_is_between (spD_len (C := C_is_between) (n := 3) fun ds S P PX h => by obtain ⟨_, _, _, rfl, _⟩ := h; rfl) (fun cdv A outer s H vs Q E hr h => ⟨t_is_between K, PSs.nox (ty_is_between T hr), bodyD (run_is_between) h⟩), F.bindsN fun _ _ _ _ _ _ us hl => match us, hl with | [_, _, _], _ => rfl, F.kp⟩⟩
theorem sc_are_years : FnScope N_are_years ["years"] (defScope s_are_years) := ⟨rfl, rfl, rfl, by decide +kernel, rfl, by decide +kernel, by decide +kernel⟩
theorem ty_are_years (T : Tx K mg) {A : Around} {outer : List Env} {s : Shared} {H : Hp} {E : XK} {cdv : Value} {f : Addr} (hr : Room 2 (A.deeper (envOfC "are_years" (defScope s_are_years) s.heap.objs.size f cdv))) :
    PSs (cxOf CX0 P w K mg base N_are_years "are_years" (defScope s_are_years) f cdv A outer s H E).nox (defBody s_are_years) (t_are_years K) := by
  unfold t_are_years
  exact (pss_cons (ps_if (PW.pt (pw_or (pt_not (pt_val (pe_cd (ok_is_row T) hr (by decide) (by rfl) T.g_is_row (pa_cons (pv 0) pa_nil)))) (pw_or (pt_not (pt_chain op_le op_le pe_int (pe_callB call_len_seq (by rfl) T.n_len (by decide +kernel) (pa_cons (pv 0) pa_nil)) (pe_gk (by rfl) T.k_MAX_YEARS))) (pw_or1 (pt_not (pt_val (pe_callB (cr_all rfl) (by rfl) T.n_all (by decide +kernel) (pa_cons (pe_lc (own := [("year", 1)]) (g := gName 1) rfl sc_are_years.nd (pi_list (pv 0)) (blkOk_by (N := N_are_years) (sc := defScope s_are_years) (by decide +kernel)) (fun _ _ _ _ _ => pg_name (i := 1) sc_are_years.nd rfl (by first | exact Or.inl rfl | exact Or.inr rfl)) (fun _ _ _ _ _ => pts_nil) (fun _ _ _ _ _ => (pe_cd (ok_is_row T) hr (by decide) (by rfl) T.g_is_row (pa_cons (pv 1) pa_nil)))) pa_nil)))))))) (pss_one (ps_ret pe_bl)) pss_nil) (pss_cons (ps_if (PW.pt (pw_or (pt_not (pt_chain op_le op_le pe_int (pe_callB call_len_seq (by rfl) T.n_len (by decide +kernel) (pa_cons (pe_ix ix_list (pv 0) pe_int (fun _ _ => rfl)) pa_nil)) (pe_gk (by rfl) T.k_MAX_MONTHS))) (pw_or1 (pt_not (pt_val (pe_callB (cr_all rfl) (by rfl) T.n_all (by decide +kernel) (pa_cons (pe_lc (own := [("year", 1)]) (g := gName 1) rfl sc_are_years.nd (pi_list (pv 0)) (blkOk_by (N := N_are_years) (sc := defScope s_are_years) (by decide +kernel)) (fun _ _ _ _ _ => pg_name (i := 1) sc_are_years.nd rfl (by first | exact Or.inl rfl | exact Or.inr rfl)) (fun _ _ _ _ _ => pts_nil) (fun _ _ _ _ _ => (pe_cmpR op_eq (pe_callB call_len_seq (by rfl) T.n_len (by decide +kernel) (pa_cons (pv 1) pa_nil)) (pe_callB call_len_seq (by rfl) T.n_len (by decide +kernel) (pa_cons (pe_ix ix_list (pv 0) pe_int (fun _ _ => rfl)) pa_nil)) (nomark _)))) pa_nil))))))) (pss_one (ps_ret pe_bl)) pss_nil) (pss_one (ps_ret (pe_callB (cr_all rfl) (by rfl) T.n_all (by decide +kernel) (pa_cons (pe_lc2 (own := [("year", 1), ("days", 2)]) (g := gName 1) (g1 := gName 2) (vs1 := [2]) rfl sc_are_years.nd (pi_list (pv 0)) (blkOk_by (N := N_are_years) (sc := defScope s_are_years) (by decide +kernel)) (by decide) (fun _ _ _ _ _ => pg_name (i := 1) sc_are_years.nd rfl (by first | exact Or.inl rfl | exact Or.inr rfl)) (fun _ _ _ _ _ => pts_nil) (fun _ _ _ _ _ => (pi_list (pv 1))) (fun _ _ _ _ _ => pg_name (i := 2) sc_are_years.nd rfl (by first | exact Or.inl rfl | exact Or.inr rfl)) (fun _ _ _ _ _ => pts_nil) (fun _ _ _ _ _ => (pe_cd (ok_is_between T) hr (by decide) (by rfl) T.g_is_between (pa_cons (pv 2) (pa_cons pe_int (pa_cons (pe_gk (by rfl) T.k_MAX_DAYS) pa_nil)))))) pa_nil))))))
theorem ok_are_years (T : Tx K mg) : FnD P w K mg base CX0 3 (He.ga K "are_years") C_are_years := by
  obtain ⟨fd, F⟩ := T.d_are_years
  exact ⟨⟨fd, ["years"], F.ok sc_are_years (spD_len (C := C_are_years) (n := 1) fun ds S P PX h => by obtain ⟨_, rfl, _⟩ := h; rfl) (fun cdv A outer s H vs Q E hr h => ⟨t_are_years K, PSs.nox (ty_are_years T hr), bodyD (run_are_years) h⟩), F.bindsN fun _ _ _ _ _ _ us hl => match us, hl with | [_], _ => rfl, F.kp⟩⟩
theorem sc_are_weekdays : FnScope N_are_weekdays ["rest", "week"] (defScope s_are_weekdays) := ⟨rfl, rfl, rfl, by decide +kernel, rfl, by decide +kernel, by decide +kernel⟩
theorem ty_are_weekdays (T : Tx K mg) {A : Around} {outer : List Env} {s : Shared} {H : Hp} {E : XK} {cdv : Value} {f : Addr} (hr : Room 2 (A.deeper (envOfC "are_weekdays" (defScope s_are_weekdays) s.heap.objs.size f cdv))) :
    PSs (cxOf CX0 P w K mg base N_are_weekdays "are_weekdays" (defScope s_are_weekdays) f cdv A outer s H E).nox (defBody s_are_weekdays) (t_are_weekdays K) := by
  unfold t_are_weekdays
  exact (pss_cons (ps_if (PW.pt (pw_or (pt_not (pt_val (pe_cd (ok_is_row T) hr (by decide) (by rfl) T.g_is_row (pa_cons (pv 0) pa_nil)))) (pw_or1 (pt_not (pt_val (pe_callB (cr_all rfl) (by rfl) T.n_all (by decide +kernel) (pa_cons (pe_lc (own := [("weekday", 2)]) (g := gName 2) rfl sc_are_weekdays.nd (pi_tup (pv 0)) (blkOk_by (N := N_are_weekdays) (sc := defScope s_are_weekdays) (by decide +kernel)) (fun _ _ _ _ _ => pg_name (i := 2) sc_are_weekdays.nd rfl (by first | exact Or.inl rfl | exact Or.inr rfl)) (fun _ _ _ _ _ => pts_nil) (fun _ _ _ _ _ => (pe_cd (ok_is_between T) hr (by decide) (by rfl) T.g_is_between (pa_cons (pv 2) (pa_cons pe_int (pa_cons (pe_op op_sub (pv 1) pe_int) pa_nil)))))) pa_nil))))))) (pss_one (ps_ret pe_bl)) pss_nil) (pss_one (ps_ret (pe_cmpR op_eq (pe_lenSetD (by rfl) T.n_len (by rfl) T.n_set (pv 0)) (pe_callB call_len_seq (by rfl) T.n_len (by decide +kernel) (pa_cons (pv 0) pa_nil)) (nomark _)))))
theorem ok_are_weekdays (T : Tx K mg) : FnD P w K mg base CX0 3 (He.ga K "are_weekdays") C_are_weekdays := by
  obtain ⟨fd, F⟩ := T.d_are_weekdays
  exact ⟨⟨fd, ["rest", "week"], F.ok sc_are_weekdays (spD_len (C := C_are_weekdays) (n := 2) fun ds S P PX h => by obtain ⟨_, _, rfl, _⟩ := h; rfl) (fun cdv A outer s H vs Q E hr h => ⟨t_are_weekdays K, PSs.nox (ty_are_weekdays T hr), bodyD (run_are_weekdays) h⟩), F.bindsN fun _ _ _ _ _ _ us hl => match us, hl with | [_, _], _ => rfl, F.kp⟩⟩
theorem sc_are_holidays : FnScope N_are_holidays ["holidays", "months"] (defScope s_are_holidays) := ⟨rfl, rfl, rfl, by decide +kernel, rfl, by decide +kernel, by decide +kernel⟩
theorem ty_are_holidays (T : Tx K mg) {A : Around} {outer : List Env} {s : Shared} {H : Hp} {E : XK} {cdv : Value} {f : Addr} (hr : Room 2 (A.deeper (envOfC "are_holidays" (defScope s_are_holidays) s.heap.objs.size f cdv))) :
    PSs (cxOf CX0 P w K mg base N_are_holidays "are_holidays" (defScope s_are_holidays) f cdv A outer s H E).nox (defBody s_are_holidays) (t_are_holidays K) := by
  unfold t_are_holidays
  exact (pss_cons (ps_if (pt_not (pt_val (pe_cd (ok_is_row T) hr (by decide) (by rfl) T.g_is_row (pa_cons (pv 0) pa_nil)))) (pss_one (ps_ret pe_bl)) pss_nil) (pss_cons (ps_for PassesOwn.never rfl (pi_tup (pv 0)) (pg_name (i := 2) sc_are_holidays.nd rfl (by first | exact Or.inl rfl | exact Or.inr rfl)) (pss_cons (ps_if (PW.pt (pw_or (pt_not (pt_val (pe_callB call_isi (by rfl) T.n_isinstance (by decide +kernel) (pa_cons (pv 2) (pa_cons (pe_bltn (by rfl) T.n_tuple (by decide +kernel) rfl) pa_nil))))) (pw_or1 (pt_cmpR op_ne (pe_callB call_len_seq (by rfl) T.n_len (by decide +kernel) (pa_cons (pv 2) pa_nil)) pe_int (nomark _))))) (pss_one (ps_ret pe_bl)) pss_nil) (pss_one (ps_if (PW.pt (pw_or (pt_not (pt_val (pe_cd (ok_is_between T) hr (by decide) (by rfl) T.g_is_between (pa_cons (pe_ix ix_tup (pv 2) pe_int (fun _ _ => rfl)) (pa_cons pe_int (pa_cons (pv 1) pa_nil)))))) (pw_or1 (pt_not (pt_val (pe_cd (ok_is_between T) hr (by decide) (by rfl) T.g_is_between (pa_cons (pe_ix ix_tup (pv 2) pe_int (fun _ _ => rfl)) (pa_cons pe_int (pa_cons (pe_gk (by rfl) T.k_MAX_DAYS) pa_nil))))))))) (pss_one (ps_ret pe_bl)) pss_nil)))) (pss_one (ps_ret (pe_cmpR op_eq (pe_lenSetT (DL.unitsOf hr) (by rfl) T.n_len (by rfl) T.n_set (pv 0)) (pe_callB call_len_seq (by rfl) T.n_len (by decide +kernel) (pa_cons (pv 0) pa_nil)) (nomark _))))))
theorem ok_are_holidays (T : Tx K mg) : FnD P w K mg base CX0 3 (He.ga K "are_holidays") C_are_holidays := by
  obtain ⟨fd, F⟩ := T.d_are_holidays
  exact ⟨⟨fd, ["holidays", "months"], F.ok sc_are_holidays (spD_len (C := C_are_holidays) (n := 2) fun ds S P PX h => by obtain ⟨_, _, rfl, _⟩ := h; rfl) (fun cdv A outer s H vs Q E hr h => ⟨t_are_holidays K, PSs.nox (ty_are_holidays T hr), bodyD (run_are_holidays) h⟩), F.bindsN fun _ _ _ _ _ _ us hl => match us, hl with | [_, _], _ => rfl, F.kp⟩⟩
theorem sc_month_starts : FnScope N_month_starts ["lengths"] (defScope s_month_starts) := ⟨rfl, rfl, rfl, by decide +kernel, rfl, by decide +kernel, by decide +kernel⟩
theorem ty_month_starts (T : Tx K mg) {A : Around} {outer : List Env} {s : Shared} {H : Hp} {E : XK} {cdv : Value} {f : Addr} (hr : Room 0 (A.deeper (envOfC "month_starts" (defScope s_month_starts) s.heap.objs.size f cdv))) :
    PSs (cxOf CX0 P w K mg base N_month_starts "month_starts" (defScope s_month_starts) f cdv A outer s H E).nox (defBody s_month_starts) (t_month_starts K) := by
  unfold t_month_starts
  exact (pss_cons (ps_set (i := 1) sc_month_starts.nd rfl (by first | exact Or.inl rfl | exact Or.inr rfl) (pe_lst (pa_cons pe_int pa_nil))) (pss_cons (ps_for PassesOwn.never rfl (pi_list (pv 0)) (pg_name (i := 2) sc_month_starts.nd rfl (by first | exact Or.inl rfl | exact Or.inr rfl)) (pss_one (ps_expr (pe_bm PySem.F.plainAttrs_list PySem.F.slot_list_append PySem.F.type_list_append mt_append (pv 1) (pa_cons (pe_op op_add (pe_ix ix_list (pv 1) (pe_un un_neg pe_int) (fun _ _ => rfl)) (pv 2)) pa_nil))))) (pss_one (ps_ret (pv 1)))))
theorem ok_month_starts (T : Tx K mg) : FnD P w K mg base CX0 1 (He.ga K "month_starts") C_month_starts := by
  obtain ⟨fd, F⟩ := T.d_month_starts
  exact ⟨⟨fd, ["lengths"], F.ok sc_month_starts (spD_len (C := C_month_starts) (n := 1) fun ds S P PX h => by obtain ⟨_, rfl, _⟩ := h; rfl) (fun cdv A outer s H vs Q E hr h => ⟨t_month_starts K, PSs.nox (ty_month_starts T hr), bodyD (run_month_starts) h⟩), F.bindsN fun _ _ _ _ _ _ us hl => match us, hl with | [_], _ => rfl, F.kp⟩⟩
theorem sc_month_at : FnScope N_month_at ["starts", "day"] (defScope s_month_at) := ⟨rfl, rfl, rfl, by decide +kernel, rfl, by decide +kernel, by decide +kernel⟩
theorem ty_month_at (T : Tx K mg) {A : Around} {outer : List Env} {s : Shared} {H : Hp} {E : XK} {cdv : Value} {f : Addr} (hr : Room 0 (A.deeper (envOfC "month_at" (defScope s_month_at) s.heap.objs.size f cdv))) :
    PSs (cxOf CX0 P w K mg base N_month_at "month_at" (defScope s_month_at) f cdv A outer s H E).nox (defBody s_month_at) (t_month_at K) := by
  unfold t_month_at
  exact (pss_cons (ps_par (i := 2) (j := 3) rfl sc_month_at.nd rfl rfl (by decide) rfl rfl (pa_cons pe_int (pa_cons (pe_op op_sub (pe_callB call_len_seq (by rfl) T.n_len (by decide +kernel) (pa_cons (pv 0) pa_nil)) pe_int) pa_nil)) (by rfl)) (pss_cons (ps_while PassesOwn.never (pt_cmpR op_gt (pe_op op_sub (pv 3) (pv 2)) pe_int (nomark _)) (pss_cons (ps_set (i := 4) sc_month_at.nd rfl (by first | exact Or.inl rfl | exact Or.inr rfl) (pe_op op_fdivN (pe_op op_add (pv 2) (pv 3)) pe_int)) (pss_one (ps_if (pt_cmpR op_le (pe_ix ix_list (pv 0) (pv 4) (fun _ _ => rfl)) (pv 1) (nomark _)) (pss_one (ps_set (i := 2) sc_month_at.nd rfl (by first | exact Or.inl rfl | exact Or.inr rfl) (pv 4))) (pss_one (ps_set (i := 3) sc_month_at.nd rfl (by first | exact Or.inl rfl | exact Or.inr rfl) (pv 4))))))) (pss_one (ps_ret (pv 2)))))
theorem ok_month_at (T : Tx K mg) : FnD P w K mg base CX0 1 (He.ga K "month_at") C_month_at := by
  obtain ⟨fd, F⟩ := T.d_month_at
  exact ⟨⟨fd, ["starts", "day"], F.ok sc_month_at (spD_len (C := C_month_at) (n := 2) fun ds S P PX h => by obtain ⟨_, _, rfl, _⟩ := h; rfl) (fun cdv A outer s H vs Q E hr h => ⟨t_month_at K, PSs.nox (ty_month_at T hr), bodyD (run_month_at) h⟩), F.bindsN fun _ _ _ _ _ _ us hl => match us, hl with | [_, _], _ => rfl, F.kp⟩⟩
theorem sc_gregorian_years : FnScope N_gregorian_years [] (defScope s_gregorian_years) := ⟨rfl, rfl, rfl, by decide +kernel, rfl, by decide +kernel, by decide +kernel⟩
theorem ty_gregorian_years (T : Tx K mg) {A : Around} {outer : List Env} {s : Shared} {H : Hp} {E : XK} {cdv : Value} {f : Addr} (hr : Room 0 (A.deeper (envOfC "gregorian_years" (defScope s_gregorian_years) s.heap.objs.size f cdv))) :
    PSs (cxOf CX0 P w K mg base N_gregorian_years "gregorian_years" (defScope s_gregorian_years) f cdv A outer s H E).nox (defBody s_gregorian_years) (t_gregorian_years K) := by
  unfold t_gregorian_years
  exact (pss_cons (ps_set (i := 0) sc_gregorian_years.nd rfl (by first | exact Or.inl rfl | exact Or.inr rfl) (pe_lst (pa_cons (pe_ix ix_tup (pe_gk (by rfl) ⟨_, T.g_EVEN, rfl⟩) pe_int (fun _ _ => rfl)) (pa_cons (pe_op op_add (pe_ix ix_tup (pe_gk (by rfl) ⟨_, T.g_EVEN, rfl⟩) pe_int (fun _ _ => rfl)) pe_int) (StX.pa_star (pe_slice sl_tupA (pe_gk (by rfl) ⟨_, T.g_EVEN, rfl⟩) (po_some pe_int) po_none) pa_nil))))) (pss_one (ps_ret (pe_lc (own := [("year", 1)]) (g := gName 1) rfl sc_gregorian_years.nd (pi_range1 (by rfl) T.n_range (pa_cons pe_int pa_nil)) (blkOk_by (N := N_gregorian_years) (sc := defScope s_gregorian_years) (by decide +kernel)) (fun _ _ _ _ _ => pg_name (i := 1) sc_gregorian_years.nd rfl (by first | exact Or.inl rfl | exact Or.inr rfl)) (fun _ _ _ _ _ => pts_nil) (fun _ _ _ _ _ => (pe_ifExp (PW.pt (pw_and (pt_cmpR op_eq (pe_op op_modN (pv 1) pe_int) pe_int (nomark _)) (pw_and1 (PW.pt (pw_or (pt_cmpR op_ne (pe_op op_modN (pv 1) pe_int) pe_int (nomark _)) (pw_or1 (pt_cmpR op_eq (pv 1) pe_int (nomark _)))))))) (pv 0) (pe_callTy call_list_of (by rfl) T.n_list (by decide +kernel) (pa_cons (pe_gk (by rfl) ⟨_, T.g_EVEN, rfl⟩) pa_nil))))))))
theorem ok_gregorian_years (T : Tx K mg) : FnD P w K mg base CX0 1 (He.ga K "gregorian_years") C_gregorian_years := by
  obtain ⟨fd, F⟩ := T.d_gregorian_years
  exact ⟨⟨fd, [], F.ok sc_gregorian_years (spD_len (C := C_gregorian_years) (n := 0) fun ds S P PX h => by obtain ⟨rfl, _⟩ := h; rfl) (fun cdv A outer s H vs Q E hr h => ⟨t_gregorian_years K, PSs.nox (ty_gregorian_years T hr), bodyD (run_gregorian_years T.fx) h⟩), F.bindsN fun _ _ _ _ _ _ us hl => match us, hl with | [], _ => rfl, F.kp⟩⟩
theorem sc_Calendar_weekday : FnScope N_Calendar_weekday ["self", "date"] (defScope s_Calendar_weekday) := ⟨rfl, rfl, rfl, by decide +kernel, rfl, by decide +kernel, by decide +kernel⟩
theorem ty_Calendar_weekday (T : Tx K mg) {A : Around} {outer : List Env} {s : Shared} {H : Hp} {E : XK} {cdv : Value} {f : Addr} (hr : Room 0 (A.deeper (envOfC "Calendar.weekday" (defScope s_Calendar_weekday) s.heap.objs.size f cdv))) :
    PSs (cxOf CX0 P w K mg base N_Calendar_weekday "Calendar.weekday" (defScope s_Calendar_weekday) f cdv A outer s H E).nox (defBody s_Calendar_weekday) (t_Calendar_weekday K) := by
  unfold t_Calendar_weekday
  exact (pss_one (ps_ret (pe_op op_modN (pe_op op_add (pv 1) (pe_fld (pv 0) rfl)) (pe_fld (pv 0) rfl))))
theorem ok_Calendar_weekday (T : Tx K mg) : FnD P w K mg base CX0 1 (He.ma K (He.ga K "Calendar") "weekday") (C_Calendar_weekday K) := by
  obtain ⟨fd, F⟩ := T.d_Calendar_weekday
  exact ⟨⟨fd, ["self", "date"], F.ok sc_Calendar_weekday (spD_len (C := (C_Calendar_weekday K)) (n := 2) fun ds S P PX h => by obtain ⟨_, _, _, rfl, _⟩ := h; rfl) (fun cdv A outer s H vs Q E hr h => ⟨t_Calendar_weekday K, PSs.nox (ty_Calendar_weekday T hr), bodyD (run_Calendar_weekday T.fx) h⟩), F.bindsN fun _ _ _ _ _ _ us hl => match us, hl with | [_, _], _ => rfl, F.kp⟩⟩
theorem sc_Calendar_months : FnScope N_Calendar_months ["self"] (defScope s_Calendar_months) := ⟨rfl, rfl, rfl, by decide +kernel, rfl, by decide +kernel, by decide +kernel⟩
theorem ty_Calendar_months (T : Tx K mg) {A : Around} {outer : List Env} {s : Shared} {H : Hp} {E : XK} {cdv : Value} {f : Addr} (hr : Room 0 (A.deeper (envOfC "Calendar.months" (defScope s_Calendar_months) s.heap.objs.size f cdv))) :
    PSs (cxOf CX0 P w K mg base N_Calendar_months "Calendar.months" (defScope s_Calendar_months) f cdv A outer s H E).nox (defBody s_Calendar_months) (t_Calendar_months K) := by
  unfold t_Calendar_months
  exact (pss_one (ps_ret (pe_callB call_len_seq (by rfl) T.n_len (by decide +kernel) (pa_cons (pe_ix ix_tup (pe_fld (pv 0) rfl) pe_int (fun _ _ => rfl)) pa_nil))))
theorem ok_Calendar_months (T : Tx K mg) : FnD P w K mg base CX0 1 (pgA K "Calendar" "months") (C_Calendar_months K) := by
  obtain ⟨fd, F⟩ := T.d_Calendar_months
  exact ⟨⟨fd, ["self"], F.ok sc_Calendar_months (spD_len (C := (C_Calendar_months K)) (n := 1) fun ds S P PX h => by obtain ⟨_, _, rfl, _⟩ := h; rfl) (fun cdv A outer s H vs Q E hr h => ⟨t_Calendar_months K, PSs.nox (ty_Calendar_months T hr), bodyD (run_Calendar_months T.fx) h⟩), F.bindsN fun _ _ _ _ _ _ us hl => match us, hl with | [_], _ => rfl, F.kp⟩⟩
theorem sc_Calendar_period : FnScope N_Calendar_period ["self"] (defScope s_Calendar_period) := ⟨rfl, rfl, rfl, by decide +kernel, rfl, by decide +kernel, by decide +kernel⟩
theorem ty_Calendar_period (T : Tx K mg) {A : Around} {outer : List Env} {s : Shared} {H : Hp} {E : XK} {cdv : Value} {f : Addr} (hr : Room 0 (A.deeper (envOfC "Calendar.period" (defScope s_Calendar_period) s.heap.objs.size f cdv))) :
    PSs (cxOf CX0 P w K mg base N_Calendar_period "Calendar.period" (defScope s_Calendar_period) f cdv A outer s H E).nox (defBody s_Calendar_period) (t_Calendar_period K) := by
  unfold t_Calendar_period
  exact (pss_one (ps_ret (pe_fld (pv 0) rfl)))
theorem ok_Calendar_period (T : Tx K mg) : FnD P w K mg base CX0 1 (pgA K "Calendar" "period") (C_Calendar_period K) := by
  obtain ⟨fd, F⟩ := T.d_Calendar_period
  exact ⟨⟨fd, ["self"], F.ok sc_Calendar_period (spD_len (C := (C_Calendar_period K)) (n := 1) fun ds S P PX h => by obtain ⟨_, _, rfl, _⟩ := h; rfl) (fun cdv A outer s H vs Q E hr h => ⟨t_Calendar_period K, PSs.nox (ty_Calendar_period T hr), bodyD (run_Calendar_period T.fx) h⟩), F.bindsN fun _ _ _ _ _ _ us hl => match us, hl with | [_], _ => rfl, F.kp⟩⟩
theorem sc_Calendar_month_start : FnScope N_Calendar_month_start ["self", "number"] (defScope s_Calendar_month_start) := ⟨rfl, rfl, rfl, by decide +kernel, rfl, by decide +kernel, by decide +kernel⟩
theorem ty_Calendar_month_start (T : Tx K mg) {A : Around} {outer : List Env} {s : Shared} {H : Hp} {E : XK} {cdv : Value} {f : Addr} (hr : Room 0 (A.deeper (envOfC "Calendar.month_start" (defScope s_Calendar_month_start) s.heap.objs.size f cdv))) :
    PSs (cxOf CX0 P w K mg base N_Calendar_month_start "Calendar.month_start" (defScope s_Calendar_month_start) f cdv A outer s H E).nox (defBody s_Calendar_month_start) (t_Calendar_month_start K) := by
  unfold t_Calendar_month_start
  exact (pss_cons (ps_set (i := 2) sc_Calendar_month_start.nd rfl (by first | exact Or.inl rfl | exact Or.inr rfl) (pe_callB call_len_seq (by rfl) T.n_len (by decide +kernel) (pa_cons (pe_fld (pv 0) rfl) pa_nil))) (pss_one (ps_ret (pe_op op_add (pe_op op_mul (pe_op op_fdivN (pv 1) (pv 2)) (pe_ix ix_list (pe_fld (pv 0) rfl) (pe_un un_neg pe_int) (fun _ _ => rfl))) (pe_ix ix_list (pe_fld (pv 0) rfl) (pe_op op_modN (pv 1) (pv 2)) (fun _ _ => rfl))))))
theorem ok_Calendar_month_start (T : Tx K mg) : FnD P w K mg base CX0 1 (He.ma K (He.ga K "Calendar") "month_start") (C_Calendar_month_start K) := by
  obtain ⟨fd, F⟩ := T.d_Calendar_month_start
  exact ⟨⟨fd, ["self", "number"], F.ok sc_Calendar_month_start (spD_len (C := (C_Calendar_month_start K)) (n := 2) fun ds S P PX h => by obtain ⟨_, _, _, rfl, _⟩ := h; rfl) (fun cdv A outer s H vs Q E hr h => ⟨t_Calendar_month_start K, PSs.nox (ty_Calendar_month_start T hr), bodyD (run_Calendar_month_start T.fx) h⟩), F.bindsN fun _ _ _ _ _ _ us hl => match us, hl with | [_, _], _ => rfl, F.kp⟩⟩
theorem sc_Calendar_month_days : FnScope N_Calendar_month_days ["self", "number"] (defScope s_Calendar_month_days) := ⟨rfl, rfl, rfl, by decide +kernel, rfl, by decide +kernel, by decide +kernel⟩
theorem ty_Calendar_month_days (T : Tx K mg) {A : Around} {outer : List Env} {s : Shared} {H : Hp} {E : XK} {cdv : Value} {f : Addr} (hr : Room 0 (A.deeper (envOfC "Calendar.month_days" (defScope s_Calendar_month_days) s.heap.objs.size f cdv))) :
    PSs (cxOf CX0 P w K mg base N_Calendar_month_days "Calendar.month_days" (defScope s_Calendar_month_days) f cdv A outer s H E).nox (defBody s_Calendar_month_days) (t_Calendar_month_days K) := by
  unfold t_Calendar_month_days
  exact (pss_one (ps_ret (pe_ix ix_list (pe_fld (pv 0) rfl) (pe_op op_modN (pv 1) (pe_callB call_len_seq (by rfl) T.n_len (by decide +kernel) (pa_cons (pe_fld (pv 0) rfl) pa_nil))) (fun _ _ => rfl))))
theorem ok_Calendar_month_days (T : Tx K mg) : FnD P w K mg base CX0 1 (He.ma K (He.ga K "Calendar") "month_days") (C_Calendar_month_days K) := by
  obtain ⟨fd, F⟩ := T.d_Calendar_month_days
  exact ⟨⟨fd, ["self", "number"], F.ok sc_Calendar_month_days (spD_len (C := (C_Calendar_month_days K)) (n := 2) fun ds S P PX h => by obtain ⟨_, _, _, rfl, _⟩ := h; rfl) (fun cdv A outer s H vs Q E hr h => ⟨t_Calendar_month_days K, PSs.nox (ty_Calendar_month_days T hr), bodyD (run_Calendar_month_days T.fx) h⟩), F.bindsN fun _ _ _ _ _ _ us hl => match us, hl with | [_, _], _ => rfl, F.kp⟩⟩
theorem sc_Calendar_month_number : FnScope N_Calendar_month_number ["self", "date"] (defScope s_Calendar_month_number) := ⟨rfl, rfl, rfl, by decide +kernel, rfl, by decide +kernel, by decide +kernel⟩
theorem ty_Calendar_month_number (T : Tx K mg) {A : Around} {outer : List Env} {s : Shared} {H : Hp} {E : XK} {cdv : Value} {f : Addr} (hr : Room 1 (A.deeper (envOfC "Calendar.month_number" (defScope s_Calendar_month_number) s.heap.objs.size f cdv))) :
    PSs (cxOf CX0 P w K mg base N_Calendar_month_number "Calendar.month_number" (defScope s_Calendar_month_number) f cdv A outer s H E).nox (defBody s_Calendar_month_number) (t_Calendar_month_number K) := by
  unfold t_Calendar_month_number
  exact (pss_cons (ps_set (i := 2) sc_Calendar_month_number.nd rfl (by first | exact Or.inl rfl | exact Or.inr rfl) (pe_ix ix_list (pe_fld (pv 0) rfl) (pe_un un_neg pe_int) (fun _ _ => rfl))) (pss_one (ps_ret (pe_op op_add (pe_op op_mul (pe_op op_fdivN (pv 1) (pv 2)) (pe_callB call_len_seq (by rfl) T.n_len (by decide +kernel) (pa_cons (pe_fld (pv 0) rfl) pa_nil))) (pe_cd (ok_month_at T) hr (by decide) (by rfl) T.g_month_at (pa_cons (pe_fld (pv 0) rfl) (pa_cons (pe_op op_modN (pv 1) (pv 2)) pa_nil)))))))
theorem ok_Calendar_month_number (T : Tx K mg) : FnD P w K mg base CX0 2 (He.ma K (He.ga K "Calendar") "month_number") (C_Calendar_month_number K) := by
  obtain ⟨fd, F⟩ := T.d_Calendar_month_number
  exact ⟨⟨fd, ["self", "date"], F.ok sc_Calendar_month_number (spD_len (C := (C_Calendar_month_number K)) (n := 2) fun ds S P PX h => by obtain ⟨_, _, _, rfl, _⟩ := h; rfl) (fun cdv A outer s H vs Q E hr h => ⟨t_Calendar_month_number K, PSs.nox (ty_Calendar_month_number T hr), bodyD (run_Calendar_month_number T.fx) h⟩), F.bindsN fun _ _ _ _ _ _ us hl => match us, hl with | [_, _], _ => rfl, F.kp⟩⟩
theorem sc_Calendar_parts : FnScope N_Calendar_parts ["self", "date"] (defScope s_Calendar_parts) := ⟨rfl, rfl, rfl, by decide +kernel, rfl, by decide +kernel, by decide +kernel⟩
theorem ty_Calendar_parts (T : Tx K mg) {A : Around} {outer : List Env} {s : Shared} {H : Hp} {E : XK} {cdv : Value} {f : Addr} (hr : Room 2 (A.deeper (envOfC "Calendar.parts" (defScope s_Calendar_parts) s.heap.objs.size f cdv))) :
    PSs (cxOf CX0 P w K mg base N_Calendar_parts "Calendar.parts" (defScope s_Calendar_parts) f cdv A outer s H E).nox (defBody s_Calendar_parts) (t_Calendar_parts K) := by
  unfold t_Calendar_parts
  exact (pss_cons (ps_set (i := 2) sc_Calendar_parts.nd rfl (by first | exact Or.inl rfl | exact Or.inr rfl) (pe_md (pv 0) T.c_Calendar T.m_Calendar_month_number (ok_Calendar_month_number T) hr (by decide) (pa_cons (pv 1) pa_nil))) (pss_one (ps_ret (pe_tup (pa_cons (pe_op op_fdivN (pv 2) (pe_propD (pv 0) T.c_Calendar T.p_Calendar_months (ok_Calendar_months T) hr (by decide))) (pa_cons (pe_op op_add (pe_op op_modN (pv 2) (pe_propD (pv 0) T.c_Calendar T.p_Calendar_months (ok_Calendar_months T) hr (by decide))) pe_int) (pa_cons (pe_op op_add (pe_op op_sub (pv 1) (pe_md (pv 0) T.c_Calendar T.m_Calendar_month_start (ok_Calendar_month_start T) hr (by decide) (pa_cons (pv 2) pa_nil))) pe_int) pa_nil)))))))
theorem ok_Calendar_parts (T : Tx K mg) : FnD P w K mg base CX0 3 (He.ma K (He.ga K "Calendar") "parts") (C_Calendar_parts K) := by
  obtain ⟨fd, F⟩ := T.d_Calendar_parts
  exact ⟨⟨fd, ["self", "date"], F.ok sc_Calendar_parts (spD_len (C := (C_Calendar_parts K)) (n := 2) fun ds S P PX h => by obtain ⟨_, _, _, rfl, _⟩ := h; rfl) (fun cdv A outer s H vs Q E hr h => ⟨t_Calendar_parts K, PSs.nox (ty_Calendar_parts T hr), bodyD (run_Calendar_parts) h⟩), F.bindsN fun _ _ _ _ _ _ us hl => match us, hl with | [_, _], _ => rfl, F.kp⟩⟩
theorem sc_Calendar_is_work : FnScope N_Calendar_is_work ["self", "date"] (defScope s_Calendar_is_work) := ⟨rfl, rfl, rfl, by decide +kernel, rfl, by decide +kernel, by decide +kernel⟩
theorem ty_Calendar_is_work (T : Tx K mg) {A : Around} {outer : List Env} {s : Shared} {H : Hp} {E : XK} {cdv : Value} {f : Addr} (hr : Room 3 (A.deeper (envOfC "Calendar.is_work" (defScope s_Calendar_is_work) s.heap.objs.size f cdv))) :
    PSs (cxOf CX0 P w K mg base N_Calendar_is_work "Calendar.is_work" (defScope s_Calendar_is_work) f cdv A outer s H E).nox (defBody s_Calendar_is_work) (t_Calendar_is_work K) := by
  unfold t_Calendar_is_work
  exact (pss_cons (ps_if (pt_cmpR op_in_seq (pe_md (pv 0) T.c_Calendar T.m_Calendar_weekday (ok_Calendar_weekday T) hr (by decide) (pa_cons (pv 1) pa_nil)) (pe_fld (pv 0) rfl) (by rfl)) (pss_one (ps_ret pe_bl)) pss_nil) (pss_one (ps_ret (pe_or (pe_cmpR (op_eqD (DL.unitsOf hr)) (pe_fld (pv 0) rfl) (pe_tup pa_nil) (nomark _)) (pe_one (pe_cmpR (op_notInDT (units65 hr)) (pe_slice sl_tupA (pe_md (pv 0) T.c_Calendar T.m_Calendar_parts (ok_Calendar_parts T) hr (by decide) (pa_cons (pv 1) pa_nil)) (po_some pe_int) po_none) (pe_fld (pv 0) rfl) (by rfl)))))))
theorem ok_Calendar_is_work (T : Tx K mg) : FnD P w K mg base CX0 4 (He.ma K (He.ga K "Calendar") "is_work") (C_Calendar_is_work K) := by
  obtain ⟨fd, F⟩ := T.d_Calendar_is_work
  exact ⟨⟨fd, ["self", "date"], F.ok sc_Calendar_is_work (spD_len (C := (C_Calendar_is_work K)) (n := 2) fun ds S P PX h => by obtain ⟨_, _, _, rfl, _⟩ := h; rfl) (fun cdv A outer s H vs Q E hr h => ⟨t_Calendar_is_work K, PSs.nox (ty_Calendar_is_work T hr), bodyD (run_Calendar_is_work T.fx) h⟩), F.bindsN fun _ _ _ _ _ _ us hl => match us, hl with | [_, _], _ => rfl, F.kp⟩⟩
theorem sc_Calendar_first_works : FnScope N_Calendar_first_works ["self"] (defScope s_Calendar_first_works) := ⟨rfl, rfl, rfl, by decide +kernel, rfl, by decide +kernel, by decide +kernel⟩
theorem ty_Calendar_first_works (T : Tx K mg) {A : Around} {outer : List Env} {s : Shared} {H : Hp} {E : XK} {cdv : Value} {f : Addr} (hr : Room 4 (A.deeper (envOfC "Calendar.first_works" (defScope s_Calendar_first_works) s.heap.objs.size f cdv))) :
    PSs (cxOf CX0 P w K mg base N_Calendar_first_works "Calendar.first_works" (defScope s_Calendar_first_works) f cdv A outer s H E).nox (defBody s_Calendar_first_works) (t_Calendar_first_works K) := by
  unfold t_Calendar_first_works
  exact (pss_cons (ps_par (i := 1) (j := 2) rfl sc_Calendar_first_works.nd rfl rfl (by decide) rfl rfl (pa_cons (pe_propD (pv 0) T.c_Calendar T.p_Calendar_period (ok_Calendar_period T) hr (by decide)) (pa_cons (pe_lst pa_nil) pa_nil)) (by rfl)) (pss_cons (ps_for PassesOwn.never rfl (pi_range1 (by rfl) T.n_range (pa_cons (pv 1) pa_nil)) (pg_name (i := 3) sc_Calendar_first_works.nd rfl (by first | exact Or.inl rfl | exact Or.inr rfl)) (pss_one (ps_if (pt_val (pe_md (pv 0) T.c_Calendar T.m_Calendar_is_work (ok_Calendar_is_work T) hr (by decide) (pa_cons (pv 3) pa_nil))) (pss_cons (ps_expr (pe_bm PySem.F.plainAttrs_list PySem.F.slot_list_append PySem.F.type_list_append mt_append (pv 2) (pa_cons (pv 3) pa_nil))) (pss_one (ps_if (pt_cmpR op_gt (pv 1) (pe_gk (by rfl) T.k_SHORT_PERIOD) (nomark _)) (pss_one (ps_ret (pv 2))) pss_nil))) pss_nil))) (pss_one (ps_ret (pv 2)))))
theorem ok_Calendar_first_works (T : Tx K mg) : FnD P w K mg base CX0 5 (He.ma K (He.ga K "Calendar") "first_works") (C_Calendar_first_works K) := by
  obtain ⟨fd, F⟩ := T.d_Calendar_first_works
  exact ⟨⟨fd, ["self"], F.ok sc_Calendar_first_works (spD_len (C := (C_Calendar_first_works K)) (n := 1) fun ds S P PX h => by obtain ⟨_, _, rfl, _⟩ := h; rfl) (fun cdv A outer s H vs Q E hr h => ⟨t_Calendar_first_works K, PSs.nox (ty_Calendar_first_works T hr), bodyD (run_Calendar_first_works) h⟩), F.bindsN fun _ _ _ _ _ _ us hl => match us, hl with | [_], _ => rfl, F.kp⟩⟩
theorem sc_Calendar___init__ : FnScope N_Calendar___init__ ["self", "years", "week", "first", "rest", "holidays"] (defScope s_Calendar___init__) := ⟨rfl, rfl, rfl, by decide +kernel, rfl, by decide +kernel, by decide +kernel⟩
theorem ty_Calendar___init__ (T : Tx K mg) {A : Around} {outer : List Env} {s : Shared} {H : Hp} {E : XK} {cdv : Value} {f : Addr} (hr : Room 5 (A.deeper (envOfC "Calendar.__init__" (defScope s_Calendar___init__) s.heap.objs.size f cdv))) :
    PSs (cxOf CX0 P w K mg base N_Calendar___init__ "Calendar.__init__" (defScope s_Calendar___init__) f cdv A outer s H E).nox (defBody s_Calendar___init__) (t_Calendar___init__ K) := by
  unfold t_Calendar___init__
  exact (pss_cons (ps_if (pt_not (pt_val (pe_cd (ok_are_years T) hr (by decide) (by rfl) T.g_are_years (pa_cons (pv 1) pa_nil)))) (pss_one (ps_never)) pss_nil) (pss_cons (ps_if (pt_not (pt_val (pe_cd (ok_is_between T) hr (by decide) (by rfl) T.g_is_between (pa_cons (pv 2) (pa_cons pe_int (pa_cons (pe_gk (by rfl) T.k_MAX_WEEK) pa_nil)))))) (pss_one (ps_never)) pss_nil) (pss_cons (ps_if (pt_not (pt_val (pe_cd (ok_is_between T) hr (by decide) (by rfl) T.g_is_between (pa_cons (pv 3) (pa_cons pe_int (pa_cons (pe_op op_sub (pv 2) pe_int) pa_nil)))))) (pss_one (ps_never)) pss_nil) (pss_cons (ps_if (pt_not (pt_val (pe_cd (ok_are_weekdays T) hr (by decide) (by rfl) T.g_are_weekdays (pa_cons (pv 4) (pa_cons (pv 2) pa_nil))))) (pss_one (ps_never)) pss_nil) (pss_cons (ps_if (pt_not (pt_val (pe_cd (ok_are_holidays T) hr (by decide) (by rfl) T.g_are_holidays (pa_cons (pv 5) (pa_cons (pe_callB call_len_seq (by rfl) T.n_len (by decide +kernel) (pa_cons (pe_ix ix_list (pv 1) pe_int (fun _ _ => rfl)) pa_nil)) pa_nil))))) (pss_one (ps_never)) pss_nil) (pss_cons (ps_fld (pv 0) (pe_callTy call_tuple_of (by rfl) T.n_tuple (by decide +kernel) (pa_cons (pe_lc (own := [("year", 6)]) (g := gName 6) rfl sc_Calendar___init__.nd (pi_list (pv 1)) (blkOk_by (N := N_Calendar___init__) (sc := defScope s_Calendar___init__) (by decide +kernel)) (fun _ _ _ _ _ => pg_name (i := 6) sc_Calendar___init__.nd rfl (by first | exact Or.inl rfl | exact Or.inr rfl)) (fun _ _ _ _ _ => pts_nil) (fun _ _ _ _ _ => (pe_callTy call_tuple_of (by rfl) T.n_tuple (by decide +kernel) (pa_cons (pv 6) pa_nil)))) pa_nil)) rfl) (pss_cons (ps_asg (pe_tup (pa_cons (pv 2) (pa_cons (pv 3) pa_nil))) (pg_tup rfl (pgs_cons (pg_fld (pv 0)) (pgs_cons (pg_fld (pv 0)) pgs_nil)))) (pss_cons (ps_asg (pe_tup (pa_cons (pe_callTy call_tuple_of (by rfl) T.n_tuple (by decide +kernel) (pa_cons (pe_callB cr_sortedTI (by rfl) T.n_sorted (by decide +kernel) (pa_cons (pv 4) pa_nil)) pa_nil)) (pa_cons (pe_callTy call_tuple_of (by rfl) T.n_tuple (by decide +kernel) (pa_cons (pe_callB cr_sortedTP (by rfl) T.n_sorted (by decide +kernel) (pa_cons (pv 5) pa_nil)) pa_nil)) pa_nil))) (pg_tup rfl (pgs_cons (pg_fld (pv 0)) (pgs_cons (pg_fld (pv 0)) pgs_nil)))) (pss_cons (ps_fld (pv 0) (pe_lc2 (own := [("year", 6), ("days", 7)]) (g := gName 6) (g1 := gName 7) (vs1 := [7]) rfl sc_Calendar___init__.nd (pi_list (pv 1)) (blkOk_by (N := N_Calendar___init__) (sc := defScope s_Calendar___init__) (by decide +kernel)) (by decide) (fun _ _ _ _ _ => pg_name (i := 6) sc_Calendar___init__.nd rfl (by first | exact Or.inl rfl | exact Or.inr rfl)) (fun _ _ _ _ _ => pts_nil) (fun _ _ _ _ _ => (pi_list (pv 6))) (fun _ _ _ _ _ => pg_name (i := 7) sc_Calendar___init__.nd rfl (by first | exact Or.inl rfl | exact Or.inr rfl)) (fun _ _ _ _ _ => pts_nil) (fun _ _ _ _ _ => (pv 7))) rfl) (pss_cons (ps_fld (pv 0) (pe_cd (ok_month_starts T) hr (by decide) (by rfl) T.g_month_starts (pa_cons (pe_fld (pv 0) rfl) pa_nil)) rfl) (pss_cons (ps_fld (pv 0) (pe_cd (ok_common_multiple T) hr (by decide) (by rfl) T.g_common_multiple (pa_cons (pe_ix ix_list (pe_fld (pv 0) rfl) (pe_un un_neg pe_int) (fun _ _ => rfl)) (pa_cons (pv 2) pa_nil))) rfl) (pss_cons (ps_if (pt_cmpR op_gt (pe_propD (pv 0) T.c_Calendar T.p_Calendar_period (ok_Calendar_period T) hr (by decide)) (pe_gk (by rfl) T.k_MAX_PERIOD) (nomark _)) (pss_one (ps_never)) pss_nil) (pss_cons (ps_fld (pv 0) (pe_md0 (pv 0) T.c_Calendar T.m_Calendar_first_works (ok_Calendar_first_works T) hr (by decide)) rfl) (pss_one (ps_if (pt_cmpR (op_eqD (DL.unitsOf hr)) (pe_fld (pv 0) rfl) (pe_lst pa_nil) (nomark _)) (pss_one (ps_never)) pss_nil)))))))))))))))
theorem ok_Calendar___init__ (T : Tx K mg) : KwD P w K mg base CX0 6 (He.ma K (He.ga K "Calendar") "__init__") (C_Calendar___init__ K) 3 ["first", "rest", "holidays"] := by
  obtain ⟨fd, F⟩ := T.d_Calendar___init__
  obtain ⟨its, kb⟩ := F.kbindsD (ps := ["self", "years", "week", "first", "rest", "holidays"]) 3 ["first", "rest", "holidays"] (fun us _ ws => us ++ ws) (by simp) (fun r _ r3 => r.append r3)
    (fun X kV doc pm an cdv ct us its ws l1 l2 l3 => match us, l1, its, l2, ws, l3 with | [_, _, _], _, [_], _, [_, _, _], _ => ⟨_, rfl, rfl⟩)
  exact ⟨fd, ["self", "years", "week", "first", "rest", "holidays"], _, F.ok sc_Calendar___init__ (spD_len (C := (C_Calendar___init__ K)) (n := 6) fun ds S P PX h => by obtain ⟨_, _, rfl, _⟩ := h; rfl) (fun cdv A outer s H vs Q E hr h => ⟨t_Calendar___init__ K, PSs.nox (ty_Calendar___init__ T hr), bodyD (run_Calendar___init__ T.fx) h⟩), kb⟩
theorem sc_Calendar_gregorian : FnScope N_Calendar_gregorian ["cls", "rest", "holidays"] (defScope s_Calendar_gregorian) := ⟨rfl, rfl, rfl, by decide +kernel, rfl, by decide +kernel, by decide +kernel⟩
theorem ty_Calendar_gregorian (T : Tx K mg) {A : Around} {outer : List Env} {s : Shared} {H : Hp} {E : XK} {cdv : Value} {f : Addr} (hr : Room 7 (A.deeper (envOfC "Calendar.gregorian" (defScope s_Calendar_gregorian) s.heap.objs.size f cdv))) :
    PSs (cxOf CX0 P w K mg base N_Calendar_gregorian "Calendar.gregorian" (defScope s_Calendar_gregorian) f cdv A outer s H E).nox (defBody s_Calendar_gregorian) (t_Calendar_gregorian K) := by
  unfold t_Calendar_gregorian
  exact (pss_one (ps_ret (pe_mkkl T.mk_Calendar (ok_Calendar___init__ T) hr (by decide) rfl (by first | exact Or.inl rfl | exact Or.inr (Or.inl rfl) | exact Or.inr (Or.inr rfl)) (pa_cons (pe_cd0 (ok_gregorian_years T) hr (by decide) (by rfl) T.g_gregorian_years) (pa_cons pe_int pa_nil)) (pk_cons pe_int (pk_cons (pv 1) (pk_cons (pv 2) pk_nil))))))
theorem ok_Calendar_gregorian (T : Tx K mg) : FnR P w K mg base CX0 8 (cgA K "Calendar" "gregorian") (spDD K (C_Calendar_gregorian K) dd_Calendar_gregorian) := by
  obtain ⟨ar, ah, fd, F, h1, h2⟩ := T.d_Calendar_gregorian
  obtain ⟨us, hv, hb⟩ := F.binds0 (ps := ["cls", "rest", "holidays"]) 1 (by simp) rfl
    (fun D doc pm an cdv ct us ks l1 l2 => match us, l1, ks, l2 with | [_], _, [_, _], _ => ⟨_, _, _, _, _, _, rfl, rfl, _, _, _, _, _, _, rfl, rfl, rfl⟩)
  exact spDD_of (dds := dd_Calendar_gregorian) (F.ok sc_Calendar_gregorian (spD_len (C := (C_Calendar_gregorian K)) (n := 3) fun ds S P PX h => by obtain ⟨rfl, _⟩ := h; rfl) (fun cdv A outer s H vs Q E hr h => ⟨t_Calendar_gregorian K, PSs.nox (ty_Calendar_gregorian T hr), bodyD (run_Calendar_gregorian T.fx) h⟩)) hb hv fun G => .cons (.tup (h1 G) (.cons (.int 5) (.cons (.int 6) .nil))) (.cons (.tup (h2 G) .nil) .nil)
theorem sc_Calendar_month_length : FnScope N_Calendar_month_length ["self", "year", "month"] (defScope s_Calendar_month_length) := ⟨rfl, rfl, rfl, by decide +kernel, rfl, by decide +kernel, by decide +kernel⟩
theorem ty_Calendar_month_length (T : Tx K mg) {A : Around} {outer : List Env} {s : Shared} {H : Hp} {E : XK} {cdv : Value} {f : Addr} (hr : Room 2 (A.deeper (envOfC "Calendar.month_length" (defScope s_Calendar_month_length) s.heap.objs.size f cdv))) :
    PSs (cxOf CX0 P w K mg base N_Calendar_month_length "Calendar.month_length" (defScope s_Calendar_month_length) f cdv A outer s H E).nox (defBody s_Calendar_month_length) (t_Calendar_month_length K) := by
  unfold t_Calendar_month_length
  exact (pss_cons (ps_if (pt_not (pt_val (pe_cd (ok_is_between T) hr (by decide) (by rfl) T.g_is_between (pa_cons (pv 2) (pa_cons pe_int (pa_cons (pe_propD (pv 0) T.c_Calendar T.p_Calendar_months (ok_Calendar_months T) hr (by decide)) pa_nil)))))) (pss_one (ps_never)) pss_nil) (pss_one (ps_ret (pe_md (pv 0) T.c_Calendar T.m_Calendar_month_days (ok_Calendar_month_days T) hr (by decide) (pa_cons (pe_op op_sub (pe_op op_add (pe_op op_mul (pv 1) (pe_propD (pv 0) T.c_Calendar T.p_Calendar_months (ok_Calendar_months T) hr (by decide))) (pv 2)) pe_int) pa_nil)))))
theorem ok_Calendar_month_length (T : Tx K mg) : FnD P w K mg base CX0 3 (He.ma K (He.ga K "Calendar") "month_length") (C_Calendar_month_length K) := by
  obtain ⟨fd, F⟩ := T.d_Calendar_month_length
  exact ⟨⟨fd, ["self", "year", "month"], F.ok sc_Calendar_month_length (spD_len (C := (C_Calendar_month_length K)) (n := 3) fun ds S P PX h => by obtain ⟨_, _, _, _, rfl, _⟩ := h; rfl) (fun cdv A outer s H vs Q E hr h => ⟨t_Calendar_month_length K, PSs.nox (ty_Calendar_month_length T hr), bodyD (run_Calendar_month_length) h⟩), F.bindsN fun _ _ _ _ _ _ us hl => match us, hl with | [_, _, _], _ => rfl, F.kp⟩⟩
theorem sc_Calendar_date_of : FnScope N_Calendar_date_of ["self", "year", "month", "day"] (defScope s_Calendar_date_of) := ⟨rfl, rfl, rfl, by decide +kernel, rfl, by decide +kernel, by decide +kernel⟩
theorem ty_Calendar_date_of (T : Tx K mg) {A : Around} {outer : List Env} {s : Shared} {H : Hp} {E : XK} {cdv : Value} {f : Addr} (hr : Room 3 (A.deeper (envOfC "Calendar.date_of" (defScope s_Calendar_date_of) s.heap.objs.size f cdv))) :
    PSs (cxOf CX0 P w K mg base N_Calendar_date_of "Calendar.date_of" (defScope s_Calendar_date_of) f cdv A outer s H E).nox (defBody s_Calendar_date_of) (t_Calendar_date_of K) := by
  unfold t_Calendar_date_of
  exact (pss_cons (ps_if (PW.pt (pw_or (pt_not (pt_val (pe_cd (ok_is_between T) hr (by decide) (by rfl) T.g_is_between (pa_cons (pv 2) (pa_cons pe_int (pa_cons (pe_propD (pv 0) T.c_Calendar T.p_Calendar_months (ok_Calendar_months T) hr (by decide)) pa_nil)))))) (pw_or1 (pt_not (pt_val (pe_cd (ok_is_between T) hr (by decide) (by rfl) T.g_is_between (pa_cons (pv 3) (pa_cons pe_int (pa_cons (pe_md (pv 0) T.c_Calendar T.m_Calendar_month_length (ok_Calendar_month_length T) hr (by decide) (pa_cons (pv 1) (pa_cons (pv 2) pa_nil))) pa_nil))))))))) (pss_one (ps_never)) pss_nil) (pss_one (ps_ret (pe_op op_sub (pe_op op_add (pe_md (pv 0) T.c_Calendar T.m_Calendar_month_start (ok_Calendar_month_start T) hr (by decide) (pa_cons (pe_op op_sub (pe_op op_add (pe_op op_mul (pv 1) (pe_propD (pv 0) T.c_Calendar T.p_Calendar_months (ok_Calendar_months T) hr (by decide))) (pv 2)) pe_int) pa_nil)) (pv 3)) pe_int))))
theorem ok_Calendar_date_of (T : Tx K mg) : FnD P w K mg base CX0 4 (He.ma K (He.ga K "Calendar") "date_of") (C_Calendar_date_of K) := by
  obtain ⟨fd, F⟩ := T.d_Calendar_date_of
  exact ⟨⟨fd, ["self", "year", "month", "day"], F.ok sc_Calendar_date_of (spD_len (C := (C_Calendar_date_of K)) (n := 4) fun ds S P PX h => by obtain ⟨_, _, _, _, rfl, _⟩ := h; rfl) (fun cdv A outer s H vs Q E hr h => ⟨t_Calendar_date_of K, PSs.nox (ty_Calendar_date_of T hr), bodyD (run_Calendar_date_of) h⟩), F.bindsN fun _ _ _ _ _ _ us hl => match us, hl with | [_, _, _, _], _ => rfl, F.kp⟩⟩
theorem sc_month_line : FnScope N_month_line ["calendar", "year", "month"] (defScope s_month_line) := ⟨rfl, rfl, rfl, by decide +kernel, rfl, by decide +kernel, by decide +kernel⟩
theorem ty_month_line (T : Tx K mg) {A : Around} {outer : List Env} {s : Shared} {H : Hp} {E : XK} {cdv : Value} {f : Addr} (hr : Room 4 (A.deeper (envOfC "month_line" (defScope s_month_line) s.heap.objs.size f cdv))) :
    PSs (cxOf CX0 P w K mg base N_month_line "month_line" (defScope s_month_line) f cdv A outer s H E).nox (defBody s_month_line) (t_month_line K) := by
  unfold t_month_line
  exact (pss_cons (ps_set (i := 3) sc_month_line.nd rfl (by first | exact Or.inl rfl | exact Or.inr rfl) (pe_md (pv 0) T.c_Calendar T.m_Calendar_date_of (ok_Calendar_date_of T) hr (by decide) (pa_cons (pv 1) (pa_cons (pv 2) (pa_cons pe_int pa_nil))))) (pss_cons (ps_set (i := 4) sc_month_line.nd rfl (by first | exact Or.inl rfl | exact Or.inr rfl) (pe_md (pv 0) T.c_Calendar T.m_Calendar_month_length (ok_Calendar_month_length T) hr (by decide) (pa_cons (pv 1) (pa_cons (pv 2) pa_nil)))) (pss_cons (ps_setLc (i := 5) (own := [("day", 6)]) (g := gName 6) rfl sc_month_line.nd rfl rfl (sw_true rfl rfl rfl (by decide +kernel)) (pi_range1 (by rfl) T.n_range (pa_cons (pv 4) pa_nil)) (blkOk_by (N := N_month_line) (sc := defScope s_month_line) (by decide +kernel)) (fun _ _ _ _ _ => pg_name (i := 6) sc_month_line.nd rfl (by first | exact Or.inl rfl | exact Or.inr rfl)) (fun _ _ _ _ _ => pts_nil) (fun _ _ _ _ _ => (pe_ifExp (pt_val (pe_md (pv 0) T.c_Calendar T.m_Calendar_is_work (ok_Calendar_is_work T) hr (by decide) (pa_cons (pe_op op_add (pv 3) (pv 6)) pa_nil))) pe_str pe_str))) (pss_one (ps_ret (pe_op op_add_str (pe_joined1 (pe_fmt3 (pv 2) (pe_joined1 pe_str))) (pe_join pe_str (pv 5))))))))
theorem ok_month_line (T : Tx K mg) : FnD P w K mg base CX0 5 (He.ga K "month_line") (C_month_line K) := by
  obtain ⟨fd, F⟩ := T.d_month_line
  exact ⟨⟨fd, ["calendar", "year", "month"], F.ok sc_month_line (spD_len (C := (C_month_line K)) (n := 3) fun ds S P PX h => by obtain ⟨_, _, _, _, rfl, _⟩ := h; rfl) (fun cdv A outer s H vs Q E hr h => ⟨t_month_line K, PSs.nox (ty_month_line T hr), bodyD (run_month_line) h⟩), F.bindsN fun _ _ _ _ _ _ us hl => match us, hl with | [_, _, _], _ => rfl, F.kp⟩⟩
theorem sc_year_table : FnScope N_year_table ["calendar", "year"] (defScope s_year_table) := ⟨rfl, rfl, rfl, by decide +kernel, rfl, by decide +kernel, by decide +kernel⟩
theorem ty_year_table (T : Tx K mg) {A : Around} {outer : List Env} {s : Shared} {H : Hp} {E : XK} {cdv : Value} {f : Addr} (hr : Room 5 (A.deeper (envOfC "year_table" (defScope s_year_table) s.heap.objs.size f cdv))) :
    PSs (cxOf CX0 P w K mg base N_year_table "year_table" (defScope s_year_table) f cdv A outer s H E).nox (defBody s_year_table) (t_year_table K) := by
  unfold t_year_table
  exact (pss_one (ps_ret (pe_join pe_str (pe_lc (own := [("month", 2)]) (g := gName 2) rfl sc_year_table.nd (pi_range2 (by rfl) T.n_range (pa_cons pe_int (pa_cons (pe_op op_add (pe_propD (pv 0) T.c_Calendar T.p_Calendar_months (ok_Calendar_months T) hr (by decide)) pe_int) pa_nil))) (blkOk_by (N := N_year_table) (sc := defScope s_year_table) (by decide +kernel)) (fun _ _ _ _ _ => pg_name (i := 2) sc_year_table.nd rfl (by first | exact Or.inl rfl | exact Or.inr rfl)) (fun _ _ _ _ _ => pts_nil) (fun _ _ _ _ _ => (pe_cd (ok_month_line T) hr (by decide) (by rfl) T.g_month_line (pa_cons (pv 0) (pa_cons (pv 1) (pa_cons (pv 2) pa_nil)))))))))
theorem ok_year_table (T : Tx K mg) : FnD P w K mg base CX0 6 (He.ga K "year_table") (C_year_table K) := by
  obtain ⟨fd, F⟩ := T.d_year_table
  exact ⟨⟨fd, ["calendar", "year"], F.ok sc_year_table (spD_len (C := (C_year_table K)) (n := 2) fun ds S P PX h => by obtain ⟨_, _, _, rfl, _⟩ := h; rfl) (fun cdv A outer s H vs Q E hr h => ⟨t_year_table K, PSs.nox (ty_year_table T hr), bodyD (run_year_table) h⟩), F.bindsN fun _ _ _ _ _ _ us hl => match us, hl with | [_, _], _ => rfl, F.kp⟩⟩
theorem sc__law_pen : FnScope N__law_pen ["_law_script"] (defScope s__law_pen) := ⟨rfl, rfl, rfl, by decide +kernel, rfl, by decide +kernel, by decide +kernel⟩
theorem ty__law_pen (T : Tx K mg) {A : Around} {outer : List Env} {s : Shared} {H : Hp} {E : XK} {cdv : Value} {f : Addr} (hr : Room 0 (A.deeper (envOfC "_law_pen" (defScope s__law_pen) s.heap.objs.size f cdv))) :
    PSs (cxOf CX0 P w K mg base N__law_pen "_law_pen" (defScope s__law_pen) f cdv A outer s H E).nox (defBody s__law_pen) (t__law_pen K) := by
  unfold t__law_pen
  exact (pss_one (ps_ret (pe_disp (pps_cons pe_str (pe_callTy call_list_of (by rfl) T.n_list (by decide +kernel) (pa_cons (pe_slice sl_list (pv 0) po_none (po_some pe_int)) pa_nil)) (pps_cons pe_str pe_int (pps_cons pe_str pe_int pps_nil))) (by rfl) (by rfl) (fun z => by cases z) (by decide))))
theorem ok__law_pen (T : Tx K mg) : FnD P w K mg base CX0 1 (He.ga K "_law_pen") C__law_pen := by
  obtain ⟨fd, F⟩ := T.d__law_pen
  exact ⟨⟨fd, ["_law_script"], F.ok sc__law_pen (spD_len (C := C__law_pen) (n := 1) fun ds S P PX h => by obtain ⟨_, rfl, _⟩ := h; rfl) (fun cdv A outer s H vs Q E hr h => ⟨t__law_pen K, PSs.nox (ty__law_pen T hr), bodyD (run__law_pen) h⟩), F.bindsN fun _ _ _ _ _ _ us hl => match us, hl with | [_], _ => rfl, F.kp⟩⟩
theorem sc__law_draw : FnScope N__law_draw ["_law_pen_here", "_law_many"] (defScope s__law_draw) := ⟨rfl, rfl, rfl, by decide +kernel, rfl, by decide +kernel, by decide +kernel⟩
theorem ty__law_draw (T : Tx K mg) {A : Around} {outer : List Env} {s : Shared} {H : Hp} {E : XK} {cdv : Value} {f : Addr} (hr : Room 0 (A.deeper (envOfC "_law_draw" (defScope s__law_draw) s.heap.objs.size f cdv))) :
    PSs (cxOf CX0 P w K mg base N__law_draw "_law_draw" (defScope s__law_draw) f cdv A outer s H E).nox (defBody s__law_draw) (t__law_draw K) := by
  unfold t__law_draw
  exact (pss_cons (ps_if (pt_cmpR op_gt (pe_dget (hu_of hr) (pv 0) pe_str (fun _ _ => rfl)) pe_int (nomark _)) (pss_cons (ps_set (i := 2) sc__law_draw.nd rfl (by first | exact Or.inl rfl | exact Or.inr rfl) (pe_op op_modN (pe_dget (hu_of hr) (pv 0) pe_str (fun _ _ => rfl)) (pv 1))) (pss_cons (ps_dput (hu_of hr) (pv 0) pe_str (pe_op op_fdivN (pe_dget (hu_of hr) (pv 0) pe_str (fun _ _ => rfl)) (pv 1)) rfl) (pss_one (ps_ret (pv 2))))) pss_nil) (pss_cons (ps_set (i := 3) sc__law_draw.nd rfl (by first | exact Or.inl rfl | exact Or.inr rfl) (pe_dget (hu_of hr) (pv 0) pe_str (fun _ _ => rfl))) (pss_cons (ps_dput (hu_of hr) (pv 0) pe_str (pe_op op_add (pv 3) pe_int) rfl) (pss_cons (ps_set (i := 4) sc__law_draw.nd rfl (by first | exact Or.inl rfl | exact Or.inr rfl) (pe_op op_add (pe_op op_mul pe_int (pv 3)) pe_int)) (pss_cons (ps_if (pt_cmpR (op_neD (DL.unitsOf hr)) (pe_dget (hu_of hr) (pv 0) pe_str (fun _ _ => rfl)) (pe_lst pa_nil) (nomark _)) (pss_one (ps_set (i := 4) sc__law_draw.nd rfl (by first | exact Or.inl rfl | exact Or.inr rfl) (pe_ix ix_list (pe_dget (hu_of hr) (pv 0) pe_str (fun _ _ => rfl)) (pe_op op_modN (pv 3) (pe_callB call_len_seq (by rfl) T.n_len (by decide +kernel) (pa_cons (pe_dget (hu_of hr) (pv 0) pe_str (fun _ _ => rfl)) pa_nil))) (fun _ _ => rfl)))) pss_nil) (pss_cons (ps_if (PW.pt (pw_and (pt_cmpR op_lt (pv 3) (pe_callB call_len_seq (by rfl) T.n_len (by decide +kernel) (pa_cons (pe_dget (hu_of hr) (pv 0) pe_str (fun _ _ => rfl)) pa_nil)) (nomark _)) (pw_and1 (pt_cmpR op_ge (pe_callB call_abs (by rfl) T.n_abs (by decide +kernel) (pa_cons (pv 4) pa_nil)) (pe_op op_pow pe_int pe_int) (nomark _))))) (pss_cons (ps_dput (hu_of hr) (pv 0) pe_str (pe_op op_fdivN (pe_op op_sub (pe_callB call_abs (by rfl) T.n_abs (by decide +kernel) (pa_cons (pv 4) pa_nil)) (pe_op op_pow pe_int pe_int)) (pv 1)) rfl) (pss_one (ps_ret (pe_op op_modN (pe_op op_sub (pe_callB call_abs (by rfl) T.n_abs (by decide +kernel) (pa_cons (pv 4) pa_nil)) (pe_op op_pow pe_int pe_int)) (pv 1))))) pss_nil) (pss_cons (ps_set (i := 5) sc__law_draw.nd rfl (by first | exact Or.inl rfl | exact Or.inr rfl) (pe_lst (pa_cons pe_int (pa_cons pe_int (pa_cons pe_int (pa_cons pe_int (pa_cons pe_int pa_nil))))))) (pss_cons (ps_set (i := 6) sc__law_draw.nd rfl (by first | exact Or.inl rfl | exact Or.inr rfl) (pe_ix ix_list (pv 5) (pe_op op_modN (pv 3) pe_int) (fun _ _ => rfl))) (pss_cons (ps_set (i := 7) sc__law_draw.nd rfl (by first | exact Or.inl rfl | exact Or.inr rfl) (pe_op op_modN (pe_op op_add (pe_op op_add (pe_op op_add (pe_op op_mul (pe_op op_modN (pv 4) (pv 6)) pe_int) (pe_op op_mul (pe_op op_mul pe_int (pv 3)) (pv 3))) (pe_op op_mul pe_int (pv 3))) pe_int) (pv 6))) (pss_cons (ps_set (i := 7) sc__law_draw.nd rfl (by first | exact Or.inl rfl | exact Or.inr rfl) (pe_op op_modN (pe_op op_mul (pv 7) (pe_op op_add (pv 7) pe_int)) (pe_ix ix_list (pv 5) (pe_op op_modN (pe_op op_add (pv 3) pe_int) pe_int) (fun _ _ => rfl)))) (pss_one (ps_ret (pe_op op_modN (pe_op op_fdivN (pe_op op_modN (pe_op op_add (pe_op op_add (pe_op op_mul (pv 7) (pv 7)) (pe_op op_mul pe_int (pv 7))) (pv 3)) pe_int) pe_int) (pv 1))))))))))))))
theorem ok__law_draw (T : Tx K mg) : FnD P w K mg base CX0 1 (He.ga K "_law_draw") C__law_draw := by
  obtain ⟨fd, F⟩ := T.d__law_draw
  exact ⟨⟨fd, ["_law_pen_here", "_law_many"], F.ok sc__law_draw (spD_len (C := C__law_draw) (n := 2) fun ds S P PX h => by obtain ⟨_, _, _, _, rfl, _⟩ := h; rfl) (fun cdv A outer s H vs Q E hr h => ⟨t__law_draw K, PSs.nox (ty__law_draw T hr), bodyD (run__law_draw) h⟩), F.bindsN fun _ _ _ _ _ _ us hl => match us, hl with | [_, _], _ => rfl, F.kp⟩⟩
theorem sc__law_pick : FnScope N__law_pick ["_law_pen_here", "_law_options"] (defScope s__law_pick) := ⟨rfl, rfl, rfl, by decide +kernel, rfl, by decide +kernel, by decide +kernel⟩
theorem ty__law_pick (T : Tx K mg) {A : Around} {outer : List Env} {s : Shared} {H : Hp} {E : XK} {cdv : Value} {f : Addr} (hr : Room 1 (A.deeper (envOfC "_law_pick" (defScope s__law_pick) s.heap.objs.size f cdv))) :
    PSs (cxOf CX0 P w K mg base N__law_pick "_law_pick" (defScope s__law_pick) f cdv A outer s H E).nox (defBody s__law_pick) (t__law_pick K) := by
  unfold t__law_pick
  exact (pss_one (ps_ret (pe_ix ix_list (pv 1) (pe_cd (ok__law_draw T) hr (by decide) (by rfl) T.g__law_draw (pa_cons (pv 0) (pa_cons (pe_callB call_len_seq (by rfl) T.n_len (by decide +kernel) (pa_cons (pv 1) pa_nil)) pa_nil))) (fun _ _ => rfl))))
theorem ok__law_pick (T : Tx K mg) : FnD P w K mg base CX0 2 (He.ga K "_law_pick") C__law_pick := by
  obtain ⟨fd, F⟩ := T.d__law_pick
  exact ⟨⟨fd, ["_law_pen_here", "_law_options"], F.ok sc__law_pick (spD_len (C := C__law_pick) (n := 2) fun ds S P PX h => by obtain ⟨_, _, _, _, rfl, _⟩ := h; rfl) (fun cdv A outer s H vs Q E hr h => ⟨t__law_pick K, PSs.nox (ty__law_pick T hr), bodyD (run__law_pick) h⟩), F.bindsN fun _ _ _ _ _ _ us hl => match us, hl with | [_, _], _ => rfl, F.kp⟩⟩
theorem sc__law_great : FnScope N__law_great ["_law_pen_here", "_law_digits"] (defScope s__law_great) := ⟨rfl, rfl, rfl, by decide +kernel, rfl, by decide +kernel, by decide +kernel⟩
theorem ty__law_great (T : Tx K mg) {A : Around} {outer : List Env} {s : Shared} {H : Hp} {E : XK} {cdv : Value} {f : Addr} (hr : Room 1 (A.deeper (envOfC "_law_great" (defScope s__law_great) s.heap.objs.size f cdv))) :
    PSs (cxOf CX0 P w K mg base N__law_great "_law_great" (defScope s__law_great) f cdv A outer s H E).nox (defBody s__law_great) (t__law_great K) := by
  unfold t__law_great
  exact (pss_cons (ps_set (i := 2) sc__law_great.nd rfl (by first | exact Or.inl rfl | exact Or.inr rfl) pe_int) (pss_cons (ps_for PassesOwn.never rfl (pi_range1 (by rfl) T.n_range (pa_cons (pv 1) pa_nil)) (pg_name (i := 3) sc__law_great.nd rfl (by first | exact Or.inl rfl | exact Or.inr rfl)) (pss_one (ps_set (i := 2) sc__law_great.nd rfl (by first | exact Or.inl rfl | exact Or.inr rfl) (pe_op op_add (pe_op op_mul pe_int (pv 2)) (pe_cd (ok__law_draw T) hr (by decide) (by rfl) T.g__law_draw (pa_cons (pv 0) (pa_cons pe_int pa_nil))))))) (pss_one (ps_ret (pv 2)))))
theorem ok__law_great (T : Tx K mg) : FnD P w K mg base CX0 2 (He.ga K "_law_great") C__law_great := by
  obtain ⟨fd, F⟩ := T.d__law_great
  exact ⟨⟨fd, ["_law_pen_here", "_law_digits"], F.ok sc__law_great (spD_len (C := C__law_great) (n := 2) fun ds S P PX h => by obtain ⟨_, _, _, _, rfl, _⟩ := h; rfl) (fun cdv A outer s H vs Q E hr h => ⟨t__law_great K, PSs.nox (ty__law_great T hr), bodyD (run__law_great) h⟩), F.bindsN fun _ _ _ _ _ _ us hl => match us, hl with | [_, _], _ => rfl, F.kp⟩⟩
theorem sc__law_gcd : FnScope N__law_gcd ["_law_left", "_law_right"] (defScope s__law_gcd) := ⟨rfl, rfl, rfl, by decide +kernel, rfl, by decide +kernel, by decide +kernel⟩
theorem ty__law_gcd (T : Tx K mg) {A : Around} {outer : List Env} {s : Shared} {H : Hp} {E : XK} {cdv : Value} {f : Addr} (hr : Room 0 (A.deeper (envOfC "_law_gcd" (defScope s__law_gcd) s.heap.objs.size f cdv))) :
    PSs (cxOf CX0 P w K mg base N__law_gcd "_law_gcd" (defScope s__law_gcd) f cdv A outer s H E).nox (defBody s__law_gcd) (t__law_gcd K) := by
  unfold t__law_gcd
  exact (pss_cons (ps_par (i := 0) (j := 1) rfl sc__law_gcd.nd rfl rfl (by decide) rfl rfl (pa_cons (pe_callB call_abs (by rfl) T.n_abs (by decide +kernel) (pa_cons (pv 0) pa_nil)) (pa_cons (pe_callB call_abs (by rfl) T.n_abs (by decide +kernel) (pa_cons (pv 1) pa_nil)) pa_nil)) (by rfl)) (pss_cons (ps_while PassesOwn.never (pt_cmpR op_gt (pv 1) pe_int (nomark _)) (pss_one (ps_par (i := 0) (j := 1) rfl sc__law_gcd.nd rfl rfl (by decide) rfl rfl (pa_cons (pv 1) (pa_cons (pe_op op_modN (pv 0) (pv 1)) pa_nil)) (by rfl)))) (pss_one (ps_ret (pv 0)))))
theorem ok__law_gcd (T : Tx K mg) : FnD P w K mg base CX0 1 (He.ga K "_law_gcd") C__law_gcd := by
  obtain ⟨fd, F⟩ := T.d__law_gcd
  exact ⟨⟨fd, ["_law_left", "_law_right"], F.ok sc__law_gcd (spD_len (C := C__law_gcd) (n := 2) fun ds S P PX h => by obtain ⟨_, _, rfl, _⟩ := h; rfl) (fun cdv A outer s H vs Q E hr h => ⟨t__law_gcd K, PSs.nox (ty__law_gcd T hr), bodyD (run__law_gcd) h⟩), F.bindsN fun _ _ _ _ _ _ us hl => match us, hl with | [_, _], _ => rfl, F.kp⟩⟩
theorem sc__law_facts : FnScope N__law_facts ["_law_plain_here", "_law_date"] (defScope s__law_facts) := ⟨rfl, rfl, rfl, by decide +kernel, rfl, by decide +kernel, by decide +kernel⟩
theorem ty__law_facts (T : Tx K mg) {A : Around} {outer : List Env} {s : Shared} {H : Hp} {E : XK} {cdv : Value} {f : Addr} (hr : Room 0 (A.deeper (envOfC "_law_facts" (defScope s__law_facts) s.heap.objs.size f cdv))) :
    PSs (cxOf CX0 P w K mg base N__law_facts "_law_facts" (defScope s__law_facts) f cdv A outer s H E).nox (defBody s__law_facts) (t__law_facts K) := by
  unfold t__law_facts
  exact (pss_cons (ps_asg (pe_ix ix_list (pe_dget (hu_of hr) (pv 0) pe_str (fun _ _ => rfl)) (pe_op op_modN (pv 1) (pe_dget (hu_of hr) (pv 0) pe_str (fun _ _ => rfl))) (fun _ _ => rfl)) (pg_tup rfl (pgs_cons (pg_name (i := 2) sc__law_facts.nd rfl (by first | exact Or.inl rfl | exact Or.inr rfl)) (pgs_cons (pg_name (i := 3) sc__law_facts.nd rfl (by first | exact Or.inl rfl | exact Or.inr rfl)) (pgs_cons (pg_name (i := 4) sc__law_facts.nd rfl (by first | exact Or.inl rfl | exact Or.inr rfl)) (pgs_cons (pg_name (i := 5) sc__law_facts.nd rfl (by first | exact Or.inl rfl | exact Or.inr rfl)) pgs_nil)))))) (pss_one (ps_ret (pe_tup (pa_cons (pe_op op_add (pv 2) (pe_op op_mul (pe_op op_fdivN (pv 1) (pe_dget (hu_of hr) (pv 0) pe_str (fun _ _ => rfl))) (pe_callB call_len_seq (by rfl) T.n_len (by decide +kernel) (pa_cons (pe_dget (hu_of hr) (pv 0) pe_str (fun _ _ => rfl)) pa_nil)))) (pa_cons (pv 3) (pa_cons (pv 4) (pa_cons (pv 5) pa_nil))))))))
theorem ok__law_facts (T : Tx K mg) : FnD P w K mg base CX0 1 (He.ga K "_law_facts") C__law_facts := by
  obtain ⟨fd, F⟩ := T.d__law_facts
  exact ⟨⟨fd, ["_law_plain_here", "_law_date"], F.ok sc__law_facts (spD_len (C := C__law_facts) (n := 2) fun ds S P PX h => by obtain ⟨_, _, _, rfl, _⟩ := h; rfl) (fun cdv A outer s H vs Q E hr h => ⟨t__law_facts K, PSs.nox (ty__law_facts T hr), bodyD (run__law_facts) h⟩), F.bindsN fun _ _ _ _ _ _ us hl => match us, hl with | [_, _], _ => rfl, F.kp⟩⟩
theorem sc__law_weekday : FnScope N__law_weekday ["_law_plain_here", "_law_date"] (defScope s__law_weekday) := ⟨rfl, rfl, rfl, by decide +kernel, rfl, by decide +kernel, by decide +kernel⟩
theorem ty__law_weekday (T : Tx K mg) {A : Around} {outer : List Env} {s : Shared} {H : Hp} {E : XK} {cdv : Value} {f : Addr} (hr : Room 0 (A.deeper (envOfC "_law_weekday" (defScope s__law_weekday) s.heap.objs.size f cdv))) :
    PSs (cxOf CX0 P w K mg base N__law_weekday "_law_weekday" (defScope s__law_weekday) f cdv A outer s H E).nox (defBody s__law_weekday) (t__law_weekday K) := by
  unfold t__law_weekday
  exact (pss_one (ps_ret (pe_op op_modN (pe_op op_add (pv 1) (pe_dget (hu_of hr) (pv 0) pe_str (fun _ _ => rfl))) (pe_dget (hu_of hr) (pv 0) pe_str (fun _ _ => rfl)))))
theorem ok__law_weekday (T : Tx K mg) : FnD P w K mg base CX0 1 (He.ga K "_law_weekday") C__law_weekday := by
  obtain ⟨fd, F⟩ := T.d__law_weekday
  exact ⟨⟨fd, ["_law_plain_here", "_law_date"], F.ok sc__law_weekday (spD_len (C := C__law_weekday) (n := 2) fun ds S P PX h => by obtain ⟨_, _, _, rfl, _⟩ := h; rfl) (fun cdv A outer s H vs Q E hr h => ⟨t__law_weekday K, PSs.nox (ty__law_weekday T hr), bodyD (run__law_weekday) h⟩), F.bindsN fun _ _ _ _ _ _ us hl => match us, hl with | [_, _], _ => rfl, F.kp⟩⟩
theorem sc__law_is_work : FnScope N__law_is_work ["_law_plain_here", "_law_date"] (defScope s__law_is_work) := ⟨rfl, rfl, rfl, by decide +kernel, rfl, by decide +kernel, by decide +kernel⟩
theorem ty__law_is_work (T : Tx K mg) {A : Around} {outer : List Env} {s : Shared} {H : Hp} {E : XK} {cdv : Value} {f : Addr} (hr : Room 1 (A.deeper (envOfC "_law_is_work" (defScope s__law_is_work) s.heap.objs.size f cdv))) :
    PSs (cxOf CX0 P w K mg base N__law_is_work "_law_is_work" (defScope s__law_is_work) f cdv A outer s H E).nox (defBody s__law_is_work) (t__law_is_work K) := by
  unfold t__law_is_work
  exact (pss_cons (ps_asg (pe_cd (ok__law_facts T) hr (by decide) (by rfl) T.g__law_facts (pa_cons (pv 0) (pa_cons (pv 1) pa_nil))) (pg_tup rfl (pgs_cons (pg_name (i := 2) sc__law_is_work.nd rfl (by first | exact Or.inl rfl | exact Or.inr rfl)) (pgs_cons (pg_name (i := 3) sc__law_is_work.nd rfl (by first | exact Or.inl rfl | exact Or.inr rfl)) (pgs_cons (pg_name (i := 4) sc__law_is_work.nd rfl (by first | exact Or.inl rfl | exact Or.inr rfl)) (pgs_cons (pg_name (i := 5) sc__law_is_work.nd rfl (by first | exact Or.inl rfl | exact Or.inr rfl)) pgs_nil)))))) (pss_one (ps_ret (pe_and (pe_cmpR op_notIn_seq (pe_cd (ok__law_weekday T) hr (by decide) (by rfl) T.g__law_weekday (pa_cons (pv 0) (pa_cons (pv 1) pa_nil))) (pe_dget (hu_of hr) (pv 0) pe_str (fun _ _ => rfl)) (by rfl)) (pe_one (pe_cmpR (op_notInD (units65 hr)) (pe_tup (pa_cons (pv 3) (pa_cons (pv 4) pa_nil))) (pe_dget (hu_of hr) (pv 0) pe_str (fun _ _ => rfl)) (by rfl)))))))
theorem ok__law_is_work (T : Tx K mg) : FnD P w K mg base CX0 2 (He.ga K "_law_is_work") C__law_is_work := by
  obtain ⟨fd, F⟩ := T.d__law_is_work
  exact ⟨⟨fd, ["_law_plain_here", "_law_date"], F.ok sc__law_is_work (spD_len (C := C__law_is_work) (n := 2) fun ds S P PX h => by obtain ⟨_, _, _, rfl, _⟩ := h; rfl) (fun cdv A outer s H vs Q E hr h => ⟨t__law_is_work K, PSs.nox (ty__law_is_work T hr), bodyD (run__law_is_work) h⟩), F.bindsN fun _ _ _ _ _ _ us hl => match us, hl with | [_, _], _ => rfl, F.kp⟩⟩
theorem sc__law_with_days : FnScope N__law_with_days ["_law_lists", "_law_size", "_law_begin", "_law_idle", "_law_free"] (defScope s__law_with_days) := ⟨rfl, rfl, rfl, by decide +kernel, rfl, by decide +kernel, by decide +kernel⟩
theorem ty__law_with_days (T : Tx K mg) {A : Around} {outer : List Env} {s : Shared} {H : Hp} {E : XK} {cdv : Value} {f : Addr} (hr : Room 2 (A.deeper (envOfC "_law_with_days" (defScope s__law_with_days) s.heap.objs.size f cdv))) :
    PSs (cxOf CX0 P w K mg base N__law_with_days "_law_with_days" (defScope s__law_with_days) f cdv A outer s H E).nox (defBody s__law_with_days) (t__law_with_days K) := by
  unfold t__law_with_days
  exact (pss_cons (ps_par (i := 5) (j := 6) rfl sc__law_with_days.nd rfl rfl (by decide) rfl rfl (pa_cons (pe_lst pa_nil) (pa_cons (pe_lst pa_nil) pa_nil)) (by rfl)) (pss_cons (ps_for PassesOwn.never rfl (pi_range1 (by rfl) T.n_range (pa_cons (pe_callB call_len_seq (by rfl) T.n_len (by decide +kernel) (pa_cons (pv 0) pa_nil)) pa_nil)) (pg_name (i := 7) sc__law_with_days.nd rfl (by first | exact Or.inl rfl | exact Or.inr rfl)) (pss_one (ps_for PassesOwn.never rfl (pi_range1 (by rfl) T.n_range (pa_cons (pe_callB call_len_seq (by rfl) T.n_len (by decide +kernel) (pa_cons (pe_ix ix_list (pv 0) (pv 7) (fun _ _ => rfl)) pa_nil)) pa_nil)) (pg_name (i := 8) sc__law_with_days.nd rfl (by first | exact Or.inl rfl | exact Or.inr rfl)) (pss_cons (ps_expr (pe_bm PySem.F.plainAttrs_list PySem.F.slot_list_append PySem.F.type_list_append mt_append (pv 6) (pa_cons (pe_callB call_len_seq (by rfl) T.n_len (by decide +kernel) (pa_cons (pv 5) pa_nil)) pa_nil))) (pss_cons (ps_set (i := 9) sc__law_with_days.nd rfl (by first | exact Or.inl rfl | exact Or.inr rfl) (pe_ix ix_list (pe_ix ix_list (pv 0) (pv 7) (fun _ _ => rfl)) (pv 8) (fun _ _ => rfl))) (pss_one (ps_expr (pe_bm PySem.F.plainAttrs_list PySem.F.slot_list_extend PySem.F.type_list_extend mt_extend (pv 5) (pa_cons (pe_lc (own := [("_law_day", 14)]) (g := gName 14) rfl sc__law_with_days.nd (pi_range1 (by rfl) T.n_range (pa_cons (pv 9) pa_nil)) (blkOk_by (N := N__law_with_days) (sc := defScope s__law_with_days) (by decide +kernel)) (fun _ _ _ _ _ => pg_name (i := 14) sc__law_with_days.nd rfl (by first | exact Or.inl rfl | exact Or.inr rfl)) (fun _ _ _ _ _ => pts_nil) (fun _ _ _ _ _ => (pe_tup (pa_cons (pv 7) (pa_cons (pe_op op_add (pv 8) pe_int) (pa_cons (pe_op op_add (pv 14) pe_int) (pa_cons (pv 9) pa_nil))))))) pa_nil))))))))) (pss_cons (ps_set (i := 10) sc__law_with_days.nd rfl (by first | exact Or.inl rfl | exact Or.inr rfl) (pe_disp (pps_cons pe_str (pv 0) (pps_cons pe_str (pv 1) (pps_cons pe_str (pv 2) (pps_cons pe_str (pv 3) (pps_cons pe_str (pv 4) (pps_cons pe_str (pv 5) pps_nil)))))) (by rfl) (by rfl) (fun z => by cases z) (by decide))) (pss_cons (ps_expr (pe_bm PySem.F.plainAttrs_dict PySem.F.slot_dict_update PySem.F.type_dict_update mt_dupd (pv 10) (pa_cons (pe_disp (pps_cons pe_str (pv 6) (pps_cons pe_str (pe_callB call_len_seq (by rfl) T.n_len (by decide +kernel) (pa_cons (pe_ix ix_list (pv 0) pe_int (fun _ _ => rfl)) pa_nil)) (pps_cons pe_str (pe_callB call_len_seq (by rfl) T.n_len (by decide +kernel) (pa_cons (pv 5) pa_nil)) pps_nil))) (by rfl) (by rfl) (fun z => by cases z) (by decide)) pa_nil))) (pss_cons (ps_dput (hu_of hr) (pv 10) pe_str (pe_op op_mul (pe_op op_fdivN (pe_callB call_len_seq (by rfl) T.n_len (by decide +kernel) (pa_cons (pv 5) pa_nil)) (pe_cd (ok__law_gcd T) hr (by decide) (by rfl) T.g__law_gcd (pa_cons (pe_callB call_len_seq (by rfl) T.n_len (by decide +kernel) (pa_cons (pv 5) pa_nil)) (pa_cons (pv 1) pa_nil)))) (pv 1)) rfl) (pss_cons (ps_asg (pe_tup (pa_cons (pe_lc (own := [("_law_date", 15)]) (g := gName 15) rfl sc__law_with_days.nd (pi_range1 (by rfl) T.n_range (pa_cons (pe_dget (hu_of hr) (pv 10) pe_str (fun _ _ => rfl)) pa_nil)) (blkOk_by (N := N__law_with_days) (sc := defScope s__law_with_days) (by decide +kernel)) (fun _ _ _ _ _ => pg_name (i := 15) sc__law_with_days.nd rfl (by first | exact Or.inl rfl | exact Or.inr rfl)) (fun _ _ _ _ _ => pts_nil) (fun _ _ _ _ _ => (pe_cd (ok__law_is_work T) hr (by decide) (by rfl) T.g__law_is_work (pa_cons (pv 10) (pa_cons (pv 15) pa_nil))))) (pa_cons (pe_lst (pa_cons pe_int pa_nil)) pa_nil))) (pg_tup rfl (pgs_cons (pg_name (i := 11) sc__law_with_days.nd rfl (by first | exact Or.inl rfl | exact Or.inr rfl)) (pgs_cons (pg_name (i := 12) sc__law_with_days.nd rfl (by first | exact Or.inl rfl | exact Or.inr rfl)) pgs_nil)))) (pss_cons (ps_for PassesOwn.never rfl (pi_list (pv 11)) (pg_name (i := 13) sc__law_with_days.nd rfl (by first | exact Or.inl rfl | exact Or.inr rfl)) (pss_one (ps_expr (pe_bm PySem.F.plainAttrs_list PySem.F.slot_list_append PySem.F.type_list_append mt_append (pv 12) (pa_cons (pe_op op_add (pe_ix ix_list (pv 12) (pe_un un_neg pe_int) (fun _ _ => rfl)) (pe_callTy call_int1 (by rfl) T.n_int (by decide +kernel) (pa_cons (pv 13) pa_nil))) pa_nil))))) (pss_cons (ps_dput (hu_of hr) (pv 10) pe_str (pe_lc (own := [("_law_date", 15)]) (g := gName 15) rfl sc__law_with_days.nd (pi_range1 (by rfl) T.n_range (pa_cons (pe_dget (hu_of hr) (pv 10) pe_str (fun _ _ => rfl)) pa_nil)) (blkOk_by (N := N__law_with_days) (sc := defScope s__law_with_days) (by decide +kernel)) (fun _ _ _ _ _ => pg_name (i := 15) sc__law_with_days.nd rfl (by first | exact Or.inl rfl | exact Or.inr rfl)) (fun _ _ _ _ _ => (pts_one (pt_val (pe_ix ix_list (pv 11) (pv 15) (fun _ _ => rfl))))) (fun _ _ _ _ _ => (pv 15))) rfl) (pss_cons (ps_dput (hu_of hr) (pv 10) pe_str (pv 12) rfl) (pss_one (ps_ret (pv 10))))))))))))
theorem ok__law_with_days (T : Tx K mg) : FnD P w K mg base CX0 3 (He.ga K "_law_with_days") C__law_with_days := by
  obtain ⟨fd, F⟩ := T.d__law_with_days
  exact ⟨⟨fd, ["_law_lists", "_law_size", "_law_begin", "_law_idle", "_law_free"], F.ok sc__law_with_days (spD_len (C := C__law_with_days) (n := 5) fun ds S P PX h => by obtain ⟨_, rfl, _⟩ := h; rfl) (fun cdv A outer s H vs Q E hr h => ⟨t__law_with_days K, PSs.nox (ty__law_with_days T hr), bodyD (run__law_with_days) h⟩), F.bindsN fun _ _ _ _ _ _ us hl => match us, hl with | [_, _, _, _, _], _ => rfl, F.kp⟩⟩
theorem sc__law_plain : FnScope N__law_plain ["_law_pen_here"] (defScope s__law_plain) := ⟨rfl, rfl, rfl, by decide +kernel, rfl, by decide +kernel, by decide +kernel⟩
theorem ty__law_plain (T : Tx K mg) {A : Around} {outer : List Env} {s : Shared} {H : Hp} {E : XK} {cdv : Value} {f : Addr} (hr : Room 3 (A.deeper (envOfC "_law_plain" (defScope s__law_plain) s.heap.objs.size f cdv))) :
    PSs (cxOf CX0 P w K mg base N__law_plain "_law_plain" (defScope s__law_plain) f cdv A outer s H E).nox (defBody s__law_plain) (t__law_plain K) := by
  unfold t__law_plain
  exact (pss_cons (ps_asg (pe_tup (pa_cons (pe_op op_add pe_int (pe_cd (ok__law_draw T) hr (by decide) (by rfl) T.g__law_draw (pa_cons (pv 0) (pa_cons pe_int pa_nil)))) (pa_cons (pe_op op_add pe_int (pe_cd (ok__law_draw T) hr (by decide) (by rfl) T.g__law_draw (pa_cons (pv 0) (pa_cons pe_int pa_nil)))) pa_nil))) (pg_tup rfl (pgs_cons (pg_name (i := 1) sc__law_plain.nd rfl (by first | exact Or.inl rfl | exact Or.inr rfl)) (pgs_cons (pg_name (i := 2) sc__law_plain.nd rfl (by first | exact Or.inl rfl | exact Or.inr rfl)) pgs_nil)))) (pss_cons (ps_if (pt_cmpR op_eq (pe_cd (ok__law_draw T) hr (by decide) (by rfl) T.g__law_draw (pa_cons (pv 0) (pa_cons pe_int pa_nil))) pe_int (nomark _)) (pss_one (ps_asg (pe_tup (pa_cons pe_int (pa_cons (pe_op op_add pe_int (pe_cd (ok__law_draw T) hr (by decide) (by rfl) T.g__law_draw (pa_cons (pv 0) (pa_cons pe_int pa_nil)))) pa_nil))) (pg_tup rfl (pgs_cons (pg_name (i := 1) sc__law_plain.nd rfl (by first | exact Or.inl rfl | exact Or.inr rfl)) (pgs_cons (pg_name (i := 2) sc__law_plain.nd rfl (by first | exact Or.inl rfl | exact Or.inr rfl)) pgs_nil))))) pss_nil) (pss_cons (ps_asg (pe_tup (pa_cons (pe_cd (ok__law_pick T) hr (by decide) (by rfl) T.g__law_pick (pa_cons (pv 0) (pa_cons (pe_lst (pa_cons pe_int (pa_cons pe_int (pa_cons pe_int (pa_cons pe_int (pa_cons (pe_op op_fdivN pe_int (pe_op op_mul (pv 1) (pv 2))) pa_nil)))))) pa_nil))) (pa_cons (pe_op op_add pe_int (pe_cd (ok__law_draw T) hr (by decide) (by rfl) T.g__law_draw (pa_cons (pv 0) (pa_cons pe_int pa_nil)))) pa_nil))) (pg_tup rfl (pgs_cons (pg_name (i := 3) sc__law_plain.nd rfl (by first | exact Or.inl rfl | exact Or.inr rfl)) (pgs_cons (pg_name (i := 4) sc__law_plain.nd rfl (by first | exact Or.inl rfl | exact Or.inr rfl)) pgs_nil)))) (pss_cons (ps_setLc (i := 5) (own := [("_law_year", 12)]) (g := gName 12) rfl sc__law_plain.nd rfl rfl (sw_true rfl rfl rfl (by decide +kernel)) (pi_range1 (by rfl) T.n_range (pa_cons (pv 1) pa_nil)) (blkOk_by (N := N__law_plain) (sc := defScope s__law_plain) (by decide +kernel)) (fun _ _ _ _ _ => pg_name (i := 12) sc__law_plain.nd rfl (by first | exact Or.inl rfl | exact Or.inr rfl)) (fun _ _ _ _ _ => pts_nil) (fun _ _ _ _ _ => (pe_lc (own := [("_law_month_here", 13)]) (g := gName 13) rfl sc__law_plain.nd (pi_range1 (by rfl) T.n_range (pa_cons (pv 2) pa_nil)) (blkOk_by (by kernel_rfl)) (fun _ _ _ _ _ => pg_name (i := 13) sc__law_plain.nd rfl (by first | exact Or.inl rfl | exact Or.inr rfl)) (fun _ _ _ _ _ => pts_nil) (fun _ _ _ _ _ => (pe_op op_add pe_int (pe_cd (ok__law_draw T) hr (by decide) (by rfl) T.g__law_draw (pa_cons (pv 0) (pa_cons (pv 3) pa_nil)))))))) (pss_cons (ps_asg (pe_tup (pa_cons (pe_cd (ok__law_draw T) hr (by decide) (by rfl) T.g__law_draw (pa_cons (pv 0) (pa_cons pe_int pa_nil))) (pa_cons (pe_lst pa_nil) pa_nil))) (pg_tup rfl (pgs_cons (pg_name (i := 6) sc__law_plain.nd rfl (by first | exact Or.inl rfl | exact Or.inr rfl)) (pgs_cons (pg_name (i := 7) sc__law_plain.nd rfl (by first | exact Or.inl rfl | exact Or.inr rfl)) pgs_nil)))) (pss_cons (ps_setLc (i := 8) (own := [("_law_day", 14)]) (g := gName 14) rfl sc__law_plain.nd rfl rfl (sw_true rfl rfl rfl (by decide +kernel)) (pi_range1 (by rfl) T.n_range (pa_cons (pv 4) pa_nil)) (blkOk_by (N := N__law_plain) (sc := defScope s__law_plain) (by decide +kernel)) (fun _ _ _ _ _ => pg_name (i := 14) sc__law_plain.nd rfl (by first | exact Or.inl rfl | exact Or.inr rfl)) (fun _ _ _ _ _ => (pts_one (pt_cmpR op_lt (pe_cd (ok__law_draw T) hr (by decide) (by rfl) T.g__law_draw (pa_cons (pv 0) (pa_cons pe_int pa_nil))) (pv 6) (nomark _)))) (fun _ _ _ _ _ => (pv 14))) (pss_cons (ps_for PassesOwn.never rfl (pi_range1 (by rfl) T.n_range (pa_cons (pe_cd (ok__law_draw T) hr (by decide) (by rfl) T.g__law_draw (pa_cons (pv 0) (pa_cons pe_int pa_nil))) pa_nil)) (pg_name (i := 9) sc__law_plain.nd rfl (by first | exact Or.inl rfl | exact Or.inr rfl)) (pss_cons (ps_set (i := 10) sc__law_plain.nd rfl (by first | exact Or.inl rfl | exact Or.inr rfl) (pe_tup (pa_cons (pe_op op_add pe_int (pe_cd (ok__law_draw T) hr (by decide) (by rfl) T.g__law_draw (pa_cons (pv 0) (pa_cons (pv 2) pa_nil)))) (pa_cons (pe_callB (call_min2 rfl) (by rfl) T.n_min (by decide +kernel) (pa_cons pe_int (pa_cons (pe_op op_add pe_int (pe_cd (ok__law_draw T) hr (by decide) (by rfl) T.g__law_draw (pa_cons (pv 0) (pa_cons (pe_op op_add (pv 3) pe_int) pa_nil)))) pa_nil))) pa_nil)))) (pss_one (ps_set (i := 7) sc__law_plain.nd rfl (by first | exact Or.inl rfl | exact Or.inr rfl) (pe_op op_cat (pv 7) (pe_op op_rep (pe_lst (pa_cons (pv 10) pa_nil)) (pe_callTy call_int1 (by rfl) T.n_int (by decide +kernel) (pa_cons (pe_cmpR (op_notInD (units65 hr)) (pv 10) (pv 7) (by rfl)) pa_nil)))))))) (pss_cons (ps_set (i := 11) sc__law_plain.nd rfl (by first | exact Or.inl rfl | exact Or.inr rfl) (pe_cd (ok__law_with_days T) hr (by decide) (by rfl) T.g__law_with_days (pa_cons (pv 5) (pa_cons (pv 4) (pa_cons (pe_cd (ok__law_draw T) hr (by decide) (by rfl) T.g__law_draw (pa_cons (pv 0) (pa_cons (pv 4) pa_nil))) (pa_cons (pv 8) (pa_cons (pv 7) pa_nil))))))) (pss_cons (ps_if (pt_cmpR (op_neD (DL.unitsOf hr)) (pe_dget (hu_of hr) (pv 11) pe_str (fun _ _ => rfl)) (pe_lst pa_nil) (nomark _)) (pss_one (ps_ret (pv 11))) pss_nil) (pss_one (ps_ret (pe_cd (ok__law_with_days T) hr (by decide) (by rfl) T.g__law_with_days (pa_cons (pv 5) (pa_cons (pv 4) (pa_cons (pe_dget (hu_of hr) (pv 11) pe_str (fun _ _ => rfl)) (pa_cons (pe_lst pa_nil) (pa_cons (pe_lst pa_nil) pa_nil)))))))))))))))))
theorem ok__law_plain (T : Tx K mg) : FnD P w K mg base CX0 4 (He.ga K "_law_plain") C__law_plain := by
  obtain ⟨fd, F⟩ := T.d__law_plain
  exact ⟨⟨fd, ["_law_pen_here"], F.ok sc__law_plain (spD_len (C := C__law_plain) (n := 1) fun ds S P PX h => by obtain ⟨_, _, _, rfl, _⟩ := h; rfl) (fun cdv A outer s H vs Q E hr h => ⟨t__law_plain K, PSs.nox (ty__law_plain T hr), bodyD (run__law_plain) h⟩), F.bindsN fun _ _ _ _ _ _ us hl => match us, hl with | [_], _ => rfl, F.kp⟩⟩
theorem sc__law_calendar : FnScope N__law_calendar ["_law_plain_here"] (defScope s__law_calendar) := ⟨rfl, rfl, rfl, by decide +kernel, rfl, by decide +kernel, by decide +kernel⟩
theorem ty__law_calendar (T : Tx K mg) {A : Around} {outer : List Env} {s : Shared} {H : Hp} {E : XK} {cdv : Value} {f : Addr} (hr : Room 7 (A.deeper (envOfC "_law_calendar" (defScope s__law_calendar) s.heap.objs.size f cdv))) :
    PSs (cxOf CX0 P w K mg base N__law_calendar "_law_calendar" (defScope s__law_calendar) f cdv A outer s H E).nox (defBody s__law_calendar) (t__law_calendar K) := by
  unfold t__law_calendar
  exact (pss_cons (ps_par (i := 1) (j := 2) rfl sc__law_calendar.nd rfl rfl (by decide) rfl rfl (pa_cons (pe_callTy call_tuple_of (by rfl) T.n_tuple (by decide +kernel) (pa_cons (pe_dget (hu_of hr) (pv 0) pe_str (fun _ _ => rfl)) pa_nil)) (pa_cons (pe_callTy call_tuple_of (by rfl) T.n_tuple (by decide +kernel) (pa_cons (pe_dget (hu_of hr) (pv 0) pe_str (fun _ _ => rfl)) pa_nil)) pa_nil)) (by rfl)) (pss_one (ps_ret (pe_mkk T.mk_Calendar (ok_Calendar___init__ T) hr (by decide) (by rfl) T.g_Calendar (pa_cons (pe_dget (hu_of hr) (pv 0) pe_str (fun _ _ => rfl)) (pa_cons (pe_dget (hu_of hr) (pv 0) pe_str (fun _ _ => rfl)) pa_nil)) (pk_cons (pe_dget (hu_of hr) (pv 0) pe_str (fun _ _ => rfl)) (pk_cons (pv 1) (pk_cons (pv 2) pk_nil)))))))
theorem ok__law_calendar (T : Tx K mg) : FnD P w K mg base CX0 8 (He.ga K "_law_calendar") (C__law_calendar K) := by
  obtain ⟨fd, F⟩ := T.d__law_calendar
  exact ⟨⟨fd, ["_law_plain_here"], F.ok sc__law_calendar (spD_len (C := (C__law_calendar K)) (n := 1) fun ds S P PX h => by obtain ⟨_, _, _, rfl, _⟩ := h; rfl) (fun cdv A outer s H vs Q E hr h => ⟨t__law_calendar K, PSs.nox (ty__law_calendar T hr), bodyD (run__law_calendar T.fx) h⟩), F.bindsN fun _ _ _ _ _ _ us hl => match us, hl with | [_], _ => rfl, F.kp⟩⟩
theorem sc__law_month_begin : FnScope N__law_month_begin ["_law_plain_here", "_law_number"] (defScope s__law_month_begin) := ⟨rfl, rfl, rfl, by decide +kernel, rfl, by decide +kernel, by decide +kernel⟩
theorem ty__law_month_begin (T : Tx K mg) {A : Around} {outer : List Env} {s : Shared} {H : Hp} {E : XK} {cdv : Value} {f : Addr} (hr : Room 0 (A.deeper (envOfC "_law_month_begin" (defScope s__law_month_begin) s.heap.objs.size f cdv))) :
    PSs (cxOf CX0 P w K mg base N__law_month_begin "_law_month_begin" (defScope s__law_month_begin) f cdv A outer s H E).nox (defBody s__law_month_begin) (t__law_month_begin K) := by
  unfold t__law_month_begin
  exact (pss_cons (ps_set (i := 2) sc__law_month_begin.nd rfl (by first | exact Or.inl rfl | exact Or.inr rfl) (pe_callB call_len_seq (by rfl) T.n_len (by decide +kernel) (pa_cons (pe_dget (hu_of hr) (pv 0) pe_str (fun _ _ => rfl)) pa_nil))) (pss_cons (ps_set (i := 3) sc__law_month_begin.nd rfl (by first | exact Or.inl rfl | exact Or.inr rfl) (pe_op op_fdivN (pv 1) (pv 2))) (pss_one (ps_ret (pe_op op_add (pe_ix ix_list (pe_dget (hu_of hr) (pv 0) pe_str (fun _ _ => rfl)) (pe_op op_modN (pv 1) (pv 2)) (fun _ _ => rfl)) (pe_op op_mul (pv 3) (pe_dget (hu_of hr) (pv 0) pe_str (fun _ _ => rfl))))))))
theorem ok__law_month_begin (T : Tx K mg) : FnD P w K mg base CX0 1 (He.ga K "_law_month_begin") C__law_month_begin := by
  obtain ⟨fd, F⟩ := T.d__law_month_begin
  exact ⟨⟨fd, ["_law_plain_here", "_law_number"], F.ok sc__law_month_begin (spD_len (C := C__law_month_begin) (n := 2) fun ds S P PX h => by obtain ⟨_, _, _, rfl, _⟩ := h; rfl) (fun cdv A outer s H vs Q E hr h => ⟨t__law_month_begin K, PSs.nox (ty__law_month_begin T hr), bodyD (run__law_month_begin) h⟩), F.bindsN fun _ _ _ _ _ _ us hl => match us, hl with | [_, _], _ => rfl, F.kp⟩⟩
theorem sc__law_month : FnScope N__law_month ["_law_plain_here", "_law_year", "_law_month_here"] (defScope s__law_month) := ⟨rfl, rfl, rfl, by decide +kernel, rfl, by decide +kernel, by decide +kernel⟩
theorem ty__law_month (T : Tx K mg) {A : Around} {outer : List Env} {s : Shared} {H : Hp} {E : XK} {cdv : Value} {f : Addr} (hr : Room 2 (A.deeper (envOfC "_law_month" (defScope s__law_month) s.heap.objs.size f cdv))) :
    PSs (cxOf CX0 P w K mg base N__law_month "_law_month" (defScope s__law_month) f cdv A outer s H E).nox (defBody s__law_month) (t__law_month K) := by
  unfold t__law_month
  exact (pss_cons (ps_set (i := 3) sc__law_month.nd rfl (by first | exact Or.inl rfl | exact Or.inr rfl) (pe_op op_sub (pe_op op_add (pe_op op_mul (pv 1) (pe_dget (hu_of hr) (pv 0) pe_str (fun _ _ => rfl))) (pv 2)) pe_int)) (pss_cons (ps_set (i := 4) sc__law_month.nd rfl (by first | exact Or.inl rfl | exact Or.inr rfl) (pe_listRgA rfl (by rfl) T.n_list (prg_2 (by rfl) T.n_range (pe_cd (ok__law_month_begin T) hr (by decide) (by rfl) T.g__law_month_begin (pa_cons (pv 0) (pa_cons (pv 3) pa_nil))) (pe_cd (ok__law_month_begin T) hr (by decide) (by rfl) T.g__law_month_begin (pa_cons (pv 0) (pa_cons (pe_op op_add (pv 3) pe_int) pa_nil)))))) (pss_one (ps_ret (pe_op op_add_str (pe_bm PySem.F.plainAttrs_str PySem.F.slot_str_rjust PySem.F.type_str_rjust mt_rjust (pe_callTy call_str_int (by rfl) T.n_str (by decide +kernel) (pa_cons (pv 2) pa_nil)) (pa_cons pe_int pa_nil)) (pe_join pe_str (pe_lc (own := [("_law_date", 5)]) (g := gName 5) rfl sc__law_month.nd (pi_list (pv 4)) (blkOk_by (N := N__law_month) (sc := defScope s__law_month) (by decide +kernel)) (fun _ _ _ _ _ => pg_name (i := 5) sc__law_month.nd rfl (by first | exact Or.inl rfl | exact Or.inr rfl)) (fun _ _ _ _ _ => pts_nil) (fun _ _ _ _ _ => (pe_ifExp (pt_val (pe_cd (ok__law_is_work T) hr (by decide) (by rfl) T.g__law_is_work (pa_cons (pv 0) (pa_cons (pv 5) pa_nil)))) pe_str pe_str)))))))))
theorem ok__law_month (T : Tx K mg) : FnD P w K mg base CX0 3 (He.ga K "_law_month") C__law_month := by
  obtain ⟨fd, F⟩ := T.d__law_month
  exact ⟨⟨fd, ["_law_plain_here", "_law_year", "_law_month_here"], F.ok sc__law_month (spD_len (C := C__law_month) (n := 3) fun ds S P PX h => by obtain ⟨_, _, _, _, rfl, _⟩ := h; rfl) (fun cdv A outer s H vs Q E hr h => ⟨t__law_month K, PSs.nox (ty__law_month T hr), bodyD (run__law_month) h⟩), F.bindsN fun _ _ _ _ _ _ us hl => match us, hl with | [_, _, _], _ => rfl, F.kp⟩⟩
theorem sc__law_many_months : FnScope N__law_many_months ["_law_pen_here"] (defScope s__law_many_months) := ⟨rfl, rfl, rfl, by decide +kernel, rfl, by decide +kernel, by decide +kernel⟩
theorem ty__law_many_months (T : Tx K mg) {A : Around} {outer : List Env} {s : Shared} {H : Hp} {E : XK} {cdv : Value} {f : Addr} (hr : Room 3 (A.deeper (envOfC "_law_many_months" (defScope s__law_many_months) s.heap.objs.size f cdv))) :
    PSs (cxOf CX0 P w K mg base N__law_many_months "_law_many_months" (defScope s__law_many_months) f cdv A outer s H E).nox (defBody s__law_many_months) (t__law_many_months K) := by
  unfold t__law_many_months
  exact (pss_cons (ps_set (i := 1) sc__law_many_months.nd rfl (by first | exact Or.inl rfl | exact Or.inr rfl) (pe_lst (pa_cons (pe_lc (own := [("_law_month_here", 2)]) (g := gName 2) rfl sc__law_many_months.nd (pi_range1 (by rfl) T.n_range (pa_cons (pe_op op_add pe_int (pe_cd (ok__law_draw T) hr (by decide) (by rfl) T.g__law_draw (pa_cons (pv 0) (pa_cons pe_int pa_nil)))) pa_nil)) (blkOk_by (N := N__law_many_months) (sc := defScope s__law_many_months) (by decide +kernel)) (fun _ _ _ _ _ => pg_name (i := 2) sc__law_many_months.nd rfl (by first | exact Or.inl rfl | exact Or.inr rfl)) (fun _ _ _ _ _ => pts_nil) (fun _ _ _ _ _ => (pe_op op_add pe_int (pe_cd (ok__law_draw T) hr (by decide) (by rfl) T.g__law_draw (pa_cons (pv 0) (pa_cons pe_int pa_nil)))))) pa_nil))) (pss_one (ps_ret (pe_cd (ok__law_with_days T) hr (by decide) (by rfl) T.g__law_with_days (pa_cons (pv 1) (pa_cons pe_int (pa_cons (pe_cd (ok__law_draw T) hr (by decide) (by rfl) T.g__law_draw (pa_cons (pv 0) (pa_cons pe_int pa_nil))) (pa_cons (pe_lst (pa_cons (pe_cd (ok__law_draw T) hr (by decide) (by rfl) T.g__law_draw (pa_cons (pv 0) (pa_cons pe_int pa_nil))) pa_nil)) (pa_cons (pe_lst (pa_cons (pe_tup (pa_cons pe_int (pa_cons pe_int pa_nil))) (pa_cons (pe_tup (pa_cons (pe_callB call_len_seq (by rfl) T.n_len (by decide +kernel) (pa_cons (pe_ix ix_list (pv 1) pe_int (fun _ _ => rfl)) pa_nil)) (pa_cons pe_int pa_nil))) pa_nil))) pa_nil)))))))))
theorem ok__law_many_months (T : Tx K mg) : FnD P w K mg base CX0 4 (He.ga K "_law_many_months") C__law_many_months := by
  obtain ⟨fd, F⟩ := T.d__law_many_months
  exact ⟨⟨fd, ["_law_pen_here"], F.ok sc__law_many_months (spD_len (C := C__law_many_months) (n := 1) fun ds S P PX h => by obtain ⟨_, _, _, rfl, _⟩ := h; rfl) (fun cdv A outer s H vs Q E hr h => ⟨t__law_many_months K, PSs.nox (ty__law_many_months T hr), bodyD (run__law_many_months) h⟩), F.bindsN fun _ _ _ _ _ _ us hl => match us, hl with | [_], _ => rfl, F.kp⟩⟩
theorem sc__law_gregorian : FnScope N__law_gregorian ["_law_number"] (defScope s__law_gregorian) := ⟨rfl, rfl, rfl, by decide +kernel, rfl, by decide +kernel, by decide +kernel⟩
theorem ty__law_gregorian (T : Tx K mg) {A : Around} {outer : List Env} {s : Shared} {H : Hp} {E : XK} {cdv : Value} {f : Addr} (hr : Room 0 (A.deeper (envOfC "_law_gregorian" (defScope s__law_gregorian) s.heap.objs.size f cdv))) :
    PSs (cxOf CX0 P w K mg base N__law_gregorian "_law_gregorian" (defScope s__law_gregorian) f cdv A outer s H E).nox (defBody s__law_gregorian) (t__law_gregorian K) := by
  unfold t__law_gregorian
  exact (pss_cons (ps_set (i := 1) sc__law_gregorian.nd rfl (by first | exact Or.inl rfl | exact Or.inr rfl) (pe_and (pe_cmpR op_eq (pe_op op_modN (pv 0) pe_int) pe_int (nomark _)) (pe_one (pe_or (pe_cmpR op_ne (pe_op op_modN (pv 0) pe_int) pe_int (nomark _)) (pe_one (pe_cmpR op_eq (pe_op op_modN (pv 0) pe_int) pe_int (nomark _))))))) (pss_cons (ps_set (i := 2) sc__law_gregorian.nd rfl (by first | exact Or.inl rfl | exact Or.inr rfl) (pe_op op_add (pe_op op_sub (pe_op op_fdivN (pe_op op_add (pv 0) pe_int) pe_int) (pe_op op_fdivN (pe_op op_add (pv 0) pe_int) pe_int)) (pe_op op_fdivN (pe_op op_add (pv 0) pe_int) pe_int))) (pss_cons (ps_asg (pe_tup (pa_cons (pe_op op_add (pe_op op_add (pe_op op_mul pe_int (pv 0)) (pv 2)) pe_int) (pa_cons (pe_lst pa_nil) pa_nil))) (pg_tup rfl (pgs_cons (pg_name (i := 3) sc__law_gregorian.nd rfl (by first | exact Or.inl rfl | exact Or.inr rfl)) (pgs_cons (pg_name (i := 4) sc__law_gregorian.nd rfl (by first | exact Or.inl rfl | exact Or.inr rfl)) pgs_nil)))) (pss_cons (ps_for PassesOwn.never rfl (pi_range1 (by rfl) T.n_range (pa_cons pe_int pa_nil)) (pg_name (i := 5) sc__law_gregorian.nd rfl (by first | exact Or.inl rfl | exact Or.inr rfl)) (pss_cons (ps_set (i := 6) sc__law_gregorian.nd rfl (by first | exact Or.inl rfl | exact Or.inr rfl) (pe_ix ix_list (pe_lst (pa_cons pe_int (pa_cons (pe_op op_add pe_int (pe_callTy call_int1 (by rfl) T.n_int (by decide +kernel) (pa_cons (pv 1) pa_nil))) (pa_cons pe_int (pa_cons pe_int (pa_cons pe_int (pa_cons pe_int (pa_cons pe_int (pa_cons pe_int (pa_cons pe_int (pa_cons pe_int (pa_cons pe_int (pa_cons pe_int pa_nil))))))))))))) (pv 5) (fun _ _ => rfl))) (pss_cons (ps_setLc (i := 7) (own := [("_law_day", 8)]) (g := gName 8) rfl sc__law_gregorian.nd rfl rfl (sw_true rfl rfl rfl (by decide +kernel)) (pi_range1 (by rfl) T.n_range (pa_cons (pv 6) pa_nil)) (blkOk_by (N := N__law_gregorian) (sc := defScope s__law_gregorian) (by decide +kernel)) (fun _ _ _ _ _ => pg_name (i := 8) sc__law_gregorian.nd rfl (by first | exact Or.inl rfl | exact Or.inr rfl)) (fun _ _ _ _ _ => pts_nil) (fun _ _ _ _ _ => (pe_ifExp (pt_cmpR op_in_seq (pe_op op_modN (pe_op op_add (pv 3) (pv 8)) pe_int) (pe_tup (pa_cons pe_int (pa_cons pe_int pa_nil))) (by rfl)) pe_str pe_str))) (pss_cons (ps_expr (pe_bm PySem.F.plainAttrs_list PySem.F.slot_list_append PySem.F.type_list_append mt_append (pv 4) (pa_cons (pe_op op_add_str (pe_bm PySem.F.plainAttrs_str PySem.F.slot_str_rjust PySem.F.type_str_rjust mt_rjust (pe_callTy call_str_int (by rfl) T.n_str (by decide +kernel) (pa_cons (pe_op op_add (pv 5) pe_int) pa_nil)) (pa_cons pe_int pa_nil)) (pe_join pe_str (pv 7))) pa_nil))) (pss_one (ps_set (i := 3) sc__law_gregorian.nd rfl (by first | exact Or.inl rfl | exact Or.inr rfl) (pe_op op_add (pv 3) (pv 6)))))))) (pss_one (ps_ret (pe_join pe_str (pv 4))))))))
theorem ok__law_gregorian (T : Tx K mg) : FnD P w K mg base CX0 1 (He.ga K "_law_gregorian") C__law_gregorian := by
  obtain ⟨fd, F⟩ := T.d__law_gregorian
  exact ⟨⟨fd, ["_law_number"], F.ok sc__law_gregorian (spD_len (C := C__law_gregorian) (n := 1) fun ds S P PX h => by obtain ⟨_, rfl, _⟩ := h; rfl) (fun cdv A outer s H vs Q E hr h => ⟨t__law_gregorian K, PSs.nox (ty__law_gregorian T hr), bodyD (run__law_gregorian) h⟩), F.bindsN fun _ _ _ _ _ _ us hl => match us, hl with | [_], _ => rfl, F.kp⟩⟩
theorem sc_law : FnScope N_law ["_law_script"] (defScope s_law) := ⟨rfl, rfl, rfl, by decide +kernel, rfl, by decide +kernel, by decide +kernel⟩
theorem ty_law (T : Tx K mg) {A : Around} {outer : List Env} {s : Shared} {H : Hp} {E : XK} {cdv : Value} {f : Addr} (hr : Room 8 (A.deeper (envOfC "law" (defScope s_law) s.heap.objs.size f cdv))) :
    PSs (cxOf CX0 P w K mg base N_law "law" (defScope s_law) f cdv A outer s H E).nox (defBody s_law) (t_law K) := by
  unfold t_law
  exact (pss_cons (ps_set (i := 1) sc_law.nd rfl (by first | exact Or.inl rfl | exact Or.inr rfl) (pe_cd (ok__law_pen T) hr (by decide) (by rfl) T.g__law_pen (pa_cons (pv 0) pa_nil))) (pss_cons (ps_set (i := 2) sc_law.nd rfl (by first | exact Or.inl rfl | exact Or.inr rfl) (pe_cd (ok__law_pick T) hr (by decide) (by rfl) T.g__law_pick (pa_cons (pv 1) (pa_cons (pe_lst (pa_cons pe_int (pa_cons pe_int (pa_cons pe_int (pa_cons (pe_op op_sub (pe_cd (ok__law_draw T) hr (by decide) (by rfl) T.g__law_draw (pa_cons (pv 1) (pa_cons pe_int pa_nil))) pe_int) (pa_cons (pe_cd (ok__law_great T) hr (by decide) (by rfl) T.g__law_great (pa_cons (pv 1) (pa_cons pe_int pa_nil))) pa_nil)))))) pa_nil)))) (pss_cons (ps_if (pt_cmpR op_ne (pe_callB call_repr_strD (by rfl) T.n_repr (by decide +kernel) (pa_cons (pe_cd (ok_year_table T) hr (by decide) (by rfl) T.g_year_table (pa_cons (pe_cmd0 (pe_gk (by rfl) ⟨_, T.g_Calendar, rfl⟩) T.cr_Calendar T.cm_Calendar_gregorian (ok_Calendar_gregorian T) hr (by decide)) (pa_cons (pv 2) pa_nil))) pa_nil)) (pe_callB call_repr_strD (by rfl) T.n_repr (by decide +kernel) (pa_cons (pe_cd (ok__law_gregorian T) hr (by decide) (by rfl) T.g__law_gregorian (pa_cons (pv 2) pa_nil)) pa_nil)) (nomark _)) (pss_one (ps_ret pe_bl)) pss_nil) (pss_cons (ps_for PassesOwn.never rfl (pi_range1 (by rfl) T.n_range (pa_cons (pe_op op_add pe_int (pe_callB (call_min2 rfl) (by rfl) T.n_min (by decide +kernel) (pa_cons pe_int (pa_cons (pe_callB call_len_seq (by rfl) T.n_len (by decide +kernel) (pa_cons (pv 0) pa_nil)) pa_nil)))) pa_nil)) (pg_name (i := 3) sc_law.nd rfl (by first | exact Or.inl rfl | exact Or.inr rfl)) (pss_cons (ps_set (i := 4) sc_law.nd rfl (by first | exact Or.inl rfl | exact Or.inr rfl) (pe_ifExp (pt_cmpR op_eq (pe_cd (ok__law_draw T) hr (by decide) (by rfl) T.g__law_draw (pa_cons (pv 1) (pa_cons pe_int pa_nil))) pe_int (nomark _)) (pe_cd (ok__law_many_months T) hr (by decide) (by rfl) T.g__law_many_months (pa_cons (pv 1) pa_nil)) (pe_cd (ok__law_plain T) hr (by decide) (by rfl) T.g__law_plain (pa_cons (pv 1) pa_nil)))) (pss_cons (ps_set (i := 5) sc_law.nd rfl (by first | exact Or.inl rfl | exact Or.inr rfl) (pe_cd (ok__law_calendar T) hr (by decide) (by rfl) T.g__law_calendar (pa_cons (pv 4) pa_nil))) (pss_one (ps_for PassesOwn.never rfl (pi_tup (pe_tup (pa_cons (pe_op op_sub (pe_cd (ok__law_draw T) hr (by decide) (by rfl) T.g__law_draw (pa_cons (pv 1) (pa_cons pe_int pa_nil))) pe_int) (pa_cons (pe_op op_mul (pe_cd (ok__law_great T) hr (by decide) (by rfl) T.g__law_great (pa_cons (pv 1) (pa_cons pe_int pa_nil))) (pe_cd (ok__law_pick T) hr (by decide) (by rfl) T.g__law_pick (pa_cons (pv 1) (pa_cons (pe_lst (pa_cons pe_int (pa_cons (pe_un un_neg pe_int) pa_nil))) pa_nil)))) pa_nil)))) (pg_name (i := 6) sc_law.nd rfl (by first | exact Or.inl rfl | exact Or.inr rfl)) (pss_cons (ps_setLc (i := 7) (own := [("_law_month_here", 8)]) (g := gName 8) rfl sc_law.nd rfl rfl (sw_true rfl rfl rfl (by decide +kernel)) (pi_range2 (by rfl) T.n_range (pa_cons pe_int (pa_cons (pe_op op_add (pe_dget (hu_of hr) (pv 4) pe_str (fun _ _ => rfl)) pe_int) pa_nil))) (blkOk_by (N := N_law) (sc := defScope s_law) (by decide +kernel)) (fun _ _ _ _ _ => pg_name (i := 8) sc_law.nd rfl (by first | exact Or.inl rfl | exact Or.inr rfl)) (fun _ _ _ _ _ => pts_nil) (fun _ _ _ _ _ => (pe_cd (ok__law_month T) hr (by decide) (by rfl) T.g__law_month (pa_cons (pv 4) (pa_cons (pv 6) (pa_cons (pv 8) pa_nil)))))) (pss_one (ps_if (pt_cmpR op_ne (pe_callB call_repr_strD (by rfl) T.n_repr (by decide +kernel) (pa_cons (pe_cd (ok_year_table T) hr (by decide) (by rfl) T.g_year_table (pa_cons (pv 5) (pa_cons (pv 6) pa_nil))) pa_nil)) (pe_callB call_repr_strD (by rfl) T.n_repr (by decide +kernel) (pa_cons (pe_join pe_str (pv 7)) pa_nil)) (nomark _)) (pss_one (ps_ret pe_bl)) pss_nil)))))))) (pss_one (ps_ret pe_bl))))))
theorem ok_law (T : Tx K mg) : FnD P w K mg base CX0 9 (He.ga K "law") C_law := by
  obtain ⟨fd, F⟩ := T.d_law
  exact ⟨⟨fd, ["_law_script"], F.ok sc_law (spD_len (C := C_law) (n := 1) fun ds S P PX h => by obtain ⟨_, rfl, _⟩ := h; rfl) (fun cdv A outer s H vs Q E hr h => ⟨t_law K, PSs.nox (ty_law T hr), bodyD (run_law T.fx) h⟩), F.bindsN fun _ _ _ _ _ _ us hl => match us, hl with | [_], _ => rfl, F.kp⟩⟩
end
end K81

set_option maxHeartbeats 0
/-! K81H: from the head to the walk (printed by k81head.py). -/
namespace K81
open PySem PySem.Spec PyProof.Rows L2 DL
def fns0 : DefA := ⟨fun _ => 0, "", "", defArgs s_law, [], defScope s_law, [], []⟩
theorem tx_of {K : Frag} {h : Heap} {mg : Str → Option Value} (X : K.In h) (G : h.Ns mainGlobals mg) (c : obsA fas exs fns K = valA fns) : Tx K mg := by
  have mf : ∀ (i : Nat) {f : He.Fa}, fas[i]? = some f → f.ok K = true := fun i f h => saysA_fa c (List.mem_of_getElem? h)
  have ex := saysA_ex c
  obtain ⟨e1, ex2⟩ := He.ba (show (cmA K && _) = true from ex)
  obtain ⟨ex3, ex4⟩ := He.ba ex2
  obtain ⟨emonths, eperiod⟩ := He.ba ex3
  obtain ⟨e5, ex5⟩ := He.ba ex4
  obtain ⟨e6, e7⟩ := He.ba ex5
  exact ⟨He.free_ok X G (mf 0 (f := .free "abs") rfl),
    He.free_ok X G (mf 1 (f := .free "all") rfl),
    He.free_ok X G (mf 2 (f := .free "bool") rfl),
    He.free_ok X G (mf 3 (f := .free "int") rfl),
    He.free_ok X G (mf 4 (f := .free "isinstance") rfl),
    He.free_ok X G (mf 5 (f := .free "len") rfl),
    He.free_ok X G (mf 6 (f := .free "list") rfl),
    He.free_ok X G (mf 7 (f := .free "min") rfl),
    He.free_ok X G (mf 8 (f := .free "range") rfl),
    He.free_ok X G (mf 9 (f := .free "repr") rfl),
    He.free_ok X G (mf 10 (f := .free "set") rfl),
    He.free_ok X G (mf 11 (f := .free "sorted") rfl),
    He.free_ok X G (mf 12 (f := .free "str") rfl),
    He.free_ok X G (mf 13 (f := .free "tuple") rfl),
    He.glo_ok X G (mf 14 (f := .glo "Calendar") rfl),
    He.glo_ok X G (mf 15 (f := .glo "EVEN") rfl),
    He.glo_ok X G (mf 16 (f := .glo "_law_calendar") rfl),
    He.glo_ok X G (mf 17 (f := .glo "_law_draw") rfl),
    He.glo_ok X G (mf 18 (f := .glo "_law_facts") rfl),
    He.glo_ok X G (mf 19 (f := .glo "_law_gcd") rfl),
    He.glo_ok X G (mf 20 (f := .glo "_law_great") rfl),
    He.glo_ok X G (mf 21 (f := .glo "_law_gregorian") rfl),
    He.glo_ok X G (mf 22 (f := .glo "_law_is_work") rfl),
    He.glo_ok X G (mf 23 (f := .glo "_law_many_months") rfl),
    He.glo_ok X G (mf 24 (f := .glo "_law_month") rfl),
    He.glo_ok X G (mf 25 (f := .glo "_law_month_begin") rfl),
    He.glo_ok X G (mf 26 (f := .glo "_law_pen") rfl),
    He.glo_ok X G (mf 27 (f := .glo "_law_pick") rfl),
    He.glo_ok X G (mf 28 (f := .glo "_law_plain") rfl),
    He.glo_ok X G (mf 29 (f := .glo "_law_weekday") rfl),
    He.glo_ok X G (mf 30 (f := .glo "_law_with_days") rfl),
    He.glo_ok X G (mf 31 (f := .glo "are_holidays") rfl),
    He.glo_ok X G (mf 32 (f := .glo "are_weekdays") rfl),
    He.glo_ok X G (mf 33 (f := .glo "are_years") rfl),
    He.glo_ok X G (mf 34 (f := .glo "common_divisor") rfl),
    He.glo_ok X G (mf 35 (f := .glo "common_multiple") rfl),
    He.glo_ok X G (mf 36 (f := .glo "gregorian_years") rfl),
    He.glo_ok X G (mf 37 (f := .glo "is_between") rfl),
    He.glo_ok X G (mf 38 (f := .glo "is_integer") rfl),
    He.glo_ok X G (mf 39 (f := .glo "is_row") rfl),
    He.glo_ok X G (mf 40 (f := .glo "month_at") rfl),
    He.glo_ok X G (mf 41 (f := .glo "month_line") rfl),
    He.glo_ok X G (mf 42 (f := .glo "month_starts") rfl),
    He.glo_ok X G (mf 43 (f := .glo "year_table") rfl),
    (let ⟨t, e⟩ := He.int_ok X G (mf 44 (f := .int "MAX_DAYS" 40) rfl); ⟨_, e, ⟨t, rfl⟩⟩),
    (let ⟨t, e⟩ := He.int_ok X G (mf 45 (f := .int "MAX_MONTHS" 14) rfl); ⟨_, e, ⟨t, rfl⟩⟩),
    (let ⟨t, e⟩ := He.int_ok X G (mf 46 (f := .int "MAX_PERIOD" 200000) rfl); ⟨_, e, ⟨t, rfl⟩⟩),
    (let ⟨t, e⟩ := He.int_ok X G (mf 47 (f := .int "MAX_WEEK" 10) rfl); ⟨_, e, ⟨t, rfl⟩⟩),
    (let ⟨t, e⟩ := He.int_ok X G (mf 48 (f := .int "MAX_YEARS" 400) rfl); ⟨_, e, ⟨t, rfl⟩⟩),
    (let ⟨t, e⟩ := He.int_ok X G (mf 49 (f := .int "SHORT_PERIOD" 2000) rfl); ⟨_, e, ⟨t, rfl⟩⟩),
    He.cls_ok (mf 50 (f := .cls "Calendar") rfl),
    He.mkr_ok (mf 51 (f := .mkr "Calendar") rfl),
    He.meth_ok (mf 52 (f := .meth "Calendar" "date_of") rfl),
    He.meth_ok (mf 53 (f := .meth "Calendar" "first_works") rfl),
    He.meth_ok (mf 54 (f := .meth "Calendar" "is_work") rfl),
    He.meth_ok (mf 55 (f := .meth "Calendar" "month_days") rfl),
    He.meth_ok (mf 56 (f := .meth "Calendar" "month_length") rfl),
    He.meth_ok (mf 57 (f := .meth "Calendar" "month_number") rfl),
    He.meth_ok (mf 58 (f := .meth "Calendar" "month_start") rfl),
    He.meth_ok (mf 59 (f := .meth "Calendar" "parts") rfl),
    He.meth_ok (mf 60 (f := .meth "Calendar" "weekday") rfl),
    propA_ok emonths,
    propA_ok eperiod,
    (cmA_ok e1).1,
    (cmA_ok e1).2,
    He.noat_ok (mf 61 (f := .noat "Calendar" "all_years") rfl),
    He.noat_ok (mf 62 (f := .noat "Calendar" "days_of_week") rfl),
    He.noat_ok (mf 63 (f := .noat "Calendar" "begins") rfl),
    He.noat_ok (mf 64 (f := .noat "Calendar" "rests") rfl),
    He.noat_ok (mf 65 (f := .noat "Calendar" "free_days") rfl),
    He.noat_ok (mf 66 (f := .noat "Calendar" "lengths") rfl),
    He.noat_ok (mf 67 (f := .noat "Calendar" "starts") rfl),
    He.noat_ok (mf 68 (f := .noat "Calendar" "turn") rfl),
    He.noat_ok (mf 69 (f := .noat "Calendar" "works") rfl),
    tupA_ok e5,
    saysA_fn c 0 (d := fns.getD 0 fns0) rfl,
    saysA_fn c 1 (d := fns.getD 1 fns0) rfl,
    saysA_fn c 2 (d := fns.getD 2 fns0) rfl,
    saysA_fn c 3 (d := fns.getD 3 fns0) rfl,
    saysA_fn c 4 (d := fns.getD 4 fns0) rfl,
    saysA_fn c 5 (d := fns.getD 5 fns0) rfl,
    saysA_fn c 6 (d := fns.getD 6 fns0) rfl,
    saysA_fn c 7 (d := fns.getD 7 fns0) rfl,
    saysA_fn c 8 (d := fns.getD 8 fns0) rfl,
    saysA_fn c 9 (d := fns.getD 9 fns0) rfl,
    saysA_fn c 10 (d := fns.getD 10 fns0) rfl,
    saysA_fn c 11 (d := fns.getD 11 fns0) rfl,
    saysA_fn c 12 (d := fns.getD 12 fns0) rfl,
    saysA_fn c 13 (d := fns.getD 13 fns0) rfl,
    saysA_fn c 14 (d := fns.getD 14 fns0) rfl,
    saysA_fn c 15 (d := fns.getD 15 fns0) rfl,
    saysA_fn c 16 (d := fns.getD 16 fns0) rfl,
    saysA_fn c 17 (d := fns.getD 17 fns0) rfl,
    saysA_fn c 18 (d := fns.getD 18 fns0) rfl,
    saysA_fn c 19 (d := fns.getD 19 fns0) rfl,
    saysA_fn c 20 (d := fns.getD 20 fns0) rfl,
    (let ⟨fd, F⟩ := saysA_fn c 21 (d := fns.getD 21 fns0) rfl; ⟨_, _, fd, F, tupA_ok e6, tupA_ok e7⟩),
    saysA_fn c 22 (d := fns.getD 22 fns0) rfl,
    saysA_fn c 23 (d := fns.getD 23 fns0) rfl,
    saysA_fn c 24 (d := fns.getD 24 fns0) rfl,
    saysA_fn c 25 (d := fns.getD 25 fns0) rfl,
    saysA_fn c 26 (d := fns.getD 26 fns0) rfl,
    saysA_fn c 27 (d := fns.getD 27 fns0) rfl,
    saysA_fn c 28 (d := fns.getD 28 fns0) rfl,
    saysA_fn c 29 (d := fns.getD 29 fns0) rfl,
    saysA_fn c 30 (d := fns.getD 30 fns0) rfl,
    saysA_fn c 31 (d := fns.getD 31 fns0) rfl,
    saysA_fn c 32 (d := fns.getD 32 fns0) rfl,
    saysA_fn c 33 (d := fns.getD 33 fns0) rfl,
    saysA_fn c 34 (d := fns.getD 34 fns0) rfl,
    saysA_fn c 35 (d := fns.getD 35 fns0) rfl,
    saysA_fn c 36 (d := fns.getD 36 fns0) rfl,
    saysA_fn c 37 (d := fns.getD 37 fns0) rfl,
    saysA_fn c 38 (d := fns.getD 38 fns0) rfl,
    saysA_fn c 39 (d := fns.getD 39 fns0) rfl,
    saysA_fn c 40 (d := fns.getD 40 fns0) rfl,
    saysA_fn c 41 (d := fns.getD 41 fns0) rfl⟩
end K81

set_option maxHeartbeats 0
/-! K81Z: the run of the top. -/
namespace K81
open PySem PySem.Spec PyProof.Rows L2 DL
abbrev R : PySem.W.OpenRow := PySem.W.OpenLaw.row PySem.Challenge.rw_dayrecipes_k81_years_as_tables
abbrev hk : PySem.W.Hook := hookA 6 fas exs fns
def ob (s : PySem.W.SharedT) : He.AlD := obsAG 6 fas exs fns (HandSHeadRun.getT s)
theorem ob_eq (s : PySem.W.SharedT) : ob s = hk.obs s.abs := by
  have e : HandSHeadRun.getT s = s.abs.heap.get? := funext (HandSHeadRun.getT_eq s)
  show obsAG _ _ _ _ _ = obsAG _ _ _ _ _
  rw [e]
def loose : List Str := "_wall" :: "InvalidCalendar" :: "InvalidDate" :: "InvalidText" :: "MAX_PERIOD" :: "MAX_YEARS" :: "MAX_MONTHS" :: "MAX_DAYS" :: "MAX_WEEK" :: "DIGITS" :: "number_in" :: "bounded_in" :: "calendar_text" :: "week_in" :: "numbers_in" :: "rest_in" :: "holiday_in" :: "year_in" :: "read_calendar" :: "month_line" :: "year_table" :: "is_integer" :: "common_divisor" :: "common_multiple" :: "SHORT_PERIOD" :: "EVEN" :: "is_row" :: "is_between" :: "are_years" :: "are_weekdays" :: "are_holidays" :: "month_starts" :: "month_at" :: "gregorian_years" :: "Calendar" :: "_law_pen" :: "_law_draw" :: "_law_pick" :: "_law_great" :: "_law_gcd" :: "_law_plain" :: "_law_with_days" :: "_law_calendar" :: "_law_facts" :: "_law_weekday" :: "_law_is_work" :: "_law_month_begin" :: "_law_month" :: "_law_many_months" :: "_law_gregorian" :: []
theorem run (w : World) : HandSHeadRun.RunEq R (PySem.W.view R.prog [56]) hk ob 5000 loose w := by
  intro os
  kernel_rfl
end K81

set_option maxHeartbeats 0
/-! K81F: the law holds. -/
namespace K81
open PySem PySem.Spec PyProof.Rows L2 DL
theorem law_ok {P : Program} {w : World} {K : Frag} {h : Heap} {mg : Str → Option Value} {f : Addr} (X : K.In h) (G : h.Ns mainGlobals mg) (hfa : mg ("law" : Str) = some (.ref f)) (c : obsA fas exs fns K = valA fns) :
    ∃ fd : FuncData, (∀ (s : Shared) (v : Value), BindsTo s fd ⟨[v], []⟩ [("_law_script", v)]) ∧ ∀ base : Heap, K.In base → base.Ns mainGlobals mg → FnOk P w K mg base CX0 9 f fd ["_law_script"] (spD K C_law) := by
  have T : Tx K mg := tx_of X G c
  have g0 : mg ("law" : Str) = some (.ref (He.ga K "law")) := He.glo_ok X G (saysA_fa c (f := .glo "law") (by unfold fas; simp))
  have e := hfa.symm.trans g0
  injection e with e
  injection e with e
  subst e
  obtain ⟨fd, F⟩ := T.d_law
  refine ⟨fd, fun s v => FunD.bindsA (ps := ["_law_script"]) F (fun _ _ _ _ _ _ us hl => match us, hl with | [_], _ => rfl) s [v] rfl, fun base _ _ => ?_⟩
  exact (F.ok sc_law (spD_len (C := C_law) (n := 1) fun ds S P PX h => by obtain ⟨_, rfl, _⟩ := h; rfl) (fun cdv A outer s H vs Q E hr h => ⟨t_law K, PSs.nox (ty_law T hr), bodyD (run_law T.fx) h⟩))
theorem start_ok {K : Frag} {H : Hp} {a : Addr} {ns : List Int} (few : ns.length ≤ 63) (hS : SqL K H a (ns.map V.int)) : spD K C_law [.ref a] H (fun v _ => v = .bl true) fun _ _ _ => False :=
  ⟨H, fun _ => none, [.klst (ns.map .int)], fun d _ => d = .bl true, PX0, ⟨.refl H, fun _ _ e => (by cases e)⟩, .cons (.klst hS (ints_reps ns)) .nil, ⟨ns, rfl, Nat.lt_of_le_of_lt few (by decide), fun _ => rfl⟩, fun G' H' S' v d _ _ r p => by
    subst p
    cases r
    rfl, XkOk.none⟩
end K81
open PySem PySem.W PyProof.Rows PySem.Calls
theorem PySem.Challenge.cw_dayrecipes_k81_years_as_tables_holds : PySem.Challenge.rw_dayrecipes_k81_years_as_tables.Holds := by
  w_on; o_law
  refine HandSHeadRun.head_any (r := OpenLaw.row PySem.Challenge.rw_dayrecipes_k81_years_as_tables) (q := view (OpenLaw.row PySem.Challenge.rw_dayrecipes_k81_years_as_tables).prog [56]) (H := K81.hk) (ob := K81.ob) (M := 5000) (loose := K81.loose) (d := HandSHeadRun.topDef (OpenLaw.row PySem.Challenge.rw_dayrecipes_k81_years_as_tables).prog 56) (kwd := []) K81.ob_eq
    (by kernel_rfl) (fun s => by kernel_rfl) K81.run (by kernel_rfl) (by kernel_rfl) (by kernel_rfl) (by rfl) (by first | assumption | decide +kernel) (by decide +kernel) ⟨rfl, rfl, rfl, rfl, rfl, by decide +kernel⟩ ?hw ?hc
  case hw => w_witness2
  case hc =>
    refine L2.walk_ofE (l := PySem.Challenge.rw_dayrecipes_k81_years_as_tables) (n := 63) (k := 9) (x := "_law_script") (CX := L2.CX0) rfl (by decide) (by kernel_rfl) ⟨rfl, by decide, by decide⟩ ?F (fun _ _ _ _ z => z)
    intro w mg fa h Y G hmg0
    obtain ⟨K, KX, c⟩ := Y
    have hmg : mg "law" = some (.ref fa) := by
      have e : (HandSHeadRun.topDef (OpenLaw.row PySem.Challenge.rw_dayrecipes_k81_years_as_tables).prog 56).name = ("law" : PySem.Str) := by kernel_rfl
      rw [← e]
      exact hmg0
    obtain ⟨fd, hb, hF⟩ := K81.law_ok (P := (PySem.Challenge.rw_dayrecipes_k81_years_as_tables).prog) (w := w) KX G hmg c
    exact ⟨K, fd, DL.spD K K81.C_law, KX, hb, fun H a ns hl _ hS => K81.start_ok hl hS, hF⟩

