import PyProof.Rows.All
import Wide.All
import OpenK.AllK
import Wide.FinOn
import HandS.ForMost
import HandS.Evl
import HandS.ExcInit
import HandS.ExcField
import HandS.ExcOwn
import HandS.WordsExc
import KE.KExcSuper
import KE.KSuper
import HandS.Lambda
import HandS.EndBits
import HandS.Deep
import HandS.Sort
import HandS.TupAny
import HandS.IsInst
import HandS.StrMore
import HandS.Text
import HandS.RaiseMore
import HandS.Nested
import HandS.Star
import HandS.CallLocal
import PyProof.ReprRoads
import KE.KExcIs
import HandS.ExcValue
import PyProof.ExcBaseAll.LookupError
import PyProof.ExcBaseAll.ValueError
import HandS.GenCall
import HandS.GenList
import KE.GoesMore
import KE.GoesEnum
import HandS.Iter
import HandS.Walk
import HandS.OwnEq
import HandS.DictComp
import HandS.Conv
import HandS.Codes
import PyProof.InstNe
import KE.KDictList
import HandS.Style
import HandS.EndTab
import KE.KNestM
import PyProof.FactsAll.dict
import PyProof.CallFns
import PyProof.NeKinds
import PyProof.Claim2Refuses
import HandS.DictEq
import HandS.Dict
import KE.DataFind
import HandS.Steps
import KE.DataCmp
import PySem.Challenge.RW_bushcoins_k02_bags
set_option Elab.async false
set_option linter.all false
set_option maxRecDepth 100000
set_option maxHeartbeats 4000000
/-! Core 1: plain data, what of the heap is data (S), what grows, states by data. -/
namespace Bc
open PySem L2
/-- plain data -/
inductive D where
  | none | bool (b : Bool) | int (i : Int) | str (s : Str) | list (l : List D) | tuple (l : List D) | dict (l : List (Key × D)) | obj (C : Addr) (l : List (Str × D)) | exc (C : Addr) (l : List (Str × D)) | ref (a : Addr)
/-- an exception's object, before it is raised -/
abbrev excR0 (C t1 : Addr) (d : Option Addr) : Obj := { cls := .ref C, dict := d, data := .fields #[.ref t1, .none, .none, .none, .bool false, .none] }
mutual
def Dt (S : Hp) : D → V → Prop
  | .none, v => v = .non
  | .bool b, v => v = .bl b
  | .int i, v => v = .int i
  | .str s, v => v = .str s
  | .ref a, v => v = .ref a
  | .list ds, v => ∃ a xs, v = .ref a ∧ S a = some (.lst xs) ∧ DtL S ds xs
  | .tuple ds, v => ∃ a xs, v = .ref a ∧ S a = some (.tup xs) ∧ DtL S ds xs
  | .dict kvs, v => ∃ a ks, v = .ref a ∧ S a = some (.dK ks) ∧ DtK S kvs ks
  | .obj C fs, v => ∃ a dx vs, v = .ref a ∧ S a = some (.ins C dx vs) ∧ DtF S fs vs
  | .exc C fs, v => ∃ a t1, v = .ref a ∧ ((fs = [] ∧ S a = some (.frz (excR0 C t1 Option.none) (.own a))) ∨ ∃ d vs, d ≠ a ∧ S a = some (.frz (excR0 C t1 (some d)) (.own a)) ∧ S d = some (.xd vs) ∧ DtF S fs vs)
def DtL (S : Hp) : List D → List V → Prop
  | [], xs => xs = []
  | d :: ds, xs => ∃ x ys, xs = x :: ys ∧ Dt S d x ∧ DtL S ds ys
def DtK (S : Hp) : List (Key × D) → List (Key × V) → Prop
  | [], xs => xs = []
  | (k, d) :: ds, xs => ∃ x ys, xs = (k, x) :: ys ∧ Dt S d x ∧ DtK S ds ys
def DtF (S : Hp) : List (Str × D) → List (Str × V) → Prop
  | [], xs => xs = []
  | (k, d) :: ds, xs => ∃ x ys, xs = (k, x) :: ys ∧ Dt S d x ∧ DtF S ds ys
end
mutual
theorem Dt.mono {S S' : Hp} (e : Same S S') : ∀ (d : D) (v : V), Dt S d v → Dt S' d v
  | .none, v, h => by simpa only [Dt] using h
  | .bool b, v, h => by simpa only [Dt] using h
  | .int i, v, h => by simpa only [Dt] using h
  | .str s, v, h => by simpa only [Dt] using h
  | .ref a, v, h => by simpa only [Dt] using h
  | .list ds, v, h => by
    simp only [Dt] at h ⊢
    obtain ⟨a, xs, e1, e2, h⟩ := h
    exact ⟨a, xs, e1, e _ _ e2, DtL.mono e ds xs h⟩
  | .tuple ds, v, h => by
    simp only [Dt] at h ⊢
    obtain ⟨a, xs, e1, e2, h⟩ := h
    exact ⟨a, xs, e1, e _ _ e2, DtL.mono e ds xs h⟩
  | .dict ds, v, h => by
    simp only [Dt] at h ⊢
    obtain ⟨a, xs, e1, e2, h⟩ := h
    exact ⟨a, xs, e1, e _ _ e2, DtK.mono e ds xs h⟩
  | .obj C ds, v, h => by
    simp only [Dt] at h ⊢
    obtain ⟨a, dx, xs, e1, e2, h⟩ := h
    exact ⟨a, dx, xs, e1, e _ _ e2, DtF.mono e ds xs h⟩
  | .exc C ds, v, h => by
    simp only [Dt] at h ⊢
    obtain ⟨a, t1, e1, ⟨e2, e3⟩ | ⟨d, vs, e2, e3, e4, h⟩⟩ := h
    · exact ⟨a, t1, e1, .inl ⟨e2, e _ _ e3⟩⟩
    · exact ⟨a, t1, e1, .inr ⟨d, vs, e2, e _ _ e3, e _ _ e4, DtF.mono e ds vs h⟩⟩
theorem DtL.mono {S S' : Hp} (e : Same S S') : ∀ (d : List D) (v : List V), DtL S d v → DtL S' d v
  | [], v, h => by simpa only [DtL] using h
  | d :: ds, v, h => by
    simp only [DtL] at h ⊢
    obtain ⟨x, ys, e1, h1, h2⟩ := h
    exact ⟨x, ys, e1, Dt.mono e d x h1, DtL.mono e ds ys h2⟩
theorem DtK.mono {S S' : Hp} (e : Same S S') : ∀ (d : List (Key × D)) (v : List (Key × V)), DtK S d v → DtK S' d v
  | [], v, h => by simpa only [DtK] using h
  | (k, d) :: ds, v, h => by
    simp only [DtK] at h ⊢
    obtain ⟨x, ys, e1, h1, h2⟩ := h
    exact ⟨x, ys, e1, Dt.mono e d x h1, DtK.mono e ds ys h2⟩
theorem DtF.mono {S S' : Hp} (e : Same S S') : ∀ (d : List (Str × D)) (v : List (Str × V)), DtF S d v → DtF S' d v
  | [], v, h => by simpa only [DtF] using h
  | (k, d) :: ds, v, h => by
    simp only [DtF] at h ⊢
    obtain ⟨x, ys, e1, h1, h2⟩ := h
    exact ⟨x, ys, e1, Dt.mono e d x h1, DtF.mono e ds ys h2⟩
end
section
variable {S S' H H' : Hp}
theorem dtl_nil : DtL S [] [] := by simp only [DtL]
theorem dtl_cons {d : D} {x : V} {ds : List D} {xs : List V} (h : Dt S d x) (t : DtL S ds xs) : DtL S (d :: ds) (x :: xs) := by
  simp only [DtL]
  exact ⟨x, xs, rfl, h, t⟩
theorem DtL.len : ∀ {ds : List D} {xs : List V}, DtL S ds xs → ds.length = xs.length
  | [], xs, h => by simp only [DtL] at h; rw [h]; rfl
  | d :: ds, xs, h => by
    simp only [DtL] at h
    obtain ⟨x, ys, rfl, _, h⟩ := h
    rw [List.length_cons, List.length_cons, DtL.len h]
theorem DtL.get : ∀ {ds : List D} {xs : List V} {i : Nat} {d : D}, DtL S ds xs → ds[i]? = some d → ∃ x, xs[i]? = some x ∧ Dt S d x
  | [], xs, i, d, h, e => by simp at e
  | d :: ds, xs, 0, d', h, e => by
    simp only [DtL] at h
    obtain ⟨x, ys, rfl, h1, _⟩ := h
    simp at e
    subst e
    exact ⟨x, rfl, h1⟩
  | d :: ds, xs, i + 1, d', h, e => by
    simp only [DtL] at h
    obtain ⟨x, ys, rfl, _, h⟩ := h
    simpa using DtL.get h (by simpa using e)
theorem DtL.get' {ds : List D} {xs : List V} {i : Nat} {x : V} (h : DtL S ds xs) (e : xs[i]? = some x) : ∃ d, ds[i]? = some d ∧ Dt S d x := by
  obtain ⟨hi, _⟩ := List.getElem?_eq_some_iff.mp e
  rw [← h.len] at hi
  obtain ⟨y, e2, hy⟩ := h.get (i := i) (d := ds[i]) (by simp [hi])
  rw [e] at e2
  cases e2
  exact ⟨_, by simp [hi], hy⟩
theorem DtL.append : ∀ {ds es : List D} {xs ys : List V}, DtL S ds xs → DtL S es ys → DtL S (ds ++ es) (xs ++ ys)
  | [], es, xs, ys, h, k => by simp only [DtL] at h; subst h; exact k
  | d :: ds, es, xs, ys, h, k => by
    simp only [DtL] at h
    obtain ⟨x, zs, rfl, h1, h⟩ := h
    exact dtl_cons h1 (DtL.append h k)
theorem DtL.take : ∀ {ds : List D} {xs : List V} (n : Nat), DtL S ds xs → DtL S (ds.take n) (xs.take n)
  | ds, xs, 0, h => by simpa using dtl_nil
  | [], xs, n + 1, h => by simp only [DtL] at h; subst h; simpa using dtl_nil
  | d :: ds, xs, n + 1, h => by
    simp only [DtL] at h
    obtain ⟨x, zs, rfl, h1, h⟩ := h
    exact dtl_cons h1 (DtL.take n h)
theorem DtL.drop : ∀ {ds : List D} {xs : List V} (n : Nat), DtL S ds xs → DtL S (ds.drop n) (xs.drop n)
  | ds, xs, 0, h => h
  | [], xs, n + 1, h => by simp only [DtL] at h; subst h; simpa using dtl_nil
  | d :: ds, xs, n + 1, h => by
    simp only [DtL] at h
    obtain ⟨x, zs, rfl, h1, h⟩ := h
    exact DtL.drop n h
theorem DtL.rev {ds : List D} {xs : List V} (h : DtL S ds xs) : DtL S ds.reverse xs.reverse := by
  induction ds generalizing xs with
  | nil => simp only [DtL] at h; subst h; exact dtl_nil
  | cons d ds ih =>
    simp only [DtL] at h
    obtain ⟨x, zs, rfl, h1, h⟩ := h
    rw [List.reverse_cons, List.reverse_cons]
    exact (ih h).append (dtl_cons h1 dtl_nil)
theorem DtL.set : ∀ {ds : List D} {xs : List V} (n : Nat) {d : D} {x : V}, DtL S ds xs → Dt S d x → DtL S (ds.set n d) (xs.set n x)
  | [], xs, n, _, _, h, _ => by simp only [DtL] at h; subst h; simpa using dtl_nil
  | d :: ds, xs, 0, _, _, h, k => by
    simp only [DtL] at h
    obtain ⟨x, zs, rfl, h1, h⟩ := h
    exact dtl_cons k h
  | d :: ds, xs, n + 1, _, _, h, k => by
    simp only [DtL] at h
    obtain ⟨x, zs, rfl, h1, h⟩ := h
    exact dtl_cons h1 (DtL.set n h k)
theorem DtL.erase : ∀ {ds : List D} {xs : List V} (n : Nat), DtL S ds xs → DtL S (ds.eraseIdx n) (xs.eraseIdx n)
  | [], xs, n, h => by simp only [DtL] at h; subst h; simpa using dtl_nil
  | d :: ds, xs, 0, h => by
    simp only [DtL] at h
    obtain ⟨x, zs, rfl, h1, h⟩ := h
    exact h
  | d :: ds, xs, n + 1, h => by
    simp only [DtL] at h
    obtain ⟨x, zs, rfl, h1, h⟩ := h
    exact dtl_cons h1 (DtL.erase n h)
end

/-! ### the source of draws -/
def SrcAt (H : Hp) (a c : Addr) : Prop := ∃ (ns : List Int) (l m t : Int), H a = some (.dK [(Sum.inr "cells", .ref c), (Sum.inr "left", .int l), (Sum.inr "mixed", .int m), (Sum.inr "turn", .int t)]) ∧ H c = some (.lst (ns.map V.int)) ∧ ns.length ≤ 63
abbrev Fp := Option (Addr × Addr)
/-- what a def may change -/
def fp (F : Fp) (x : Addr) : Prop := ∃ a c, F = some (a, c) ∧ (x = a ∨ x = c)
structure Okw (F : Fp) (S H : Hp) : Prop where
  s : Same S H
  src : ∀ a c, F = some (a, c) → S a = Option.none ∧ S c = Option.none ∧ SrcAt H a c
theorem Okw.nfp {F : Fp} {S H : Hp} (w : Okw F S H) {x : Addr} {o : HO} (h : S x = some o) : ¬ fp F x := by
  rintro ⟨a, c, e, z⟩
  obtain ⟨h1, h2, _⟩ := w.src a c e
  rcases z with rfl | rfl
  · rw [h] at h1; cases h1
  · rw [h] at h2; cases h2
/-- from (S, H) to (S', H'): all data stays, what is new in the data was not in the heap, nothing but F's own changes -/
structure Gr (F : Fp) (S H S' H' : Hp) : Prop where
  s : Same S S'
  h : Same S' H'
  n : ∀ x o, H x = some o → S' x = S x
  k : ∀ x o, ¬ fp F x → H x = some o → H' x = some o
  m : ∀ x o, H x = some o → ∃ o', H' x = some o'
  src : ∀ a c, F = some (a, c) → SrcAt H a c → SrcAt H' a c
section
variable {F : Fp} {S H S' H' S1 H1 S2 H2 : Hp}
theorem Gr.refl (h : Same S H) : Gr F S H S H := ⟨fun _ _ e => e, h, fun _ _ _ => rfl, fun _ _ _ e => e, fun _ o e => ⟨o, e⟩, fun _ _ _ h => h⟩
theorem Gr.trans (a : Gr F S H S1 H1) (b : Gr F S1 H1 S2 H2) : Gr F S H S2 H2 where
  s := a.s.trans b.s
  h := b.h
  n := fun x o e => by
    obtain ⟨o', e'⟩ := a.m x o e
    rw [b.n x o' e', a.n x o e]
  k := fun x o hx e => b.k x o hx (a.k x o hx e)
  m := fun x o e => by
    obtain ⟨o', e'⟩ := a.m x o e
    exact b.m x o' e'
  src := fun p c e h => b.src p c e (a.src p c e h)
theorem Gr.ok (g : Gr F S H S' H') (w : Okw F S H) : Okw F S' H' := ⟨g.h, fun a c e => by
  obtain ⟨h1, h2, h3⟩ := w.src a c e
  obtain ⟨ns, l, m, t, e1, e2, _⟩ := id h3
  exact ⟨by rw [g.n _ _ e1]; exact h1, by rw [g.n _ _ e2]; exact h2, g.src a c e h3⟩⟩
theorem Okw.base (w : Okw F S H) : Okw none S H := ⟨w.s, fun _ _ e => nomatch e⟩
theorem nfp0 (x : Addr) : ¬ fp Option.none x := fun ⟨_, _, e, _⟩ => nomatch e
/-- where nothing was changed, F's own isn't either -/
theorem Gr.up (g : Gr Option.none S H S' H') : Gr F S H S' H' := ⟨g.s, g.h, g.n, fun x o _ e => g.k x o (nfp0 x) e, g.m, fun a c _ ⟨ns, l, m, t, e1, e2, e3⟩ => ⟨ns, l, m, t, g.k _ _ (nfp0 _) e1, g.k _ _ (nfp0 _) e2, e3⟩⟩
/-- a new object that is no data yet -/
theorem Gr.new (w : Same S H) {p : Addr} {o : HO} (hp : H p = Option.none) : Gr F S H S (upd H p o) :=
  Gr.up ⟨fun _ _ e => e, fun x u e => by rw [upd_ne (ne_of_none (w x u e) hp)]; exact w x u e, fun _ _ _ => rfl, fun x u _ e => by rw [upd_ne (ne_of_none e hp)]; exact e, fun x u e => ⟨u, by rw [upd_ne (ne_of_none e hp)]; exact e⟩, fun _ _ e _ => nomatch e⟩
/-- .. that is data -/
theorem Gr.newD (w : Same S H) {p : Addr} {o : HO} (hp : H p = Option.none) : Gr F S H (upd S p o) (upd H p o) := by
  have hs : S p = Option.none := Same.free w hp
  refine Gr.up ⟨fun x u e => by rw [upd_ne (ne_of_none e hs)]; exact e, fun x u e => ?_, fun x u e => by rw [upd_ne (ne_of_none e hp)], fun x u _ e => by rw [upd_ne (ne_of_none e hp)]; exact e, fun x u e => ⟨u, by rw [upd_ne (ne_of_none e hp)]; exact e⟩, fun _ _ e _ => nomatch e⟩
  by_cases hx : x = p
  · subst hx
    rw [upd_same] at e ⊢
    exact e
  · rw [upd_ne hx] at e ⊢
    exact w x u e
/-- an object made on the way becomes data -/
theorem Gr.freeze (g : Gr F S H S' H') {p : Addr} {o : HO} (hp : H p = Option.none) (h' : H' p = some o) : Gr F S H (upd S' p o) H' where
  s := fun x u e => by
    by_cases hx : x = p
    · subst hx
      have := g.h _ _ (g.s _ _ e)
      rw [h'] at this
      cases this
      exact upd_same
    · rw [upd_ne hx]
      exact g.s _ _ e
  h := fun x u e => by
    by_cases hx : x = p
    · subst hx
      rw [upd_same] at e
      cases e
      exact h'
    · rw [upd_ne hx] at e
      exact g.h _ _ e
  n := fun x u e => by
    rw [upd_ne (ne_of_none e hp)]
    exact g.n x u e
  k := g.k
  m := g.m
  src := g.src
/-- an object made on the way is changed -/
theorem Gr.mut (g : Gr F S H S' H') {p : Addr} {o u : HO} (hp : H p = Option.none) (hs : S' p = Option.none) (h' : H' p = some u) : Gr F S H S' (upd H' p o) where
  s := g.s
  h := fun x v e => by
    rw [upd_ne (ne_of_none e hs)]
    exact g.h _ _ e
  n := g.n
  k := fun x v hx e => by
    rw [upd_ne (ne_of_none e hp)]
    exact g.k x v hx e
  m := fun x v e => by
    rw [upd_ne (ne_of_none e hp)]
    exact g.m x v e
  src := fun a c e z => by
    obtain ⟨ns, l, m, t, e1, e2, e3⟩ := id z
    obtain ⟨ns', l', m', t', f1, f2, f3⟩ := g.src a c e z
    exact ⟨ns', l', m', t', by rw [upd_ne (ne_of_none e1 hp)]; exact f1, by rw [upd_ne (ne_of_none e2 hp)]; exact f2, f3⟩
end

/-! ### states -/
/-- what a slot holds: anything; data; a list of the def's own that may change; the source -/
inductive Sl where
  | un | v (d : D) | own (l : List D) | src
  | ob (a dx C : Addr) (fs : List (Str × D))
  | xc (W : WX) (PX : Value → Option (List (Str × D)) → Prop) (l : List (Option D)) | fz (a : Addr) (fs : List (Str × D))
  | tb (P : Addr) (q : Str)
  | od (p : Addr) (kvs : List (Key × D))
/-- an exception's dict (data by now), if it has one -/
def XdAt (S : Hp) (d : Option Addr) : Option (List (Str × D)) → Prop
  | Option.none => d = Option.none
  | some l => ∃ a vs, d = some a ∧ S a = some (.xd vs) ∧ DtF S l vs
theorem XdAt.mono {S S' : Hp} (e : Same S S') {d : Option Addr} {fs : Option (List (Str × D))} (h : XdAt S d fs) : XdAt S' d fs := by
  cases fs with
  | none => exact h
  | some l =>
    obtain ⟨a, vs, e1, e2, h⟩ := h
    exact ⟨a, vs, e1, e _ _ e2, h.mono e⟩
/-- from (S, H) to (S', H'), where the def's own may have changed: H0 is the entry -/
structure Gw (F : Fp) (H0 S H S' H' : Hp) : Prop where
  s : Same S S'
  h : Same S' H'
  n : ∀ x o, H0 x = some o → S' x = S x
  k : ∀ x o u, ¬ fp F x → H0 x = some o → H x = some u → H' x = some u
  m : ∀ x o, H0 x = some o → ∃ o', H' x = some o'
  src : ∀ a c, F = some (a, c) → SrcAt H a c → SrcAt H' a c
theorem Gw.trans {F : Fp} {H0 S H S1 H1 S2 H2 : Hp} (a : Gw F H0 S H S1 H1) (b : Gw F H0 S1 H1 S2 H2) : Gw F H0 S H S2 H2 :=
  ⟨a.s.trans b.s, b.h, fun x o e => (b.n x o e).trans (a.n x o e), fun x o u f e z => b.k x o u f e (a.k x o u f e z), b.m, fun p c e z => b.src p c e (a.src p c e z)⟩
theorem Gr.w {F : Fp} {H0 S H S' H' : Hp} (g : Gr F S H S' H') (hd : ∀ x o, H0 x = some o → ∃ o', H x = some o') : Gw F H0 S H S' H' :=
  ⟨g.s, g.h, fun x o e => (hd x o e).elim fun o' e' => g.n x o' e', fun x o u f _ z => g.k x u f z, fun x o e => (hd x o e).elim fun o' e' => g.m x o' e', g.src⟩
theorem Gw.gr {F : Fp} {S0 H0 S H S' H' : Hp} (g : Gr F S0 H0 S H) (k : Gw F H0 S H S' H') : Gr F S0 H0 S' H' :=
  ⟨g.s.trans k.s, k.h, fun x o e => (k.n x o e).trans (g.n x o e), fun x o f e => k.k x o o f e (g.k x o f e), k.m, fun a c e z => k.src a c e (g.src a c e z)⟩
theorem Gw.ok {F : Fp} {H0 S H S' H' : Hp} (k : Gw F H0 S H S' H') (w : Okw F S H) (fh : ∀ x, fp F x → ∃ o, H0 x = some o) : Okw F S' H' := ⟨k.h, fun a c e => by
  obtain ⟨h1, h2, h3⟩ := w.src a c e
  obtain ⟨o1, e1⟩ := fh a ⟨a, c, e, .inl rfl⟩
  obtain ⟨o2, e2⟩ := fh c ⟨a, c, e, .inr rfl⟩
  exact ⟨by rw [k.n _ _ e1]; exact h1, by rw [k.n _ _ e2]; exact h2, k.src a c e h3⟩⟩
/-- one own object of the def becomes data -/
theorem Gw.frz {F : Fp} {H0 S H : Hp} {p : Addr} {o : HO} (w : Same S H) (h1 : H p = some o) (h2 : S p = Option.none) (h3 : H0 p = Option.none) (hd : ∀ x o, H0 x = some o → ∃ o', H x = some o') : Gw F H0 S H (upd S p o) H :=
  ⟨fun x u e => by rw [upd_ne (ne_of_none e h2)]; exact e, fun x u e => by
    by_cases hx : x = p
    · subst hx
      rw [upd_same] at e
      cases e
      exact h1
    · rw [upd_ne hx] at e
      exact w x u e, fun x o e => upd_ne (ne_of_none e h3), fun _ _ _ _ _ e => e, hd, fun _ _ _ e => e⟩
/-- .. or is changed -/
theorem Gw.mut {F : Fp} {H0 S H : Hp} {p : Addr} {o u : HO} (w : Same S H) (h1 : H p = some u) (h2 : S p = Option.none) (h3 : H0 p = Option.none) (nf : ¬ fp F p) (hd : ∀ x o, H0 x = some o → ∃ o', H x = some o') : Gw F H0 S H S (upd H p o) :=
  ⟨fun _ _ e => e, fun x v e => by rw [upd_ne (ne_of_none e h2)]; exact w x v e, fun _ _ _ => rfl, fun x v v' _ e e' => by rw [upd_ne (ne_of_none e h3)]; exact e', fun x v e => by
    rw [upd_ne (ne_of_none e h3)]
    exact hd x v e, fun a c e z => by
    obtain ⟨ns, l, m, t, z3, z4, z5⟩ := z
    have n1 : a ≠ p := fun z => nf ⟨a, c, e, .inl z.symm⟩
    have n2 : c ≠ p := fun z => nf ⟨a, c, e, .inr z.symm⟩
    exact ⟨ns, l, m, t, by rw [upd_ne n1]; exact z3, by rw [upd_ne n2]; exact z4, z5⟩⟩
/-- an exception that leaves from here on finds its way W: of the slots, those in l are told -/
structure XcOk (F : Fp) (S H H0 : Hp) (W : WX) (PX : Value → Option (List (Str × D)) → Prop) (l : List (Option D)) : Prop where
  hd : ∀ x o, H0 x = some o → ∃ o', H x = some o'
  go : ∀ (S' H' : Hp) (c : Value) (d : Option Addr) (fs : Option (List (Str × D))) (σ : L2.St), Gw F H0 S H S' H' → PX c fs → XdAt S' d fs → σ.length = l.length → (∀ (i : Nat) (x : D), l[i]? = some (some x) → ∃ y, σ[i]? = some (some y) ∧ Dt S' x y) → W c d σ H'
theorem XcOk.mono {F : Fp} {S H H0 S1 H1 : Hp} {W : WX} {PX : Value → Option (List (Str × D)) → Prop} {l : List (Option D)} (h : XcOk F S H H0 W PX l) (g : Gw F H0 S H S1 H1) : XcOk F S1 H1 H0 W PX l :=
  ⟨g.m, fun S2 H2 c d fs σ g2 => h.go S2 H2 c d fs σ (g.trans g2)⟩
/-- the table at P of the def's own code object (it grows where a lambda is made), each code object in it of the name q -/
structure TbOk (F : Fp) (S H H0 : Hp) (P : Addr) (q : Str) : Prop where
  t : LamX.TabS H P q
  s : S P = Option.none
  h0 : H0 P = Option.none
  src : ∀ a c, F = some (a, c) → SrcAt H a c
theorem tabS_keep {H H' : Hp} {P : Addr} {q : Str} (t : LamX.TabS H P q) (e : ∀ b o, H b = some o → (∀ xs, o ≠ .lst xs) → (∀ ks, o ≠ .dK ks) → (∀ C d vs, o ≠ .ins C d vs) → (∀ a, o ≠ .own a) → H' b = some o) : LamX.TabS H' P q := by
  obtain ⟨ps, h1, h2, h3⟩ := t
  refine ⟨ps, e _ _ h1 (by simp) (by simp) (by simp) (by simp), h2, fun pos cv hc => ?_⟩
  obtain ⟨c, e1, e2⟩ := h3 pos cv hc
  exact ⟨c, e1, e _ _ e2 (by simp [LamX.CodeO]) (by simp [LamX.CodeO]) (by simp [LamX.CodeO]) (by simp [LamX.CodeO])⟩
theorem TbOk.nfp {F : Fp} {S H H0 : Hp} {P : Addr} {q : Str} (t : TbOk F S H H0 P q) {x : Addr} {o : HO} (e : H x = some o) (h1 : ∀ xs, o ≠ .lst xs) (h2 : ∀ ks, o ≠ .dK ks) : ¬ fp F x := fun ⟨a, c, f, z⟩ => by
  obtain ⟨ns, l, m, tt, e1, e2, _⟩ := t.src a c f
  rcases z with rfl | rfl
  · rw [e1] at e
    exact h2 _ (Option.some.inj e).symm
  · rw [e2] at e
    exact h1 _ (Option.some.inj e).symm
theorem TbOk.gr {F : Fp} {S H H0 S' H' : Hp} {P : Addr} {q : Str} (t : TbOk F S H H0 P q) (g : Gr F S H S' H') : TbOk F S' H' H0 P q := by
  obtain ⟨ps, h1, _⟩ := id t.t
  exact ⟨tabS_keep t.t fun b o e n1 n2 _ _ => g.k b o (t.nfp e n1 n2) e, by rw [g.n _ _ h1]; exact t.s, t.h0, fun a c e => g.src a c e (t.src a c e)⟩
/-- an own list of the def's is changed or becomes data -/
theorem TbOk.own {F : Fp} {S H H0 : Hp} {P p : Addr} {q : Str} {xs : List V} {o : HO} (t : TbOk F S H H0 P q) (h : H p = some (.lst xs)) (nf : ¬ fp F p) : TbOk F S (upd H p o) H0 P q := by
  have k : ∀ b u, H b = some u → (∀ xs, u ≠ .lst xs) → upd H p o b = some u := fun b u e n => by
    rw [upd_ne (fun z => n xs (by rw [z, h] at e; exact (Option.some.inj e).symm))]
    exact e
  refine ⟨tabS_keep t.t fun b u e n1 _ _ _ => k b u e n1, t.s, t.h0, fun a c e => ?_⟩
  obtain ⟨ns, l, m, tt, e1, e2, e3⟩ := t.src a c e
  exact ⟨ns, l, m, tt, by rw [upd_ne (fun z => nf ⟨a, c, e, .inl z.symm⟩)]; exact e1, by rw [upd_ne (fun z => nf ⟨a, c, e, .inr z.symm⟩)]; exact e2, e3⟩
theorem TbOk.frz {F : Fp} {S H H0 : Hp} {P p : Addr} {q : Str} {xs : List V} {o : HO} (t : TbOk F S H H0 P q) (h : H p = some (.lst xs)) : TbOk F (upd S p o) H H0 P q := by
  obtain ⟨ps, h1, _⟩ := id t.t
  exact ⟨t.t, by rw [upd_ne (fun z => by rw [z, h] at h1; cases h1)]; exact t.s, t.h0, t.src⟩
theorem TbOk.odk {F : Fp} {S H H0 : Hp} {P p : Addr} {q : Str} {ks : List (Key × V)} {o : HO} (t : TbOk F S H H0 P q) (h : H p = some (.dK ks)) (nf : ¬ fp F p) : TbOk F S (upd H p o) H0 P q := by
  have k : ∀ b u, H b = some u → (∀ ks, u ≠ .dK ks) → upd H p o b = some u := fun b u e n => by
    rw [upd_ne (fun z => n ks (by rw [z, h] at e; exact (Option.some.inj e).symm))]
    exact e
  refine ⟨tabS_keep t.t fun b u e _ n2 _ _ => k b u e n2, t.s, t.h0, fun a c e => ?_⟩
  obtain ⟨ns, l, m, tt, e1, e2, e3⟩ := t.src a c e
  exact ⟨ns, l, m, tt, by rw [upd_ne (fun z => nf ⟨a, c, e, .inl z.symm⟩)]; exact e1, by rw [upd_ne (fun z => nf ⟨a, c, e, .inr z.symm⟩)]; exact e2, e3⟩
theorem TbOk.frzD {F : Fp} {S H H0 : Hp} {P p : Addr} {q : Str} {ks : List (Key × V)} {o : HO} (t : TbOk F S H H0 P q) (h : H p = some (.dK ks)) : TbOk F (upd S p o) H H0 P q := by
  obtain ⟨ps, h1, _⟩ := id t.t
  exact ⟨t.t, by rw [upd_ne (fun z => by rw [z, h] at h1; cases h1)]; exact t.s, t.h0, t.src⟩
def SlOk (F : Fp) (S H H0 : Hp) : Sl → Option V → Prop
  | .un, _ => True
  | .v d, x => ∃ y, x = some y ∧ Dt S d y
  | .own ds, x => ∃ p xs, x = some (.ref p) ∧ H p = some (.lst xs) ∧ S p = Option.none ∧ H0 p = Option.none ∧ DtL S ds xs
  | .src, x => ∃ a c, F = some (a, c) ∧ x = some (.ref a)
  | .ob a dx C fs, x => ∃ vs, x = some (.ref a) ∧ H a = some (.ins C dx vs) ∧ H dx = some (.own a) ∧ S a = Option.none ∧ S dx = Option.none ∧ H0 a = Option.none ∧ H0 dx = Option.none ∧ DtF S fs vs
  | .xc W PX l, _ => XcOk F S H H0 W PX l
  | .fz a fs, _ => ∃ vs, S a = some (.xd vs) ∧ DtF S fs vs
  | .tb P q, _ => TbOk F S H H0 P q
  | .od p kvs, x => ∃ ks, x = some (.ref p) ∧ H p = some (.dK ks) ∧ S p = Option.none ∧ H0 p = Option.none ∧ DtK S kvs ks
structure StD (F : Fp) (S H H0 : Hp) (σ : L2.St) (Δ : List Sl) : Prop where
  len : σ.length = Δ.length
  ok : ∀ (i : Nat) (s : Sl), Δ[i]? = some s → ∃ x, σ[i]? = some x ∧ SlOk F S H H0 s x
  nd : ∀ (i j : Nat) ds es p, Δ[i]? = some (.own ds) → Δ[j]? = some (.own es) → σ[i]? = some (some (.ref p)) → σ[j]? = some (some (.ref p)) → i = j
  fh : ∀ x, fp F x → ∃ o, H0 x = some o
section
variable {F : Fp} {S H S' H' H0 : Hp} {σ : L2.St} {Δ : List Sl}
theorem SlOk.mono {s : Sl} {x : Option V} (hf : ∀ x, fp F x → ∃ o, H0 x = some o) (g : Gr F S H S' H') (h : SlOk F S H H0 s x) : SlOk F S' H' H0 s x := by
  cases s with
  | un => trivial
  | v d =>
    obtain ⟨y, e, h⟩ := h
    exact ⟨y, e, h.mono g.s⟩
  | own ds =>
    obtain ⟨p, xs, e, e1, e2, e3, h⟩ := h
    refine ⟨p, xs, e, g.k _ _ (fun z => ?_) e1, by rw [g.n _ _ e1]; exact e2, e3, h.mono g.s⟩
    obtain ⟨o, q⟩ := hf p z
    rw [e3] at q
    cases q
  | src => exact h
  | ob a dx C fs =>
    obtain ⟨vs, e, e1, e2, e3, e4, e5, e6, h⟩ := h
    have nf : ∀ y, H0 y = Option.none → ¬ fp F y := fun y q z => by
      obtain ⟨o, q'⟩ := hf y z
      rw [q] at q'
      cases q'
    exact ⟨vs, e, g.k _ _ (nf a e5) e1, g.k _ _ (nf dx e6) e2, by rw [g.n _ _ e1]; exact e3, by rw [g.n _ _ e2]; exact e4, e5, e6, h.mono g.s⟩
  | xc W PX l => exact XcOk.mono h (g.w h.hd)
  | fz a fs =>
    obtain ⟨vs, e, h⟩ := h
    exact ⟨vs, g.s _ _ e, h.mono g.s⟩
  | tb P q => exact TbOk.gr h g
  | od p kvs =>
    obtain ⟨ks, e, e1, e2, e3, h⟩ := h
    refine ⟨ks, e, g.k _ _ (fun z => ?_) e1, by rw [g.n _ _ e1]; exact e2, e3, DtK.mono g.s _ _ h⟩
    obtain ⟨o, q⟩ := hf p z
    rw [e3] at q
    cases q
theorem StD.mono (t : StD F S H H0 σ Δ) (g : Gr F S H S' H') : StD F S' H' H0 σ Δ := ⟨t.len, fun i s e => by
  obtain ⟨x, e1, h⟩ := t.ok i s e
  exact ⟨x, e1, h.mono t.fh g⟩, t.nd, t.fh⟩
theorem StD.set (t : StD F S H H0 σ Δ) {i : Nat} {s : Sl} {v : V} (h : SlOk F S H H0 s (some v)) (hn : ∀ (ds : List D), s = Sl.own ds → ∀ (j : Nat) (es : List D) (p : Addr), Δ[j]? = some (Sl.own es) → σ[j]? = some (some (V.ref p)) → v = V.ref p → False) : StD F S H H0 (σ.set i (some v)) (Δ.set i s) := by
  refine ⟨by simp [t.len], fun j s' e => ?_, fun j k ds es p e1 e2 f1 f2 => ?_, t.fh⟩
  · by_cases hj : j = i
    · subst hj
      have hl : j < Δ.length := by
        have := (List.getElem?_eq_some_iff.mp e).1
        simpa using this
      rw [List.getElem?_set_self hl] at e
      cases e
      exact ⟨_, List.getElem?_set_self (by rw [t.len]; exact hl), h⟩
    · rw [List.getElem?_set_ne (Ne.symm hj)] at e ⊢
      exact t.ok j s' e
  · by_cases hj : j = i
    · by_cases hk : k = i
      · rw [hj, hk]
      · subst hj
        exfalso
        have hl : j < Δ.length := by
          have := (List.getElem?_eq_some_iff.mp e1).1
          simpa using this
        rw [List.getElem?_set_self hl] at e1
        rw [List.getElem?_set_self (by rw [t.len]; exact hl)] at f1
        rw [List.getElem?_set_ne (Ne.symm hk)] at e2 f2
        cases e1
        cases f1
        exact hn ds rfl k es p e2 f2 rfl
    · by_cases hk : k = i
      · subst hk
        exfalso
        have hl : k < Δ.length := by
          have := (List.getElem?_eq_some_iff.mp e2).1
          simpa using this
        rw [List.getElem?_set_self hl] at e2
        rw [List.getElem?_set_self (by rw [t.len]; exact hl)] at f2
        rw [List.getElem?_set_ne (Ne.symm hj)] at e1 f1
        cases e2
        cases f2
        exact hn es rfl j ds p e1 f1 rfl
      · rw [List.getElem?_set_ne (Ne.symm hj)] at e1 f1
        rw [List.getElem?_set_ne (Ne.symm hk)] at e2 f2
        exact t.nd j k ds es p e1 e2 f1 f2
theorem StD.setV (t : StD F S H H0 σ Δ) {i : Nat} {d : D} {v : V} (h : Dt S d v) : StD F S H H0 (σ.set i (some v)) (Δ.set i (.v d)) := t.set ⟨v, rfl, h⟩ fun _ e => nomatch e
/-- a list just made -/
theorem StD.setOwn (t : StD F S H H0 σ Δ) (g : Gr F S H S' H') {i : Nat} {p : Addr} {xs : List V} {ds : List D} (hp : H p = Option.none) (h0 : H0 p = Option.none) (h' : H' p = some (.lst xs)) (hs : S' p = Option.none) (hd : DtL S' ds xs) :
    StD F S' H' H0 (σ.set i (some (.ref p))) (Δ.set i (.own ds)) :=
  (t.mono g).set ⟨p, xs, rfl, h', hs, h0, hd⟩ fun es _ j fs q e1 e2 e3 => by
    cases e3
    obtain ⟨x, f1, q', ys, f2, f3, _⟩ := t.ok j _ e1
    rw [e2] at f1
    cases f1
    cases f2
    rw [hp] at f3
    cases f3
theorem StD.get (t : StD F S H H0 σ Δ) {i : Nat} {d : D} (e : Δ[i]? = some (.v d)) : ∃ y, σ[i]? = some (some y) ∧ Dt S d y := by
  obtain ⟨x, e1, y, e2, h⟩ := t.ok i _ e
  subst e2
  exact ⟨y, e1, h⟩
theorem StD.wipe (t : StD F S H H0 σ Δ) (i : Nat) : StD F S H H0 (σ.set i Option.none) (Δ.set i .un) := by
  refine ⟨by simp [t.len], fun j s' e => ?_, fun j k ds es p e1 e2 f1 f2 => ?_, t.fh⟩
  · by_cases hj : j = i
    · subst hj
      have hl : j < Δ.length := by
        have := (List.getElem?_eq_some_iff.mp e).1
        simpa using this
      rw [List.getElem?_set_self hl] at e
      cases e
      exact ⟨_, List.getElem?_set_self (by rw [t.len]; exact hl), trivial⟩
    · rw [List.getElem?_set_ne (Ne.symm hj)] at e ⊢
      exact t.ok j s' e
  · by_cases hj : j = i
    · subst hj
      exfalso
      have hl : j < Δ.length := by
        have := (List.getElem?_eq_some_iff.mp e1).1
        simpa using this
      rw [List.getElem?_set_self hl] at e1
      cases e1
    · by_cases hk : k = i
      · subst hk
        exfalso
        have hl : k < Δ.length := by
          have := (List.getElem?_eq_some_iff.mp e2).1
          simpa using this
        rw [List.getElem?_set_self hl] at e2
        cases e2
      · rw [List.getElem?_set_ne (Ne.symm hj)] at e1 f1
        rw [List.getElem?_set_ne (Ne.symm hk)] at e2 f2
        exact t.nd j k ds es p e1 e2 f1 f2
end
end Bc

/-! Core 2: what readings evaluate to, by data. -/
namespace Bc
open PySem L2
section
variable (F : Fp)
/-- an expression; a test; arguments; a list or tuple that is read; a new list -/
def EvR (te : TE) (Δ : List Sl) (P : D → Prop) : Prop := ∀ (H0 S H : Hp) (σ : L2.St), Okw F S H → StD F S H H0 σ Δ → ∀ Q : VK, (∀ d v S' H', P d → Gr F S H S' H' → Dt S' d v → Q v H') → te σ H Q
def EvT (tt : TT) (Δ : List Sl) (P : Bool → Prop) : Prop := ∀ (H0 S H : Hp) (σ : L2.St), Okw F S H → StD F S H H0 σ Δ → ∀ Q : Bool → Hp → Prop, (∀ b S' H', P b → Gr F S H S' H' → Q b H') → tt σ H Q
def EvA (ta : TA) (Δ : List Sl) (P : List D → Prop) : Prop := ∀ (H0 S H : Hp) (σ : L2.St), Okw F S H → StD F S H H0 σ Δ → ∀ Q : List V → Hp → Prop, (∀ ds vs S' H', P ds → Gr F S H S' H' → DtL S' ds vs → Q vs H') → ta σ H Q
def EvO (to : TO) (Δ : List Sl) (P : Option Int → Prop) : Prop := ∀ (H0 S H : Hp) (σ : L2.St), Okw F S H → StD F S H H0 σ Δ → ∀ Q : Option Int → Hp → Prop, (∀ o S' H', P o → Gr F S H S' H' → Q o H') → to σ H Q
def mkS (b : Bool) (xs : List V) : HO := if b then .tup xs else .lst xs
def EvS (b : Bool) (te : TE) (Δ : List Sl) (P : List D → Prop) : Prop := ∀ (H0 S H : Hp) (σ : L2.St), Okw F S H → StD F S H H0 σ Δ → ∀ Q : VK, (∀ ds p xs S' H', P ds → Gr F S H S' H' → ¬ fp F p → H' p = some (mkS b xs) → DtL S' ds xs → Q (.ref p) H') → te σ H Q
def EvF (te : TE) (Δ : List Sl) (P : List D → Prop) : Prop := ∀ (H0 S H : Hp) (σ : L2.St), Okw F S H → StD F S H H0 σ Δ → ∀ Q : VK, (∀ ds p xs S' H', P ds → Gr F S H S' H' → H p = Option.none → H' p = some (.lst xs) → S' p = Option.none → DtL S' ds xs → Q (.ref p) H') → te σ H Q
end
section
variable {F : Fp} {te ta tb : TE} {Δ : List Sl} {P P' : D → Prop} {d x y : D}
abbrev Ev1 (F : Fp) (te : TE) (Δ : List Sl) (d : D) : Prop := EvR F te Δ fun x => x = d
theorem EvR.imp (h : EvR F te Δ P) (i : ∀ d, P d → P' d) : EvR F te Δ P' := fun H0 S H σ w t Q k => h H0 S H σ w t Q fun d v S' H' p g q => k d v S' H' (i d p) g q
theorem EvR.to1 (h : EvR F te Δ P) (i : ∀ x, P x → x = d) : Ev1 F te Δ d := h.imp i
theorem Ev1.eq (h : Ev1 F te Δ x) (e : x = d) : Ev1 F te Δ d := e ▸ h
theorem EvT.imp {tt : TT} {P P' : Bool → Prop} (h : EvT F tt Δ P) (i : ∀ b, P b → P' b) : EvT F tt Δ P' := fun H0 S H σ w t Q k => h H0 S H σ w t Q fun b S' H' p g => k b S' H' (i b p) g
theorem EvA.imp {ta : TA} {P P' : List D → Prop} (h : EvA F ta Δ P) (i : ∀ b, P b → P' b) : EvA F ta Δ P' := fun H0 S H σ w t Q k => h H0 S H σ w t Q fun b v S' H' p g q => k b v S' H' (i b p) g q
theorem EvF.imp {P P' : List D → Prop} (h : EvF F te Δ P) (i : ∀ b, P b → P' b) : EvF F te Δ P' := fun H0 S H σ w t Q k => h H0 S H σ w t Q fun ds p xs S' H' p' g h1 h2 h3 h4 => k ds p xs S' H' (i ds p') g h1 h2 h3 h4
theorem EvS.imp {b : Bool} {P P' : List D → Prop} (h : EvS F b te Δ P) (i : ∀ b, P b → P' b) : EvS F b te Δ P' := fun H0 S H σ w t Q k => h H0 S H σ w t Q fun ds p xs S' H' p' g h1 h2 h3 => k ds p xs S' H' (i ds p') g h1 h2 h3
/-! values -/
theorem ev_var {i : Nat} (e : Δ[i]? = some (.v d)) : Ev1 F (tVar i) Δ d := fun H0 S H σ w t Q k => by
  obtain ⟨y, e1, h⟩ := t.get e
  exact ⟨y, e1, k d y S H rfl (Gr.refl w.s) h⟩
theorem ev_int {i : Int} : Ev1 F (tC (.int i)) Δ (.int i) := fun _ S H σ w t Q k => k _ _ S H rfl (Gr.refl w.s) (by simp only [Dt])
theorem ev_str {i : Str} : Ev1 F (tC (.str i)) Δ (.str i) := fun _ S H σ w t Q k => k _ _ S H rfl (Gr.refl w.s) (by simp only [Dt])
theorem ev_bl {i : Bool} : Ev1 F (tC (.bl i)) Δ (.bool i) := fun _ S H σ w t Q k => k _ _ S H rfl (Gr.refl w.s) (by simp only [Dt])
theorem ev_non : Ev1 F (tC .non) Δ .none := fun _ S H σ w t Q k => k _ _ S H rfl (Gr.refl w.s) (by simp only [Dt])
theorem ev_ref {a : Addr} : Ev1 F (tC (.ref a)) Δ (.ref a) := fun _ S H σ w t Q k => k _ _ S H rfl (Gr.refl w.s) (by simp only [Dt])
/-! operators -/
def OpS (F : Fp) (r : R2) (f : D → D → D → Prop) : Prop := ∀ (S H : Hp) (x y d : D) (u v : V) (Q : VK), Okw F S H → Dt S x u → Dt S y v → f x y d → (∀ w S' H', Gr F S H S' H' → Dt S' d w → Q w H') → r u v H Q
theorem ev_op {r : R2} {f : D → D → D → Prop} {P1 P2 : D → Prop} (hr : OpS F r f) (ha : EvR F ta Δ P1) (hb : EvR F tb Δ P2) (h : ∀ x y, P1 x → P2 y → ∃ d, f x y d ∧ P d) : EvR F (tOp r ta tb) Δ P := fun H0 S H σ w t Q k => by
  refine ha H0 S H σ w t _ fun x u S1 H1 p1 g1 hx => ?_
  refine hb H0 S1 H1 σ (g1.ok w) (t.mono g1) _ fun y v S2 H2 p2 g2 hy => ?_
  obtain ⟨d, hf, hd⟩ := h x y p1 p2
  exact hr S2 H2 x y d u v Q (g2.ok (g1.ok w)) (hx.mono g2.s) hy hf fun w S3 H3 g3 q => k d w S3 H3 hd ((g1.trans g2).trans g3) q
theorem ev_op1 {r : R2} {f : D → D → D → Prop} (hr : OpS F r f) (ha : Ev1 F ta Δ x) (hb : Ev1 F tb Δ y) (h : f x y d) : Ev1 F (tOp r ta tb) Δ d := ev_op hr ha hb fun _ _ e1 e2 => ⟨d, by rw [e1, e2]; exact h, rfl⟩
theorem OpS.or {r r' : R2} {f f' : D → D → D → Prop} (h : OpS F r f) (h' : OpS F r' f') : OpS F (fun x y H Q => r x y H Q ∨ r' x y H Q) (fun x y d => f x y d ∨ f' x y d) := fun S H x y d u v Q w hx hy hf k => by
  rcases hf with hf | hf
  · exact .inl (h S H x y d u v Q w hx hy hf k)
  · exact .inr (h' S H x y d u v Q w hx hy hf k)
/-! arguments, displays -/
theorem ea_nil : EvA F tNil Δ fun ds => ds = [] := fun _ S H σ w t Q k => k _ _ S H rfl (Gr.refl w.s) (by simp only [DtL])
theorem ea_cons {tr : TA} {Pr : List D → Prop} (h : EvR F te Δ P) (hr : EvA F tr Δ Pr) : EvA F (tCons te tr) Δ fun ds => ∃ d r, ds = d :: r ∧ P d ∧ Pr r := fun H0 S H σ w t Q k => by
  refine h H0 S H σ w t _ fun d v S1 H1 p1 g1 hd => ?_
  refine hr H0 S1 H1 σ (g1.ok w) (t.mono g1) _ fun ds vs S2 H2 p2 g2 hds => ?_
  exact k _ _ S2 H2 ⟨d, ds, rfl, p1, p2⟩ (g1.trans g2) (dtl_cons (hd.mono g2.s) hds)
theorem ea_cons1 {tr : TA} {ds : List D} (h : Ev1 F te Δ d) (hr : EvA F tr Δ fun r => r = ds) : EvA F (tCons te tr) Δ fun r => r = d :: ds := (ea_cons h hr).imp fun b ⟨_, _, e, e1, e2⟩ => by rw [e, e1, e2]
theorem ev_tupP {t : TA} {Pa : List D → Prop} (h : EvA F t Δ Pa) (hl : ∀ ds, Pa ds → ds.length ≤ sizeLine) : EvR F (tTup t) Δ fun d => ∃ ds, Pa ds ∧ d = .tuple ds := fun H0 S H σ w tt Q k => by
  refine h H0 S H σ w tt _ fun ds vs S1 H1 p1 g1 hd => ?_
  refine ⟨by rw [← hd.len]; exact hl ds p1, fun p hp => ?_⟩
  refine k (.tuple ds) (.ref p) _ _ ⟨ds, p1, rfl⟩ (g1.trans (Gr.newD g1.h hp)) ?_
  simp only [Dt]
  exact ⟨p, vs, rfl, upd_same, hd.mono (Gr.newD (F := F) (o := .tup vs) g1.h hp).s⟩
theorem ev_tup {t : TA} {ds : List D} (h : EvA F t Δ fun r => r = ds) (hl : ds.length ≤ sizeLine := by first | decide | (simp only [List.length_cons, List.length_nil]; decide)) : Ev1 F (tTup t) Δ (.tuple ds) := (ev_tupP h fun _ e => by rw [e]; exact hl).imp fun d ⟨_, e, e2⟩ => by rw [e2, e]
theorem ef_lstP {t : TA} {Pa : List D → Prop} (h : EvA F t Δ Pa) (hl : ∀ ds, Pa ds → ds.length ≤ sizeLine) : EvF F (tLst t) Δ Pa := fun H0 S H σ w tt Q k => by
  refine h H0 S H σ w tt _ fun ds vs S1 H1 p1 g1 hd => ?_
  refine ⟨by rw [← hd.len]; exact hl ds p1, fun p hp => ?_⟩
  have hn : H p = Option.none := by
    cases e : H p with
    | none => rfl
    | some o =>
      obtain ⟨o', e'⟩ := g1.m p o e
      rw [hp] at e'
      cases e'
  exact k ds p vs S1 _ p1 (g1.trans (Gr.new g1.h hp)) hn upd_same (Same.free g1.h hp) hd
theorem ef_lst {t : TA} {ds : List D} (h : EvA F t Δ fun r => r = ds) (hl : ds.length ≤ sizeLine := by first | decide | (simp only [List.length_cons, List.length_nil]; decide)) : EvF F (tLst t) Δ fun r => r = ds := ef_lstP h fun _ e => by rw [e]; exact hl
/-- a new list as a value -/
theorem EvF.val {Pa : List D → Prop} (h : EvF F te Δ Pa) : EvR F te Δ fun d => ∃ ds, Pa ds ∧ d = .list ds := fun H0 S H σ w t Q k =>
  h H0 S H σ w t Q fun ds p xs S' H' p1 g hp h' hs hd => k (.list ds) (.ref p) _ H' ⟨ds, p1, rfl⟩ (g.freeze hp h') (by
    simp only [Dt]
    exact ⟨p, xs, rfl, upd_same, hd.mono (fun x u e => by rw [upd_ne (ne_of_none e hs)]; exact e)⟩)
theorem EvF.val1 {ds : List D} (h : EvF F te Δ fun r => r = ds) : Ev1 F te Δ (.list ds) := h.val.imp fun d ⟨_, e, e2⟩ => by rw [e2, e]
/-- .. as what is read -/
theorem EvF.seq {Pa : List D → Prop} (h : EvF F te Δ Pa) (hf : True) : EvS F false te Δ Pa := fun H0 S H σ w t Q k =>
  h H0 S H σ w t Q fun ds p xs S' H' p1 g hp h' hs hd => k ds p xs S' H' p1 g (fun z => by
    obtain ⟨a, c, e, z⟩ := z
    obtain ⟨_, _, ns, l, m, tt, e1, e2, _⟩ := w.src a c e
    rcases z with rfl | rfl
    · rw [hp] at e1; cases e1
    · rw [hp] at e2; cases e2) h' hd
theorem es_list {ds : List D} (h : Ev1 F te Δ (.list ds)) : EvS F false te Δ fun r => r = ds := fun H0 S H σ w t Q k => by
  refine h H0 S H σ w t _ fun d v S' H' e g hd => ?_
  subst e
  simp only [Dt] at hd
  obtain ⟨a, xs, rfl, e1, h1⟩ := hd
  exact k ds a xs S' H' rfl g ((g.ok w).nfp e1) (g.h _ _ e1) h1
theorem es_tuple {ds : List D} (h : Ev1 F te Δ (.tuple ds)) : EvS F true te Δ fun r => r = ds := fun H0 S H σ w t Q k => by
  refine h H0 S H σ w t _ fun d v S' H' e g hd => ?_
  subst e
  simp only [Dt] at hd
  obtain ⟨a, xs, rfl, e1, h1⟩ := hd
  exact k ds a xs S' H' rfl g ((g.ok w).nfp e1) (g.h _ _ e1) h1
theorem es_own {i : Nat} {ds : List D} (e : Δ[i]? = some (.own ds)) : EvS F false (tVar i) Δ fun r => r = ds := fun H0 S H σ w t Q k => by
  obtain ⟨x, e1, p, xs, rfl, h1, h2, h3, h4⟩ := t.ok i _ e
  exact ⟨_, e1, k ds p xs S H rfl (Gr.refl w.s) (fun z => by
    obtain ⟨o, q⟩ := t.fh p z
    rw [h3] at q
    cases q) h1 h4⟩
/-! tests -/
theorem et_test {Pb : Bool → Prop} (h : EvR F te Δ fun d => ∃ b, d = .bool b ∧ Pb b) : EvT F (tTest te) Δ Pb := fun H0 S H σ w t Q k =>
  h H0 S H σ w t _ fun d v S' H' ⟨b, e, p⟩ g hd => by
    subst e
    simp only [Dt] at hd
    exact ⟨b, hd, k b S' H' p g⟩
theorem et_B {Pb : Bool → Prop} (h : EvR F te Δ fun d => ∃ b, d = .bool b ∧ Pb b) : EvT F (tB te) Δ Pb := fun H0 S H σ w t Q k =>
  h H0 S H σ w t _ fun d v S' H' ⟨b, e, p⟩ g hd => by
    subst e
    simp only [Dt] at hd
    exact ⟨b, hd, k b S' H' p g⟩
theorem et_test1 {b : Bool} (h : Ev1 F te Δ (.bool b)) : EvT F (tTest te) Δ fun c => c = b := et_test (h.imp fun d e => ⟨b, e, rfl⟩)
theorem et_B1 {b : Bool} (h : Ev1 F te Δ (.bool b)) : EvT F (tB te) Δ fun c => c = b := et_B (h.imp fun d e => ⟨b, e, rfl⟩)
theorem et_and {t u : TT} {P1 P2 : Bool → Prop} (h1 : EvT F t Δ P1) (h2 : P1 true → EvT F u Δ P2) : EvT F (tAnd t u) Δ fun b => (b = false ∧ P1 false) ∨ (P1 true ∧ P2 b) := fun H0 S H σ w tt Q k => by
  refine h1 H0 S H σ w tt _ fun b S1 H1 p1 g1 => ?_
  cases b with
  | true =>
    show u σ H1 Q
    exact h2 p1 H0 S1 H1 σ (g1.ok w) (tt.mono g1) Q fun c S2 H2 p2 g2 => k c S2 H2 (.inr ⟨p1, p2⟩) (g1.trans g2)
  | false => exact k false S1 H1 (.inl ⟨rfl, p1⟩) g1
theorem et_or {t u : TT} {P1 P2 : Bool → Prop} (h1 : EvT F t Δ P1) (h2 : P1 false → EvT F u Δ P2) : EvT F (tOr t u) Δ fun b => (b = true ∧ P1 true) ∨ (P1 false ∧ P2 b) := fun H0 S H σ w tt Q k => by
  refine h1 H0 S H σ w tt _ fun b S1 H1 p1 g1 => ?_
  cases b with
  | false =>
    show u σ H1 Q
    exact h2 p1 H0 S1 H1 σ (g1.ok w) (tt.mono g1) Q fun c S2 H2 p2 g2 => k c S2 H2 (.inr ⟨p1, p2⟩) (g1.trans g2)
  | true => exact k true S1 H1 (.inl ⟨rfl, p1⟩) g1
theorem et_not {t : TT} {P1 : Bool → Prop} (h1 : EvT F t Δ P1) : EvT F (tNot t) Δ fun b => P1 (!b) := fun H0 S H σ w tt Q k =>
  h1 H0 S H σ w tt _ fun b S1 H1 p1 g1 => k (!b) S1 H1 (by show P1 (!(!b)); rw [Bool.not_not]; exact p1) g1
theorem et_and1 {t u : TT} {a b : Bool} (h1 : EvT F t Δ fun c => c = a) (h2 : a = true → EvT F u Δ fun c => c = b) : EvT F (tAnd t u) Δ fun c => c = (a && b) := (et_and h1 fun e => h2 e.symm).imp fun c h => by
  rcases h with ⟨rfl, e⟩ | ⟨e, rfl⟩
  · rw [← e]; rfl
  · rw [← e]; rfl
theorem et_or1 {t u : TT} {a b : Bool} (h1 : EvT F t Δ fun c => c = a) (h2 : a = false → EvT F u Δ fun c => c = b) : EvT F (tOr t u) Δ fun c => c = (a || b) := (et_or h1 fun e => h2 e.symm).imp fun c h => by
  rcases h with ⟨rfl, e⟩ | ⟨e, rfl⟩
  · rw [← e]; rfl
  · rw [← e]; rfl
theorem et_not1 {t : TT} {a : Bool} (h1 : EvT F t Δ fun c => c = a) : EvT F (tNot t) Δ fun c => c = !a := (et_not h1).imp fun c e => by rw [← e, Bool.not_not]
theorem EvT.eq {t : TT} {a b : Bool} (h : EvT F t Δ fun c => c = a) (e : a = b) : EvT F t Δ fun c => c = b := e ▸ h
theorem ev_andV {a b : Bool} (h1 : Ev1 F ta Δ (.bool a)) (h2 : a = true → Ev1 F tb Δ (.bool b)) : Ev1 F (tAndV ta tb) Δ (.bool (a && b)) := fun H0 S H σ w t Q k => by
  refine h1 H0 S H σ w t _ fun d v S1 H1 e g1 hd => ?_
  subst e
  simp only [Dt] at hd
  refine ⟨a, hd, ?_⟩
  cases a with
  | true =>
    show tb σ H1 Q
    exact h2 rfl H0 S1 H1 σ (g1.ok w) (t.mono g1) Q fun d v S2 H2 e g2 hd => k d v S2 H2 e (g1.trans g2) hd
  | false => exact k _ _ S1 H1 rfl g1 (by simp only [Dt, Bool.false_and])
theorem ev_orV {a b : Bool} (h1 : Ev1 F ta Δ (.bool a)) (h2 : a = false → Ev1 F tb Δ (.bool b)) : Ev1 F (tOrV ta tb) Δ (.bool (a || b)) := fun H0 S H σ w t Q k => by
  refine h1 H0 S H σ w t _ fun d v S1 H1 e g1 hd => ?_
  subst e
  simp only [Dt] at hd
  refine ⟨a, hd, ?_⟩
  cases a with
  | false =>
    show tb σ H1 Q
    exact h2 rfl H0 S1 H1 σ (g1.ok w) (t.mono g1) Q fun d v S2 H2 e g2 hd => k d v S2 H2 e (g1.trans g2) hd
  | true => exact k _ _ S1 H1 rfl g1 (by simp only [Dt, Bool.true_or])
theorem ev_notV {a : Bool} (h1 : Ev1 F ta Δ (.bool a)) : Ev1 F (tNotV ta) Δ (.bool (!a)) := fun H0 S H σ w t Q k =>
  h1 H0 S H σ w t _ fun d v S1 H1 e g1 hd => by
    subst e
    simp only [Dt] at hd
    exact ⟨a, hd, k _ _ S1 H1 rfl g1 (by simp only [Dt])⟩
theorem ev_if {t : TT} {Pb : Bool → Prop} (h : EvT F t Δ Pb) (h1 : Pb true → EvR F ta Δ P) (h2 : Pb false → EvR F tb Δ P) : EvR F (tIf t ta tb) Δ P := fun H0 S H σ w tt Q k => by
  refine h H0 S H σ w tt _ fun b S1 H1 p1 g1 => ?_
  cases b with
  | true =>
    show ta σ H1 Q
    exact h1 p1 H0 S1 H1 σ (g1.ok w) (tt.mono g1) Q fun d v S2 H2 e g2 hd => k d v S2 H2 e (g1.trans g2) hd
  | false =>
    show tb σ H1 Q
    exact h2 p1 H0 S1 H1 σ (g1.ok w) (tt.mono g1) Q fun d v S2 H2 e g2 hd => k d v S2 H2 e (g1.trans g2) hd
end
/-! ### statements -/
structure Po where
  nx : List Sl → Prop
  rt : D → Prop
  bk : List Sl → Prop := fun _ => False
  ct : List Sl → Prop := fun _ => False
  ro : D → List Sl → Prop := fun _ _ => True
/-- v is d (fr: a new list) -/
structure Giv (fr : Bool) (F : Fp) (S0 H0 : Hp) (d : D) (v : V) (S H : Hp) : Prop where
  g : Gr F S0 H0 S H
  vl : fr = false → Dt S d v
  f : fr = true → ∃ ds p xs, d = .list ds ∧ v = .ref p ∧ H p = some (.lst xs) ∧ S p = Option.none ∧ H0 p = Option.none ∧ DtL S ds xs
/-- from the entry (S0, H0); B: data that stays -/
structure Gb (F : Fp) (S0 H0 B S H : Hp) : Prop where
  g : Gr F S0 H0 S H
  b : Same B S
theorem Gb.step {F : Fp} {S0 H0 B S H S' H' : Hp} (x : Gb F S0 H0 B S H) (g : Gr F S H S' H') : Gb F S0 H0 B S' H' := ⟨x.g.trans g, x.b.trans g.s⟩
structure Re (F : Fp) (fr : Bool) (S0 H0 B : Hp) (Po : Po) (E : Ends) : Prop where
  nx : ∀ Δ S H σ, Po.nx Δ → Okw F S H → Gb F S0 H0 B S H → StD F S H H0 σ Δ → E.nx σ H
  rt : ∀ d v Δ S H σ, Po.rt d → Po.ro d Δ → Okw F S H → StD F S H H0 σ Δ → Giv fr F S0 H0 d v S H → E.rt v H
  bk : ∀ Δ S H σ, Po.bk Δ → Okw F S H → Gb F S0 H0 B S H → StD F S H H0 σ Δ → E.bk σ H
  ct : ∀ Δ S H σ, Po.ct Δ → Okw F S H → Gb F S0 H0 B S H → StD F S H H0 σ Δ → E.ct σ H
def Run (F : Fp) (fr : Bool) (ts : TS) (Δ : List Sl) (po : Po) : Prop := ∀ (S0 H0 B S H : Hp) (σ : L2.St) (E : Ends), Okw F S H → Gb F S0 H0 B S H → StD F S H H0 σ Δ → Re F fr S0 H0 B po E → ts E σ H
section
variable {F : Fp} {fr : Bool} {te ta tb : TE} {ts t u : TS} {Δ : List Sl} {P P' : D → Prop} {d x y : D} {po : Po}
theorem Re.next {S0 H0 B : Hp} {E : Ends} (r : Re F fr S0 H0 B po E) {N : List Sl → Prop} {f : L2.St → Hp → Prop} (h : ∀ Δ S H σ, N Δ → Okw F S H → Gb F S0 H0 B S H → StD F S H H0 σ Δ → f σ H) : Re F fr S0 H0 B { po with nx := N } { E with nx := f } := ⟨h, r.rt, r.bk, r.ct⟩
theorem run_seqM {N : List Sl → Prop} (h : Run F fr t Δ { po with nx := N }) (k : ∀ Δ', N Δ' → Run F fr u Δ' po) : Run F fr (tSeq t u) Δ po := fun S0 H0 B S H σ E w g st r =>
  h S0 H0 B S H σ { E with nx := u E } w g st (r.next fun Δ' S' H' σ' n w' g' st' => k Δ' n S0 H0 B S' H' σ' E w' g' st' r)
theorem run_assoc {v : TS} (h : Run F fr (tSeq t (tSeq u v)) Δ po) : Run F fr (tSeq (tSeq t u) v) Δ po := h
theorem run_next (h : po.nx Δ) : Run F fr tNext Δ po := fun S0 H0 B S H σ E w g st r => r.nx Δ S H σ h w g st
theorem run_nextS (h : Run F fr u Δ po) : Run F fr (tSeq tNext u) Δ po := h
theorem run_asg {i : Nat} (h : EvR F te Δ P) (k : ∀ d, P d → po.nx (Δ.set i (.v d))) : Run F fr (tAsg te (gName i)) Δ po := fun S0 H0 B S H σ E w g st r =>
  h H0 S H σ w st _ fun d v S' H' p g' hd => r.nx _ S' H' _ (k d p) (g'.ok w) (g.step g') ((st.mono g').setV hd)
theorem run_asgS {i : Nat} (h : EvR F te Δ P) (k : ∀ d, P d → Run F fr u (Δ.set i (.v d)) po) : Run F fr (tSeq (tAsg te (gName i)) u) Δ po :=
  run_seqM (N := fun Δ' => ∃ d, P d ∧ Δ' = Δ.set i (.v d)) (run_asg h fun d p => ⟨d, p, rfl⟩) fun Δ' ⟨d, p, e⟩ => e ▸ k d p
theorem run_set {i : Nat} (h : Ev1 F te Δ d) (k : Run F fr u (Δ.set i (.v d)) po) : Run F fr (tSeq (tAsg te (gName i)) u) Δ po := run_asgS h fun _ e => e ▸ k
theorem run_set1 {i : Nat} (h : Ev1 F te Δ d) (k : po.nx (Δ.set i (.v d))) : Run F fr (tAsg te (gName i)) Δ po := run_asg h fun _ e => e ▸ k
/-- a new list becomes the def's own -/
theorem run_asgF {i : Nat} {Pa : List D → Prop} (h : EvF F te Δ Pa) (k : ∀ ds, Pa ds → po.nx (Δ.set i (.own ds))) : Run F fr (tAsg te (gName i)) Δ po := fun S0 H0 B S H σ E w g st r =>
  h H0 S H σ w st _ fun ds p xs S' H' q g' hp h' hs hd => r.nx _ S' H' _ (k ds q) (g'.ok w) (g.step g') (st.setOwn g' hp (by
    cases e : H0 p with
    | none => rfl
    | some o =>
      obtain ⟨o', e'⟩ := g.g.m p o e
      rw [hp] at e'
      cases e') h' hs hd)
theorem run_asgFS {i : Nat} {Pa : List D → Prop} (h : EvF F te Δ Pa) (k : ∀ ds, Pa ds → Run F fr u (Δ.set i (.own ds)) po) : Run F fr (tSeq (tAsg te (gName i)) u) Δ po :=
  run_seqM (N := fun Δ' => ∃ d, Pa d ∧ Δ' = Δ.set i (.own d)) (run_asgF h fun d p => ⟨d, p, rfl⟩) fun Δ' ⟨d, p, e⟩ => e ▸ k d p
theorem run_setF {i : Nat} {ds : List D} (h : EvF F te Δ fun r => r = ds) (k : Run F fr u (Δ.set i (.own ds)) po) : Run F fr (tSeq (tAsg te (gName i)) u) Δ po := run_asgFS h fun _ e => e ▸ k
theorem run_if {c : TT} {Pb : Bool → Prop} (h : EvT F c Δ Pb) (h1 : Pb true → Run F fr t Δ po) (h2 : Pb false → Run F fr u Δ po) : Run F fr (tIfS c t u) Δ po := fun S0 H0 B S H σ E w g st r =>
  h H0 S H σ w st _ fun b S' H' p g' => by
    cases b with
    | true => exact h1 p S0 H0 B S' H' σ E (g'.ok w) (g.step g') (st.mono g') r
    | false => exact h2 p S0 H0 B S' H' σ E (g'.ok w) (g.step g') (st.mono g') r
theorem run_ifS {c : TT} {Pb : Bool → Prop} {v : TS} (h : EvT F c Δ Pb) (h1 : Pb true → Run F fr (tSeq t v) Δ po) (h2 : Pb false → Run F fr (tSeq u v) Δ po) : Run F fr (tSeq (tIfS c t u) v) Δ po := fun S0 H0 B S H σ E w g st r =>
  h H0 S H σ w st _ fun b S' H' p g' => by
    cases b with
    | true => exact h1 p S0 H0 B S' H' σ E (g'.ok w) (g.step g') (st.mono g') r
    | false => exact h2 p S0 H0 B S' H' σ E (g'.ok w) (g.step g') (st.mono g') r
theorem run_ret (h : EvR F te Δ P) (k : ∀ d, P d → po.rt d) (ko : ∀ d, P d → po.ro d Δ := by intros; exact True.intro) : Run F false (tRet te) Δ po := fun S0 H0 B S H σ E w g st r =>
  h H0 S H σ w st _ fun d v S' H' p g' hd => r.rt d v Δ S' H' σ (k d p) (ko d p) (g'.ok w) (st.mono g') ⟨g.g.trans g', fun _ => hd, fun e => nomatch e⟩
theorem run_retS (h : EvR F te Δ P) (k : ∀ d, P d → po.rt d) (ko : ∀ d, P d → po.ro d Δ := by intros; exact True.intro) : Run F false (tSeq (tRet te) u) Δ po := run_ret (po := { po with nx := fun _ => False }) h k ko |> fun z => run_seqM z fun _ n => n.elim
theorem run_ret1 (h : Ev1 F te Δ d) (k : po.rt d) (ko : po.ro d Δ := by exact True.intro) : Run F false (tRet te) Δ po := run_ret h (fun _ e => e ▸ k) fun _ e => e ▸ ko
theorem run_ret1S (h : Ev1 F te Δ d) (k : po.rt d) (ko : po.ro d Δ := by exact True.intro) : Run F false (tSeq (tRet te) u) Δ po := run_retS h (fun _ e => e ▸ k) fun _ e => e ▸ ko
theorem run_retF {Pa : List D → Prop} (h : EvF F te Δ Pa) (k : ∀ ds, Pa ds → po.rt (.list ds)) (ko : ∀ ds, Pa ds → po.ro (.list ds) Δ := by intros; exact True.intro) : Run F true (tRet te) Δ po := fun S0 H0 B S H σ E w g st r =>
  h H0 S H σ w st _ fun ds p xs S' H' q g' hp h' hs hd => r.rt (.list ds) _ Δ S' H' σ (k ds q) (ko ds q) (g'.ok w) (st.mono g') ⟨g.g.trans g', fun e => (nomatch e), fun _ => ⟨ds, p, xs, rfl, rfl, h', hs, (by
    cases e : H0 p with
    | none => rfl
    | some o =>
      obtain ⟨o', e'⟩ := g.g.m p o e
      rw [hp] at e'
      cases e'), hd⟩⟩
theorem run_retFS {Pa : List D → Prop} (h : EvF F te Δ Pa) (k : ∀ ds, Pa ds → po.rt (.list ds)) (ko : ∀ ds, Pa ds → po.ro (.list ds) Δ := by intros; exact True.intro) : Run F true (tSeq (tRet te) u) Δ po := run_retF (po := { po with nx := fun _ => False }) h k ko |> fun z => run_seqM z fun _ n => n.elim
theorem run_brk (h : po.bk Δ) : Run F fr tBreak Δ po := fun S0 H0 B S H σ E w g st r => r.bk Δ S H σ h w g st
theorem run_cont (h : po.ct Δ) : Run F fr tCont Δ po := fun S0 H0 B S H σ E w g st r => r.ct Δ S H σ h w g st
theorem run_contS (h : po.ct Δ) : Run F fr (tSeq tCont u) Δ po := fun S0 H0 B S H σ E w g st r => r.ct Δ S H σ h w g st
theorem run_retN (h : po.rt .none) (ko : po.ro .none Δ := by exact True.intro) : Run F false tRetN Δ po := fun S0 H0 B S H σ E w g st r => r.rt .none .non Δ S H σ h ko w st ⟨g.g, fun _ => by simp only [Dt], fun e => (nomatch e)⟩
theorem run_drop (h : EvR F te Δ P) (k : po.nx Δ) : Run F fr (tDrop te) Δ po := fun S0 H0 B S H σ E w g st r =>
  h H0 S H σ w st _ fun d v S' H' p g' hd => r.nx _ S' H' _ k (g'.ok w) (g.step g') (st.mono g')
/-- the def's own list becomes data -/
theorem StD.frz {S H S0 H0 B : Hp} {σ : L2.St} {i : Nat} {ds : List D} (st : StD F S H H0 σ Δ) (w : Okw F S H) (g : Gb F S0 H0 B S H) (e : Δ[i]? = some (.own ds)) : ∃ S', Okw F S' H ∧ Gb F S0 H0 B S' H ∧ StD F S' H H0 σ (Δ.set i (.v (.list ds))) := by
  obtain ⟨x, e1, p, xs, rfl, h1, h2, h3, h4⟩ := st.ok i _ e
  have hi : i < Δ.length := (List.getElem?_eq_some_iff.mp e).1
  have sm : Same S (upd S p (.lst xs)) := fun x u e => by rw [upd_ne (ne_of_none e h2)]; exact e
  refine ⟨upd S p (.lst xs), ⟨(g.g.freeze h3 h1).h, fun a c ef => ?_⟩, ⟨g.g.freeze h3 h1, g.b.trans sm⟩, ⟨by simp [st.len], fun j s' ej => ?_, fun j k es fs q f1 f2 f3 f4 => ?_, st.fh⟩⟩
  · obtain ⟨q1, q2, q3⟩ := w.src a c ef
    have n1 : a ≠ p := fun z => by
      obtain ⟨o, q⟩ := st.fh a ⟨a, c, ef, .inl rfl⟩
      rw [z, h3] at q
      cases q
    have n2 : c ≠ p := fun z => by
      obtain ⟨o, q⟩ := st.fh c ⟨a, c, ef, .inr rfl⟩
      rw [z, h3] at q
      cases q
    exact ⟨by rw [upd_ne n1]; exact q1, by rw [upd_ne n2]; exact q2, q3⟩
  · by_cases hj : j = i
    · subst hj
      rw [List.getElem?_set_self hi] at ej
      cases ej
      refine ⟨_, e1, _, rfl, ?_⟩
      simp only [Dt]
      exact ⟨p, xs, rfl, upd_same, h4.mono sm⟩
    · rw [List.getElem?_set_ne (Ne.symm hj)] at ej
      obtain ⟨x, f1, f2⟩ := st.ok j s' ej
      refine ⟨x, f1, ?_⟩
      cases s' with
      | un => trivial
      | v d =>
        obtain ⟨y, z1, z2⟩ := f2
        exact ⟨y, z1, z2.mono sm⟩
      | src => exact f2
      | ob a dx C fs =>
        obtain ⟨vs, z1, z2, z3, z4, z5, z6, z7, z8⟩ := f2
        have n1 : a ≠ p := fun z => by rw [z, h1] at z2; cases z2
        have n2 : dx ≠ p := fun z => by rw [z, h1] at z3; cases z3
        exact ⟨vs, z1, z2, z3, by rw [upd_ne n1]; exact z4, by rw [upd_ne n2]; exact z5, z6, z7, z8.mono sm⟩
      | xc W PX l => exact XcOk.mono f2 (Gw.frz w.s h1 h2 h3 f2.hd)
      | fz a fs =>
        obtain ⟨vs, z1, z2⟩ := f2
        exact ⟨vs, sm _ _ z1, z2.mono sm⟩
      | tb P q => exact TbOk.frz f2 h1
      | od b kvs =>
        obtain ⟨ks, z1, z2, z3, z4, z5⟩ := f2
        exact ⟨ks, z1, z2, by rw [upd_ne (fun z => by rw [z, h1] at z2; cases z2)]; exact z3, z4, DtK.mono sm _ _ z5⟩
      | own es =>
        obtain ⟨q, ys, rfl, y1, y2, y3, y4⟩ := f2
        refine ⟨q, ys, rfl, y1, ?_, y3, y4.mono sm⟩
        rw [upd_ne (fun z => hj ?_)]
        · exact y2
        · subst z
          exact st.nd j i es ds q ej e f1 e1
  · have n1 : j ≠ i := fun z => by
      subst z
      rw [List.getElem?_set_self hi] at f1
      cases f1
    have n2 : k ≠ i := fun z => by
      subst z
      rw [List.getElem?_set_self hi] at f2
      cases f2
    rw [List.getElem?_set_ne (Ne.symm n1)] at f1
    rw [List.getElem?_set_ne (Ne.symm n2)] at f2
    exact st.nd j k es fs q f1 f2 f3 f4
/-- the def's own list is handed back -/
theorem run_retO {i : Nat} {ds : List D} (e : Δ[i]? = some (.own ds)) (k : po.rt (.list ds)) (ko : ∀ Δ', Δ' = Δ ∨ Δ' = Δ.set i (.v (.list ds)) → po.ro (.list ds) Δ' := by intros; exact True.intro) : Run F fr (tRet (tVar i)) Δ po := fun S0 H0 B S H σ E w g st r => by
  cases fr with
  | true =>
    obtain ⟨x, e1, p, xs, rfl, h1, h2, h3, h4⟩ := st.ok i _ e
    exact ⟨_, e1, r.rt (.list ds) _ Δ S H σ k (ko Δ (.inl rfl)) w st ⟨g.g, fun e => (nomatch e), fun _ => ⟨ds, p, xs, rfl, rfl, h1, h2, h3, h4⟩⟩⟩
  | false =>
    obtain ⟨S', w', g', st'⟩ := st.frz w g e
    have hi : i < Δ.length := (List.getElem?_eq_some_iff.mp e).1
    obtain ⟨x, e1, y, rfl, h⟩ := st'.ok i (.v (.list ds)) (List.getElem?_set_self hi)
    exact ⟨_, e1, r.rt (.list ds) _ (Δ.set i (.v (.list ds))) S' H σ k (ko _ (.inr rfl)) w' st' ⟨g'.g, fun _ => h, fun e => (nomatch e)⟩⟩
theorem run_frz {i : Nat} {ds : List D} (e : Δ[i]? = some (.own ds)) (h : Run F fr t (Δ.set i (.v (.list ds))) po) : Run F fr t Δ po := fun S0 H0 B S H σ E w g st r => by
  obtain ⟨S', w', g', st'⟩ := st.frz w g e
  exact h S0 H0 B S' H σ E w' g' st' r
end
end Bc

/-! Core 3: what loops walk, targets, loops, comprehensions, calls and promises. -/
namespace Bc
open PySem L2
/-- J walks ds, while data stays -/
structure WalkD (F : Fp) (J : It) (S : Hp) (ds : List D) : Prop where
  go : ∀ i S' H', Same S S' → Okw F S' H' → i < ds.length → J.go i H'
  yld : ∀ i S' H' x H'', Same S S' → Okw F S' H' → i < ds.length → J.yld i H' x H'' → ∃ d S'', ds[i]? = some d ∧ Gr F S' H' S'' H'' ∧ Dt S'' d x
  stop : ∀ i S' H', Same S S' → Okw F S' H' → ds.length ≤ i → J.stop i H'
def EvI (F : Fp) (wi : TI) (Δ : List Sl) (P : List D → Prop) : Prop := ∀ (H0 S H : Hp) (σ : L2.St), Okw F S H → StD F S H H0 σ Δ → ∀ R : It → Hp → Prop, (∀ ds J S' H', P ds → Gr F S H S' H' → WalkD F J S' ds → R J H') → wi σ H R
section
variable {F : Fp} {fr : Bool} {K : PySem.W.Frag} {te tl : TE} {Δ : List Sl} {po : Po}
theorem walk_list {S : Hp} {a : Addr} {xs : List V} {ds : List D} (e : S a = some (.lst xs)) (h : DtL S ds xs) : WalkD F (Itl K a) S ds where
  go := fun i S' H' s w hi => by
    rw [h.len] at hi
    exact ⟨xs, xs[i], SqL.of (w.s _ _ (s _ _ e)), by simp [hi]⟩
  yld := fun i S' H' x H'' s w hlt y => by
    obtain ⟨e1, y⟩ := y
    subst e1
    have q := y xs (SqL.of (w.s _ _ (s _ _ e)))
    obtain ⟨d, e2, hd⟩ := h.get' q
    exact ⟨d, S', e2, Gr.refl w.s, hd.mono s⟩
  stop := fun i S' H' s w hi => ⟨xs, SqL.of (w.s _ _ (s _ _ e)), by rw [← h.len]; exact hi⟩
theorem walk_tup {S : Hp} {a : Addr} {xs : List V} {ds : List D} (e : S a = some (.tup xs)) (h : DtL S ds xs) : WalkD F (Itt K a) S ds where
  go := fun i S' H' s w hi => by
    rw [h.len] at hi
    exact ⟨xs, xs[i], SqT.of (w.s _ _ (s _ _ e)), by simp [hi]⟩
  yld := fun i S' H' x H'' s w hlt y => by
    obtain ⟨e1, y⟩ := y
    subst e1
    have q := y xs (SqT.of (w.s _ _ (s _ _ e)))
    obtain ⟨d, e2, hd⟩ := h.get' q
    exact ⟨d, S', e2, Gr.refl w.s, hd.mono s⟩
  stop := fun i S' H' s w hi => ⟨xs, SqT.of (w.s _ _ (s _ _ e)), by rw [← h.len]; exact hi⟩
/-- a list, a tuple, a text: whatever it is -/
def iAny (K : PySem.W.Frag) (tl : TE) : TI := fun σ H R => tl σ H fun x H1 => (∃ a, x = .ref a ∧ (∃ xs, SqL K H1 a xs) ∧ R (Itl K a) H1) ∨ (∃ a, x = .ref a ∧ (∃ xs, SqT K H1 a xs) ∧ R (Itt K a) H1) ∨ (∃ z, x = .str z ∧ R (Its z) H1)
theorem pi_any {X : Cx} {tg l : Expr} {tl : TE} (hl : PE X l tl) : PI X tg l (iAny X.K tl) := by
  refine ⟨fun pins s σ H R I h => ?_⟩
  refine thn (hl.run pins s σ H _ I h) fun v s1 ⟨x, H1, I1, r1, q1⟩ => ?_
  rcases q1 with ⟨a, e, ⟨xs, hq⟩, q⟩ | ⟨a, e, ⟨xs, hq⟩, q⟩ | ⟨z, e, q⟩
  · subst e
    cases r1
    obtain ⟨its, rv, p, hz⟩ := I1.list hq
    refine wpAny_pyIter_list p.isList ?_
    refine ⟨s1.heap.objs.size, [s1.heap.objs.size], _, _, H1, rfl, I1.kept (t' := s1.toks) fun b o e => Heap.get?_push_of_some _ e, turn_list a _, ⟨_, Heap.get?_push_size _ rfl, rfl, rfl⟩, fun b hb => ?_, q⟩
    have e : b = s1.heap.objs.size := by simpa using hb
    subst e
    exact I1.fpOk (Nat.le_refl _) (I1.hok.fresh (Nat.le_refl _))
  · subst e
    cases r1
    obtain ⟨its, rv, p, hz⟩ := I1.tuple hq
    refine wpAny_pyIter_tuple (show s1.heap.IsTuple a its.toArray from p) ?_
    refine ⟨s1.heap.objs.size, [s1.heap.objs.size], _, _, H1, rfl, I1.kept (t' := s1.toks) fun b o e => Heap.get?_push_of_some _ e, turn_tuple a _, ⟨_, Heap.get?_push_size _ rfl, rfl, rfl⟩, fun b hb => ?_, q⟩
    have e : b = s1.heap.objs.size := by simpa using hb
    subst e
    exact I1.fpOk (Nat.le_refl _) (I1.hok.fresh (Nat.le_refl _))
  · subst e
    obtain ⟨t, rfl⟩ := r1
    cases ha : z.cps.all (· < 128)
    · exact wpAny_pyIter_wide ha (pi_one (tk := s1.toks) I1 _ (turn_str _ z t "str_iterator" (.inr rfl)) ⟨_, Heap.get?_push_size _ rfl, rfl, rfl⟩ q)
    · exact wpAny_pyIter_ascii ha (pi_one (tk := s1.toks) I1 _ (turn_str _ z t "str_ascii_iterator" (.inl rfl)) ⟨_, Heap.get?_push_size _ rfl, rfl, rfl⟩ q)
theorem ei_list {ds : List D} (h : Ev1 F tl Δ (.list ds)) : EvI F (iAny K tl) Δ fun r => r = ds := fun H0 S H σ w t R k =>
  h H0 S H σ w t _ fun d v S' H' e g hd => by
    subst e
    simp only [Dt] at hd
    obtain ⟨a, xs, rfl, e1, h1⟩ := hd
    exact .inl ⟨a, rfl, ⟨xs, SqL.of (g.h _ _ e1)⟩, k ds _ S' H' rfl g (walk_list e1 h1)⟩
theorem ei_listP {P : List D → Prop} (h : EvR F tl Δ fun d => ∃ ds, P ds ∧ d = .list ds) : EvI F (iAny K tl) Δ P := fun H0 S H σ w t R k =>
  h H0 S H σ w t _ fun d v S' H' ⟨ds, p, e⟩ g hd => by
    subst e
    simp only [Dt] at hd
    obtain ⟨a, xs, rfl, e1, h1⟩ := hd
    exact .inl ⟨a, rfl, ⟨xs, SqL.of (g.h _ _ e1)⟩, k ds _ S' H' p g (walk_list e1 h1)⟩
theorem ei_tup {ds : List D} (h : Ev1 F tl Δ (.tuple ds)) : EvI F (iAny K tl) Δ fun r => r = ds := fun H0 S H σ w t R k =>
  h H0 S H σ w t _ fun d v S' H' e g hd => by
    subst e
    simp only [Dt] at hd
    obtain ⟨a, xs, rfl, e1, h1⟩ := hd
    exact .inr (.inl ⟨a, rfl, ⟨xs, SqT.of (g.h _ _ e1)⟩, k ds _ S' H' rfl g (walk_tup e1 h1)⟩)
def signs (z : Str) : List D := z.cps.toList.map fun c => D.str ⟨#[c]⟩
theorem ei_str {z : Str} (h : Ev1 F tl Δ (.str z)) : EvI F (iAny K tl) Δ fun r => r = signs z := fun H0 S H σ w t R k =>
  h H0 S H σ w t _ fun d v S' H' e g hd => by
    subst e
    simp only [Dt] at hd
    refine .inr (.inr ⟨z, hd, k _ _ S' H' rfl g ⟨fun i S2 H2 s w hi => ?_, fun i S2 H2 x H3 s w hlt y => ?_, fun i S2 H2 s w hi => ?_⟩⟩)
    · show i < z.cps.size
      simpa [signs] using hi
    · obtain ⟨e1, c, ec, ex⟩ := y
      subst e1
      refine ⟨.str ⟨#[c]⟩, S2, ?_, Gr.refl w.s, by simp only [Dt]; exact ex⟩
      simp [signs, ec]
    · show z.cps.size ≤ i
      simpa [signs] using hi
def rngD (lo : Int) (n : Nat) : List D := (List.range n).map fun i => D.int (lo + (i : Nat))
theorem walk_rng {S : Hp} {lo : Int} {n : Nat} : WalkD F (Itr lo n) S (rngD lo n) where
  go := fun i S' H' s w hi => by
    show i < n
    simpa [rngD] using hi
  yld := fun i S' H' x H'' s w hlt y => by
    obtain ⟨e1, e2⟩ := y
    subst e1
    have hi : i < n := by simpa [rngD] using hlt
    refine ⟨.int (lo + (i : Nat)), S', ?_, Gr.refl w.s, by simp only [Dt]; exact e2⟩
    simp [rngD, hi]
  stop := fun i S' H' s w hi => by
    show n ≤ i
    simpa [rngD] using hi
theorem ei_rngP {ta : TA} {P : Int → Prop} (h : EvA F ta Δ fun ds => ∃ n : Int, P n ∧ ds = [.int n]) (hb : ∀ n, P n → -(2 ^ 62) ≤ n ∧ n < 2 ^ 62) : EvI F (iRng1 ta) Δ fun r => ∃ n : Int, P n ∧ r = rngD 0 n.toNat := fun H0 S H σ w t R k =>
  h H0 S H σ w t _ fun ds vs S' H' ⟨n, p, e⟩ g hd => by
    subst e
    simp only [DtL, Dt] at hd
    obtain ⟨x, ys, rfl, rfl, rfl⟩ := hd
    exact ⟨n, rfl, (hb n p).1, (hb n p).2, k _ _ S' H' ⟨n, p, rfl⟩ g walk_rng⟩
theorem ei_rng {ta : TA} {n : Int} (h : EvA F ta Δ fun ds => ds = [.int n]) (hb : -(2 ^ 62) ≤ n ∧ n < 2 ^ 62) : EvI F (iRng1 ta) Δ fun r => r = rngD 0 n.toNat := fun H0 S H σ w t R k =>
  h H0 S H σ w t _ fun ds vs S' H' e g hd => by
    subst e
    simp only [DtL, Dt] at hd
    obtain ⟨x, ys, rfl, rfl, rfl⟩ := hd
    exact ⟨n, rfl, hb.1, hb.2, k _ _ S' H' rfl g walk_rng⟩
theorem ei_rng2 {ta : TA} {i j : Int} (h : EvA F ta Δ fun ds => ds = [.int i, .int j]) (hb : -(2 ^ 62) ≤ i ∧ i < 2 ^ 62 ∧ -(2 ^ 62) ≤ j ∧ j < 2 ^ 62) : EvI F (iRng2 ta) Δ fun r => r = rngD i (j - i).toNat := fun H0 S H σ w t R k =>
  h H0 S H σ w t _ fun ds vs S' H' e g hd => by
    subst e
    simp only [DtL, Dt] at hd
    obtain ⟨x, ys, rfl, rfl, y, zs, rfl, rfl, rfl⟩ := hd
    exact ⟨i, j, rfl, hb, k _ _ S' H' rfl g walk_rng⟩
/-! targets: which slots, what they hold -/
def Off (js : List Nat) (σ σ' : L2.St) : Prop := σ'.length = σ.length ∧ ∀ i, i ∉ js → σ'[i]? = σ[i]?
def EvG (F : Fp) (g : TG) (d : D) (Δ : List Sl) (js : List Nat) (Δ' : List Sl) : Prop := ∀ (H0 S H : Hp) (σ : L2.St) (v : V), Okw F S H → StD F S H H0 σ Δ → Dt S d v → ∀ Q : L2.St → Hp → Prop, (∀ σ', StD F S H H0 σ' Δ' → Off js σ σ' → Q σ' H) → g v σ H Q
theorem eg_name {j : Nat} {d : D} : EvG F (gName j) d Δ [j] (Δ.set j (.v d)) := fun H0 S H σ v w t hd Q k =>
  k _ (t.setV hd) ⟨by simp, fun i hi => List.getElem?_set_ne (by simpa using Ne.symm (by simpa using hi))⟩
/-- several targets -/
def EvGs (F : Fp) (g : TGs) (ds : List D) (Δ : List Sl) (js : List Nat) (Δ' : List Sl) : Prop := ∀ (H0 S H : Hp) (σ : L2.St) (vs : List V), Okw F S H → StD F S H H0 σ Δ → DtL S ds vs → ∀ Q : L2.St → Hp → Prop, (∀ σ', StD F S H H0 σ' Δ' → Off js σ σ' → Q σ' H) → g vs σ H Q
theorem egs_nil : EvGs F gNil [] Δ [] Δ := fun H0 S H σ vs w t hd Q k => by
  simp only [DtL] at hd
  exact ⟨hd, k σ t ⟨rfl, fun _ _ => rfl⟩⟩
theorem egs_cons {g : TG} {gs : TGs} {d : D} {ds : List D} {js ks : List Nat} {Δ1 Δ2 : List Sl} (h : EvG F g d Δ js Δ1) (hs : EvGs F gs ds Δ1 ks Δ2) : EvGs F (gCons g gs) (d :: ds) Δ (js ++ ks) Δ2 := fun H0 S H σ vs w t hd Q k => by
  simp only [DtL] at hd
  obtain ⟨x, ys, rfl, h1, h2⟩ := hd
  refine ⟨x, ys, rfl, h H0 S H σ x w t h1 _ fun σ1 t1 o1 => ?_⟩
  refine hs H0 S H σ1 ys w t1 h2 Q fun σ2 t2 o2 => k σ2 t2 ⟨o2.1.trans o1.1, fun i hi => ?_⟩
  rw [List.mem_append, not_or] at hi
  rw [o2.2 i hi.2, o1.2 i hi.1]
theorem eg_tup {gs : TGs} {ds : List D} {js : List Nat} {n : Nat} {Δ' : List Sl} (hl : ds.length = n) (h : EvGs F gs ds Δ js Δ') : EvG F (gTup K n gs) (.tuple ds) Δ js Δ' := fun H0 S H σ v w t hd Q k => by
  simp only [Dt] at hd
  obtain ⟨a, xs, rfl, e, h1⟩ := hd
  exact ⟨a, xs, rfl, SqT.of (w.s _ _ e), by rw [← h1.len]; exact hl, h H0 S H σ xs w t h1 Q k⟩
theorem run_asgG {g : TG} {d : D} {js : List Nat} {Δ' : List Sl} (h : Ev1 F te Δ d) (hg : EvG F g d Δ js Δ') (k : po.nx Δ') : Run F fr (tAsg te g) Δ po := fun S0 H0 B S H σ E w gb st r =>
  h H0 S H σ w st _ fun d' v S' H' e g' hd => by
    subst e
    exact hg H0 S' H' σ v (g'.ok w) (st.mono g') hd _ fun σ' t' _ => r.nx _ S' H' _ k (g'.ok w) (gb.step g') t'
theorem run_asgGS {g : TG} {u : TS} {d : D} {js : List Nat} {Δ' : List Sl} (h : Ev1 F te Δ d) (hg : EvG F g d Δ js Δ') (k : Run F fr u Δ' po) : Run F fr (tSeq (tAsg te g) u) Δ po :=
  run_seqM (N := fun z => z = Δ') (run_asgG h hg rfl) fun _ e => e ▸ k
/-- a, b = x, y -/
theorem run_par {i j : Nat} {ta : TA} {Pa : List D → Prop} {u : TS} (h : EvA F ta Δ Pa) (k : ∀ ds, Pa ds → ∃ x y, ds = [x, y] ∧ Run F fr u ((Δ.set i (.v x)).set j (.v y)) po) : Run F fr (tSeq (tPar i j ta) u) Δ po := fun S0 H0 B S H σ E w gb st r =>
  h H0 S H σ w st _ fun ds vs S' H' p g' hd => by
    obtain ⟨x, y, e, k⟩ := k ds p
    subst e
    simp only [DtL] at hd
    obtain ⟨v, ys, rfl, hv, z, zs, rfl, hz, rfl⟩ := hd
    refine ⟨v, z, rfl, ?_⟩
    exact k S0 H0 B S' H' _ E (g'.ok w) (gb.step g') (((st.mono g').setV hv).setV hz) r
/-- a = [.., ..] and b = .. at once, a new list the def's own -/
theorem run_parF1 {i j : Nat} {tb : TE} {u : TS} {Pa : List D → Prop} {Pb : D → Prop} (h : EvF F te Δ Pa) (hb : EvR F tb Δ Pb) (hj : j < Δ.length) (hij : i ≠ j) (k : ∀ ds d, Pa ds → Pb d → Run F fr u ((Δ.set j (.v d)).set i (.own ds)) po) : Run F fr (tSeq (tPar i j (tCons te (tCons tb tNil))) u) Δ po := fun S0 H0 B S H σ E w gb st r =>
  h H0 S H σ w st _ fun ds p xs S1 H1 q g1 hp h1 hs hd => by
    refine hb H0 S1 H1 σ (g1.ok w) (st.mono g1) _ fun d v S2 H2 pd g2 hv => ?_
    refine ⟨.ref p, v, rfl, ?_⟩
    have nf : ¬ fp F p := fun z => by
      obtain ⟨o, e⟩ := st.fh p z
      obtain ⟨o', e'⟩ := gb.g.m _ _ e
      rw [hp] at e'
      cases e'
    have h0 : H0 p = Option.none := by
      cases e : H0 p with
      | none => rfl
      | some o =>
        obtain ⟨o', e'⟩ := gb.g.m p o e
        rw [hp] at e'
        cases e'
    have st2 : StD F S2 H2 H0 (σ.set j (some v)) (Δ.set j (.v d)) := ((st.mono g1).mono g2).setV hv
    have st3 : StD F S2 H2 H0 ((σ.set j (some v)).set i (some (.ref p))) ((Δ.set j (.v d)).set i (.own ds)) := st2.set ⟨p, xs, rfl, g2.k _ _ nf h1, by rw [g2.n _ _ h1]; exact hs, h0, hd.mono g2.s⟩ fun es _ m fs q' e1 e2 e3 => by
      cases e3
      by_cases hm : m = j
      · subst hm
        rw [List.getElem?_set_self hj] at e1
        cases e1
      · rw [List.getElem?_set_ne (Ne.symm hm)] at e1 e2
        obtain ⟨x, f1, q', ys, f2, f3, _⟩ := st.ok m _ e1
        rw [e2] at f1
        cases f1
        cases f2
        rw [hp] at f3
        cases f3
    have e : (σ.set i (some (.ref p))).set j (some v) = (σ.set j (some v)).set i (some (.ref p)) := List.set_comm _ _ hij
    show u E ((σ.set i (some (.ref p))).set j (some v)) H2
    rw [e]
    exact k ds d q pd S0 H0 B S2 H2 _ E (g2.ok (g1.ok w)) ((gb.step g1).step g2) st3 r
/-! loops -/
theorem run_forP {wi : TI} {g : TG} {tb : TS} {Pd : List D → Prop} (h : EvI F wi Δ Pd) (I : List D → Nat → List Sl → Prop) (h0 : ∀ ds, Pd ds → I ds 0 Δ)
    (hs : ∀ ds i d Δ', Pd ds → ds[i]? = some d → I ds i Δ' → ∃ js Δ'', EvG F g d Δ' js Δ'' ∧ Run F fr tb Δ'' { nx := I ds (i + 1), ct := I ds (i + 1), bk := po.nx, rt := po.rt, ro := po.ro }) (hd : ∀ ds Δ', Pd ds → I ds ds.length Δ' → po.nx Δ') :
    Run F fr (tFor wi g tb) Δ po := fun S0 H0 B S H σ E w gb st r => by
  refine h H0 S H σ w st _ fun ds J S1 H1 p g1 W => ?_
  refine ⟨fun i m σ' H' => m = ds.length - i ∧ i ≤ ds.length ∧ ∃ Δ' S', I ds i Δ' ∧ Okw F S' H' ∧ Gb F S0 H0 B S' H' ∧ Same S1 S' ∧ StD F S' H' H0 σ' Δ', ⟨ds.length, rfl, Nat.zero_le _, Δ, S1, h0 ds p, g1.ok w, gb.step g1, Same.refl _, st.mono g1⟩, ?_⟩
  rintro i m σ' H' ⟨rfl, hi, Δ', S', hI, w', gb', sm, st'⟩
  by_cases hlt : i < ds.length
  · refine .inr ⟨W.go i S' H' sm w' hlt, fun σ2 H2 => ∃ Δ2 S2, I ds (i + 1) Δ2 ∧ Okw F S2 H2 ∧ Gb F S0 H0 B S2 H2 ∧ Same S1 S2 ∧ StD F S2 H2 H0 σ2 Δ2, fun σ2 H2 z => ⟨ds.length - (i + 1), by omega, rfl, hlt, z⟩, fun x H2 y => ?_⟩
    obtain ⟨d, S2, e, g2, hx⟩ := W.yld i S' H' x H2 sm w' hlt y
    obtain ⟨js, Δ2, hg, hr⟩ := hs ds i d Δ' p e hI
    refine hg H0 S2 H2 σ' x (g2.ok w') (st'.mono g2) hx _ fun σ2 st2 _ => ?_
    refine hr S0 H0 S1 S2 H2 σ2 _ (g2.ok w') ⟨(gb'.step g2).g, sm.trans g2.s⟩ st2 ⟨?_, ?_, ?_, ?_⟩
    · exact fun Δ3 S3 H3 σ3 n w3 gb3 st3 => ⟨Δ3, S3, n, w3, ⟨gb3.g, ((gb.step g1).b.trans gb3.b)⟩, gb3.b, st3⟩
    · exact r.rt
    · exact fun Δ3 S3 H3 σ3 n w3 gb3 st3 => r.nx Δ3 S3 H3 σ3 n w3 ⟨gb3.g, ((gb.step g1).b.trans gb3.b)⟩ st3
    · exact fun Δ3 S3 H3 σ3 n w3 gb3 st3 => ⟨Δ3, S3, n, w3, ⟨gb3.g, ((gb.step g1).b.trans gb3.b)⟩, gb3.b, st3⟩
  · have e : i = ds.length := by omega
    subst e
    exact .inl ⟨W.stop _ S' H' sm w' (Nat.le_refl _), r.nx Δ' S' H' σ' (hd ds Δ' p hI) w' gb' st'⟩
theorem run_for {wi : TI} {g : TG} {tb : TS} {ds : List D} (h : EvI F wi Δ fun r => r = ds) (I : Nat → List Sl → Prop) (h0 : I 0 Δ)
    (hs : ∀ i d Δ', ds[i]? = some d → I i Δ' → ∃ js Δ'', EvG F g d Δ' js Δ'' ∧ Run F fr tb Δ'' { nx := I (i + 1), ct := I (i + 1), bk := po.nx, rt := po.rt, ro := po.ro }) (hd : ∀ Δ', I ds.length Δ' → po.nx Δ') :
    Run F fr (tFor wi g tb) Δ po := run_forP h (fun _ => I) (fun _ _ => h0) (fun ds' i d Δ' e1 e2 z => by subst e1; exact hs i d Δ' e2 z) fun ds' Δ' e z => by subst e; exact hd Δ' z
theorem run_while {c : TT} {tb : TS} (I : List Sl → Prop) (μ : List Sl → Nat) (h0 : I Δ)
    (hs : ∀ Δ', I Δ' → ∃ P : Bool → Prop, EvT F c Δ' P ∧ (P true → Run F fr tb Δ' { nx := fun z => I z ∧ μ z < μ Δ', ct := fun z => I z ∧ μ z < μ Δ', bk := po.nx, rt := po.rt, ro := po.ro }) ∧ (P false → po.nx Δ')) : Run F fr (tWhile c tb) Δ po := fun S0 H0 B S H σ E w gb st r => by
  refine ⟨fun m σ' H' => ∃ Δ' S', m = μ Δ' ∧ I Δ' ∧ Okw F S' H' ∧ Gb F S0 H0 B S' H' ∧ StD F S' H' H0 σ' Δ', ⟨μ Δ, Δ, S, rfl, h0, w, gb, st⟩, ?_⟩
  rintro m σ' H' ⟨Δ', S', rfl, hI, w', gb', st'⟩
  obtain ⟨P, hc, ht, hf⟩ := hs Δ' hI
  refine hc H0 S' H' σ' w' st' _ fun b S2 H2 p g2 => ?_
  cases b with
  | false => exact r.nx Δ' S2 H2 σ' (hf p) (g2.ok w') (gb'.step g2) (st'.mono g2)
  | true =>
    refine ⟨fun σ3 H3 => ∃ Δ3 S3, (I Δ3 ∧ μ Δ3 < μ Δ') ∧ Okw F S3 H3 ∧ Gb F S0 H0 B S3 H3 ∧ StD F S3 H3 H0 σ3 Δ3, fun σ3 H3 ⟨Δ3, S3, ⟨i3, l3⟩, w3, gb3, st3⟩ => ⟨μ Δ3, l3, Δ3, S3, rfl, i3, w3, gb3, st3⟩, ?_⟩
    exact ht p S0 H0 B S2 H2 σ' _ (g2.ok w') (gb'.step g2) (st'.mono g2) ⟨fun Δ3 S3 H3 σ3 n w3 gb3 st3 => ⟨Δ3, S3, n, w3, gb3, st3⟩, r.rt, r.nx, fun Δ3 S3 H3 σ3 n w3 gb3 st3 => ⟨Δ3, S3, n, w3, gb3, st3⟩⟩
/-! comprehensions -/
def wipeD (Δ : List Sl) : List Nat → List Sl
  | [] => Δ
  | v :: vs => (wipeD Δ vs).set v .un
theorem StD.wipes {S H H0 : Hp} {σ : L2.St} (t : StD F S H H0 σ Δ) : ∀ vs : List Nat, StD F S H H0 (L2.wipe σ vs) (wipeD Δ vs)
  | [] => t
  | v :: vs => (StD.wipes t vs).wipe v
theorem wipe_get {σ : L2.St} {i : Nat} : ∀ {vs : List Nat}, (wipe σ vs)[i]? = if i ∈ vs then (if i < σ.length then some Option.none else Option.none) else σ[i]?
  | [] => by simp [wipe]
  | v :: vs => by
    unfold wipe
    by_cases h : i = v
    · subst h
      by_cases hl : i < σ.length
      · rw [List.getElem?_set_self (by rw [wipe_length]; exact hl)]
        simp [hl]
      · rw [List.getElem?_eq_none (by simp [wipe_length]; omega)]
        simp [hl]
    · rw [List.getElem?_set_ne (Ne.symm h), wipe_get (vs := vs)]
      simp [h]
theorem wipe_off {σ σ' : L2.St} {js vs : List Nat} (o : Off js σ σ') (hj : ∀ j ∈ js, j ∈ vs) : wipe σ' vs = wipe σ vs := by
  refine List.ext_getElem? fun i => ?_
  rw [wipe_get, wipe_get]
  by_cases h : i ∈ vs
  · simp [h, o.1]
  · simp only [h, if_false]
    exact o.2 i fun z => h (hj i z)
theorem wipe_wipe {σ : L2.St} {vs : List Nat} : wipe (wipe σ vs) vs = wipe σ vs := by
  refine List.ext_getElem? fun i => ?_
  rw [wipe_get, wipe_get]
  by_cases h : i ∈ vs <;> simp [h, wipe_length]
theorem ef_lcP {wi : TI} {g : TG} {tt : TT} {vs : List Nat} {Pd Pr : List D → Prop} (h : EvI F wi Δ Pd) (hz : ∀ ds, Pd ds → ds.length ≤ sizeLine) (J : List D → Nat → List D → Prop) (h0 : ∀ ds, Pd ds → J ds 0 [])
    (hs : ∀ ds i d acc, Pd ds → ds[i]? = some d → J ds i acc → acc.length ≤ i → ∃ js Δ', EvG F g d (wipeD Δ vs) js Δ' ∧ (∀ j ∈ js, j ∈ vs) ∧ ∃ Pt : Bool → Prop, EvT F tt Δ' Pt ∧ (Pt false → J ds (i + 1) acc) ∧ (Pt true → EvR F te Δ' fun e => J ds (i + 1) (acc ++ [e])))
    (hd : ∀ ds acc, Pd ds → J ds ds.length acc → Pr acc) : EvF F (tLc wi g tt te vs) Δ Pr := fun H0 S H σ w st Q k => by
  refine h H0 S H σ w st _ fun ds Jt S1 H1 p g1 W => ?_
  intro L hL
  have hLH : H L = Option.none := by
    cases e : H L with
    | none => rfl
    | some o =>
      obtain ⟨o', e'⟩ := g1.m L o e
      rw [hL] at e'
      cases e'
  have nfL : ¬ fp F L := fun z => by
    obtain ⟨a, c, ef, z⟩ := z
    obtain ⟨_, _, ns, l, m, t, e1, e2, _⟩ := (g1.ok w).src a c ef
    rcases z with rfl | rfl
    · rw [hL] at e1; cases e1
    · rw [hL] at e2; cases e2
  refine ⟨fun i m H' => m = ds.length - i ∧ i ≤ ds.length ∧ ∃ acc xs S', J ds i acc ∧ acc.length ≤ i ∧ Okw F S' H' ∧ Gr F S H S' H' ∧ Same S1 S' ∧ H' L = some (.lst xs) ∧ S' L = Option.none ∧ DtL S' acc xs,
    ⟨ds.length, rfl, Nat.zero_le _, [], [], S1, h0 ds p, Nat.le_refl _, (Gr.new (F := F) g1.h hL).ok (g1.ok w), g1.trans (Gr.new g1.h hL), Same.refl _, upd_same, Same.free g1.h hL, dtl_nil⟩, ?_⟩
  rintro i m H' ⟨rfl, hi, acc, xs, S', hJ, hla, w', g', sm, hx, hsx, hdl⟩
  by_cases hlt : i < ds.length
  · refine .inr ⟨W.go i S' H' sm w' hlt, fun H2 => ∃ acc xs S', J ds (i + 1) acc ∧ acc.length ≤ i + 1 ∧ Okw F S' H2 ∧ Gr F S H S' H2 ∧ Same S1 S' ∧ H2 L = some (.lst xs) ∧ S' L = Option.none ∧ DtL S' acc xs, fun H2 z => ⟨ds.length - (i + 1), by omega, rfl, hlt, z⟩, fun x H2 y => ?_⟩
    obtain ⟨d, S2, e, g2, hxd⟩ := W.yld i S' H' x H2 sm w' hlt y
    obtain ⟨js, Δ2, hg, hjs, Pt, hT, hF, hE⟩ := hs ds i d acc p e hJ hla
    have stw : StD F S2 H2 H0 (wipe σ vs) (wipeD Δ vs) := ((st.mono g').mono g2).wipes vs
    refine hg H0 S2 H2 (wipe σ vs) x (g2.ok w') stw hxd _ fun σ2 st2 off => ?_
    refine ⟨by rw [wipe_off off hjs, wipe_wipe], ?_⟩
    refine hT H0 S2 H2 σ2 (g2.ok w') st2 _ fun b S3 H3 pb g3 => ?_
    have gg := (g'.trans g2).trans g3
    have h3 : H3 L = some (.lst xs) := g3.k _ _ nfL (g2.k _ _ nfL hx)
    have s3 : S3 L = Option.none := by rw [g3.n _ _ (g2.k _ _ nfL hx), g2.n _ _ hx]; exact hsx
    cases b with
    | false => exact ⟨acc, xs, S3, hF pb, by omega, g3.ok (g2.ok w'), gg, (sm.trans g2.s).trans g3.s, h3, s3, (hdl.mono g2.s).mono g3.s⟩
    | true =>
      refine hE pb H0 S3 H3 σ2 (g3.ok (g2.ok w')) (st2.mono g3) _ fun ed v S4 H4 pe g4 hv => ?_
      have h4 : H4 L = some (.lst xs) := g4.k _ _ nfL h3
      have s4 : S4 L = Option.none := by rw [g4.n _ _ h3]; exact s3
      have hlen : xs.length = acc.length := hdl.len.symm
      refine ⟨xs, h4, ?_, acc ++ [ed], xs ++ [v], S4, pe, by simp; omega, ?_, (gg.trans g4).mut hLH s4 h4, ((sm.trans g2.s).trans g3.s).trans g4.s, upd_same, s4, (((hdl.mono g2.s).mono g3.s).mono g4.s).append (dtl_cons hv dtl_nil)⟩
      · have := hz ds p
        omega
      · have w4 := g4.ok (g3.ok (g2.ok w'))
        exact ((gg.trans g4).mut hLH s4 h4).ok w
  · have e : i = ds.length := by omega
    subst e
    exact .inl ⟨W.stop _ S' H' sm w' (Nat.le_refl _), k acc L xs S' H' (hd ds acc p hJ) g' hLH hx hsx hdl⟩
end
end Bc

/-! Core 4: promises by data, calls, a def's body. -/
namespace Bc
open PySem L2 PySem.Spec PyProof.Rows
/-- the arguments: the source ahead of them, or data alone -/
def ArgOk (src : Bool) (F : Fp) (S : Hp) (vs : List V) (ds : List D) : Prop :=
  match src with
  | true => ∃ a c us, F = some (a, c) ∧ vs = .ref a :: us ∧ DtL S ds us
  | false => F = Option.none ∧ DtL S ds vs
def SpD (src fr : Bool) (R : List D → D → Prop) : Sp := fun vs H Q _ => ∃ F S ds, Okw F S H ∧ ArgOk src F S vs ds ∧ (∃ d, R ds d) ∧ ∀ d v S' H', R ds d → Giv fr F S H d v S' H' → Q v H'
structure FnT (P : Program) (w : World) (K : PySem.W.Frag) (mg : Str → Option Value) (base : Heap) (k : Nat) (x : Str) (ps : List Str) (sp : Sp) : Prop where
  ex : ∃ f fd, mg x = some (.ref f) ∧ PySem.W.keepIn K (.ref f) = true ∧ Binds K fd ps [] ∧ FnOk P w K mg base CX0 k f fd ps sp
section
variable {F : Fp} {fr : Bool} {Δ : List Sl} {ta : TA} {R : List D → D → Prop} {E : XK}
theorem ev_call {Pa : List D → Prop} (h : EvA F ta Δ Pa) (hR : ∀ ds, Pa ds → ∃ d, R ds d) : EvR F (tCall (SpD false false R) [] E ta) Δ fun d => ∃ ds, Pa ds ∧ R ds d := fun H0 S H σ w t Q k =>
  h H0 S H σ w t _ fun ds vs S' H' p g hd => by
    rw [List.append_nil]
    exact ⟨Option.none, S', ds, (g.ok w).base, ⟨rfl, hd⟩, hR ds p, fun d v S2 H2 r gv => k d v S2 H2 ⟨ds, p, r⟩ (g.trans gv.g.up) (gv.vl rfl)⟩
theorem ev_call1 {ds : List D} {d : D} (h : EvA F ta Δ fun r => r = ds) (hR : R ds d) (hu : ∀ e, R ds e → e = d) : Ev1 F (tCall (SpD false false R) [] E ta) Δ d :=
  (ev_call h fun _ e => e ▸ ⟨d, hR⟩).imp fun e ⟨_, e1, e2⟩ => hu e (e1 ▸ e2)
theorem ef_call {Pa : List D → Prop} (h : EvA F ta Δ Pa) (hR : ∀ ds, Pa ds → ∃ d, R ds d) : EvF F (tCall (SpD false true R) [] E ta) Δ fun es => ∃ ds, Pa ds ∧ R ds (.list es) := fun H0 S H σ w t Q k =>
  h H0 S H σ w t _ fun ds vs S' H' p g hd => by
    rw [List.append_nil]
    refine ⟨Option.none, S', ds, (g.ok w).base, ⟨rfl, hd⟩, hR ds p, fun d v S2 H2 r gv => ?_⟩
    obtain ⟨es, q, xs, e1, e2, e3, e4, e5, e6⟩ := gv.f rfl
    subst e1
    subst e2
    refine k es q xs S2 H2 ⟨ds, p, r⟩ (g.trans gv.g.up) ?_ e3 e4 e6
    cases e : H q with
    | none => rfl
    | some o =>
      obtain ⟨o', e'⟩ := g.m q o e
      rw [e5] at e'
      cases e'
theorem ev_callS {i : Nat} {Pa : List D → Prop} (hi : Δ[i]? = some .src) (h : EvA F ta Δ Pa) (hR : ∀ ds, Pa ds → ∃ d, R ds d) : EvR F (tCall (SpD true false R) [] E (tCons (tVar i) ta)) Δ fun d => ∃ ds, Pa ds ∧ R ds d := fun H0 S H σ w t Q k => by
  obtain ⟨x, e1, a, c, e2, rfl⟩ := t.ok i _ hi
  refine ⟨_, e1, h H0 S H σ w t _ fun ds vs S' H' p g hd => ?_⟩
  show SpD true false R (.ref a :: vs ++ []) H' Q E
  rw [List.append_nil]
  exact ⟨F, S', ds, g.ok w, ⟨a, c, vs, e2, rfl, hd⟩, hR ds p, fun d v S2 H2 r gv => k d v S2 H2 ⟨ds, p, r⟩ (g.trans gv.g) (gv.vl rfl)⟩
theorem ef_callS {i : Nat} {Pa : List D → Prop} (hi : Δ[i]? = some .src) (h : EvA F ta Δ Pa) (hR : ∀ ds, Pa ds → ∃ d, R ds d) : EvF F (tCall (SpD true true R) [] E (tCons (tVar i) ta)) Δ fun es => ∃ ds, Pa ds ∧ R ds (.list es) := fun H0 S H σ w t Q k => by
  obtain ⟨x, e1, a, c, e2, rfl⟩ := t.ok i _ hi
  refine ⟨_, e1, h H0 S H σ w t _ fun ds vs S' H' p g hd => ?_⟩
  show SpD true true R (.ref a :: vs ++ []) H' Q E
  rw [List.append_nil]
  refine ⟨F, S', ds, g.ok w, ⟨a, c, vs, e2, rfl, hd⟩, hR ds p, fun d v S2 H2 r gv => ?_⟩
  obtain ⟨es, q, xs, z1, z2, e3, e4, e5, e6⟩ := gv.f rfl
  subst z1
  subst z2
  refine k es q xs S2 H2 ⟨ds, p, r⟩ (g.trans gv.g) ?_ e3 e4 e6
  cases e : H q with
  | none => rfl
  | some o =>
    obtain ⟨o', e'⟩ := g.m q o e
    rw [e5] at e'
    cases e'
end
section
variable {X : Cx} {k : Nat} {x : Str} {ps : List Str} {sp : Sp} {e : Expr} {es : List Expr} {t : TA} {p pos : Pos}
theorem pe_callT (G : FnT X.prog X.w X.K X.mg X.base k x ps sp) (hr : Room k X.A) (ha : PA X (e :: es) t) (hg : Gl X x := by rfl)
    (hdb : (x == ("__debug__" : Str)) = false := by decide) (he : starEach (e :: es) X.env = (false, eval e X.env) :: starEach es X.env := by rfl) (hpl : (backTo pos (starEach es X.env)).any (·.1) = false := by rfl) :
    PE X (.Call (.Name x p) (e :: es) [] pos) (tCall sp [] E0 t) := by
  obtain ⟨f, fd, h1, h2, h3, h4⟩ := G.ex
  exact pe_call h4 hr hg h1 h2 h3 .nil pass0 ha hdb he hpl
theorem pe_callT0 (G : FnT X.prog X.w X.K X.mg X.base k x ps sp) (hr : Room k X.A) (hg : Gl X x := by rfl) (hdb : (x == ("__debug__" : Str)) = false := by decide) :
    PE X (.Call (.Name x p) [] [] pos) (tCall sp [] E0 tNil) := by
  obtain ⟨f, fd, h1, h2, h3, h4⟩ := G.ex
  exact pe_call0 h4 hr hg h1 h2 h3 .nil pass0 hdb
end
/-- the slots at the entry -/
def ini (src : Bool) (n : Nat) (ds : List D) : List Sl := (if src then [Sl.src] else []) ++ (ds.map Sl.v ++ List.replicate (n - ds.length - (if src then 1 else 0)) Sl.un)
theorem okL {S : Hp} {F : Fp} {H H0 : Hp} : ∀ {ds : List D} {vs : List V} {i : Nat} {s : Sl}, DtL S ds vs → (ds.map Sl.v)[i]? = some s → ∃ x, (vs.map some)[i]? = some x ∧ SlOk F S H H0 s x := fun {ds vs i s} h e => by
  rw [List.getElem?_map] at e
  cases q : ds[i]? with
  | none => rw [q] at e; cases e
  | some d =>
    rw [q] at e
    cases e
    obtain ⟨x, e2, hx⟩ := h.get q
    exact ⟨some x, by rw [List.getElem?_map, e2]; rfl, x, rfl, hx⟩
theorem no_own {ds : List D} {m i : Nat} {l : List D} (h : (ds.map Sl.v ++ List.replicate m Sl.un)[i]? = some (.own l)) : False := by
  have := List.mem_of_getElem? h
  rw [List.mem_append, List.mem_map, List.mem_replicate] at this
  rcases this with ⟨d, _, e⟩ | ⟨_, e⟩ <;> cases e
theorem st_ini {src : Bool} {F : Fp} {S H : Hp} {N : List Str} {vs : List V} {ds : List D} (w : Okw F S H) (a : ArgOk src F S vs ds) (hl : vs.length ≤ N.length) : StD F S H H (L2.start N vs) (ini src N.length ds) := by
  have fh : ∀ x, fp F x → ∃ o, H x = some o := fun x ⟨a, c, e, z⟩ => by
    obtain ⟨_, _, ns, l, m, t, e1, e2, _⟩ := w.src a c e
    rcases z with rfl | rfl
    · exact ⟨_, e1⟩
    · exact ⟨_, e2⟩
  cases src with
  | false =>
    obtain ⟨_, hd⟩ := a
    have e : ini false N.length ds = ds.map Sl.v ++ List.replicate (N.length - ds.length) Sl.un := by simp [ini]
    rw [e]
    refine ⟨by simp [L2.start, hd.len], fun i s q => ?_, fun i j l m p q _ _ _ => (no_own q).elim, fh⟩
    unfold L2.start
    by_cases hi : i < ds.length
    · rw [List.getElem?_append_left (by simpa using hi)] at q
      rw [List.getElem?_append_left (by simpa [← hd.len] using hi)]
      exact okL hd q
    · rw [List.getElem?_append_right (by simpa using hi)] at q
      rw [List.getElem?_append_right (by simp [← hd.len]; omega)]
      have hm := List.mem_of_getElem? q
      have hlt := (List.getElem?_eq_some_iff.mp q).1
      rw [List.mem_replicate] at hm
      simp only [List.length_map, List.length_replicate] at hlt ⊢
      rw [hm.2]
      refine ⟨Option.none, ?_, trivial⟩
      rw [List.getElem?_replicate, if_pos]
      rw [← hd.len]
      exact hlt
  | true =>
    obtain ⟨a0, c, us, eF, rfl, hd⟩ := a
    have e : ini true N.length ds = Sl.src :: (ds.map Sl.v ++ List.replicate (N.length - ds.length - 1) Sl.un) := by simp [ini]
    have e2 : L2.start N (.ref a0 :: us) = some (.ref a0) :: (us.map some ++ List.replicate (N.length - us.length - 1) Option.none) := by
      simp only [L2.start, List.map_cons, List.length_cons, List.cons_append, Nat.sub_sub]
    rw [e, e2]
    refine ⟨by simp [hd.len], fun i s q => ?_, fun i j l m p q q2 _ _ => ?_, fh⟩
    · cases i with
      | zero =>
        simp only [List.getElem?_cons_zero, Option.some.injEq] at q
        subst q
        exact ⟨_, rfl, a0, c, eF, rfl⟩
      | succ i =>
        rw [List.getElem?_cons_succ] at q
        rw [List.getElem?_cons_succ]
        by_cases hi : i < ds.length
        · rw [List.getElem?_append_left (by simpa using hi)] at q
          rw [List.getElem?_append_left (by simpa [← hd.len] using hi)]
          exact okL hd q
        · rw [List.getElem?_append_right (by simpa using hi)] at q
          rw [List.getElem?_append_right (by simp [← hd.len]; omega)]
          have hm := List.mem_of_getElem? q
          have hlt := (List.getElem?_eq_some_iff.mp q).1
          rw [List.mem_replicate] at hm
          simp only [List.length_map, List.length_replicate] at hlt ⊢
          rw [hm.2]
          refine ⟨Option.none, ?_, trivial⟩
          rw [List.getElem?_replicate, if_pos]
          rw [← hd.len]
          exact hlt
    · cases i with
      | zero => simp at q
      | succ i => exact (no_own (by simpa using q)).elim
section
variable {P : Program} {w : World} {K : PySem.W.Frag} {mg : Str → Option Value} {base : Heap}
theorem arg_len {src : Bool} {F : Fp} {S : Hp} {vs : List V} {ds : List D} (a : ArgOk src F S vs ds) : vs.length = ds.length + (if src then 1 else 0) := by
  cases src with
  | false => obtain ⟨_, hd⟩ := a; rw [hd.len]; rfl
  | true => obtain ⟨_, _, us, _, rfl, hd⟩ := a; rw [hd.len]; rfl
theorem ok_D {x qual : Str} {st : Stmt} {f : Addr} {fd : FuncData} {N ps : List Str} {k : Nat} {src fr : Bool} {R : List D → D → Prop} (Fu : Fun K x qual st f fd) (S : FnScope N ps (defScope st)) (hl : ∀ ds d, R ds d → ds.length + (if src then 1 else 0) = ps.length)
    (hbody : ∀ (cdv : Value) (A : Around) (outer : List Env) (s : Shared) (H : Hp) (E : XK), Room k (A.deeper (envOfC qual (defScope st) s.heap.objs.size f cdv)) →
      ∃ t, PSs (cxOf CX0 P w K mg base N qual (defScope st) f cdv A outer s H E).nox (defBody st) t ∧ ∀ F ds, (src = false → F = Option.none) → (∃ d, R ds d) → Run F fr t (ini src N.length ds) { nx := fun _ => fr = false ∧ R ds .none, rt := R ds }) :
    FnOk P w K mg base CX0 (k + 1) f fd ps (SpD src fr R) := by
  have hps : ps.length ≤ N.length := by
    have := congrArg List.length S.pre
    rw [List.length_take] at this
    omega
  refine Fu.ok S (fun vs H Q E h => ?_) (fun cdv A outer s H vs Q E hr h => ?_)
  · obtain ⟨F, S', ds, _, a, ⟨d, r⟩, _⟩ := h
    rw [arg_len a]
    exact hl ds d r
  · obtain ⟨F, S', ds, w', a, ⟨d, r⟩, hk⟩ := h
    obtain ⟨t, ht, hrun⟩ := hbody cdv A outer s H E hr
    refine ⟨t, ht, hrun F ds (fun e => by subst e; exact a.1) ⟨d, r⟩ S' H S' S' H _ _ w' ⟨Gr.refl w'.s, Same.refl _⟩ (st_ini w' a (by rw [arg_len a, hl ds d r]; exact hps)) ⟨?_, ?_, fun _ _ _ _ z => z.elim, fun _ _ _ _ z => z.elim⟩⟩
    · exact fun Δ S2 H2 σ n w2 g2 _ => hk .none .non S2 H2 n.2 ⟨g2.g, fun _ => by simp only [Dt], fun e => by rw [n.1] at e; cases e⟩
    · exact fun d v _ S2 H2 _ q _ _ _ gv => hk d v S2 H2 q gv
end
end Bc

/-! Core G: promises where no repr is under way (guards = []): wanted by repr of lists and tuples. -/
namespace Bc
open PySem L2 PySem.Spec PyProof.Rows
structure FnOkG (P : Program) (w : World) (K : PySem.W.Frag) (mg : Str → Option Value) (base : Heap) (k : Nat) (f : Addr) (fd : FuncData) (ps : List Str) (sp : Sp) : Prop where
  len : ∀ vs H Q E, sp vs H Q E → vs.length = ps.length
  run : ∀ (A : Around) (outer : List Env) (s : Shared) (H : Hp) (args : Args) (us : List Value) (vs : List V) (Q : VK) (E : XK), A.guards = some [] → Room k A → Env0 P w K mg base A outer s H → BindsTo s fd args (ps.zip us) → Vals vs us → sp vs H Q E →
    codeAny (model P w) A (.call (.ref f) args) (CR CX0 outer P w H s Q E) s
theorem FnOkG.of {P : Program} {w : World} {K : PySem.W.Frag} {mg : Str → Option Value} {base : Heap} {k : Nat} {f : Addr} {fd : FuncData} {ps : List Str} {sp : Sp} (G : FnOk P w K mg base CX0 k f fd ps sp) : FnOkG P w K mg base k f fd ps sp :=
  ⟨G.len, fun A o s H args us vs Q E _ hr => G.run A o s H args us vs Q E hr⟩
structure FnTG (P : Program) (w : World) (K : PySem.W.Frag) (mg : Str → Option Value) (base : Heap) (k : Nat) (x : Str) (ps : List Str) (sp : Sp) : Prop where
  ex : ∃ f fd, mg x = some (.ref f) ∧ PySem.W.keepIn K (.ref f) = true ∧ Binds K fd ps [] ∧ FnOkG P w K mg base k f fd ps sp
theorem FnT.toG {P : Program} {w : World} {K : PySem.W.Frag} {mg : Str → Option Value} {base : Heap} {k : Nat} {x : Str} {ps : List Str} {sp : Sp} (T : FnT P w K mg base k x ps sp) : FnTG P w K mg base k x ps sp := by
  obtain ⟨f, fd, a, b, c, d⟩ := T.ex
  exact ⟨f, fd, a, b, c, .of d⟩
theorem FnT.mono {P : Program} {w : World} {K : PySem.W.Frag} {mg : Str → Option Value} {base : Heap} {k j : Nat} {x : Str} {ps : List Str} {sp : Sp} (T : FnT P w K mg base j x ps sp) (h : j ≤ k) : FnT P w K mg base k x ps sp := by
  obtain ⟨f, fd, a, b, c, d⟩ := T.ex
  exact ⟨f, fd, a, b, c, d.mono h⟩
section
variable {P : Program} {w : World} {K : PySem.W.Frag} {mg : Str → Option Value} {base : Heap} {k : Nat} {f : Addr} {fd : FuncData} {ps : List Str} {sp : Sp}
theorem bodyG {x qual : Str} {st : Stmt} {N : List Str} (Fu : Fun K x qual st f fd) (Sc : FnScope N ps (defScope st)) (len : ∀ vs H Q E, sp vs H Q E → vs.length = ps.length)
    (hbody : ∀ (cdv : Value) (A : Around) (outer : List Env) (s : Shared) (H : Hp) (vs : List V) (Q : VK) (E : XK), A.guards = some [] → Room k (A.deeper (envOfC qual (defScope st) s.heap.objs.size f cdv)) → sp vs H Q E →
      ∃ t, PSs (cxOf CX0 P w K mg base N qual (defScope st) f cdv A outer s H E).nox (defBody st) t ∧ t { nx := fun _ H' => Q .non H', rt := Q } (L2.start N vs) H) : FnOkG P w K mg base (k + 1) f fd ps sp := by
  obtain ⟨oc, od, kV, doc, pm, an, cdv, ct, osl, rfl, lk, hcd⟩ := Fu.ex
  refine ⟨len, fun A outer s0 H args us vs Q E gA rm env0 hb rel hsp => ?_⟩
  have nvs := len _ _ _ _ hsp
  have inK : K.In s0.heap := env0.mod.kin.keeps fun b o z => (env0.bs b o z).1
  have lim := env0.mod.nolimit.keeps fun b o z => (env0.bs b o z).1
  have kinds : ∀ y ∈ ps.zip us, (defScope st).names.lookup y.1 = some .local ∨ ((defScope st).names.lookup y.1 = some .cell ∧ ((cellsFrom (s0.heap.objs.size + 1) (defScope st).names []).lookup y.1).isSome = true) := by
    rintro ⟨n, v⟩ hy
    cases Sc.par n (List.of_mem_zip hy).1 with
    | inl q => exact Or.inl q
    | inr q => exact Or.inr ⟨q, PySem.W.cellsFrom_some _ _ _ (Or.inl q)⟩
  refine codeAny_call_function rm.depth (inK _ _ lk) rfl Sc.co Sc.gen rfl (PySem.W.codeRec_of inK hcd) (hb _ _ _ _ ?_)
  refine wpAny_newFunctionEnv_cells Sc.kind kinds ?_
  intro env ee s1 ic
  subst ee
  refine ⟨lim.keeps ic.toInCall.keep, codeAny_func ?_⟩
  obtain ⟨t, tk, tq⟩ := hbody cdv A outer s0 H vs Q E gA (rm.deeper _) hsp
  have I1 : Inv (cxOf CX0 P w K mg base N qual (defScope st) f cdv A outer s0 H E) [] (L2.start N vs) H s1 := inv_start Sc rm.hd env0 nvs rel ic
  refine wpAny_mono (tk.nox.run [] s1 (L2.start N vs) H _ I1 tq) (fun fl s2 hs => ?_) fun e s2 hs => hs
  cases fl with
  | ret u =>
    obtain ⟨v, _, H', J, rv, q⟩ := hs
    exact ⟨v, H', J.os, J.bare, J.base, J.hok, rv, q⟩
  | next =>
    obtain ⟨_, H', J, q⟩ := hs
    exact ⟨V.non, H', J.os, J.bare, J.base, J.hok, (rfl : RelV V.non Value.none), q⟩
  | brk =>
    obtain ⟨_, _, _, z⟩ := hs
    exact False.elim z
  | cont =>
    obtain ⟨_, _, _, z⟩ := hs
    exact False.elim z
theorem ok_DG {x qual : Str} {st : Stmt} {N : List Str} {src fr : Bool} {R : List D → D → Prop} (Fu : Fun K x qual st f fd) (S : FnScope N ps (defScope st)) (hl : ∀ ds d, R ds d → ds.length + (if src then 1 else 0) = ps.length)
    (hbody : ∀ (cdv : Value) (A : Around) (outer : List Env) (s : Shared) (H : Hp) (E : XK), A.guards = some [] → Room k (A.deeper (envOfC qual (defScope st) s.heap.objs.size f cdv)) →
      ∃ t, PSs (cxOf CX0 P w K mg base N qual (defScope st) f cdv A outer s H E).nox (defBody st) t ∧ ∀ F ds, (src = false → F = Option.none) → (∃ d, R ds d) → Run F fr t (ini src N.length ds) { nx := fun _ => fr = false ∧ R ds .none, rt := R ds }) :
    FnOkG P w K mg base (k + 1) f fd ps (SpD src fr R) := by
  have hps : ps.length ≤ N.length := by
    have := congrArg List.length S.pre
    rw [List.length_take] at this
    omega
  refine bodyG Fu S (fun vs H Q E h => ?_) (fun cdv A outer s H vs Q E gA hr h => ?_)
  · obtain ⟨F, S', ds, _, a, ⟨d, r⟩, _⟩ := h
    rw [arg_len a]
    exact hl ds d r
  · obtain ⟨F, S', ds, w', a, ⟨d, r⟩, hk⟩ := h
    obtain ⟨t, ht, hrun⟩ := hbody cdv A outer s H E gA hr
    refine ⟨t, ht, hrun F ds (fun e => by subst e; exact a.1) ⟨d, r⟩ S' H S' S' H _ _ w' ⟨Gr.refl w'.s, Same.refl _⟩ (st_ini w' a (by rw [arg_len a, hl ds d r]; exact hps)) ⟨?_, ?_, fun _ _ _ _ z => z.elim, fun _ _ _ _ z => z.elim⟩⟩
    · exact fun Δ S2 H2 σ n w2 g2 _ => hk .none .non S2 H2 n.2 ⟨g2.g, fun _ => by simp only [Dt], fun e => by rw [n.1] at e; cases e⟩
    · exact fun d v _ S2 H2 _ q _ _ _ gv => hk d v S2 H2 q gv
end
section
variable {X : Cx} {k : Nat} {x : Str} {ps : List Str} {sp : Sp} {e : Expr} {es : List Expr} {t : TA} {p pos : Pos}
theorem run_G {f : Addr} {fd : FuncData} {pins : List (Addr × Obj)} {σ : L2.St} {H : Hp} {s : Shared} {Q : VK} {us : List Value} {vs : List V} (G : FnOkG X.prog X.w X.K X.mg X.base k f fd ps sp) (hg : X.A.guards = some []) (hr : Room k X.A) (hb : Binds X.K fd ps [])
    (I : Inv X pins σ H s) (r : Vals vs us) (h : sp vs H Q E0) : wpAny (model X.prog X.w) X.A (call (.ref f) us) (EP X pins σ Q) X.xe s := by
  have hl : (us ++ []).length = ps.length := by rw [List.append_nil, ← r.length]; exact G.len _ _ _ _ h
  have bt := hb s us I.kIn hl
  rw [List.append_nil] at bt
  refine wpAny_call (codeAny_mono (G.run X.A X.stack s H ⟨us, []⟩ us vs Q E0 hg hr I.env0 bt r h) fun res s' hq => ?_)
  cases res with
  | error e => exact False.elim hq
  | ok fl =>
    cases fl with
    | ret u => exact I.after hq
    | next => exact False.elim hq
    | brk => exact False.elim hq
    | cont => exact False.elim hq
theorem pe_callG (G : FnTG X.prog X.w X.K X.mg X.base k x ps sp) (gd : X.A.guards = some []) (hr : Room k X.A) (ha : PA X (e :: es) t) (hg : Gl X x := by rfl)
    (hdb : (x == ("__debug__" : Str)) = false := by decide) (he : starEach (e :: es) X.env = (false, eval e X.env) :: starEach es X.env := by rfl) (hpl : (backTo pos (starEach es X.env)).any (·.1) = false := by rfl) :
    PE X (.Call (.Name x p) (e :: es) [] pos) (tCall sp [] E0 t) := by
  obtain ⟨f, fd, h1, h2, h3, h4⟩ := G.ex
  refine ⟨fun pins s σ H Q I h => wpAny_Call_Name_kw (ld_glob I hg h1 ?_ hdb)⟩
  refine PySem.W.callWith_K (h₀ := X.base) I.ok.mod.kin h2 (thn (ha.run pos pins s σ H _ I h) fun us s1 hv => ?_) he hpl
  obtain ⟨vs, H1, I1, r, q⟩ := hv
  rw [List.append_nil] at q
  exact ⟨I1.kIn, run_G h4 gd hr h3 I1 r q⟩
theorem pe_callG0 (G : FnTG X.prog X.w X.K X.mg X.base k x ps sp) (gd : X.A.guards = some []) (hr : Room k X.A) (hg : Gl X x := by rfl) (hdb : (x == ("__debug__" : Str)) = false := by decide) :
    PE X (.Call (.Name x p) [] [] pos) (tCall sp [] E0 tNil) := by
  obtain ⟨f, fd, h1, h2, h3, h4⟩ := G.ex
  refine ⟨fun pins s σ H Q I h => wpAny_Call_Name_kw (ld_glob I hg h1 ?_ hdb)⟩
  exact PySem.W.callWith_K0 I.kIn h2 (run_G (us := []) h4 gd hr h3 I .nil h)
end
/-! ### the law's call -/
/-- sys.modules stands where it stood -/
def SysB (h : Heap) : Prop := ∃ mm, h.Ns sysModules mm
/-- law's promise: a list of at most 63 ints, True comes out -/
def spLaw (K : PySem.W.Frag) : Sp := fun vs H Q _ => ∃ (a : Addr) (ns : List Int), vs = [.ref a] ∧ SqL K H a (ns.map V.int) ∧ ns.length ≤ 63 ∧ ∀ H', Q (.bl true) H'
theorem law_callG {P : Program} {w : World} {K : PySem.W.Frag} {mg mb : Str → Option Value} {k : Nat} {fa a : Addr} {fd : FuncData} {x : Str} {s : Shared} {vs : List Value} {ns : List Int}
    (inK : K.In s.heap) (hns : s.heap.Ns mainGlobals mg) (hb : s.heap.Ns builtinsNs mb) (hbb : ∀ x : Str, x ≠ "__name__" → mb x = bootBuiltins x) (lim : s.heap.NoLimit) (hg : s.gens = #[])
    (ha : s.heap.get? a = some { cls := .type "list", data := .seq vs.toArray }) (hi : IntsAre vs ns) (hl : ns.length ≤ 63) (hr : Room k callerA) (hsb : SysB s.heap)
    (G : ∀ base : Heap, K.In base → base.Ns mainGlobals mg → SysB base → FnOkG P w K mg base k fa fd [x] (spLaw K)) (hbind : ∀ (s : Shared) (u : Value), BindsTo s fd ⟨[u], []⟩ [(x, u)]) :
    codeAny (model P w) callerA (.call (.ref fa) ⟨[.ref a], []⟩) (fun r s' => r = .ok (.ret (.bool true)) ∧ OldK s.heap s'.heap ∧ s'.os = s.os ∧ AllBare s'.gens) s := by
  have rv := vals_ints hi
  have nl := hi.length
  have hl2 : ns.length ≤ sizeLine := Nat.le_trans hl (by decide)
  -- an abstract heap that tracks nothing but the script, locked
  suffices core : ∀ H : Hp, Only H → SqL K H a (ns.map V.int) → HOk P w H s.heap → (∀ b u, H b = some u → b = a ∧ K.lookup a = Option.none) →
      codeAny (model P w) callerA (.call (.ref fa) ⟨[.ref a], []⟩) (fun r s' => r = .ok (.ret (.bool true)) ∧ OldK s.heap s'.heap ∧ s'.os = s.os ∧ AllBare s'.gens) s by
    cases hk : K.lookup a with
    | some o =>
      have z := inK a o hk
      rw [ha] at z
      cases z
      refine core (fun _ => Option.none) (fun _ => Or.inl rfl) (Or.inr ⟨_, vs.toArray, _, hk, rfl, rfl, rfl, ?_, by simpa using rv⟩) (fun b u z => by cases z) fun b u z => by cases z
      rw [List.size_toArray, nl]
      exact hl2
    | none =>
      have at1 : ∀ b u, (if b = a then some (HO.frz { cls := .type "list", data := .seq vs.toArray } (.lst (ns.map V.int))) else Option.none) = some u → b = a ∧ u = HO.frz { cls := .type "list", data := .seq vs.toArray } (.lst (ns.map V.int)) := fun b u z => by
        by_cases hb : b = a
        · rw [if_pos hb] at z
          exact ⟨hb, (Option.some.inj z).symm⟩
        · rw [if_neg hb] at z
          cases z
      refine core (fun b => if b = a then some (.frz { cls := .type "list", data := .seq vs.toArray } (.lst (ns.map V.int))) else Option.none) (fun b => ?_) (Or.inl (Or.inr ⟨_, if_pos rfl⟩)) (fun b u z => ?_) fun b u z => ⟨(at1 b u z).1, hk⟩
      · by_cases hb : b = a
        · exact Or.inr ⟨_, _, if_pos hb⟩
        · exact Or.inl (if_neg hb)
      · obtain ⟨e1, e2⟩ := at1 b u z
        subst e1
        subst e2
        exact ⟨ha, by rw [List.length_map]; exact hl2, vs, _, rv, ha⟩
  intro H only sq hok own
  have free_of : ∀ {b : Addr} {o : Obj}, s.heap.get? b = some o → b ≠ a ∨ K.lookup a ≠ Option.none → H b = Option.none := fun {b o} _ z => by
    cases q : H b with
    | none => rfl
    | some u =>
      obtain ⟨z1, z2⟩ := own b u q
      rcases z with z | z
      · exact absurd z1 z
      · exact absurd z2 z
  have ns_of : ∀ {b : Addr} {m : Str → Option Value}, s.heap.Ns b m → (hidT s.heap H).Ns b m := fun {b m} ⟨o, es, ep, e, d, r⟩ => by
    refine ⟨o, es, ep, hidT_get e (free_of e (.inl fun z => ?_)), d, r⟩
    rw [z, ha] at e
    cases e
    cases d
  have inB : K.In (hidT s.heap H) := fun b o e => hidT_get (inK b o e) (by
    by_cases hb : b = a
    · exact free_of (inK b o e) (.inr fun z => by rw [← hb, e] at z; cases z)
    · exact free_of (inK b o e) (.inl hb))
  have hM : Mod K mg (hidT s.heap H) := ⟨inB, ns_of hns, ⟨mb, ns_of hb, hbb⟩, lim.elim fun mc h => ⟨mc, ns_of h.1, h.2⟩⟩
  have env0 : Env0 P w K mg (hidT s.heap H) callerA [] s H := ⟨rfl, hM, fun b o e => of_hidT e, Nat.le_of_eq (hidT_size _ _), trivial, fun b z => (List.not_mem_nil z).elim, hok, .of_eq hg⟩
  refine codeAny_mono ((G _ inB (ns_of hns) (hsb.elim fun mm z => ⟨mm, ns_of z⟩)).run callerA [] s H ⟨[.ref a], []⟩ [.ref a] [.ref a] (fun v _ => v = .bl true) E0 rfl hr env0 (hbind s (.ref a)) (.cons rfl .nil) ⟨a, ns, rfl, sq, hl, fun _ => rfl⟩) fun r s' h => ?_
  match r, h with
  | .ok (.ret u), h =>
    obtain ⟨v, H', os, bare, un, hok', rel, q⟩ := h
    obtain rfl : v = .bl true := q
    obtain rfl : u = Value.bool true := rel
    refine ⟨rfl, OldK.of_keep fun b o e => ?_, os, bare⟩
    cases q : H b with
    | none => exact un.keep b o e q (fun z => (List.not_mem_nil z).elim) (by simp)
    | some u =>
      rcases only b with z | ⟨ob, xs, z⟩
      · rw [q] at z
        cases z
      · obtain ⟨f1, _⟩ := hok b _ z
        obtain ⟨f2, _⟩ := hok' b _ (un.frzs b ob _ z)
        rw [e] at f1
        cases f1
        exact f2
theorem walk_G {l : PySem.W.OpenLaw} {k : Nat} {q : Program} {loose : List Str} {XP : (Str → Option Value) → Heap → Prop} {YP : World → Heap → Prop} {d : DefRec} {K : Params → PySem.W.Frag} {x : Str}
    (hn : l.most = some 63) (hdf : d.params.defaults = []) (hr : Room k callerA) (hi : importsNone q = true) (hY : ∀ (w : World) (h : Heap), YP w h → (K w.params).In h)
    (F : ∀ (w : World) (mg : Str → Option Value) (fa : Addr) (h : Heap), (K w.params).In h → h.Ns mainGlobals mg → mg d.name = some (.ref fa) →
      ∃ fd : FuncData, (∀ (s : Shared) (u : Value), BindsTo s fd ⟨[u], []⟩ [(x, u)]) ∧ ∀ base : Heap, (K w.params).In base → base.Ns mainGlobals mg → SysB base → FnOkG l.prog w (K w.params) mg base k fa fd [x] (spLaw (K w.params))) :
    PySem.W.WalkO q loose XP YP l.row.toRowW d [] (fun f vs => PySem.call f vs) := by
  refine Att.attach_call hn hdf fun w s₀ s₁ mg mb fa o pm cd doc a vs ns Gd Y ho hd hcd hmg hobj hints hlen hg => ?_
  have KX := hY w _ Y
  obtain ⟨fd, hb, hF⟩ := F w mg fa _ KX Gd.T.g hmg
  exact law_callG KX Gd.T.g Gd.T.b Gd.T.builtins Gd.T.nolimit hg hobj hints hlen hr ⟨_, (Gd.T.seer hi).mods.choose_spec.1⟩ hF hb
end Bc

/-! Core 5: operators and built-ins, whatever the kinds of their values. -/
namespace Bc
open PySem L2 PySem.Spec PyProof.Rows
/-! ### data as the library's -/
mutual
def D.py : D → PyData
  | .none => .none
  | .bool b => .bool b
  | .int i => .int i
  | .str s => .str s
  | .list l => .list (pyL l)
  | .tuple l => .tuple (pyL l)
  | .dict _ => .none
  | .obj _ _ => .none
  | .exc _ _ => .none
  | .ref _ => .none
def pyL : List D → List PyData
  | [] => []
  | d :: ds => d.py :: pyL ds
end
mutual
def D.isPy : D → Bool
  | .none => true
  | .bool _ => true
  | .int _ => true
  | .str _ => true
  | .list l => isPyL l
  | .tuple l => isPyL l
  | .dict _ => false
  | .obj _ _ => false
  | .exc _ _ => false
  | .ref _ => false
def isPyL : List D → Bool
  | [] => true
  | d :: ds => d.isPy && isPyL ds
end
mutual
theorem Dt.dp {K : PySem.W.Frag} {S H : Hp} (e : Same S H) : ∀ (d : D) (v : V), d.isPy = true → Dt S d v → Dp K H v d.py
  | .none, v, _, h => by simp only [Dt] at h; subst h; exact .non
  | .bool b, v, _, h => by simp only [Dt] at h; subst h; exact .bl b
  | .int b, v, _, h => by simp only [Dt] at h; subst h; exact .int b
  | .str b, v, _, h => by simp only [Dt] at h; subst h; exact .str b
  | .ref a, v, q, _ => by simp [D.isPy] at q
  | .dict a, v, q, _ => by simp [D.isPy] at q
  | .obj C a, v, q, _ => by simp [D.isPy] at q
  | .exc C a, v, q, _ => by simp [D.isPy] at q
  | .list ds, v, q, h => by
    simp only [Dt] at h
    simp only [D.isPy] at q
    obtain ⟨a, xs, rfl, e1, h1⟩ := h
    exact .lst (SqL.of (e _ _ e1)) (DtL.dp e ds xs q h1)
  | .tuple ds, v, q, h => by
    simp only [Dt] at h
    simp only [D.isPy] at q
    obtain ⟨a, xs, rfl, e1, h1⟩ := h
    exact .tup (SqT.of (e _ _ e1)) (DtL.dp e ds xs q h1)
theorem DtL.dp {K : PySem.W.Frag} {S H : Hp} (e : Same S H) : ∀ (ds : List D) (xs : List V), isPyL ds = true → DtL S ds xs → DpAll K H xs (pyL ds)
  | [], xs, _, h => by simp only [DtL] at h; subst h; exact .nil
  | d :: ds, xs, q, h => by
    simp only [DtL] at h
    simp only [isPyL, Bool.and_eq_true] at q
    obtain ⟨x, ys, rfl, h1, h2⟩ := h
    exact .cons (Dt.dp e d x q.1 h1) (DtL.dp e ds ys q.2 h2)
end
section
variable {X : Cx} {K : PySem.W.Frag} {F : Fp}
/-! ### + -/
abbrev rAddP (K : PySem.W.Frag) : R2 := fun x y H Q => (rI0 fun i j => .int (i + j)) x y H Q ∨ ((∃ i j, x = .str i ∧ y = .str j ∧ i.length + j.length ≤ sizeLine ∧ Q (.str (i ++ j)) H) ∨ (rCat x y H Q ∨ rCatA K x y H Q))
theorem pAdd : OpR X (binaryOp .Add) (rAddP X.K) := op_add.or (op_add_str.or (op_cat.or op_catA))
def addF : D → D → D → Prop
  | .int i, .int j, d => d = .int (i + j)
  | .str a, .str b, d => a.length + b.length ≤ sizeLine ∧ d = .str (a ++ b)
  | .list a, .list b, d => a.length + b.length ≤ sizeLine ∧ d = .list (a ++ b)
  | .tuple a, .tuple b, d => a.length + b.length ≤ sizeLine ∧ d = .tuple (a ++ b)
  | _, _, _ => False
theorem sAdd : OpS F (rAddP K) addF := fun S H x y d u v Q w hx hy hf k => by
  unfold addF at hf
  split at hf
  · rename_i d i j
    simp only [Dt] at hx hy
    subst hx hy hf
    exact .inl ⟨i, j, rfl, rfl, k _ _ _ (Gr.refl w.s) (by simp only [Dt])⟩
  · rename_i d i j
    simp only [Dt] at hx hy
    obtain ⟨hz, rfl⟩ := hf
    subst hx hy
    exact .inr (.inl ⟨i, j, rfl, rfl, hz, k _ _ _ (Gr.refl w.s) (by simp only [Dt])⟩)
  · rename_i d a b
    obtain ⟨hz, rfl⟩ := hf
    simp only [Dt] at hx hy
    obtain ⟨p, xs, rfl, e1, h1⟩ := hx
    obtain ⟨q, ys, rfl, e2, h2⟩ := hy
    refine .inr (.inr (.inl ⟨p, q, xs, ys, rfl, rfl, w.s _ _ e1, w.s _ _ e2, by rw [← h1.len, ← h2.len]; exact hz, fun r hr => ?_⟩))
    refine k _ _ _ (Gr.newD w.s hr) ?_
    simp only [Dt]
    exact ⟨r, xs ++ ys, rfl, upd_same, (h1.append h2).mono (Gr.newD (F := F) (o := .lst (xs ++ ys)) w.s hr).s⟩
  · rename_i d a b
    obtain ⟨hz, rfl⟩ := hf
    simp only [Dt] at hx hy
    obtain ⟨p, xs, rfl, e1, h1⟩ := hx
    obtain ⟨q, ys, rfl, e2, h2⟩ := hy
    refine .inr (.inr (.inr ⟨p, q, xs, ys, rfl, rfl, SqT.of (w.s _ _ e1), SqT.of (w.s _ _ e2), by rw [← h1.len, ← h2.len]; exact hz, fun z => ?_, fun z1 z2 => ?_, fun z1 z2 r hr => ?_⟩))
    · subst z
      refine k _ _ _ (Gr.refl w.s) ?_
      have : a = [] := List.eq_nil_of_length_eq_zero (by rw [h1.len]; rfl)
      subst this
      simp only [Dt, List.nil_append]
      exact ⟨q, ys, rfl, e2, h2⟩
    · subst z2
      refine k _ _ _ (Gr.refl w.s) ?_
      have : b = [] := List.eq_nil_of_length_eq_zero (by rw [h2.len]; rfl)
      subst this
      simp only [Dt, List.append_nil]
      exact ⟨p, xs, rfl, e1, h1⟩
    · refine k _ _ _ (Gr.newD w.s hr) ?_
      simp only [Dt]
      exact ⟨r, xs ++ ys, rfl, upd_same, (h1.append h2).mono (Gr.newD (F := F) (o := .tup (xs ++ ys)) w.s hr).s⟩
  · exact hf.elim
/-! ### other arithmetic -/
def intF (C : Int → Int → Prop) (g : Int → Int → Int) : D → D → D → Prop
  | .int i, .int j, d => C i j ∧ d = .int (g i j)
  | _, _, _ => False
theorem sInt {C : Int → Int → Prop} {g : Int → Int → Int} : OpS F (rI C fun i j => .int (g i j)) (intF C g) := fun S H x y d u v Q w hx hy hf k => by
  unfold intF at hf
  split at hf
  · rename_i d i j
    simp only [Dt] at hx hy
    obtain ⟨hc, rfl⟩ := hf
    subst hx hy
    exact ⟨i, j, rfl, rfl, hc, k _ _ _ (Gr.refl w.s) (by simp only [Dt])⟩
  · exact hf.elim
theorem sInt0 {g : Int → Int → Int} : OpS F (rI0 fun i j => .int (g i j)) (intF (fun _ _ => True) g) := fun S H x y d u v Q w hx hy hf k => by
  unfold intF at hf
  split at hf
  · rename_i d i j
    simp only [Dt] at hx hy
    obtain ⟨hc, rfl⟩ := hf
    subst hx hy
    exact ⟨i, j, rfl, rfl, k _ _ _ (Gr.refl w.s) (by simp only [Dt])⟩
  · exact hf.elim
/-- int * int, text * int, list * int -/
abbrev rMulP : R2 := fun x y H Q => (rI CMul fun i j => .int (i * j)) x y H Q ∨ ((∃ z n, x = .str z ∧ y = .int n ∧ MulOk z n ∧ Q (.str (Txt.mul z n)) H) ∨ rRep x y H Q)
theorem op_mulStr : OpR X (binaryOp .Mult) (fun x y H Q => ∃ z n, x = .str z ∧ y = .int n ∧ MulOk z n ∧ Q (.str (Txt.mul z n)) H) := by
  intro pins s σ H x y v u Q I rx ry h
  obtain ⟨z, n, rfl, rfl, hok, q⟩ := h
  obtain ⟨t, rfl⟩ := rx
  obtain ⟨t', rfl⟩ := ry
  exact SB.mul hok fun t2 k => ⟨.str _, H, I.tok k, ⟨t2, rfl⟩, q⟩
theorem pMul : OpR X (binaryOp .Mult) rMulP := op_mul.or (op_mulStr.or op_rep)
def mulF : D → D → D → Prop
  | .int i, .int j, d => CMul i j ∧ d = .int (i * j)
  | .str z, .int n, d => MulOk z n ∧ d = .str (Txt.mul z n)
  | .list l, .int n, d => -(2 ^ 63) ≤ n ∧ n < 2 ^ 63 ∧ l.length * n.toNat ≤ sizeLine ∧ d = .list (List.replicate n.toNat l).flatten
  | _, _, _ => False
theorem DtL.rep {S : Hp} {ds : List D} {xs : List V} (h : DtL S ds xs) : ∀ n : Nat, DtL S (List.replicate n ds).flatten (List.replicate n xs).flatten
  | 0 => by simpa using dtl_nil
  | n + 1 => by
    rw [List.replicate_succ, List.replicate_succ, List.flatten_cons, List.flatten_cons]
    exact h.append (DtL.rep h n)
theorem sMul : OpS F rMulP mulF := fun S H x y d u v Q w hx hy hf k => by
  unfold mulF at hf
  split at hf
  · rename_i d i j
    simp only [Dt] at hx hy
    obtain ⟨hc, rfl⟩ := hf
    subst hx hy
    exact .inl ⟨i, j, rfl, rfl, hc, k _ _ _ (Gr.refl w.s) (by simp only [Dt])⟩
  · rename_i d i j
    simp only [Dt] at hx hy
    obtain ⟨hc, rfl⟩ := hf
    subst hx hy
    exact .inr (.inl ⟨i, j, rfl, rfl, hc, k _ _ _ (Gr.refl w.s) (by simp only [Dt])⟩)
  · rename_i d l n
    obtain ⟨h1, h2, h3, rfl⟩ := hf
    simp only [Dt] at hx hy
    obtain ⟨p, xs, rfl, e1, hd⟩ := hx
    subst hy
    refine .inr (.inr ⟨p, n, xs, rfl, rfl, w.s _ _ e1, h1, h2, by rw [← hd.len]; exact h3, fun r hr => ?_⟩)
    refine k _ _ _ (Gr.newD w.s hr) ?_
    simp only [Dt]
    exact ⟨r, _, rfl, upd_same, (hd.rep n.toNat).mono (Gr.newD (F := F) (o := .lst (List.replicate n.toNat xs).flatten) w.s hr).s⟩
  · exact hf.elim
/-! ### comparisons -/
def eqF (neg : Bool) (x y d : D) : Prop := x.isPy = true ∧ y.isPy = true ∧ SeqAt.shaped x.py = true ∧ SeqAt.shaped y.py = true ∧ d = .bool (if neg then !PyData.eqv x.py y.py else PyData.eqv x.py y.py)
theorem sEq : OpS F (rEqD K) (eqF false) := fun S H x y d u v Q w hx hy ⟨p1, p2, s1, s2, e⟩ k => by
  subst e
  exact ⟨x.py, y.py, Dt.dp w.s x u p1 hx, Dt.dp w.s y v p2 hy, s1, s2, k _ _ _ (Gr.refl w.s) (by simp only [Dt]; rfl)⟩
theorem sNe : OpS F (rNeD K) (eqF true) := fun S H x y d u v Q w hx hy ⟨p1, p2, s1, s2, e⟩ k => by
  subst e
  exact ⟨x.py, y.py, Dt.dp w.s x u p1 hx, Dt.dp w.s y v p2 hy, s1, s2, k _ _ _ (Gr.refl w.s) (by simp only [Dt]; rfl)⟩
abbrev rLtP : R2 := fun x y H Q => (rI0 fun i j => .bl (decide (i < j))) x y H Q ∨ (∃ i j, x = .str i ∧ y = .str j ∧ Q (.bl (decide (i.cps.toList < j.cps.toList))) H)
theorem pLt : OpR X (compareOp .Lt) rLtP := op_lt.or op_lt_str
abbrev rLeP : R2 := fun x y H Q => (rI0 fun i j => .bl (decide (i ≤ j))) x y H Q ∨ (∃ i j, x = .str i ∧ y = .str j ∧ Q (.bl (!decide (j.cps.toList < i.cps.toList))) H)
theorem pLe : OpR X (compareOp .LtE) rLeP := op_le.or op_le_str
def ltF : D → D → D → Prop
  | .int i, .int j, d => d = .bool (decide (i < j))
  | .str i, .str j, d => d = .bool (decide (i.cps.toList < j.cps.toList))
  | _, _, _ => False
def leF : D → D → D → Prop
  | .int i, .int j, d => d = .bool (decide (i ≤ j))
  | .str i, .str j, d => d = .bool (!decide (j.cps.toList < i.cps.toList))
  | _, _, _ => False
theorem sLt : OpS F rLtP ltF := fun S H x y d u v Q w hx hy hf k => by
  unfold ltF at hf
  split at hf
  · rename_i d i j
    simp only [Dt] at hx hy
    subst hx hy hf
    exact .inl ⟨i, j, rfl, rfl, k _ _ _ (Gr.refl w.s) (by simp only [Dt])⟩
  · rename_i d i j
    simp only [Dt] at hx hy
    subst hx hy hf
    exact .inr ⟨i, j, rfl, rfl, k _ _ _ (Gr.refl w.s) (by simp only [Dt])⟩
  · exact hf.elim
theorem sLe : OpS F rLeP leF := fun S H x y d u v Q w hx hy hf k => by
  unfold leF at hf
  split at hf
  · rename_i d i j
    simp only [Dt] at hx hy
    subst hx hy hf
    exact .inl ⟨i, j, rfl, rfl, k _ _ _ (Gr.refl w.s) (by simp only [Dt])⟩
  · rename_i d i j
    simp only [Dt] at hx hy
    subst hx hy hf
    exact .inr ⟨i, j, rfl, rfl, k _ _ _ (Gr.refl w.s) (by simp only [Dt])⟩
  · exact hf.elim
def cmpF (g : Int → Int → Bool) : D → D → D → Prop
  | .int i, .int j, d => d = .bool (g i j)
  | _, _, _ => False
theorem sCmp {g : Int → Int → Bool} : OpS F (rI0 fun i j => .bl (g i j)) (cmpF g) := fun S H x y d u v Q w hx hy hf k => by
  unfold cmpF at hf
  split at hf
  · rename_i d i j
    simp only [Dt] at hx hy
    subst hx hy hf
    exact ⟨i, j, rfl, rfl, k _ _ _ (Gr.refl w.s) (by simp only [Dt])⟩
  · exact hf.elim
/-- x is None -/
def D.isN : D → Bool
  | .none => true
  | _ => false
def isNF (neg : Bool) (x y d : D) : Prop := y = .none ∧ d = .bool (x.isN != neg)
theorem dt_none {S : Hp} {x : D} {u : V} (h : Dt S x u) : decide (u = .non) = x.isN := by
  cases x <;> simp only [Dt] at h <;> first
    | (subst h; rfl)
    | (obtain ⟨a, xs, rfl, _⟩ := h; rfl)
    | (obtain ⟨a, dx, xs, rfl, _⟩ := h; rfl)
theorem sIsN : OpS F (fun x y H Q => y = .non ∧ Q (.bl (decide (x = .non))) H) (isNF false) := fun S H x y d u v Q w hx hy ⟨e1, e2⟩ k => by
  subst e1 e2
  simp only [Dt] at hy
  refine ⟨hy, ?_⟩
  rw [dt_none hx]
  exact k _ _ _ (Gr.refl w.s) (by simp only [Dt]; cases x.isN <;> rfl)
theorem sNotN : OpS F (fun x y H Q => y = .non ∧ Q (.bl (!decide (x = .non))) H) (isNF true) := fun S H x y d u v Q w hx hy ⟨e1, e2⟩ k => by
  subst e1 e2
  simp only [Dt] at hy
  refine ⟨hy, ?_⟩
  rw [dt_none hx]
  exact k _ _ _ (Gr.refl w.s) (by simp only [Dt]; cases x.isN <;> rfl)
/-! ### in: a sign in a text, data in a list, a key in a dict -/
abbrev rInP (K : PySem.W.Frag) (neg : Bool) : R2 := fun x y H Q =>
  (∃ (c : Nat) (z : Str), x = .str ⟨#[c]⟩ ∧ y = .str z ∧ Q (.bl (if neg then !decide (c ∈ z.cps.toList) else decide (c ∈ z.cps.toList))) H) ∨
  ((∃ d ds, Dp K H x d ∧ Dp K H y (.list ds) ∧ SeqAt.shaped d = true ∧ SeqAt.shaped (.list ds) = true ∧ Q (.bl (if neg then !(ds.any fun z => PyData.eqv z d) else ds.any fun z => PyData.eqv z d)) H) ∨
  (∃ a o, y = .ref a ∧ DGet H a x o ∧ Q (.bl (if neg then !o.isSome else o.isSome)) H))
theorem pIn (hu : X.A.units + 65 < cLine) : OpR X (compareOp .In) (rInP X.K false) := by
  intro pins s σ H x y v u Q I rx ry h
  rcases h with h | h | ⟨a, o, rfl, g, q⟩
  · exact op_in_sign pins s σ H x y v u Q I rx ry h
  · exact op_inD hu pins s σ H x y v u Q I rx ry h
  · obtain rfl : u = Value.ref a := ry
    exact d_in (by omega) I g rx fun s3 I3 => ⟨.bl o.isSome, H, I3, rfl, q⟩
theorem pNotIn (hu : X.A.units + 65 < cLine) : OpR X (compareOp .NotIn) (rInP X.K true) := by
  intro pins s σ H x y v u Q I rx ry h
  rcases h with h | h | ⟨a, o, rfl, g, q⟩
  · exact op_notIn_sign pins s σ H x y v u Q I rx ry h
  · exact op_notInD hu pins s σ H x y v u Q I rx ry h
  · obtain rfl : u = Value.ref a := ry
    exact d_notIn (by omega) I g rx fun s3 I3 => ⟨.bl (!o.isSome), H, I3, rfl, q⟩
def keyD : D → Option Key
  | .int i => some (.inl i)
  | .str z => some (.inr z)
  | _ => Option.none
def inF (neg : Bool) : D → D → D → Prop
  | .str x, .str z, d => ∃ c, x = ⟨#[c]⟩ ∧ d = .bool (if neg then !decide (c ∈ z.cps.toList) else decide (c ∈ z.cps.toList))
  | x, .list ds, d => x.isPy = true ∧ isPyL ds = true ∧ SeqAt.shaped x.py = true ∧ SeqAt.shaped (.list (pyL ds)) = true ∧ d = .bool (if neg then !((pyL ds).any fun z => PyData.eqv z x.py) else (pyL ds).any fun z => PyData.eqv z x.py)
  | x, .dict kvs, d => ∃ k, keyD x = some k ∧ d = .bool (if neg then !(kvs.any fun q => decide (q.1 = k)) else kvs.any fun q => decide (q.1 = k))
  | _, _, _ => False
theorem DtK.has {S : Hp} {k : Key} : ∀ {kvs : List (Key × D)} {ks : List (Key × V)}, DtK S kvs ks → (valV ks k).isSome = kvs.any fun q => decide (q.1 = k)
  | [], ks, h => by simp only [DtK] at h; subst h; rfl
  | (k1, d) :: r, ks, h => by
    simp only [DtK] at h
    obtain ⟨x, ys, rfl, h1, h2⟩ := h
    by_cases e : k1 = k
    · subst e
      rw [valV_pos rfl]
      simp
    · rw [show valV ((k1, x) :: ys) k = valV ys k by simp [valV, List.find?_cons, e], DtK.has h2]
      simp [e]
theorem DtK.val {S : Hp} {k : Key} : ∀ {kvs : List (Key × D)} {ks : List (Key × V)} {d : D}, DtK S kvs ks → (kvs.find? fun q => decide (q.1 = k)).map (·.2) = some d → ∃ x, valV ks k = some x ∧ Dt S d x
  | [], ks, d, h, e => by cases e
  | (k1, d1) :: r, ks, d, h, e => by
    simp only [DtK] at h
    obtain ⟨x, ys, rfl, h1, h2⟩ := h
    by_cases q : k1 = k
    · subst q
      rw [valV_pos rfl]
      simp at e
      subst e
      exact ⟨x, rfl, h1⟩
    · rw [show valV ((k1, x) :: ys) k = valV ys k by simp [valV, List.find?_cons, q]]
      refine DtK.val h2 ?_
      simpa [List.find?_cons, q] using e
theorem dt_key {S : Hp} {x : D} {u : V} {k : Key} (h : Dt S x u) (e : keyD x = some k) : u = kV k := by
  cases x <;> simp only [keyD] at e <;> first | (cases e; done) | (cases e; simp only [Dt] at h; subst h; rfl)
theorem sIn {neg : Bool} : OpS F (rInP K neg) (inF neg) := fun S H x y d u v Q w hx hy hf k => by
  unfold inF at hf
  split at hf
  · rename_i d x z
    obtain ⟨c, rfl, rfl⟩ := hf
    simp only [Dt] at hx hy
    subst hx hy
    exact .inl ⟨c, z, rfl, rfl, k _ _ _ (Gr.refl w.s) (by simp only [Dt])⟩
  · rename_i l
    obtain ⟨p1, p2, s1, s2, rfl⟩ := hf
    exact .inr (.inl ⟨_, pyL l, Dt.dp w.s _ u p1 hx, Dt.dp w.s (.list l) v p2 hy, s1, s2, k _ _ _ (Gr.refl w.s) (by simp only [Dt])⟩)
  · rename_i x kvs d
    obtain ⟨q, e1, rfl⟩ := hf
    simp only [Dt] at hy
    obtain ⟨a, ks, rfl, e2, h2⟩ := hy
    have eu := dt_key hx e1
    subst eu
    refine .inr (.inr ⟨a, _, rfl, DGet.k (w.s _ _ e2), ?_⟩)
    rw [h2.has]
    exact k _ _ _ (Gr.refl w.s) (by simp only [Dt])
  · exact hf.elim
/-! ### items -/
def ixF : D → D → D → Prop
  | .list ds, .int i, d => atI ds i = some d
  | .tuple ds, .int i, d => atI ds i = some d
  | .str z, .int i, d => z.length ≤ sizeLine ∧ ∃ c, atI z.cps.toList i = some c ∧ d = .str ⟨#[c]⟩
  | _, _, _ => False
theorem atI_map {S : Hp} {ds : List D} {xs : List V} {i : Int} {d : D} (h : DtL S ds xs) (e : atI ds i = some d) : ∃ x, atI xs i = some x ∧ Dt S d x := by
  unfold atI at e ⊢
  rw [← h.len]
  cases q : ixN ds.length i with
  | none => rw [q] at e; cases e
  | some j =>
    rw [q] at e
    exact h.get e
theorem sIx : OpS F (rIx K) ixF := fun S H x y d u v Q w hx hy hf k => by
  unfold ixF at hf
  split at hf
  · rename_i d ds i
    simp only [Dt] at hx hy
    obtain ⟨p, xs, rfl, e1, h1⟩ := hx
    subst hy
    obtain ⟨x, e2, hd⟩ := atI_map h1 hf
    exact .inl ⟨p, xs, i, x, rfl, rfl, SqL.of (w.s _ _ e1), e2, k _ _ _ (Gr.refl w.s) hd⟩
  · rename_i d ds i
    simp only [Dt] at hx hy
    obtain ⟨p, xs, rfl, e1, h1⟩ := hx
    subst hy
    obtain ⟨x, e2, hd⟩ := atI_map h1 hf
    exact .inr (.inl ⟨p, xs, i, x, rfl, rfl, SqT.of (w.s _ _ e1), e2, k _ _ _ (Gr.refl w.s) hd⟩)
  · rename_i d z i
    obtain ⟨hz, c, e, rfl⟩ := hf
    simp only [Dt] at hx hy
    subst hx hy
    exact .inr (.inr ⟨z, i, c, rfl, rfl, hz, e, k _ _ _ (Gr.refl w.s) (by simp only [Dt])⟩)
  · exact hf.elim
/-- of what is read -/
theorem ev_ixS {b : Bool} {ta tb : TE} {Δ : List Sl} {Ps : List D → Prop} {Pi P : D → Prop} (h : EvS F b ta Δ Ps) (hi : EvR F tb Δ Pi) (hk : ∀ ds y, Ps ds → Pi y → ∃ i d, y = .int i ∧ atI ds i = some d ∧ P d) : EvR F (tOp (rIx K) ta tb) Δ P := fun H0 S H σ w t Q k => by
  refine h H0 S H σ w t _ fun ds p xs S1 H1 q g1 nf h1 hd => ?_
  refine hi H0 S1 H1 σ (g1.ok w) (t.mono g1) _ fun y v S2 H2 qy g2 hy => ?_
  obtain ⟨i, d, e1, e2, pd⟩ := hk ds y q qy
  subst e1
  simp only [Dt] at hy
  subst hy
  obtain ⟨x, e3, hx⟩ := atI_map (hd.mono g2.s) e2
  have z := g2.k _ _ nf h1
  cases b with
  | true => exact .inr (.inl ⟨p, xs, i, x, rfl, rfl, SqT.of z, e3, k _ _ _ _ pd (g1.trans g2) hx⟩)
  | false => exact .inl ⟨p, xs, i, x, rfl, rfl, SqL.of z, e3, k _ _ _ _ pd (g1.trans g2) hx⟩
/-! ### slices -/
abbrev rSlP (K : PySem.W.Frag) : V → Option Int → Option Int → Hp → VK → Prop := fun x lo hi H Q => rSlL K x lo hi H Q ∨ (rSlT K x lo hi H Q ∨ rSlS x lo hi H Q)
theorem pSl : SlR X (rSlP X.K) := sl_list.or (sl_tup.or sl_str)
def cutD (xs : List D) (lo hi : Option Int) : List D := (xs.drop (HT.sIx xs.length 0 lo)).take (HT.sIx xs.length xs.length hi - HT.sIx xs.length 0 lo)
theorem DtL.cut {S : Hp} {ds : List D} {xs : List V} (h : DtL S ds xs) (lo hi : Option Int) : DtL S (cutD ds lo hi) (cutV xs lo hi) := by
  unfold cutD cutV
  rw [← h.len]
  exact (h.drop _).take _
def slF (x : D) (lo hi : Option Int) (d : D) : Prop := match x with
  | .list ds => d = .list (cutD ds lo hi)
  | .tuple ds => ¬ (HT.sIx ds.length 0 lo = 0 ∧ HT.sIx ds.length ds.length hi = ds.length) ∧ d = .tuple (cutD ds lo hi)
  | .str z => z.length ≤ sizeLine ∧ d = .str (cutS z lo hi)
  | _ => False
theorem eo_none {Δ : List Sl} : EvO F tNoPart Δ fun o => o = Option.none := fun H0 S H σ w t Q k => k _ _ _ rfl (Gr.refl w.s)
theorem eo_some {te : TE} {Δ : List Sl} {i : Int} (h : Ev1 F te Δ (.int i)) : EvO F (tPart te) Δ fun o => o = some i := fun H0 S H σ w t Q k =>
  h H0 S H σ w t _ fun d v S' H' e g hd => by
    subst e
    simp only [Dt] at hd
    exact ⟨i, hd, k _ _ _ rfl g⟩
theorem eo_someP {te : TE} {Δ : List Sl} {P : Int → Prop} (h : EvR F te Δ fun d => ∃ i, d = .int i ∧ P i) : EvO F (tPart te) Δ fun o => ∃ i, o = some i ∧ P i := fun H0 S H σ w t Q k =>
  h H0 S H σ w t _ fun d v S' H' ⟨i, e, p⟩ g hd => by
    subst e
    simp only [Dt] at hd
    exact ⟨i, hd, k _ _ _ ⟨i, rfl, p⟩ g⟩
theorem ev_sl {te : TE} {tl th : TO} {Δ : List Sl} {x : D} {Pl Ph : Option Int → Prop} {P : D → Prop} (h : Ev1 F te Δ x) (hl : EvO F tl Δ Pl) (hh : EvO F th Δ Ph) (hk : ∀ lo hi, Pl lo → Ph hi → ∃ d, slF x lo hi d ∧ P d) : EvR F (tSl (rSlP K) te tl th) Δ P := fun H0 S H σ w t Q k => by
  refine h H0 S H σ w t _ fun d v S1 H1 e g1 hd => ?_
  subst e
  refine hl H0 S1 H1 σ (g1.ok w) (t.mono g1) _ fun lo S2 H2 pl g2 => ?_
  refine hh H0 S2 H2 σ (g2.ok (g1.ok w)) ((t.mono g1).mono g2) _ fun hi S3 H3 ph g3 => ?_
  obtain ⟨r, hf, pr⟩ := hk lo hi pl ph
  have w3 := g3.ok (g2.ok (g1.ok w))
  have hd3 := (hd.mono g2.s).mono g3.s
  have gg := (g1.trans g2).trans g3
  unfold slF at hf
  split at hf
  · rename_i ds
    subst hf
    simp only [Dt] at hd3
    obtain ⟨a, xs, rfl, e1, h1⟩ := hd3
    refine .inl ⟨a, xs, rfl, SqL.of (w3.s _ _ e1), fun p hp => k _ _ _ _ pr (gg.trans (Gr.newD w3.s hp)) ?_⟩
    simp only [Dt]
    exact ⟨p, _, rfl, upd_same, (h1.cut lo hi).mono (Gr.newD (F := F) (o := .lst (cutV xs lo hi)) w3.s hp).s⟩
  · rename_i ds
    obtain ⟨hn, rfl⟩ := hf
    simp only [Dt] at hd3
    obtain ⟨a, xs, rfl, e1, h1⟩ := hd3
    refine .inr (.inl ⟨a, xs, rfl, SqT.of (w3.s _ _ e1), by rw [← h1.len]; exact hn, fun p hp => k _ _ _ _ pr (gg.trans (Gr.newD w3.s hp)) ?_⟩)
    simp only [Dt]
    exact ⟨p, _, rfl, upd_same, (h1.cut lo hi).mono (Gr.newD (F := F) (o := .tup (cutV xs lo hi)) w3.s hp).s⟩
  · rename_i z
    obtain ⟨hz, rfl⟩ := hf
    simp only [Dt] at hd3
    subst hd3
    exact .inr (.inr ⟨z, rfl, hz, k _ _ _ _ pr gg (by simp only [Dt])⟩)
  · exact hf.elim
theorem ev_sl1 {te : TE} {tl th : TO} {Δ : List Sl} {x d : D} {lo hi : Option Int} (h : Ev1 F te Δ x) (hl : EvO F tl Δ fun o => o = lo) (hh : EvO F th Δ fun o => o = hi) (hk : slF x lo hi d) : Ev1 F (tSl (rSlP K) te tl th) Δ d :=
  ev_sl h hl hh fun a b e1 e2 => ⟨d, by rw [e1, e2]; exact hk, rfl⟩
/-! ### calls of built-ins -/
def CallS (F : Fp) (r : List V → Hp → VK → Prop) (f : List D → D → Prop) : Prop := ∀ (S H : Hp) (ds : List D) (d : D) (vs : List V) (Q : VK), Okw F S H → DtL S ds vs → f ds d → (∀ w S' H', Gr F S H S' H' → Dt S' d w → Q w H') → r vs H Q
theorem ev_cb {r : List V → Hp → VK → Prop} {f : List D → D → Prop} {ta : TA} {Δ : List Sl} {Pa : List D → Prop} {P : D → Prop} (hr : CallS F r f) (h : EvA F ta Δ Pa) (hk : ∀ ds, Pa ds → ∃ d, f ds d ∧ P d) : EvR F (tCB r ta) Δ P := fun H0 S H σ w t Q k =>
  h H0 S H σ w t _ fun ds vs S' H' p g hd => by
    obtain ⟨d, hf, pd⟩ := hk ds p
    exact hr S' H' ds d vs Q (g.ok w) hd hf fun u S2 H2 g2 hu => k d u S2 H2 pd (g.trans g2) hu
theorem ev_cb1 {r : List V → Hp → VK → Prop} {f : List D → D → Prop} {ta : TA} {Δ : List Sl} {ds : List D} {d : D} (hr : CallS F r f) (h : EvA F ta Δ fun x => x = ds) (hk : f ds d) : Ev1 F (tCB r ta) Δ d := ev_cb hr h fun _ e => ⟨d, by rw [e]; exact hk, rfl⟩
abbrev rLenP (K : PySem.W.Frag) : List V → Hp → VK → Prop := fun xs H Q => (∃ x n, xs = [x] ∧ LenV K x H n ∧ Q (.int n) H)
theorem pLen : CallR X (.builtin "len") (rLenP X.K) := call_len
def lenF : List D → D → Prop
  | [.list l], d => d = .int l.length
  | [.tuple l], d => d = .int l.length
  | [.str z], d => z.length ≤ sizeLine ∧ d = .int z.length
  | _, _ => False
theorem sLen : CallS F (rLenP K) lenF := fun S H ds d vs Q w hd hf k => by
  unfold lenF at hf
  split at hf
  · rename_i l
    subst hf
    simp only [DtL, Dt] at hd
    obtain ⟨x, ys, rfl, ⟨a, xs, rfl, e1, h1⟩, rfl⟩ := hd
    exact ⟨_, l.length, rfl, .inl ⟨xs, SqL.of (w.s _ _ e1), h1.len⟩, k _ _ _ (Gr.refl w.s) (by simp only [Dt])⟩
  · rename_i l
    subst hf
    simp only [DtL, Dt] at hd
    obtain ⟨x, ys, rfl, ⟨a, xs, rfl, e1, h1⟩, rfl⟩ := hd
    exact ⟨_, l.length, rfl, .inr ⟨xs, SqT.of (w.s _ _ e1), h1.len⟩, k _ _ _ (Gr.refl w.s) (by simp only [Dt])⟩
  · rename_i z
    obtain ⟨hz, rfl⟩ := hf
    simp only [DtL, Dt] at hd
    obtain ⟨x, ys, rfl, rfl, rfl⟩ := hd
    exact ⟨_, z.length, rfl, ⟨hz, rfl⟩, k _ _ _ (Gr.refl w.s) (by simp only [Dt])⟩
  · exact hf.elim
/-- len of what is read -/
theorem ev_lenS {b : Bool} {te : TE} {Δ : List Sl} {Ps : List D → Prop} (h : EvS F b te Δ Ps) : EvR F (tCB (rLenP K) (tCons te tNil)) Δ fun d => ∃ ds : List D, Ps ds ∧ d = .int ds.length := fun H0 S H σ w t Q k => by
  refine h H0 S H σ w t _ fun ds p xs S1 H1 q g1 nf h1 hd => ?_
  cases b with
  | true => exact ⟨_, ds.length, rfl, .inr ⟨xs, SqT.of h1, hd.len⟩, k _ _ _ _ ⟨ds, q, rfl⟩ g1 (by simp only [Dt])⟩
  | false => exact ⟨_, ds.length, rfl, .inl ⟨xs, SqL.of h1, hd.len⟩, k _ _ _ _ ⟨ds, q, rfl⟩ g1 (by simp only [Dt])⟩
theorem ev_lenO {i : Nat} {Δ : List Sl} {ds : List D} (h : Δ[i]? = some (.own ds)) : Ev1 F (tCB (rLenP K) (tCons (tVar i) tNil)) Δ (.int ds.length) := (ev_lenS (es_own h)).imp fun d ⟨_, e1, e2⟩ => by rw [e2, e1]
abbrev rIntP : List V → Hp → VK → Prop := fun xs H Q => ((∃ i, xs = [.int i] ∧ Q (.int i) H) ∨ ∃ k, xs = [.bl k] ∧ Q (.int (if k then 1 else 0)) H) ∨ (∃ a n, xs = [.str a] ∧ PySem.intText? a = some n ∧ a.length ≤ 640 ∧ Q (.int n) H)
theorem pInt : CallR X (.type "int") rIntP := CallR.or call_int1 call_int_str
def intOf : List D → D → Prop
  | [.int i], d => d = .int i
  | [.bool b], d => d = .int (if b then 1 else 0)
  | [.str z], d => z.length ≤ 640 ∧ ∃ n, PySem.intText? z = some n ∧ d = .int n
  | _, _ => False
theorem sIntC : CallS F rIntP intOf := fun S H ds d vs Q w hd hf k => by
  unfold intOf at hf
  split at hf
  · rename_i i
    subst hf
    simp only [DtL, Dt] at hd
    obtain ⟨x, ys, rfl, rfl, rfl⟩ := hd
    exact .inl (.inl ⟨i, rfl, k _ _ _ (Gr.refl w.s) (by simp only [Dt])⟩)
  · rename_i b
    subst hf
    simp only [DtL, Dt] at hd
    obtain ⟨x, ys, rfl, rfl, rfl⟩ := hd
    exact .inl (.inr ⟨b, rfl, k _ _ _ (Gr.refl w.s) (by simp only [Dt])⟩)
  · rename_i z
    obtain ⟨hz, n, e, rfl⟩ := hf
    simp only [DtL, Dt] at hd
    obtain ⟨x, ys, rfl, rfl, rfl⟩ := hd
    exact .inr ⟨z, n, rfl, e, hz, k _ _ _ (Gr.refl w.s) (by simp only [Dt])⟩
  · exact hf.elim
abbrev rStrP : List V → Hp → VK → Prop := fun xs H Q => (∃ i, xs = [.int i] ∧ i.natAbs.log2 < 1920 ∧ Q (.str (toString i)) H) ∨ (∃ a, xs = [.str a] ∧ Q (.str a) H)
theorem pStr : CallR X (.type "str") rStrP := CallR.or call_str_int SkE.call_str_str
def strOfF : List D → D → Prop
  | [.int i], d => i.natAbs.log2 < 1920 ∧ d = .str (toString i)
  | [.str z], d => d = .str z
  | _, _ => False
theorem sStrC : CallS F rStrP strOfF := fun S H ds d vs Q w hd hf k => by
  unfold strOfF at hf
  split at hf
  · rename_i i
    obtain ⟨hz, rfl⟩ := hf
    simp only [DtL, Dt] at hd
    obtain ⟨x, ys, rfl, rfl, rfl⟩ := hd
    exact .inl ⟨i, rfl, hz, k _ _ _ (Gr.refl w.s) (by simp only [Dt])⟩
  · rename_i z
    subst hf
    simp only [DtL, Dt] at hd
    obtain ⟨x, ys, rfl, rfl, rfl⟩ := hd
    exact .inr ⟨z, rfl, k _ _ _ (Gr.refl w.s) (by simp only [Dt])⟩
  · exact hf.elim
/-! list(x), tuple(x) -/
abbrev rListP (K : PySem.W.Frag) : List V → Hp → VK → Prop := fun xs H Q => ∃ p ys, xs = [.ref p] ∧ (SqL K H p ys ∨ SqT K H p ys) ∧ ∀ l, H l = Option.none → Q (.ref l) (upd H l (.lst ys))
theorem pList : CallR X (.type "list") (rListP X.K) := call_list_of
theorem ef_list {b : Bool} {te : TE} {Δ : List Sl} {Ps : List D → Prop} (h : EvS F b te Δ Ps) : EvF F (tCB (rListP K) (tCons te tNil)) Δ Ps := fun H0 S H σ w t Q k => by
  refine h H0 S H σ w t _ fun ds p xs S1 H1 q g1 nf h1 hd => ?_
  refine ⟨p, xs, rfl, (by cases b with | true => exact .inr (SqT.of h1) | false => exact .inl (SqL.of h1)), fun l hl => ?_⟩
  refine k ds l xs S1 _ q (g1.trans (Gr.new g1.h hl)) ?_ upd_same (Same.free g1.h hl) hd
  cases e : H l with
  | none => rfl
  | some o =>
    obtain ⟨o', e'⟩ := g1.m l o e
    rw [hl] at e'
    cases e'
abbrev rTupP (K : PySem.W.Frag) : List V → Hp → VK → Prop := fun xs H Q => ∃ p ys, xs = [.ref p] ∧ ((SqL K H p ys ∧ ∀ l, H l = Option.none → Q (.ref l) (upd H l (.tup ys))) ∨ (SqT K H p ys ∧ Q (.ref p) H))
theorem pTuple : CallR X (.type "tuple") (rTupP X.K) := call_tuple_of
def tupF : List D → D → Prop
  | [.list l], d => d = .tuple l
  | [.tuple l], d => d = .tuple l
  | _, _ => False
theorem sTup : CallS F (rTupP K) tupF := fun S H ds d vs Q w hd hf k => by
  unfold tupF at hf
  split at hf
  · rename_i l
    subst hf
    simp only [DtL, Dt] at hd
    obtain ⟨x, ys, rfl, ⟨a, xs, rfl, e1, h1⟩, rfl⟩ := hd
    refine ⟨a, xs, rfl, .inl ⟨SqL.of (w.s _ _ e1), fun p hp => k _ _ _ (Gr.newD w.s hp) ?_⟩⟩
    simp only [Dt]
    exact ⟨p, xs, rfl, upd_same, h1.mono (Gr.newD (F := F) (o := .tup xs) w.s hp).s⟩
  · rename_i l
    subst hf
    simp only [DtL, Dt] at hd
    obtain ⟨x, ys, rfl, ⟨a, xs, rfl, e1, h1⟩, rfl⟩ := hd
    refine ⟨a, xs, rfl, .inr ⟨SqT.of (w.s _ _ e1), k _ _ _ (Gr.refl w.s) ?_⟩⟩
    simp only [Dt]
    exact ⟨a, xs, rfl, e1, h1⟩
  · exact hf.elim
/-! isinstance(x, T), T a built-in class -/
def D.ty : D → String
  | .none => "NoneType"
  | .bool _ => "bool"
  | .int _ => "int"
  | .str _ => "str"
  | .list _ => "list"
  | .tuple _ => "tuple"
  | .dict _ => "dict"
  | _ => "?"
theorem dt_ty {S H : Hp} (e : Same S H) {d : D} {v : V} (h : Dt S d v) (hd : d.ty ≠ "?") : TyX K H v (.type d.ty) := by
  cases d <;> simp only [Dt] at h
  · subst h; exact .base .non
  · subst h; exact .base (.bl _)
  · subst h; exact .base (.int _)
  · subst h; exact .base (.str _)
  · obtain ⟨a, xs, rfl, e1, _⟩ := h; exact .base (.lst (e _ _ e1))
  · obtain ⟨a, xs, rfl, e1, _⟩ := h; exact .base (.tup (e _ _ e1))
  · obtain ⟨a, xs, rfl, e1, _⟩ := h; exact .base (.dK (e _ _ e1))
  all_goals exact absurd rfl hd
end
end Bc

/-! Core 6: short words for texts, globals, tests. -/
namespace Bc
open PySem L2 PySem.Spec PyProof.Rows
/-! texts as lists of code points -/
def txt (l : List Nat) : Str := ⟨l.toArray⟩
theorem txt_len (l : List Nat) : (txt l).length = l.length := by simp [txt, Str.length]
theorem txt_list (l : List Nat) : (txt l).cps.toList = l := by simp [txt]
theorem txt_eta (z : Str) : txt z.cps.toList = z := by simp [txt]
theorem txt_app (a b : List Nat) : txt a ++ txt b = txt (a ++ b) := by
  show Str.mk _ = Str.mk _
  simp [txt]
theorem txt_inj {a b : List Nat} (h : txt a = txt b) : a = b := by
  have := congrArg (fun z => z.cps.toList) h
  simpa [txt] using this
section
variable {X : Cx} {K : PySem.W.Frag} {F : Fp} {Δ : List Sl} {fr : Bool}
theorem pe_gs {x z : Str} {pos : Pos} (h : ∃ t, X.mg x = some (.str z t)) (hg : Gl X x := by rfl) (hd : (x == ("__debug__" : Str)) = false := by decide) : PE X (.Name x pos) (tC (.str z)) := by
  obtain ⟨t, h⟩ := h
  exact pe_glob hg h ⟨t, rfl⟩ hd
/-- a test, by its value -/
theorem et1 {te : TE} {b : Bool} (h : Ev1 F te Δ (.bool b)) : EvT F (tTest te) Δ fun c => c = b := et_test1 h
theorem run_if1 {c : TT} {b : Bool} {t u : TS} {po : Po} (h : EvT F c Δ fun x => x = b) (h1 : b = true → Run F fr t Δ po) (h2 : b = false → Run F fr u Δ po) : Run F fr (tIfS c t u) Δ po := run_if h (fun e => h1 e.symm) fun e => h2 e.symm
theorem run_if1S {c : TT} {b : Bool} {t u v : TS} {po : Po} (h : EvT F c Δ fun x => x = b) (h1 : b = true → Run F fr (tSeq t v) Δ po) (h2 : b = false → Run F fr (tSeq u v) Δ po) : Run F fr (tSeq (tIfS c t u) v) Δ po := run_ifS h (fun e => h1 e.symm) fun e => h2 e.symm

abbrev rEqP (K : PySem.W.Frag) : R2 := fun x y H Q => rEq x y H Q ∨ rEqD K x y H Q
abbrev rNeP (K : PySem.W.Frag) : R2 := fun x y H Q => rNe x y H Q ∨ rNeD K x y H Q
theorem pEq (hu : X.A.units + 65 < cLine) : OpR X (compareOp .Eq) (rEqP X.K) := op_eq.or (op_eqD (by omega))
theorem pNe (hu : X.A.units + 65 < cLine) : OpR X (compareOp .NotEq) (rNeP X.K) := op_ne.or (op_neD (by omega))
variable {te ta tb : TE} {i j : Int} {a b : List Nat} {x y d : D}
theorem ev_addI (ha : Ev1 F ta Δ (.int i)) (hb : Ev1 F tb Δ (.int j)) : Ev1 F (tOp (rAddP K) ta tb) Δ (.int (i + j)) := ev_op1 sAdd ha hb rfl
theorem ev_subI (ha : Ev1 F ta Δ (.int i)) (hb : Ev1 F tb Δ (.int j)) : Ev1 F (tOp (rI0 fun i j => .int (i - j)) ta tb) Δ (.int (i - j)) := ev_op1 sInt0 ha hb ⟨trivial, rfl⟩
theorem ev_mulI (ha : Ev1 F ta Δ (.int i)) (hb : Ev1 F tb Δ (.int j)) (h : CMul i j) : Ev1 F (tOp rMulP ta tb) Δ (.int (i * j)) := ev_op1 sMul ha hb ⟨h, rfl⟩
theorem ev_addS (ha : Ev1 F ta Δ (.str (txt a))) (hb : Ev1 F tb Δ (.str (txt b))) (hl : a.length + b.length ≤ sizeLine) : Ev1 F (tOp (rAddP K) ta tb) Δ (.str (txt (a ++ b))) := ev_op1 sAdd ha hb ⟨by rw [txt_len, txt_len]; exact hl, by rw [txt_app]⟩
theorem ev_addL {l m : List D} (ha : Ev1 F ta Δ (.list l)) (hb : Ev1 F tb Δ (.list m)) (hl : l.length + m.length ≤ sizeLine) : Ev1 F (tOp (rAddP K) ta tb) Δ (.list (l ++ m)) := ev_op1 sAdd ha hb ⟨hl, rfl⟩
theorem ev_addT {l m : List D} (ha : Ev1 F ta Δ (.tuple l)) (hb : Ev1 F tb Δ (.tuple m)) (hl : l.length + m.length ≤ sizeLine) : Ev1 F (tOp (rAddP K) ta tb) Δ (.tuple (l ++ m)) := ev_op1 sAdd ha hb ⟨hl, rfl⟩
theorem ev_ltI (ha : Ev1 F ta Δ (.int i)) (hb : Ev1 F tb Δ (.int j)) : Ev1 F (tOp rLtP ta tb) Δ (.bool (decide (i < j))) := ev_op1 sLt ha hb rfl
theorem ev_leI (ha : Ev1 F ta Δ (.int i)) (hb : Ev1 F tb Δ (.int j)) : Ev1 F (tOp rLeP ta tb) Δ (.bool (decide (i ≤ j))) := ev_op1 sLe ha hb rfl
theorem ev_gtI (ha : Ev1 F ta Δ (.int i)) (hb : Ev1 F tb Δ (.int j)) : Ev1 F (tOp (rI0 fun i j => .bl (decide (j < i))) ta tb) Δ (.bool (decide (j < i))) := ev_op1 sCmp ha hb rfl
theorem ev_geI (ha : Ev1 F ta Δ (.int i)) (hb : Ev1 F tb Δ (.int j)) : Ev1 F (tOp (rI0 fun i j => .bl (decide (j ≤ i))) ta tb) Δ (.bool (decide (j ≤ i))) := ev_op1 sCmp ha hb rfl
theorem sEqL {f : D → D → D → Prop} (h : OpS F rEq f) : OpS F (rEqP K) f := fun S H x y d u v Q w hx hy hf k => .inl (h S H x y d u v Q w hx hy hf k)
def scF (neg : Bool) : D → D → D → Prop
  | .int i, .int j, d => d = .bool (decide (i = j) != neg)
  | .str i, .str j, d => d = .bool (decide (i = j) != neg)
  | .bool i, .bool j, d => d = .bool (decide (i = j) != neg)
  | _, _, _ => False
theorem sScE : OpS F (rEqP K) (scF false) := fun S H x y d u v Q w hx hy hf k => by
  unfold scF at hf
  refine .inl ?_
  split at hf
  all_goals first
    | exact hf.elim
    | (simp only [Dt] at hx hy
       subst hx hy hf
       refine ⟨rfl, k _ _ _ (Gr.refl w.s) ?_⟩
       simp [Dt])
theorem sScN : OpS F (rNeP K) (scF true) := fun S H x y d u v Q w hx hy hf k => by
  unfold scF at hf
  refine .inl ?_
  split at hf
  all_goals first
    | exact hf.elim
    | (simp only [Dt] at hx hy
       subst hx hy hf
       refine ⟨rfl, k _ _ _ (Gr.refl w.s) ?_⟩
       simp [Dt])
theorem sEqDP : OpS F (rEqP K) (eqF false) := fun S H x y d u v Q w hx hy hf k => .inr (sEq S H x y d u v Q w hx hy hf k)
theorem sNeDP : OpS F (rNeP K) (eqF true) := fun S H x y d u v Q w hx hy hf k => .inr (sNe S H x y d u v Q w hx hy hf k)
theorem ev_eqI (ha : Ev1 F ta Δ (.int i)) (hb : Ev1 F tb Δ (.int j)) : Ev1 F (tOp (rEqP K) ta tb) Δ (.bool (decide (i = j))) := ev_op1 sScE ha hb (by simp [scF])
theorem ev_neI (ha : Ev1 F ta Δ (.int i)) (hb : Ev1 F tb Δ (.int j)) : Ev1 F (tOp (rNeP K) ta tb) Δ (.bool (!decide (i = j))) := ev_op1 sScN ha hb (by simp [scF])
theorem ev_eqZ {u v : Str} (ha : Ev1 F ta Δ (.str u)) (hb : Ev1 F tb Δ (.str v)) : Ev1 F (tOp (rEqP K) ta tb) Δ (.bool (decide (u = v))) := ev_op1 sScE ha hb (by simp [scF])
theorem ev_neZ {u v : Str} (ha : Ev1 F ta Δ (.str u)) (hb : Ev1 F tb Δ (.str v)) : Ev1 F (tOp (rNeP K) ta tb) Δ (.bool (!decide (u = v))) := ev_op1 sScN ha hb (by simp [scF])
/-- data that == may look at -/
def D.eqOk (d : D) : Prop := d.isPy = true ∧ SeqAt.shaped d.py = true
def D.eqb (x y : D) : Bool := PyData.eqv x.py y.py
theorem ev_eqD (ha : Ev1 F ta Δ x) (hb : Ev1 F tb Δ y) (hx : x.eqOk) (hy : y.eqOk) : Ev1 F (tOp (rEqP K) ta tb) Δ (.bool (x.eqb y)) := ev_op1 sEqDP ha hb ⟨hx.1, hy.1, hx.2, hy.2, rfl⟩
theorem ev_neD (ha : Ev1 F ta Δ x) (hb : Ev1 F tb Δ y) (hx : x.eqOk) (hy : y.eqOk) : Ev1 F (tOp (rNeP K) ta tb) Δ (.bool (!x.eqb y)) := ev_op1 sNeDP ha hb ⟨hx.1, hy.1, hx.2, hy.2, rfl⟩
theorem ev_isN (ha : Ev1 F ta Δ x) : Ev1 F (tOp (fun x y H Q => y = .non ∧ Q (.bl (decide (x = .non))) H) ta (tC .non)) Δ (.bool x.isN) := ev_op1 sIsN ha ev_non ⟨rfl, by cases x.isN <;> rfl⟩
theorem ev_notN (ha : Ev1 F ta Δ x) : Ev1 F (tOp (fun x y H Q => y = .non ∧ Q (.bl (!decide (x = .non))) H) ta (tC .non)) Δ (.bool (!x.isN)) := ev_op1 sNotN ha ev_non ⟨rfl, by cases x.isN <;> rfl⟩
theorem ev_inT {c : Nat} (ha : Ev1 F ta Δ (.str ⟨#[c]⟩)) (hb : Ev1 F tb Δ (.str (txt b))) : Ev1 F (tOp (rInP K false) ta tb) Δ (.bool (decide (c ∈ b))) := ev_op1 sIn ha hb ⟨c, rfl, by rw [txt_list]; rfl⟩
theorem ev_ninT {c : Nat} (ha : Ev1 F ta Δ (.str ⟨#[c]⟩)) (hb : Ev1 F tb Δ (.str (txt b))) : Ev1 F (tOp (rInP K true) ta tb) Δ (.bool (!decide (c ∈ b))) := ev_op1 sIn ha hb ⟨c, rfl, by rw [txt_list]; rfl⟩
theorem sz (h : a.length ≤ 100000) : (txt a).length ≤ sizeLine := by
  rw [txt_len]
  exact Nat.le_trans h (by decide)
theorem ev_lenT (h : Ev1 F te Δ (.str (txt a))) (hl : a.length ≤ 100000) : Ev1 F (tCB (rLenP K) (tCons te tNil)) Δ (.int (a.length : Nat)) := (ev_cb1 sLen (ea_cons1 h ea_nil) ⟨sz hl, rfl⟩).eq (by rw [txt_len])
theorem ev_lenL {l : List D} (h : Ev1 F te Δ (.list l)) : Ev1 F (tCB (rLenP K) (tCons te tNil)) Δ (.int (l.length : Nat)) := ev_cb1 sLen (ea_cons1 h ea_nil) rfl
theorem ev_lenU {l : List D} (h : Ev1 F te Δ (.tuple l)) : Ev1 F (tCB (rLenP K) (tCons te tNil)) Δ (.int (l.length : Nat)) := ev_cb1 sLen (ea_cons1 h ea_nil) rfl
theorem ev_ixT {q c : Nat} (ha : Ev1 F ta Δ (.str (txt a))) (hb : Ev1 F tb Δ (.int (q : Nat))) (hl : a.length ≤ 100000) (hc : a[q]? = some c) : Ev1 F (tOp (rIx K) ta tb) Δ (.str ⟨#[c]⟩) :=
  ev_op1 sIx ha hb ⟨sz hl, c, by rw [txt_list]; exact atI_nat hc, rfl⟩
theorem ev_ixL {l : List D} {q : Nat} (ha : Ev1 F ta Δ (.list l)) (hb : Ev1 F tb Δ (.int (q : Nat))) (hc : l[q]? = some d) : Ev1 F (tOp (rIx K) ta tb) Δ d := ev_op1 sIx ha hb (atI_nat hc)
theorem ev_ixU {l : List D} {q : Nat} (ha : Ev1 F ta Δ (.tuple l)) (hb : Ev1 F tb Δ (.int (q : Nat))) (hc : l[q]? = some d) : Ev1 F (tOp (rIx K) ta tb) Δ d := ev_op1 sIx ha hb (atI_nat hc)
theorem ev_ixLa {l : List D} (ha : Ev1 F ta Δ (.list l)) (hb : Ev1 F tb Δ (.int i)) (hc : atI l i = some d) : Ev1 F (tOp (rIx K) ta tb) Δ d := ev_op1 sIx ha hb hc
theorem ev_ixUa {l : List D} (ha : Ev1 F ta Δ (.tuple l)) (hb : Ev1 F tb Δ (.int i)) (hc : atI l i = some d) : Ev1 F (tOp (rIx K) ta tb) Δ d := ev_op1 sIx ha hb hc
theorem cutS_txt {p q : Nat} (hp : p ≤ a.length) (hq : q ≤ a.length) : cutS (txt a) (some (p : Int)) (some (q : Int)) = txt ((a.drop p).take (q - p)) := by
  unfold cutS
  rw [txt_list, HT.sIx_nat, HT.sIx_nat, txt_len, Nat.min_eq_left hp, Nat.min_eq_left hq]
  rfl
theorem ev_slT {tl th : TE} {p q : Nat} (h : Ev1 F te Δ (.str (txt a))) (hl : Ev1 F tl Δ (.int (p : Nat))) (hh : Ev1 F th Δ (.int (q : Nat))) (hz : a.length ≤ 100000) (hp : p ≤ a.length) (hq : q ≤ a.length) :
    Ev1 F (tSl (rSlP K) te (tPart tl) (tPart th)) Δ (.str (txt ((a.drop p).take (q - p)))) := ev_sl1 h (eo_some hl) (eo_some hh) ⟨sz hz, by rw [cutS_txt hp hq]⟩
/-! chains -/
theorem ev_chain {r r' : R2} {f f' : D → D → D → Prop} {tc : TE} {z : D} {k k' : Bool} (hr : OpS F r f) (hr' : OpS F r' f') (ha : Ev1 F ta Δ x) (hb : Ev1 F tb Δ y) (hc : Ev1 F tc Δ z) (h1 : f x y (.bool k)) (h2 : f' y z (.bool k')) : Ev1 F (tChain r r' ta tb tc) Δ (.bool (k && k')) := fun H0 S H σ w t Q q => by
  refine ha H0 S H σ w t _ fun d u S1 H1 e1 g1 hu => ?_
  subst e1
  refine hb H0 S1 H1 σ (g1.ok w) (t.mono g1) _ fun d v S2 H2 e2 g2 hv => ?_
  subst e2
  refine hr S2 H2 _ _ _ u v _ (g2.ok (g1.ok w)) (hu.mono g2.s) hv h1 fun bz S3 H3 g3 hb3 => ?_
  simp only [Dt] at hb3
  refine ⟨k, hb3, ?_⟩
  cases k with
  | false =>
    show Q (.bl false) H3
    exact q _ _ S3 H3 rfl ((g1.trans g2).trans g3) (by simp only [Dt, Bool.false_and])
  | true =>
    show tc σ H3 _
    refine hc H0 S3 H3 σ (g3.ok (g2.ok (g1.ok w))) (((t.mono g1).mono g2).mono g3) _ fun d c S4 H4 e4 g4 hcc => ?_
    subst e4
    exact hr' S4 H4 _ _ _ v c Q (g4.ok (g3.ok (g2.ok (g1.ok w)))) ((hv.mono g3.s).mono g4.s) hcc h2 fun o S5 H5 g5 ho => q _ o S5 H5 rfl ((((g1.trans g2).trans g3).trans g4).trans g5) (by simpa only [Bool.true_and] using ho)
end
end Bc

/-! Core 7: in a range; methods of texts; the own list changed; dicts that are written. -/
namespace Bc
open PySem L2 PySem.Spec PyProof.Rows
section
variable {X : Cx} {K : PySem.W.Frag} {F : Fp} {Δ : List Sl} {fr : Bool}
abbrev rRng (neg : Bool) : R2 := fun x y H Q => ∃ i a lo hi, x = V.int i ∧ y = V.ref a ∧ H a = some (.rng lo hi) ∧ Q (.bl (if neg then !decide (lo ≤ i ∧ i < hi) else decide (lo ≤ i ∧ i < hi))) H
theorem pInRng : OpR X (compareOp .In) (rRng false) := op_in_rng
theorem pNotInRng : OpR X (compareOp .NotIn) (rRng true) := by
  intro pins s σ H x y v u Q I rx ry h
  obtain ⟨i, a, lo, hi, rfl, rfl, ha, q⟩ := h
  obtain ⟨k, rfl⟩ := rx
  obtain rfl : u = Value.ref a := ry
  obtain ⟨t1, t2, t3, ob⟩ := I.hok a _ ha
  show wpAny _ _ (do return Value.bool (!(← contains (Value.ref a) (Value.int i k)))) _ _ s
  have mt := q_contains a lo hi i t1 t2 t3 k
  refine wpAny_bind (wpAny_contains_slot (T := "range") ⟨_, ob, rfl⟩ F.slot_range_contains (call_meets F.slot_range_contains ⟨_, ob, rfl⟩ F.entry_range_contains (F.args_range_contains_2 _ _) mt ⟨ob, wpAny_truthy_bool ?_⟩))
  refine wpAny_pure ⟨.bl _, H, I, rfl, ?_⟩
  rw [place1]
  exact q
abbrev rRange2 : List V → Hp → VK → Prop := fun vs H Q => ∃ i j, vs = [V.int i, V.int j] ∧ ∀ p, H p = Option.none → Q (.ref p) (upd H p (.rng i j))
theorem ev_rng {neg : Bool} {ta tb tc : TE} {i lo hi : Int} (ha : Ev1 F ta Δ (.int i)) (hb : Ev1 F tb Δ (.int lo)) (hc : Ev1 F tc Δ (.int hi)) :
    Ev1 F (tOp (rRng neg) ta (tCB rRange2 (tCons tb (tCons tc tNil)))) Δ (.bool (if neg then !decide (lo ≤ i ∧ i < hi) else decide (lo ≤ i ∧ i < hi))) := fun H0 S H σ w t Q k => by
  refine ha H0 S H σ w t _ fun d u S1 H1 e1 g1 hu => ?_
  subst e1
  simp only [Dt] at hu
  subst hu
  refine hb H0 S1 H1 σ (g1.ok w) (t.mono g1) _ fun d v S2 H2 e2 g2 hv => ?_
  subst e2
  simp only [Dt] at hv
  subst hv
  refine hc H0 S2 H2 σ (g2.ok (g1.ok w)) ((t.mono g1).mono g2) _ fun d z S3 H3 e3 g3 hz => ?_
  subst e3
  simp only [Dt] at hz
  subst hz
  refine ⟨lo, hi, rfl, fun p hp => ⟨i, p, lo, hi, rfl, rfl, upd_same, ?_⟩⟩
  exact k _ _ S3 _ rfl (((g1.trans g2).trans g3).trans (Gr.new g3.h hp)) (by simp only [Dt])
/-! methods of texts -/
theorem ev_bm0 {T : String} {r : V → List V → Hp → VK → Prop} {te : TE} {x d : D} (h : Ev1 F te Δ x) (hr : ∀ S H v Q, Okw F S H → Dt S x v → (∀ S' H' w, Gr F S H S' H' → Dt S' d w → Q w H') → tyV K T v H ∧ r v [] H Q) : Ev1 F (tBM0 K T r te) Δ d := fun H0 S H σ w t Q k =>
  h H0 S H σ w t _ fun y v S1 H1 e g1 hv => by
    subst e
    exact hr S1 H1 v Q (g1.ok w) hv fun S2 H2 u g2 hu => k _ _ S2 H2 rfl (g1.trans g2) hu
theorem ev_alnum {te : TE} {z : Str} (h : Ev1 F te Δ (.str z)) : Ev1 F (tBM0 K "str" (fun x xs H Q => ∃ a, x = .str a ∧ xs = [] ∧ True ∧ Q (.bl (Txt.isalnum a)) H) te) Δ (.bool (Txt.isalnum z)) :=
  ev_bm0 h fun S H v Q w hv k => by
    simp only [Dt] at hv
    subst hv
    exact ⟨rfl, z, rfl, rfl, trivial, k S H _ (Gr.refl w.s) (by simp only [Dt])⟩
theorem ev_digit {te : TE} {z : Str} (h : Ev1 F te Δ (.str z)) : Ev1 F (tBM0 K "str" (fun x xs H Q => ∃ a, x = .str a ∧ xs = [] ∧ True ∧ Q (.bl (Txt.isdigit a)) H) te) Δ (.bool (Txt.isdigit z)) :=
  ev_bm0 h fun S H v Q w hv k => by
    simp only [Dt] at hv
    subst hv
    exact ⟨rfl, z, rfl, rfl, trivial, k S H _ (Gr.refl w.s) (by simp only [Dt])⟩
theorem ev_strip {te ta : TE} {z y : Str} (h : Ev1 F te Δ (.str z)) (ha : Ev1 F ta Δ (.str y)) (hl : z.length ≤ sizeLine) :
    Ev1 F (tBM K "str" (fun x xs H Q => ∃ a b, x = .str a ∧ xs = [.str b] ∧ a.length ≤ sizeLine ∧ Q (.str (Txt.stripChars a b)) H) te (tCons ta tNil)) Δ (.str (Txt.stripChars z y)) := fun H0 S H σ w t Q k => by
  refine h H0 S H σ w t _ fun d v S1 H1 e1 g1 hv => ?_
  subst e1
  simp only [Dt] at hv
  subst hv
  refine ⟨rfl, ?_⟩
  refine ha H0 S1 H1 σ (g1.ok w) (t.mono g1) _ fun d u S2 H2 e2 g2 hu => ?_
  subst e2
  simp only [Dt] at hu
  subst hu
  exact ⟨z, y, rfl, rfl, hl, k _ _ S2 H2 rfl (g1.trans g2) (by simp only [Dt])⟩
/-! the own list grows -/
theorem run_app {i : Nat} {te : TE} {po : Po} {ds : List D} {P : D → Prop} (hi : Δ[i]? = some (.own ds)) (h : EvR F te Δ P) (hl : ds.length < sizeLine) (k : ∀ d, P d → po.nx (Δ.set i (.own (ds ++ [d])))) :
    Run F fr (tDrop (tBM K "list" rAppend (tVar i) (tCons te tNil))) Δ po := fun S0 H0 B S H σ E w gb st r => by
  obtain ⟨x, e1, p, xs, rfl, h1, h2, h3, h4⟩ := st.ok i _ hi
  refine ⟨_, e1, Or.inl ⟨rfl, xs, SqL.of h1⟩, ?_⟩
  refine h H0 S H σ w st _ fun d v S1 H1 pd g1 hv => ?_
  have nf : ¬ fp F p := fun z => by
    obtain ⟨o, q⟩ := st.fh p z
    rw [h3] at q
    cases q
  have q1 := g1.k _ _ nf h1
  have q2 : S1 p = Option.none := by rw [g1.n _ _ h1]; exact h2
  refine ⟨p, xs, v, rfl, rfl, q1, by rw [← h4.len]; exact hl, ?_⟩
  have gg := (gb.step g1).g.mut h3 q2 q1 (o := .lst (xs ++ [v]))
  have st1 := st.mono g1
  have w2 : Okw F S1 (upd H1 p (.lst (xs ++ [v]))) := ⟨gg.h, fun a c e => by
    obtain ⟨z1, z2, ns, l, m, t, z3, z4, z5⟩ := (g1.ok w).src a c e
    have n1 : a ≠ p := fun z => nf ⟨a, c, e, .inl z.symm⟩
    have n2 : c ≠ p := fun z => nf ⟨a, c, e, .inr z.symm⟩
    exact ⟨z1, z2, ns, l, m, t, by rw [upd_ne n1]; exact z3, by rw [upd_ne n2]; exact z4, z5⟩⟩
  refine r.nx _ S1 _ σ (k d pd) w2 ⟨gg, (gb.step g1).b⟩ ⟨by simp [st.len], fun j s' ej => ?_, fun j l es fs q f1 f2 f3 f4 => ?_, st.fh⟩
  · by_cases hj : j = i
    · subst hj
      have hlt : j < Δ.length := (List.getElem?_eq_some_iff.mp hi).1
      rw [List.getElem?_set_self hlt] at ej
      cases ej
      exact ⟨_, e1, p, _, rfl, upd_same, q2, h3, (h4.mono g1.s).append (dtl_cons hv dtl_nil)⟩
    · rw [List.getElem?_set_ne (Ne.symm hj)] at ej
      obtain ⟨y, f1, f2⟩ := st1.ok j s' ej
      refine ⟨y, f1, ?_⟩
      cases s' with
      | un => trivial
      | v d => exact f2
      | src => exact f2
      | ob a dx C fs =>
        obtain ⟨vs, z1, z2, z3, z4, z5, z6, z7, z8⟩ := f2
        have n1 : a ≠ p := fun z => by rw [z, q1] at z2; cases z2
        have n2 : dx ≠ p := fun z => by rw [z, q1] at z3; cases z3
        exact ⟨vs, z1, by rw [upd_ne n1]; exact z2, by rw [upd_ne n2]; exact z3, z4, z5, z6, z7, z8⟩
      | xc W PX l => exact XcOk.mono f2 (Gw.mut (g1.ok w).s q1 q2 h3 nf f2.hd)
      | fz a fs => exact f2
      | tb P q => exact TbOk.own f2 q1 nf
      | od b kvs =>
        obtain ⟨ks, z1, z2, z3, z4, z5⟩ := f2
        exact ⟨ks, z1, by rw [upd_ne (fun z => by rw [z, q1] at z2; cases z2)]; exact z2, z3, z4, z5⟩
      | own es =>
        obtain ⟨q, ys, rfl, y1, y2, y3, y4⟩ := f2
        refine ⟨q, ys, rfl, ?_, y2, y3, y4⟩
        rw [upd_ne (fun z => hj ?_)]
        · exact y1
        · subst z
          exact st.nd j i es ds q ej hi f1 e1
  · have hlt : i < Δ.length := (List.getElem?_eq_some_iff.mp hi).1
    by_cases hj : j = i
    · by_cases hk : l = i
      · rw [hj, hk]
      · subst hj
        rw [List.getElem?_set_ne (Ne.symm hk)] at f2
        exact st.nd j l ds fs q hi f2 f3 f4
    · rw [List.getElem?_set_ne (Ne.symm hj)] at f1
      by_cases hk : l = i
      · subst hk
        exact st.nd j l es ds q f1 hi f3 f4
      · rw [List.getElem?_set_ne (Ne.symm hk)] at f2
        exact st.nd j l es fs q f1 f2 f3 f4
theorem run_appS {i : Nat} {te : TE} {u : TS} {po : Po} {ds : List D} {P : D → Prop} (hi : Δ[i]? = some (.own ds)) (h : EvR F te Δ P) (hl : ds.length < sizeLine) (k : ∀ d, P d → Run F fr u (Δ.set i (.own (ds ++ [d]))) po) :
    Run F fr (tSeq (tDrop (tBM K "list" rAppend (tVar i) (tCons te tNil))) u) Δ po :=
  run_seqM (N := fun Δ' => ∃ d, P d ∧ Δ' = Δ.set i (.own (ds ++ [d]))) (run_app hi h hl fun d p => ⟨d, p, rfl⟩) fun Δ' ⟨d, p, e⟩ => e ▸ k d p
theorem run_app1S {i : Nat} {te : TE} {u : TS} {po : Po} {ds : List D} {d : D} (hi : Δ[i]? = some (.own ds)) (h : Ev1 F te Δ d) (hl : ds.length < sizeLine) (k : Run F fr u (Δ.set i (.own (ds ++ [d]))) po) :
    Run F fr (tSeq (tDrop (tBM K "list" rAppend (tVar i) (tCons te tNil))) u) Δ po := run_appS hi h hl fun _ e => e ▸ k
/-! x in ['..', ..]: keys that are texts -/
theorem ev_isi {te : TE} {d : D} {T : String} {b : Bool} (h : Ev1 F te Δ d) (hd : d.ty ≠ "?") (hb : kitB d.ty T = some b) : Ev1 F (tCB (rIsi K) (tCons te (tCons (tC (.ty T)) tNil))) Δ (.bool b) := fun H0 S H σ w t Q k => by
  refine h H0 S H σ w t _ fun y v S1 H1 e g1 hv => ?_
  subst e
  exact ⟨v, .ty T, .type y.ty, .type T, b, rfl, .ty T, dt_ty (g1.ok w).s hv hd, kit_ty hb, k _ _ S1 H1 rfl g1 (by simp only [Dt])⟩
/-! dicts -/
inductive EvP (F : Fp) (Δ : List Sl) : List (TE × TE) → List (Key × D) → Prop where
  | nil : EvP F Δ [] []
  | s {x : Str} {tv : TE} {d : D} {r : List (TE × TE)} {ds : List (Key × D)} : Ev1 F tv Δ d → EvP F Δ r ds → EvP F Δ ((tC (.str x), tv) :: r) ((Sum.inr x, d) :: ds)
  | i {x : Int} {tv : TE} {d : D} {r : List (TE × TE)} {ds : List (Key × D)} : Ev1 F tv Δ d → EvP F Δ r ds → EvP F Δ ((tC (.int x), tv) :: r) ((Sum.inl x, d) :: ds)
theorem merge_app : ∀ (kvs acc : List (Key × V)), ((acc ++ kvs).map (·.1)).Nodup → mergeK acc kvs = acc ++ kvs
  | [], acc, _ => by simp [mergeK]
  | (k, v) :: r, acc, h => by
    have e : putK acc k v = acc ++ [(k, v)] := by
      unfold putK
      rw [if_neg]
      intro z
      rw [List.any_eq_true] at z
      obtain ⟨p, hp, q⟩ := z
      have q := of_decide_eq_true q
      rw [List.map_append, List.nodup_append] at h
      exact h.2.2 p.1 (List.mem_map_of_mem hp) k (by simp) q
    show mergeK (putK acc k v) r = _
    rw [e, merge_app r (acc ++ [(k, v)]) (by simpa using h)]
    simp
theorem dtk_keys {S : Hp} : ∀ {kvs : List (Key × D)} {ks : List (Key × V)}, DtK S kvs ks → ks.map (·.1) = kvs.map (·.1)
  | [], ks, h => by simp only [DtK] at h; subst h; rfl
  | (k, d) :: r, ks, h => by
    simp only [DtK] at h
    obtain ⟨x, ys, rfl, _, h2⟩ := h
    simp [dtk_keys h2]
theorem ev_pairs {trs : List (TE × TE)} {kvs : List (Key × D)} (h : EvP F Δ trs kvs) : ∀ (H0 S H : Hp) (σ : L2.St), Okw F S H → StD F S H H0 σ Δ → ∀ Q : List (V × V) → Hp → Prop, (∀ ks S' H', Gr F S H S' H' → DtK S' kvs ks → Q (ks.map fun kv => (kV kv.1, kv.2)) H') → tPairs trs σ H Q := by
  induction h with
  | nil => exact fun H0 S H σ w t Q k => k [] S H (Gr.refl w.s) (by simp only [DtK])
  | s hv hr ih =>
    intro H0 S H σ w t Q k
    refine hv H0 S H σ w t _ fun d v S1 H1 e g1 hd => ?_
    subst e
    refine ih H0 S1 H1 σ (g1.ok w) (t.mono g1) _ fun ks S2 H2 g2 hk => ?_
    exact k ((Sum.inr _, v) :: ks) S2 H2 (g1.trans g2) (by simp only [DtK]; exact ⟨v, ks, rfl, hd.mono g2.s, hk⟩)
  | i hv hr ih =>
    intro H0 S H σ w t Q k
    refine hv H0 S H σ w t _ fun d v S1 H1 e g1 hd => ?_
    subst e
    refine ih H0 S1 H1 σ (g1.ok w) (t.mono g1) _ fun ks S2 H2 g2 hk => ?_
    exact k ((Sum.inl _, v) :: ks) S2 H2 (g1.trans g2) (by simp only [DtK]; exact ⟨v, ks, rfl, hd.mono g2.s, hk⟩)
theorem ev_disp {trs : List (TE × TE)} {kvs : List (Key × D)} (h : EvP F Δ trs kvs) (hl : kvs.length ≤ 15) (hn : (kvs.map (·.1)).Nodup) : Ev1 F (tDisp trs) Δ (.dict kvs) := fun H0 S H σ w t Q k => by
  intro p hp
  have g0 : Gr F S H S (upd H p (.dK [])) := Gr.new w.s hp
  refine ev_pairs h H0 S _ σ (g0.ok w) (t.mono g0) _ fun ks S1 H1 g1 hk => ?_
  have nf : ¬ fp F p := fun z => by
    obtain ⟨o, q⟩ := (fun ⟨a, c, e, z⟩ => by
      obtain ⟨_, _, ns, l, m, t, e1, e2, _⟩ := w.src a c e
      rcases z with rfl | rfl
      · exact ⟨_, e1⟩
      · exact ⟨_, e2⟩ : fp F p → ∃ o, H p = some o) z
    rw [hp] at q
    cases q
  have h1 := g1.k _ _ nf upd_same
  have lk : ks.length = kvs.length := by
    have := congrArg List.length (dtk_keys hk)
    simpa using this
  refine ⟨h1, ks, rfl, by rw [lk]; exact hl, ?_⟩
  rw [merge_app ks [] (by simpa [dtk_keys hk] using hn), List.nil_append]
  have s1 : S1 p = Option.none := by rw [g1.n _ _ upd_same]; exact Same.free w.s hp
  have gm := (g0.trans g1).mut hp s1 h1 (o := .dK ks)
  refine k _ _ _ _ rfl (gm.freeze hp upd_same) ?_
  simp only [Dt]
  exact ⟨p, ks, rfl, upd_same, DtK.mono (fun x u e => by rw [upd_ne (ne_of_none e s1)]; exact e) _ _ hk⟩
theorem ev_get2 {td ty tx : TE} {kvs : List (Key × D)} {x e d : D} {k : Key} (h : Ev1 F td Δ (.dict kvs)) (hx : Ev1 F ty Δ x) (hk : keyD x = some k) (he : Ev1 F tx Δ e) (hd : ((kvs.find? fun q => decide (q.1 = k)).map (·.2)).getD e = d) : Ev1 F (tDGet2 td ty tx) Δ d := fun H0 S H σ w t Q q => by
  refine h H0 S H σ w t _ fun y u S1 H1 e1 g1 hu => ?_
  subst e1
  simp only [Dt] at hu
  obtain ⟨a, ks, rfl, z1, z2⟩ := hu
  refine ⟨a, rfl, .inl ⟨ks, .inl (g1.h _ _ z1)⟩, ?_⟩
  refine hx H0 S1 H1 σ (g1.ok w) (t.mono g1) _ fun y v S2 H2 e2 g2 hv => ?_
  subst e2
  refine he H0 S2 H2 σ (g2.ok (g1.ok w)) ((t.mono g1).mono g2) _ fun y z S3 H3 e3 g3 hz => ?_
  subst e3
  have gg := (g1.trans g2).trans g3
  have a3 := g3.h _ _ (g3.s _ _ (g2.s _ _ z1))
  have k3 : DtK S3 kvs ks := DtK.mono g3.s _ _ (DtK.mono g2.s _ _ z2)
  refine ⟨_, by rw [dt_key hv hk]; exact DGet.k a3, ?_⟩
  cases e : (kvs.find? fun q => decide (q.1 = k)).map (·.2) with
  | some d' =>
    rw [e] at hd
    obtain ⟨x', f1, f2⟩ := k3.val e
    rw [f1]
    exact q _ x' S3 H3 hd gg f2
  | none =>
    rw [e] at hd
    have hn : valV ks k = Option.none := by
      have := k3.has (k := k)
      cases f : valV ks k with
      | none => rfl
      | some x' =>
        rw [f] at this
        have this := this.symm
        rw [show (some x').isSome = true from rfl, List.any_eq_true] at this
        obtain ⟨p, hp, hq⟩ := this
        rw [Option.map_eq_none_iff, List.find?_eq_none] at e
        exact absurd hq (e p hp)
    rw [hn]
    exact q _ z S3 H3 hd gg hz
end
end Bc

/-! Core 8: comprehensions that are known item by item. -/
namespace Bc
open PySem L2 PySem.Spec PyProof.Rows
section
variable {X : Cx} {K : PySem.W.Frag} {F : Fp} {Δ : List Sl} {fr : Bool}
theorem et_yes : EvT F tYes Δ fun b => b = true := fun H0 S H σ w t Q k => k true S H rfl (Gr.refl w.s)
theorem ef_lcM {wi : TI} {g : TG} {tt : TT} {te : TE} {vs : List Nat} {ds : List D} (h : EvI F wi Δ fun r => r = ds) (hz : ds.length ≤ sizeLine) (f : D → Option D)
    (hs : ∀ (i : Nat) (d : D), ds[i]? = some d → ∃ js Δ', EvG F g d (wipeD Δ vs) js Δ' ∧ (∀ j ∈ js, j ∈ vs) ∧ ∃ b : Bool, EvT F tt Δ' (fun c => c = b) ∧ (b = false → f d = Option.none) ∧ (b = true → ∃ e, f d = some e ∧ Ev1 F te Δ' e)) :
    EvF F (tLc wi g tt te vs) Δ fun r => r = ds.filterMap f := by
  refine ef_lcP h (fun _ e => e ▸ hz) (fun ds' i acc => acc = (ds'.take i).filterMap f) (fun ds' _ => by simp) (fun ds' i d acc e hi ha _ => ?_) fun ds' acc e ha => by subst e; rw [ha, List.take_length]
  subst e
  obtain ⟨js, Δ', hg, hj, b, ht, h0, h1⟩ := hs i d hi
  have hl := (List.getElem?_eq_some_iff.mp hi)
  have tk : ds'.take (i + 1) = ds'.take i ++ [d] := by rw [List.take_succ, hi]; rfl
  refine ⟨js, Δ', hg, hj, fun c => c = b, ht, fun e => ?_, fun e => ?_⟩
  · rw [ha, tk, List.filterMap_append]
    simp [h0 e.symm]
  · obtain ⟨x, e1, e2⟩ := h1 e.symm
    refine e2.imp fun y ey => ?_
    rw [ha, tk, List.filterMap_append, ey]
    simp [e1]
theorem ef_map {wi : TI} {g : TG} {te : TE} {vs : List Nat} {ds : List D} (h : EvI F wi Δ fun r => r = ds) (hz : ds.length ≤ sizeLine) (f : D → D)
    (hs : ∀ (i : Nat) (d : D), ds[i]? = some d → ∃ js Δ', EvG F g d (wipeD Δ vs) js Δ' ∧ (∀ j ∈ js, j ∈ vs) ∧ Ev1 F te Δ' (f d)) : EvF F (tLc wi g tYes te vs) Δ fun r => r = ds.map f := by
  have := ef_lcM (tt := tYes) h hz (fun d => some (f d)) fun i d e => by
    obtain ⟨js, Δ', a, b, c⟩ := hs i d e
    exact ⟨js, Δ', a, b, true, et_yes, (nomatch ·), fun _ => ⟨_, rfl, c⟩⟩
  rw [show ds.filterMap (fun d => some (f d)) = ds.map f by simp] at this
  exact this
/-- each item is one of some, as many as are walked -/
theorem ef_each {wi : TI} {g : TG} {te : TE} {vs : List Nat} {Pd : List D → Prop} {P : D → Prop} (h : EvI F wi Δ Pd) (hz : ∀ ds, Pd ds → ds.length ≤ sizeLine)
    (hs : ∀ (ds : List D) (i : Nat) (d : D), Pd ds → ds[i]? = some d → ∃ js Δ', EvG F g d (wipeD Δ vs) js Δ' ∧ (∀ j ∈ js, j ∈ vs) ∧ EvR F te Δ' P) : EvF F (tLc wi g tYes te vs) Δ fun r => ∃ ds, Pd ds ∧ r.length = ds.length ∧ ∀ d ∈ r, P d := by
  refine ef_lcP h hz (fun ds' i acc => acc.length = i ∧ ∀ d ∈ acc, P d) (fun ds' _ => ⟨rfl, fun _ h => (List.not_mem_nil h).elim⟩) (fun ds' i d acc e hi ha _ => ?_) fun ds' acc e ha => ⟨ds', e, ha.1, ha.2⟩
  obtain ⟨js, Δ', hg, hj, he⟩ := hs ds' i d e hi
  refine ⟨js, Δ', hg, hj, fun c => c = true, et_yes, (nomatch ·), fun _ => he.imp fun x hx => ⟨by simp [ha.1], fun y hy => ?_⟩⟩
  rw [List.mem_append, List.mem_singleton] at hy
  rcases hy with hy | rfl
  · exact ha.2 y hy
  · exact hx
/-! == of data -/
theorem eqb_nil : ∀ l : List D, D.eqb (.list l) (.list []) = l.isEmpty
  | [] => rfl
  | _ :: _ => rfl
mutual
theorem eqb_refl : ∀ d : D, PyData.eqv d.py d.py = true
  | .none => rfl
  | .bool b => by simp [D.py, PyData.eqv]
  | .int b => by simp [D.py, PyData.eqv]
  | .str b => by simp [D.py, PyData.eqv]
  | .list l => by simp only [D.py, PyData.eqv]; exact eqbL_refl l
  | .tuple l => by simp only [D.py, PyData.eqv]; exact eqbL_refl l
  | .dict _ => rfl
  | .obj _ _ => rfl
  | .exc _ _ => rfl
  | .ref _ => rfl
theorem eqbL_refl : ∀ l : List D, PyData.eqvAll (pyL l) (pyL l) = true
  | [] => rfl
  | d :: ds => by simp only [pyL, PyData.eqvAll, eqb_refl d, eqbL_refl ds, Bool.and_true]
end
/-! what == may look at: by depth and signs -/
mutual
def D.okn : Nat → D → Bool
  | _, .none => true
  | _, .bool _ => true
  | _, .int _ => true
  | _, .str s => s.cps.all (· < 0x110000)
  | 0, .list _ => false
  | n + 1, .list l => oknL n l
  | 0, .tuple _ => false
  | n + 1, .tuple l => oknL n l
  | _, .dict _ => false
  | _, .obj _ _ => false
  | _, .exc _ _ => false
  | _, .ref _ => false
def oknL : Nat → List D → Bool
  | _, [] => true
  | n, d :: ds => d.okn n && oknL n ds
end
mutual
theorem okn_py : ∀ (n : Nat) (d : D), d.okn n = true → d.isPy = true ∧ d.py.canLay0 = true ∧ d.py.depth ≤ n
  | n, .none, _ => by cases n <;> exact ⟨rfl, rfl, Nat.zero_le _⟩
  | n, .bool _, _ => by cases n <;> exact ⟨rfl, rfl, Nat.zero_le _⟩
  | n, .int _, _ => by cases n <;> exact ⟨rfl, rfl, Nat.zero_le _⟩
  | n, .str s, h => by
    have h : s.cps.all (· < 0x110000) = true := by cases n <;> simpa only [D.okn] using h
    exact ⟨rfl, h, Nat.zero_le _⟩
  | 0, .list _, h => by simp [D.okn] at h
  | n + 1, .list l, h => by
    simp only [D.okn] at h
    obtain ⟨a, b, c⟩ := oknL_py n l h
    exact ⟨a, b, Nat.succ_le_succ c⟩
  | 0, .tuple _, h => by simp [D.okn] at h
  | n + 1, .tuple l, h => by
    simp only [D.okn] at h
    obtain ⟨a, b, c⟩ := oknL_py n l h
    exact ⟨a, b, Nat.succ_le_succ c⟩
  | n, .dict _, h => by cases n <;> simp [D.okn] at h
  | n, .obj _ _, h => by cases n <;> simp [D.okn] at h
  | n, .exc _ _, h => by cases n <;> simp [D.okn] at h
  | n, .ref _, h => by cases n <;> simp [D.okn] at h
theorem oknL_py : ∀ (n : Nat) (l : List D), oknL n l = true → isPyL l = true ∧ PyData.canLayAll0 (pyL l) = true ∧ PyData.depthAll (pyL l) ≤ n
  | n, [], _ => ⟨rfl, rfl, Nat.zero_le _⟩
  | n, d :: ds, h => by
    simp only [oknL, Bool.and_eq_true] at h
    obtain ⟨a, b, c⟩ := okn_py n d h.1
    obtain ⟨a', b', c'⟩ := oknL_py n ds h.2
    exact ⟨by simp [isPyL, a, a'], by simp [pyL, PyData.canLayAll0, b, b'], Nat.max_le.mpr ⟨c, c'⟩⟩
end
theorem D.okn_ok {d : D} (h : d.okn 64 = true) : d.eqOk := by
  obtain ⟨a, b, c⟩ := okn_py 64 d h
  exact ⟨a, by simp [SeqAt.shaped, b, c]⟩
theorem oknL_of {n : Nat} : ∀ {l : List D}, (∀ d ∈ l, d.okn n = true) → oknL n l = true
  | [], _ => rfl
  | d :: ds, h => by
    have h1 := h d (List.mem_cons_self)
    have h2 : oknL n ds = true := oknL_of fun x hx => h x (List.mem_cons_of_mem _ hx)
    simp only [oknL, h1, h2, Bool.and_true]
theorem okn_txt {n : Nat} {l : List Nat} (h : ∀ c ∈ l, c < 128) : (D.str (txt l)).okn n = true := by
  cases n <;> (simp only [D.okn, txt, List.all_toArray, List.all_eq_true, decide_eq_true_eq]; exact fun c hc => Nat.lt_trans (h c hc) (by decide))
end
end Bc

/-! Core 9: the rules with the written part named (within comprehensions the context is another one). -/
namespace Bc
open PySem L2 PySem.Spec PyProof.Rows
section
variable {X : Cx} {K : PySem.W.Frag}
theorem qAdd (hK : X.K = K := by rfl) : OpR X (binaryOp .Add) (rAddP K) := by subst hK; exact pAdd
theorem qEq (hu : X.A.units + 65 < cLine) (hK : X.K = K := by rfl) : OpR X (compareOp .Eq) (rEqP K) := by subst hK; exact pEq hu
theorem qNe (hu : X.A.units + 65 < cLine) (hK : X.K = K := by rfl) : OpR X (compareOp .NotEq) (rNeP K) := by subst hK; exact pNe hu
theorem qIn (hu : X.A.units + 65 < cLine) (hK : X.K = K := by rfl) : OpR X (compareOp .In) (rInP K false) := by subst hK; exact pIn hu
theorem qNotIn (hu : X.A.units + 65 < cLine) (hK : X.K = K := by rfl) : OpR X (compareOp .NotIn) (rInP K true) := by subst hK; exact pNotIn hu
theorem qIx (hK : X.K = K := by rfl) : IxR X (rIx K) := by subst hK; exact ix_seq
theorem qSl (hK : X.K = K := by rfl) : SlR X (rSlP K) := by subst hK; exact pSl
theorem qLen (hK : X.K = K := by rfl) : CallR X (.builtin "len") (rLenP K) := by subst hK; exact pLen
theorem qList (hK : X.K = K := by rfl) : CallR X (.type "list") (rListP K) := by subst hK; exact pList
theorem qTuple (hK : X.K = K := by rfl) : CallR X (.type "tuple") (rTupP K) := by subst hK; exact pTuple
theorem qIsi (hK : X.K = K := by rfl) : CallR X (.builtin "isinstance") (rIsi K) := by subst hK; exact call_isi
theorem qi_any {tg l : Expr} {tl : TE} (hl : PE X l tl) (hK : X.K = K := by rfl) : PI X tg l (iAny K tl) := by subst hK; exact pi_any hl
theorem qBm0 {o : Expr} {to : TE} {name : Str} {apos cpos : Pos} {T id : String} {r : V → List V → Hp → VK → Prop} (pa : PlainAttrs T) (slot : Slot T name id) (hty : typeOf (.builtin id) = pure (.type "method_descriptor")) (hm : MtR X id r) (ho : PE X o to) (hK : X.K = K := by rfl)
    (hbase : attributeBase o name X.env (eval o X.env) = eval o X.env := by rfl) (hline : (apos.endLine == cpos.line) = true := by rfl) : PE X (.Call (.Attribute o name apos) [] [] cpos) (tBM0 K T r to) := by
  subst hK
  exact pe_bm0 pa slot hty hm ho hbase hline
theorem qBm {o e : Expr} {es : List Expr} {to : TE} {t : TA} {name : Str} {apos cpos : Pos} {T id : String} {r : V → List V → Hp → VK → Prop} (pa : PlainAttrs T) (slot : Slot T name id) (hty : typeOf (.builtin id) = pure (.type "method_descriptor")) (hm : MtR X id r) (ho : PE X o to) (ha : PA X (e :: es) t) (hK : X.K = K := by rfl)
    (hbase : attributeBase o name X.env (eval o X.env) = eval o X.env := by rfl)
    (hfew : ((backTo cpos (starEach (e :: es) X.env)).all (fun x => !x.1) && (backToKw cpos (keywordEach [] X.env)).all (fun x => x.1.isSome) && decide ((e :: es).length + ([] : List Keyword).length + (if ([] : List Keyword).isEmpty then 0 else 1) < 30)) = true := by rfl)
    (hline : (apos.endLine == cpos.line) = true := by rfl) (hs : starEach (e :: es) X.env = (false, eval e X.env) :: starEach es X.env := by rfl) (hplain : (backTo cpos (starEach es X.env)).any (·.1) = false := by rfl) :
    PE X (.Call (.Attribute o name apos) (e :: es) [] cpos) (tBM K T r to t) := by
  subst hK
  exact pe_bm pa slot hty hm ho ha hbase hfew hline hs hplain
theorem qg_tup {es : List Expr} {k : Nat} {t : TGs} {n : Nat} {pos : Pos} (hc : X.calm = true) (h : PGs X es t) (hK : X.K = K := by rfl) (hn : (assignEach es X.env).length = n := by rfl) (hst : (assignEach es X.env).findIdx? (·.1) = Option.none := by rfl) : PG X (.Tuple es k pos) (gTup K n t) := by
  subst hK
  exact pg_tup hc h hn hst
end
end Bc

/-! Core I: an own exception whose __init__ says super().__init__('..') and stores its parameters. -/
namespace Bc
namespace XI
open PySem PySem.W PySem.Calls PyProof.Rows PySem.HandSPX
/-- what the written part says of an exception class -/
structure XCls (K : Frag) (C : Addr) (B newId initId : String) (bmB : List Value) : Prop where
  F : ExcBaseFacts B newId initId bmB
  X : KxsFacts B initId
  cls : ∃ nm q N bs bm sn sub ab col dd k0 k1 k2 k3 k5, K.lookup C = some (excClassObj nm q C N bs bm true sn sub ab col dd k0 k1 k2 k3 k5 newId) ∧ (∀ X, bm.contains (.type X) = bmB.contains (.type X)) ∧ ∀ self, refuseLoop self "__setattr__" (.ref C :: bm) = pure ()
  ob : bmB.contains (.type "object") = true
  sa : findIn K (.ref C) "__setattr__" = some (some (.builtin "object.__setattr__"))
  kC : keepIn K (.ref C) = true
  exC : subIn K (.ref C) (.type "BaseException") = some true
  tyC : typeIn K (.ref C) = some (.type "type")
  sB : subIn K (.ref C) (.type B) = some true
abbrev exR (C t1 : Addr) (d : Option Addr) : Obj := { cls := .ref C, dict := d, data := .fields #[.ref t1, .none, .none, .none, .bool false, .none] }
def AsgL : List Stmt → List (Str × Str) → Prop
  | [], fs => fs = []
  | st :: r, fs => ∃ a p s, fs = (a, p) :: s ∧ (∃ q1 q2 q3 q4, st = .Assign [.Attribute (.Name "self" q1) a q2] (.Name p q3) q4) ∧ AsgL r s
/-- self.path = tuple(path) -/
def PathL (scope : Scope) (rest : List Stmt) : Prop := (∃ q1 q2 q3 q4 q5 q6, rest = [.Assign [.Attribute (.Name "self" q1) "path" q2] (.Call (.Name "tuple" q5) [.Name "path" q3] [] q6) q4]) ∧ scope.names.lookup ("tuple" : Str) = some .globalImplicit
/-- the text of __init__ -/
structure XIn (P : Program) (K : Frag) (C fI : Addr) (initId : String) (ps : List Str) (fs : List (Str × Str)) (pt : Bool) : Prop where
  iC : findIn K (.ref C) "__init__" = some (some (.ref fI))
  tI : typeIn K (.ref fI) = some (.type "function")
  noN : ∀ p ∈ fs, findIn K (.ref C) p.1 = some none
  fn : ∃ (oc : Value) (od : Option Addr) (qual : Str) (params : Arguments) (scope : Scope) (cc cda D : Addr) (dV kV doc pm ct : Value) (an : Option Addr) (osl : Array (Option Value)) (p0 p1 p2 p3 p4 p5 : Pos) (msg : Str) (j : Nat) (rest : List Stmt) (cdD : ClassData),
    K.lookup fI = some ⟨oc, od, .func (fnX "__init__" qual params (.Expr (.Call (.Attribute (.Call (.Name "super" p0) [] [] p1) "__init__" p2) [.Constant (.str msg) j p3] [] p4) p5 :: rest) scope [("__class__", cc)] dV kV doc pm an (.ref cda) ct), osl⟩ ∧
    codeIn K (.ref cda) qual = true ∧ (if pt = true then PathL scope rest else AsgL rest fs) ∧
    (p2.endLine == p4.line) = true ∧ (∃ ar, (params.posonlyargs ++ params.args).head? = some ar ∧ ar.arg = "self") ∧
    scope.kind = .function ∧ scope.isCoroutine = false ∧ scope.isGenerator = false ∧ scope.names.lookup ("super" : Str) = some .globalImplicit ∧ scope.names.lookup ("__class__" : Str) = some .free ∧ (∀ x ∈ ("self" : Str) :: ps, scope.names.lookup x = some .local) ∧ (∀ x ∈ scope.names, x.2 ≠ .cell) ∧
    (∃ ccl cdd vs ccs file tf, K.lookup cda = some ⟨ccl, cdd, .fields vs, ccs⟩ ∧ vs[2]? = some (.str file tf) ∧ ((P.main.file : Str) == file) = true) ∧
    (∃ cl cld csl, K.lookup cc = some ⟨cl, cld, .cell (some (.ref D)), csl⟩) ∧ clsIn K D = some cdD ∧ mroIn K C (.ref D) = some true ∧ ks_superIn K C D "__init__" = some (some (.builtin initId)) ∧
    (∀ us : List Value, us.length = ps.length + 1 → bindArgs (fnX "__init__" qual params (.Expr (.Call (.Attribute (.Call (.Name "super" p0) [] [] p1) "__init__" p2) [.Constant (.str msg) j p3] [] p4) p5 :: rest) scope [("__class__", cc)] dV kV doc pm an (.ref cda) ct) ⟨us, []⟩ = pure ((("self" : Str) :: ps).zip us))
  nodup : (("self" : Str) :: ps).Nodup
  mem : ∀ p ∈ fs, p.2 ∈ ps
  few : fs.length ≤ 900
  ndbg : ∀ p ∈ fs, (p.2 == ("__debug__" : Str)) = false
  nda : (fs.map (·.1)).Nodup
  notop : (P.main.scope.names.lookup ("super" : Str)).isSome = false
  pth : pt = true → ps = [("path" : Str)] ∧ fs = [(("path" : Str), ("path" : Str))]
  opq : nsIn K cStatics "thirdparty.any" = some none
section
open Builtin Builtin.ObjectAttr
variable {prog : Program} {w : World} {A : Around} {E : Value → Shared → Prop} {R : Result → Shared → Prop} {hp : Heap} {g : Array GenState} {d : Drawn} {t : Nat} {os : OsState} {K : Frag} {C fI : Addr} {B newId initId : String} {bmB : List Value}
theorem osa_x {name : Str} {tk : Tok} {v : Value} {x : Addr} {ox : Obj} {od : Option Obj} {cd : ClassData}
    (X : K.In hp) (I : InstAt hp x ox C od) (hcd : clsIn K C = some cd) (hob : cd.mro.contains (.type "object") = true) (hpass : refuseLoop (.ref x) "__setattr__" cd.mro = pure ()) (ha : findIn K (.ref C) name = some none)
    (hq : wpAny (model prog w) A.in1 (storeInOwnDict (.ref x) (.ref C) (.str name tk) name v false)
      (fun fin s' => match fin with | .done f => R (.ok f) s' | .again c' => c'.quiet = true ∧ codeAny (model prog w) A c' R s') (fun e s' => R (.error e) s') ⟨hp, g, d, t, os⟩) :
    codeAny (model prog w) A (.call (.builtin "object.__setattr__") ⟨[.ref x, .str name tk, v], []⟩) R ⟨hp, g, d, t, os⟩ := by
  have SF := PySem.F.store_object
  have hne : cd.mro.isEmpty = false := by
    cases h : cd.mro with
    | nil => rw [h] at hob; cases hob
    | cons a l => rfl
  have sub : Looks (model prog w) hp (isInstance (.ref x) (.type "object")) true := I.type.andThen (looks_mroIn X (by unfold mroIn; rw [hcd, Option.bind_some, hne, if_neg (by decide), hob]))
  refine codeAny_call_builtin SF.slot.plain SF.entry (@check_slot (model prog w) _ _ ⟨hp, g, d, t, os⟩ "object.__setattr__" "object" "__setattr__" (.ref x) [.str name tk, v] [] _ SF.kind SF.split sub (SF.args (.ref x) (.str name tk) v) ?_)
  have hmr : Looks (model prog w) hp (mroOf (.ref C)) cd.mro := (looks_clsIn X hcd).andThen .now
  have L3 : Looks (model prog w) hp (storeTaker? none) none := .now
  rw [osa_eq, refuse_eq]
  refine wpAny_bind (wpAny_bind (I.type.at (wpAny_bind (hmr.at ?_))))
  rw [hpass]
  refine wpAny_pure (wpAny_bind (I.type.at (wpAny_bind ((looks_findIn X ha).at (wpAny_bind (L3.at ?_))))))
  exact hq
theorem osa_new {name : Str} {tk : Tok} {v : Value} {x : Addr} {fv : Array Value} {cd : ClassData}
    (X : K.In hp) (hx : hp.get? x = some { cls := .ref C, data := .fields fv }) (hcd : clsIn K C = some cd) (hob : cd.mro.contains (.type "object") = true) (hpass : refuseLoop (.ref x) "__setattr__" cd.mro = pure ()) (hh : cd.hasDict = true) (ha : findIn K (.ref C) name = some none)
    (hq : ∀ h' tk' dx, (∀ b o, b ≠ x → hp.get? b = some o → h'.get? b = some o) → hp.objs.size ≤ dx → dx ≠ x → h'.get? x = some { cls := .ref C, dict := some dx, data := .fields fv } →
      h'.Ns1 dx (fun y => if y = name then some v else none) → R (.ok (.ret .none)) ⟨h', g, d, tk', os⟩) :
    codeAny (model prog w) A (.call (.builtin "object.__setattr__") ⟨[.ref x, .str name tk, v], []⟩) R ⟨hp, g, d, t, os⟩ := by
  have I : InstAt hp x { cls := .ref C, dict := none, data := .fields fv } C none := ⟨hx, rfl, rfl, trivial⟩
  have hxs : x ≠ hp.objs.size := Nat.ne_of_lt (Heap.lt_size hx)
  refine osa_x X I hcd hob hpass ha ?_
  have hcls : Looks (model prog w) hp (classData C) cd := looks_clsIn X hcd
  obtain ⟨nm, bs, mro, ns, qn, hd, sn, sb, ab, col, del⟩ := cd
  dsimp only at hh
  subst hh
  unfold storeInOwnDict ownDictForStores
  repeat (first | with_reducible refine HandSPX.store_in_new ?_ ?_ | with_reducible refine wpAny_loadPart_at hx ?_ | with_reducible refine hcls.at ?_ | wp_step)
  · exact ⟨_, #[], _, (Heap.get?_update_ne _ _ _ _ hxs.symm).trans (Heap.get?_push_at rfl rfl), rfl, fun e he => absurd he (by simp), fun _ => rfl⟩
  · intro h' tk' hn' hs
    have hx₁ : (hp.push { cls := .type "dict", data := .dict #[] }).get? x = some { cls := .ref C, data := .fields fv } := Heap.get?_push_of_some _ hx
    refine hq h' tk' hp.objs.size (fun b o hb ho => ?_) (Nat.le_refl _) hxs.symm ?_ hn'
    · exact (hs.2 b (Nat.ne_of_lt (Heap.lt_size ho))).trans ((Heap.get?_update_ne _ _ _ _ hb).trans (Heap.get?_push_of_some _ ho))
    · exact (hs.2 x hxs).trans (Heap.get?_update_self _ hx₁ rfl)
theorem osa_old {name : Str} {tk : Tok} {v : Value} {x dx : Addr} {fv : Array Value} {cd : ClassData} {m0 : Str → Option Value} {nl : List Str}
    (X : K.In hp) (hx : hp.get? x = some { cls := .ref C, dict := some dx, data := .fields fv }) (hns : hp.Ns1 dx m0) (hw : Within m0 nl) (hz : nl.length ≤ 1000) (hcd : clsIn K C = some cd) (hob : cd.mro.contains (.type "object") = true) (hpass : refuseLoop (.ref x) "__setattr__" cd.mro = pure ()) (hh : cd.hasDict = true)
    (ha : findIn K (.ref C) name = some none)
    (hq : ∀ h' tk', (∀ b o, b ≠ dx → hp.get? b = some o → h'.get? b = some o) → h'.Ns1 dx (fun y => if y = name then some v else m0 y) → R (.ok (.ret .none)) ⟨h', g, d, tk', os⟩) :
    codeAny (model prog w) A (.call (.builtin "object.__setattr__") ⟨[.ref x, .str name tk, v], []⟩) R ⟨hp, g, d, t, os⟩ := by
  obtain ⟨oD, esD, epD, hoD, hdD, _⟩ := hns.count hw
  have I : InstAt hp x { cls := .ref C, dict := some dx, data := .fields fv } C (some oD) := ⟨hx, rfl, rfl, hoD⟩
  refine osa_x X I hcd hob hpass ha ?_
  have hcls : Looks (model prog w) hp (classData C) cd := looks_clsIn X hcd
  obtain ⟨nm, bs, mro, ns, qn, hd, sn, sb, ab, col, del⟩ := cd
  dsimp only at hh
  subst hh
  unfold storeInOwnDict ownDictForStores
  repeat (first | with_reducible refine PySem.OEX.store_in_old hns hw hz ?_ | with_reducible refine wpAny_loadPart_at hx ?_ | with_reducible refine hcls.at ?_ | wp_step)
  intro h' tk' hn' hs
  exact hq h' tk' (fun b o hb ho => (hs.2 b hb).trans ho) hn'
end
/-! ### the stores -/
/-- midway: the fields so far (the last one first); the frame L -/
structure Mid (h0 h : Heap) (L x C : Addr) (m : Str → Option Value) (fs : List (Str × Value)) : Prop where
  keep : ∀ b o, b ≠ x → h0.get? b = some o → h.get? b = some o
  ns : h.Ns L m
  lx : L ≠ x
  sz : h0.objs.size ≤ h.objs.size
  obj : ∃ t1, (fs = [] ∧ h.get? x = some (exR C t1 none)) ∨ ∃ dx, h0.objs.size ≤ dx ∧ L ≠ dx ∧ dx ≠ x ∧ h.get? x = some (exR C t1 (some dx)) ∧ h.Ns1 dx fun y => fs.lookup y
def Got (m : Str → Option Value) : List (Str × Str) → List (Str × Value) → Prop
  | [], vs => vs = []
  | p :: s, vs => ∃ v r, vs = (p.1, v) :: r ∧ m p.2 = some v ∧ Got m s r
theorem lookup_put (f y : Str) (v : Value) (fs : List (Str × Value)) : ((f, v) :: fs).lookup y = if y = f then some v else fs.lookup y := by
  by_cases h : y = f
  · subst h
    simp [List.lookup]
  · have e : (y == f) = false := by simpa using h
    rw [if_neg h]
    simp [List.lookup, e]
theorem within_lookup (fs : List (Str × Value)) : Within (fun y => fs.lookup y) (fs.map (·.1)) := fun y hy => by
  induction fs with
  | nil => exact absurd rfl hy
  | cons p fs ih =>
    obtain ⟨f, v⟩ := p
    have hy2 : ((f, v) :: fs).lookup y ≠ none := hy
    rw [lookup_put] at hy2
    by_cases e : y = f
    · rw [e]; exact List.mem_cons_self ..
    · rw [if_neg e] at hy2
      have hy := hy2
      exact List.mem_cons_of_mem _ (ih hy)
section
variable {prog : Program} {w : World} {A : Around} {E : Value → Shared → Prop} {h0 : Heap} {g : Array GenState} {d : Drawn} {os : OsState} {K : Frag} {C L x : Addr} {B newId initId : String} {bmB : List Value} {env : Env} {m : Str → Option Value}
theorem stores (T : XCls K C B newId initId bmB) (X0 : K.In h0) (hx0 : K.lookup x = none) (hk : env.scope.kind = .function) (hL : env.locals = L) (hself : env.kindOf "self" = some .local) (mself : m "self" = some (.ref x)) :
    ∀ (sts : List Stmt) (fs : List (Str × Str)) (done : List (Str × Value)) (h : Heap) (t : Nat) (Q : Flow → Shared → Prop), AsgL sts fs → (∀ p ∈ fs, findIn K (.ref C) p.1 = some none ∧ env.kindOf p.2 = some .local ∧ (p.2 == ("__debug__" : Str)) = false ∧ ∃ v, m p.2 = some v) → done.length + fs.length ≤ 900 → Mid h0 h L x C m done →
      (∀ h' t' vs, Mid h0 h' L x C m (vs.reverse ++ done) → Got m fs vs → Q .next ⟨h', g, d, t', os⟩) →
      wpAny (model prog w) A (execs sts env) Q E ⟨h, g, d, t, os⟩
  | [], fs, done, h, t, Q, ha, hf, hl, M, hq => by
    subst ha
    exact wpAny_execs_nil (hq h t [] M rfl)
  | st :: sts, fs, done, h, t, Q, ha, hf, hl, M, hq => by
    obtain ⟨a, p, s, rfl, ⟨q1, q2, q3, q4, rfl⟩, ha⟩ := ha
    obtain ⟨no, hp, hdb, v, hv⟩ := hf (a, p) (List.mem_cons_self ..)
    obtain ⟨nm, q, N, bs, bm, sn, sub, ab, col, dd, k0, k1, k2, k3, k5, hC, hT, hpass⟩ := T.cls
    have hcl : clsIn K C = some { name := nm, bases := bs, mro := .ref C :: bm, ns := N, qualname := q, hasDict := true, slotNames := sn, subclasses := sub, abstract := ab, collection := col, hasDel := false } := by unfold clsIn; rw [hC] <;> rfl
    have hob : (Value.ref C :: bm).contains (.type "object") = true := by
      rw [List.contains_cons, hT "object", T.ob, Bool.or_true]
    have X : K.In h := fun b o e => M.keep b o (fun z => by rw [z, hx0] at e; cases e) (X0 b o e)
    have ns := M.ns
    rw [← hL] at ns
    refine wpAny_execs_cons (plainObj_wpAny_Assign_Attribute (wpAny_Name (wpAny_loadName_local hk hp ns hv (wpAny_Name (wpAny_loadName_local hk hself ns mself ?_) (by decide))) hdb))
    obtain ⟨t1, ⟨rfl, hx⟩ | ⟨dx, hdb2, hLd, hdx, hx, hns⟩⟩ := M.obj
    · refine set_plain X (ox := exR C t1 none) (od := none) ⟨hx, rfl, rfl, trivial⟩ T.sa ?_
      refine osa_new X hx hcl hob (hpass _) rfl no fun h' tk' dx k dn dne hx' hn' => ?_
      obtain ⟨oL, esL, epL, hoL, hrL⟩ := id M.ns
      have hLlt : L < h.objs.size := Heap.lt_size hoL
      have hd' : dx < h'.objs.size := by
        obtain ⟨o, _, _, e, _⟩ := id hn'
        exact Heap.lt_size e
      refine stores T X0 hx0 hk hL hself mself sts s [(a, v)] h' tk' Q ha (fun p hp => hf p (List.mem_cons_of_mem _ hp)) (by simp at hl ⊢; omega) ⟨fun b o hb e => k b o hb (M.keep b o hb e), ⟨oL, esL, epL, k _ _ M.lx hoL, hrL⟩, M.lx, Nat.le_trans M.sz (Nat.le_trans dn (Nat.le_of_lt hd')), t1, .inr ⟨dx, Nat.le_trans M.sz dn, Nat.ne_of_lt (Nat.lt_of_lt_of_le hLlt dn), dne, hx', ?_⟩⟩ fun h2 t2 vs M2 f2 => ?_
      · simpa only [lookup_put, List.lookup_nil] using hn'
      · exact hq h2 t2 ((a, v) :: vs) (by simpa using M2) ⟨v, vs, rfl, hv, f2⟩
    · refine set_plain X (ox := exR C t1 (some dx)) (od := some hns.choose) ⟨hx, rfl, rfl, hns.choose_spec.choose_spec.choose_spec.1⟩ T.sa ?_
      refine osa_old X hx hns (within_lookup done) (by rw [List.length_map]; simp at hl; omega) hcl hob (hpass _) rfl no fun h' tk' k hn' => ?_
      obtain ⟨oL, esL, epL, hoL, hrL⟩ := id M.ns
      have hd' : dx < h'.objs.size := by
        obtain ⟨o, _, _, e, _⟩ := id hn'
        exact Heap.lt_size e
      refine stores T X0 hx0 hk hL hself mself sts s ((a, v) :: done) h' tk' Q ha (fun p hp => hf p (List.mem_cons_of_mem _ hp)) (by simp at hl ⊢; omega) ⟨fun b o hb e => k b o (fun z => ?_) (M.keep b o hb e), ⟨oL, esL, epL, k _ _ hLd hoL, hrL⟩, M.lx, Nat.le_trans hdb2 (Nat.le_of_lt hd'), t1, .inr ⟨dx, hdb2, hLd, hdx, k _ _ (Ne.symm hdx) hx, ?_⟩⟩ fun h2 t2 vs M2 f2 => ?_
      · have := Heap.lt_size e
        rw [z] at this
        exact absurd this (Nat.not_lt.mpr hdb2)
      · simpa only [lookup_put] using hn'
      · exact hq h2 t2 ((a, v) :: vs) (by simpa using M2) ⟨v, vs, rfl, hv, f2⟩
end

theorem mc_eq {o c : Expr} {m : Str} {apos pos : Pos} {env : Env} {e1 : starEach [c] env = [(false, eval c env)]} (h : (apos.endLine == pos.line) = true) :
    eval (.Call (.Attribute o m apos) [c] [] pos) env = (do
      let ov ← attributeBase o m env (eval o env)
      standAt apos.atName
      let (f, first) ← holding [ov] (getMethod ov m (do return (← importBound o env).getD true))
      callWith pos f first (backTo pos (starEach [c] env)) []) := by
  rw [arm_eval_Call]
  have hf : methodCallForm ([c].length + ([] : List Keyword).length) (backTo pos (starEach [c] env)) (backToKw pos (keywordEach [] env)) = true := by
    rw [e1]
    rfl
  unfold methodCall calleeOf methodCallPos
  rw [hf]
  simp only [h, Bool.not_true, Bool.false_or, if_true, pure_bind]
  rfl
/-- a made exception: its dict, if it has fields -/
structure Made (h h' : Heap) (e C : Addr) (dd : Option Addr) (vs : List (Str × Value)) : Prop where
  keep : ∀ b o, b ≠ e → h.get? b = some o → h'.get? b = some o
  obj : ∃ t1, h'.get? e = some (exR C t1 dd)
  dct : match dd with | none => vs = [] | some dx => h.objs.size ≤ dx ∧ dx ≠ e ∧ h'.Ns1 dx fun y => vs.reverse.lookup y
section
variable {prog : Program} {w : World} {A : Around} {E : Value → Shared → Prop} {R : Result → Shared → Prop} {s : Shared} {K : Frag} {C fI x : Addr} {B newId initId : String} {bmB : List Value} {ps : List Str} {fs : List (Str × Str)} {mg mb : Str → Option Value}
def s0p (h h' : Heap) (x u : Addr) (its : Array Value) (v : Value) : Prop := (h.IsTuple u its ∧ v = .ref u) ∨ (h.IsList u its ∧ ∃ t, v = .ref t ∧ h.objs.size ≤ t ∧ t ≠ x ∧ h'.get? t = some { cls := .type "tuple", data := .seq its })
/-- what the fields hold; a path is told as a tuple -/
def GotP (h h' : Heap) (x : Addr) (pt : Bool) (m : Str → Option Value) (fs : List (Str × Str)) (vs : List (Str × Value)) : Prop :=
  if pt = true then ∃ u its v, m "path" = some (.ref u) ∧ vs = [(("path" : Str), v)] ∧ s0p h h' x u its v else Got m fs vs
theorem gotp_of {h h' : Heap} {x : Addr} {m : Str → Option Value} {fs : List (Str × Str)} {vs : List (Str × Value)} (G : Got m fs vs) : GotP h h' x false m fs vs := by
  unfold GotP
  rw [if_neg (by decide)]
  exact G
theorem ns_ne {h : Heap} {a x C t : Addr} {dd : Option Addr} {m : Str → Option Value} (n : h.Ns a m) (e : h.get? x = some (exR C t dd)) : a ≠ x := fun z => by
  obtain ⟨o, es, ep, q, r, _⟩ := n
  rw [z, e] at q
  cases q
  cases r
theorem ns_keeps {h h' : Heap} {a x : Addr} {m : Str → Option Value} (n : h.Ns a m) (k : ∀ b o, b ≠ x → h.get? b = some o → h'.get? b = some o) (hx : a ≠ x) : h'.Ns a m := by
  obtain ⟨o, es, ep, q, r⟩ := n
  exact ⟨o, es, ep, k _ _ hx q, r⟩
theorem init_raw {pt : Bool} (T : XCls K C B newId initId bmB) (I : XIn prog K C fI initId ps fs pt) {t0 : Addr} {us : List Value} (hus : us.length = ps.length) (X : K.In s.heap) (hg : s.heap.Ns mainGlobals mg) (gs : mg "super" = none) (hb : s.heap.Ns builtinsNs mb) (bs : mb "super" = some (.type "super"))
    (gt : pt = true → mg "tuple" = none ∧ mb "tuple" = some (.type "tuple") ∧ ∃ u its, us = [.ref u] ∧ (s.heap.IsTuple u its ∨ (s.heap.IsList u its ∧ its.size ≤ sizeLine)))
    (hlim : s.heap.NoLimit) (hx : s.heap.get? x = some (exR C t0 none)) (hnx : K.lookup x = none) (hroom : A.depth < recursionLimit)
    (hq : ∀ h' tk dd vs, Made s.heap h' x C dd vs → GotP s.heap h' x pt (fun y => ((("self" : Str) :: ps).zip (.ref x :: us)).reverse.lookup y) fs vs → R (.ok (.ret .none)) { s with heap := h', toks := tk }) :
    codeAny (model prog w) A (.call (.ref fI) ⟨.ref x :: us, []⟩) R s := by
  obtain ⟨oc, od, qual, params, scope, cc, cda, D, dV, kV, doc, pm, ct, an, osl, p0, p1, p2, p3, p4, p5, msg, j, rest, cdD, lk, hcd, hasg, hpos, ⟨ar, har, hself⟩, sk, sco, sgen, ssup, scls, sloc, snoc, ⟨ccl, cdd, cvs, ccs, file, tf, lcda, hvs, hfile⟩, ⟨cl, cld, csl, lcc⟩, hD, hsub, hsuper, hbind⟩ := I.fn
  obtain ⟨nm, q, N, bs', bm, sn, sub, ab, col, dd, k0, k1, k2, k3, k5, hC, hT, hpass⟩ := T.cls
  refine ks_codeAny_call_defAt hroom (X _ _ lk) rfl hlim (codeRec_of X hcd) rfl (BindsTo.of_eq (hbind _ (by simp [hus]))) snoc (fun y hy => sloc _ (List.of_mem_zip (show (y.1, y.2) ∈ _ from hy)).1) (fun h₀ hns hk₀ => ?_) sco sgen sk
  have hLx : s.heap.objs.size ≠ x := Nat.ne_of_gt (Heap.lt_size hx)
  obtain ⟨hp, g, d, tk, os⟩ := s
  dsimp only at hns hk₀ hx hg hb X hlim hLx hq ⊢
  have X₀ : K.In h₀ := fun b o e => hk₀ b o (X b o e)
  have hx₀ := hk₀ _ _ hx
  have hg₀ := hg.keeps hk₀
  have hb₀ := hb.keeps hk₀
  have nself : (fun y => ((("self" : Str) :: ps).zip (.ref x :: us)).reverse.lookup y) "self" = some (.ref x) := NdefX.zip_look (i := 0) I.nodup rfl rfl
  show _root_.PySem.wpAt (model prog w) (A.deeper (ksEnv qual scope hp.objs.size fI (.ref cda) cc)) (.func _ (ksEnv qual scope hp.objs.size fI (.ref cda) cc)) (execs _ (ksEnv qual scope hp.objs.size fI (.ref cda) cc)) _ _ _
  refine ks_wpAt_execs_cons (ks_wpAt_Expr_any (ks_wpAt_MethodCall ?_ (mc_eq (e1 := rfl) hpos)) (hi := by unfold interactive; rw [show (ksEnv qual scope hp.objs.size fI (.ref cda) cc).scope.kind = .function from sk]; rfl))
  obtain ⟨oD, hD1, hD2⟩ : ∃ oD, h₀.get? D = some oD ∧ oD.data = .cls cdD := by
    unfold clsIn at hD
    split at hD
    · rename_i c d cd' sl ho
      cases hD
      exact ⟨_, X₀ _ _ ho, rfl⟩
    · cases hD
  have inst : ∀ {h : Heap} {t1 : Addr}, h.get? x = some (exR C t1 none) → InstAt h x (exR C t1 none) C none := fun e => ⟨e, rfl, rfl, trivial⟩
  refine ks_wpAt_super_base (env := ksEnv qual scope hp.objs.size fI (.ref cda) cc) ssup scls rfl rfl (X₀ _ _ lk) rfl har rfl (X₀ _ _ lcda) rfl hvs hfile I.notop ?_
  refine ks_loadName_global sk ssup (loadGlobal_builtin (env := ksEnv qual scope hp.objs.size fI (.ref cda) cc) hg₀ gs hb₀ bs ⟨rfl, ?_⟩)
  refine wpAny_loadName_free sk scls rfl ⟨_, X₀ _ _ lcc, rfl⟩ ?_
  rw [hself]
  refine wpAny_loadName_local (env := ksEnv qual scope hp.objs.size fI (.ref cda) cc) sk (sloc _ (List.mem_cons_self ..)) hns nself ?_
  refine ks_wpAny_isType_cls hD1 hD2 ⟨rfl, ?_⟩
  refine ks_wpAny_call_super hD1 hD2 hx₀ rfl (fun c e => by cases e) (looks_mroIn X₀ hsub) (fun h1 e1 k1 => ?_)
  have X1 : K.In h1 := fun b o e => k1 b o (X₀ b o e)
  have hx1 := k1 _ _ hx₀
  have hcl : clsIn K C = some { name := nm, bases := bs', mro := .ref C :: bm, ns := N, qualname := q, hasDict := true, slotNames := sn, subclasses := sub, abstract := ab, collection := col, hasDel := false } := by unfold clsIn; rw [hC] <;> rfl
  have hf : alongIn K "__init__" (((Value.ref C :: bm).dropWhile (· != .ref D)).drop 1) = some (some (.builtin initId)) := by
    unfold ks_superIn at hsuper
    rw [hcl] at hsuper
    exact hsuper
  have hI : Looks (model prog w) h1 (isInstance (.ref x) (.type B)) true := (inst hx1).type.andThen (looks_subIn X1 T.sB)
  refine kxs_getMethod T.X e1 (looks_opaque X1 I.opq) (l₀ := .ref C :: bm) (fun A Q E s k q => wpAny_bind ((looks_clsIn X1 hcl) A _ E s k (wpAny_pure q))) rfl X1 hf hI (ks_ne X1 (inst hx1) hcl) rfl ?_
  have k2 : ∀ b o, h1.get? b = some o → (h1.push (kxs_mw initId x)).get? b = some o := fun b o e => Heap.get?_push_of_some _ e
  have hu2 : (h1.push (kxs_mw initId x)).get? h1.objs.size = some (kxs_mw initId x) := Heap.get?_push_at rfl rfl
  have hx2 := k2 _ _ hx1
  refine kxs_callWith (i := initId) (x := x) rfl ?_
  show wpAny _ _ (evalArgs _ true (backTo p4 (starEach (.Constant (.str msg) j p3 :: []) _)) []) _ _ _
  refine evalArgs_plain (spliced_more (Calls.Constant_str (spliced_none ⟨hu2, ?_⟩)))
  show wpAny _ _ (call (.ref h1.objs.size) [.str msg _]) _ _ _
  have X2 : K.In (h1.push (kxs_mw initId x)) := fun b o e => k2 b o (X1 b o e)
  refine wpAny_call (codeAny_of_tree ?_)
  show wpAny _ _ (callAny (.ref h1.objs.size) ⟨[.str msg _], []⟩) _ _ _
  simp only [callAny]
  refine wpAny_bind (wpAny_load hu2 ?_)
  simp only [kxs_mw, show (Value.type "method-wrapper" == Value.type "method" || Value.type "method-wrapper" == Value.type "builtin_function_or_method" || Value.type "method-wrapper" == Value.type "method-wrapper") = true by decide, if_true]
  refine KFB.if_so (by decide) ?_
  refine wpAny_bind (check_bound_init T.F.toExcCallFacts (X2 _ _ hC) hx2 rfl ?_)
  refine wpAny_bind (wpAny_pure (wpAny_pure ?_))
  refine ⟨plainId_quiet T.F.init.plain _, codeAny_builtin T.F.initEntry ?_⟩
  refine exc_init_tree (cls := .ref C) (t0 := t0) (dv := none) (c2 := .none) (c3 := .none) (b4 := .bool false) hx2 (by simp [sizeLine_eq]) fun h3 k3 e3 _ => ?_
  show _root_.PySem.wpAt _ _ _ _ _ _ _
  refine wpAt_of_wpAny ?_
  have kx : ∀ b o, b ≠ x → hp.get? b = some o → h3.get? b = some o := fun b o hb e => k3 b o hb (k2 b o (k1 b o (hk₀ b o e)))
  have kL : ∀ o, h₀.get? hp.objs.size = some o → h3.get? hp.objs.size = some o := fun o e => k3 _ o hLx (k2 _ o (k1 _ o e))
  obtain ⟨oL, esL, epL, hoL, hrL⟩ := id hns
  have hsz : hp.objs.size ≤ h3.objs.size := Nat.le_of_lt (Heap.lt_size (kL _ hoL))
  have fin : ∀ (h4 : Heap) (t4 : Nat) (vs : List (Str × Value)), Mid hp h4 hp.objs.size x C (fun y => ((("self" : Str) :: ps).zip (.ref x :: us)).reverse.lookup y) vs.reverse → GotP hp h4 x pt (fun y => ((("self" : Str) :: ps).zip (.ref x :: us)).reverse.lookup y) fs vs → R (.ok (.ret .none)) ⟨h4, g, d, t4, os⟩ := fun h4 t4 vs M4 G4 => by
    have M5 : ∃ dd, Made hp h4 x C dd vs := by
      obtain ⟨t1, ⟨e, hx4⟩ | ⟨dx, a1, a2, a3, a4, a5⟩⟩ := M4.obj
      · exact ⟨none, M4.keep, ⟨t1, hx4⟩, by simpa using e⟩
      · exact ⟨some dx, M4.keep, ⟨t1, a4⟩, a1, a3, a5⟩
    obtain ⟨dd, M5⟩ := M5
    exact hq h4 t4 dd vs M5 G4
  cases pt with
  | false =>
    have hasg : AsgL rest fs := hasg
    refine wpAny_mono (stores (env := ksEnv qual scope hp.objs.size fI (.ref cda) cc) (m := fun y => ((("self" : Str) :: ps).zip (.ref x :: us)).reverse.lookup y) T X hnx sk rfl (sloc _ (List.mem_cons_self ..)) nself rest fs [] h3 _ hasg ?_ (by simpa using I.few) ⟨kx, ⟨oL, esL, epL, kL _ hoL, hrL⟩, hLx, hsz, _, .inl ⟨rfl, e3⟩⟩ (Q := fun f s' => f = .next ∧ R (.ok (.ret .none)) s') fun h4 t4 vs M4 G4 => ⟨rfl, fin h4 t4 vs (by simpa using M4) (gotp_of G4)⟩) ?_ fun _ _ z => z
    · intro p hp'
      refine ⟨I.noN p hp', sloc _ (List.mem_cons_of_mem _ (I.mem p hp')), I.ndbg p hp', ?_⟩
      obtain ⟨i, hi⟩ := List.mem_iff_getElem?.mp (I.mem p hp')
      have hlt : i < us.length := by rw [hus]; exact (List.getElem?_eq_some_iff.mp hi).1
      exact ⟨us[i], NdefX.zip_look (i := i + 1) I.nodup (by simpa using hi) (by simp [hlt])⟩
    · rintro f s' ⟨rfl, z⟩
      exact z
  | true =>
    obtain ⟨⟨q1, q2, q3, q4, q5, q6, rfl⟩, stup⟩ := (show PathL scope rest from hasg)
    obtain ⟨eps, efs⟩ := I.pth rfl
    subst eps
    subst efs
    obtain ⟨gt1, bt1, u, its, eus, hu⟩ := gt rfl
    subst eus
    have mpath : (fun y => ((("self" : Str) :: [("path" : Str)]).zip [Value.ref x, Value.ref u]).reverse.lookup y) "path" = some (.ref u) := rfl
    have X3 : K.In h3 := fun b o e => kx b o (fun z => by rw [z, hnx] at e; cases e) (X b o e)
    have ux : u ≠ x := fun z => by
      rcases hu with ⟨o, ho, hc, _⟩ | ⟨⟨o, ho, hc, _⟩, _⟩
      · rw [z, hx] at ho
        cases ho
        cases hc
      · rw [z, hx] at ho
        cases ho
        cases hc
    have one : ∀ (h5 : Heap) (t5 : Nat) (v : Value), (∀ b o, h3.get? b = some o → h5.get? b = some o) → (∀ h4, (∀ b o, b ≠ x → h5.get? b = some o → h4.get? b = some o) → GotP hp h4 x true (fun y => ((("self" : Str) :: [("path" : Str)]).zip [Value.ref x, Value.ref u]).reverse.lookup y) [(("path" : Str), ("path" : Str))] [(("path" : Str), v)]) →
        wpAny (model prog w) (A.deeper (ksEnv qual scope hp.objs.size fI (.ref cda) cc)) (setAttr (.ref x) "path" v) (fun _ s' => R (.ok (.ret .none)) s') (fun _ _ => False) ⟨h5, g, d, t5, os⟩ := fun h5 t5 v k5 G5 => by
      have hob : (Value.ref C :: bm).contains (.type "object") = true := by
        rw [List.contains_cons, hT "object", T.ob, Bool.or_true]
      have X5 : K.In h5 := fun b o e => k5 b o (X3 b o e)
      have hx5 := k5 _ _ e3
      refine set_plain X5 (ox := exR C _ none) (od := none) ⟨hx5, rfl, rfl, trivial⟩ T.sa ?_
      refine osa_new X5 hx5 hcl hob (hpass _) rfl (I.noN _ (List.mem_cons_self ..)) fun h' tk' dx k dn dne hx' hn' => ?_
      have sz5 : hp.objs.size < h5.objs.size := Heap.lt_size (k5 _ _ (kL _ hoL))
      refine fin h' tk' [(("path" : Str), v)] ⟨fun b o hb e => k b o hb (k5 b o (kx b o hb e)), ⟨oL, esL, epL, k _ _ hLx (k5 _ _ (kL _ hoL)), hrL⟩, hLx, ?_, _, .inr ⟨dx, Nat.le_trans (Nat.le_of_lt sz5) dn, Nat.ne_of_lt (Nat.lt_of_lt_of_le sz5 dn), dne, hx', ?_⟩⟩ (G5 h' k)
      · obtain ⟨o, _, _, e, _⟩ := id hn'
        exact Nat.le_trans (Nat.le_of_lt sz5) (Nat.le_trans dn (Nat.le_of_lt (Heap.lt_size e)))
      · simpa only [List.reverse_cons, List.reverse_nil, List.nil_append, lookup_put, List.lookup_nil] using hn'
    have ns3 : h3.Ns hp.objs.size (fun y => ((("self" : Str) :: [("path" : Str)]).zip [Value.ref x, Value.ref u]).reverse.lookup y) := ⟨oL, esL, epL, kL _ hoL, hrL⟩
    have hg3 := ns_keeps hg kx (ns_ne hg hx)
    have hb3 := ns_keeps hb kx (ns_ne hb hx)
    have then_ : ∀ (h5 : Heap) (t5 : Nat) (v : Value), (∀ b o, h3.get? b = some o → h5.get? b = some o) → (∀ h4, (∀ b o, b ≠ x → h5.get? b = some o → h4.get? b = some o) → GotP hp h4 x true (fun y => ((("self" : Str) :: [("path" : Str)]).zip [Value.ref x, Value.ref u]).reverse.lookup y) [(("path" : Str), ("path" : Str))] [(("path" : Str), v)]) →
        wpAny (model prog w) (A.deeper (ksEnv qual scope hp.objs.size fI (.ref cda) cc)) (eval (.Name "self" q1) (ksEnv qual scope hp.objs.size fI (.ref cda) cc)) (fun ov s₂ => wpAny (model prog w) (A.deeper (ksEnv qual scope hp.objs.size fI (.ref cda) cc)) (setAttr ov "path" v) (fun _ s' => R (.ok (.ret .none)) s') (fun _ _ => False) s₂) (fun _ _ => False) ⟨h5, g, d, t5, os⟩ := fun h5 t5 v k5 G5 =>
      wpAny_Name (wpAny_loadName_local (env := ksEnv qual scope hp.objs.size fI (.ref cda) cc) sk (sloc _ (List.mem_cons_self ..)) (show h5.Ns hp.objs.size _ from ⟨oL, esL, epL, k5 _ _ (kL _ hoL), hrL⟩) nself (one h5 t5 v k5 G5)) (by decide)
    refine wpAny_mono (Q := fun f s' => f = .next ∧ R (.ok (.ret .none)) s') (wpAny_execs_cons (plainObj_wpAny_Assign_Attribute (wpAny_Call_Name_kw (wpAny_Name (ks_loadName_global sk stup (loadGlobal_builtin (env := ksEnv qual scope hp.objs.size fI (.ref cda) cc) hg3 gt1 hb3 bt1 (PyProof.Rows.callWith_type1 (spliced_more (wpAny_Name (wpAny_loadName_local (env := ksEnv qual scope hp.objs.size fI (.ref cda) cc) sk (sloc _ (List.mem_cons_of_mem _ (List.mem_cons_self ..))) ns3 mpath (spliced_none ?_)) (by decide)))))) (by decide))))) ?_ fun _ _ z => z
    · have h3z : ∀ b o, h3.get? b = some o → h3.get? b = some o := fun _ _ e => e
      have gp : ∀ h4 v, (s0p hp h4 x u its v) → GotP hp h4 x true (fun y => ((("self" : Str) :: [("path" : Str)]).zip [Value.ref x, Value.ref u]).reverse.lookup y) [(("path" : Str), ("path" : Str))] [(("path" : Str), v)] := fun h4 v z => by
        unfold GotP
        rw [if_pos rfl]
        exact ⟨u, its, v, rfl, rfl, z⟩
      rcases hu with hu | ⟨hu, hz⟩
      · have hu3 : h3.IsTuple u its := by
          obtain ⟨o, e, r⟩ := hu
          exact ⟨o, kx _ _ ux e, r⟩
        refine call_tuple_same (items := its) hu3 (wpAny_mono (then_ h3 _ (.ref u) h3z fun h4 _ => gp h4 _ (.inl ⟨hu, rfl⟩)) (fun v s' z => wpAny_mono z (fun _ s'' y => wpAny_execs_nil ⟨rfl, y⟩) fun _ _ z => z.elim) fun _ _ z => z.elim)
      · have hu3 : h3.IsList u its := by
          obtain ⟨o, e, r⟩ := hu
          exact ⟨o, kx _ _ ux e, r⟩
        refine call_tuple_list (items := its) hu3 (fun h6 k6 => ?_) hz
        have sz3 : hp.objs.size < h6.objs.size := Heap.lt_size (k6 _ _ (kL _ hoL))
        have tx : h6.objs.size ≠ x := fun z => by
          have := Heap.lt_size (k6 _ _ e3)
          rw [z] at this
          exact Nat.lt_irrefl _ this
        refine wpAny_mono (then_ _ _ (.ref h6.objs.size) (fun b o e => Heap.get?_push_of_some _ (k6 b o e)) fun h4 k4 => gp h4 _ (.inr ⟨hu, h6.objs.size, rfl, Nat.le_of_lt sz3, tx, k4 _ _ tx (Heap.get?_push_size _ rfl)⟩)) (fun v s' z => wpAny_mono z (fun _ s'' y => wpAny_execs_nil ⟨rfl, y⟩) fun _ _ z => z.elim) fun _ _ z => z.elim
    · rintro f s' ⟨rfl, z⟩
      exact z
theorem got_zip {m : Str → Option Value} : ∀ {ps : List Str} {us : List Value} {vs : List (Str × Value)}, us.length = ps.length → (∀ (i : Nat) (p : Str), ps[i]? = some p → m p = us[i]?) → Got m (ps.map fun p => (p, p)) vs → vs = ps.zip us
  | [], us, vs, h, _, g => g
  | p :: ps, [], vs, h, _, g => by cases h
  | p :: ps, u :: us, vs, h, hm, g => by
    obtain ⟨v, r, rfl, e, g⟩ := g
    have e2 := hm 0 p rfl
    simp only [List.getElem?_cons_zero] at e2
    rw [show m p = some v from e] at e2
    cases e2
    rw [got_zip (us := us) (by simpa using h) (fun i q hq => by simpa using hm (i + 1) q (by simpa using hq)) g]
    rfl
theorem made_raw {pt : Bool} (T : XCls K C B newId initId bmB) (I : XIn prog K C fI initId ps (ps.map fun p => (p, p)) pt) {us : List Value} (hus : us.length = ps.length) (X : K.In s.heap) (hg : s.heap.Ns mainGlobals mg) (gs : mg "super" = none) (hb : s.heap.Ns builtinsNs mb) (bs : mb "super" = some (.type "super"))
    (gt : pt = true → mg "tuple" = none ∧ mb "tuple" = some (.type "tuple") ∧ ∃ u its, us = [.ref u] ∧ (s.heap.IsTuple u its ∨ (s.heap.IsList u its ∧ its.size ≤ sizeLine)))
    (hlim : s.heap.NoLimit) (hroom : A.depth + 1 < recursionLimit) (hz : us.length ≤ 1000)
    (hq : ∀ h' tk e dd vs, s.heap.objs.size ≤ e → (∀ b o, s.heap.get? b = some o → h'.get? b = some o) → (∃ t1, h'.get? e = some (exR C t1 dd)) → (match dd with | none => vs = [] | some dx => s.heap.objs.size ≤ dx ∧ dx ≠ e ∧ h'.Ns1 dx fun y => vs.reverse.lookup y) →
      (pt = false → vs = ps.zip us) → (pt = true → ∃ u its v, us = [.ref u] ∧ vs = [(("path" : Str), v)] ∧ s0p s.heap h' e u its v) → R (.ok (.ret (.ref e))) { s with heap := h', toks := tk }) :
    codeAny (model prog w) A (.call (.ref C) ⟨us, []⟩) R s := by
  obtain ⟨nm, q, N, bs', bm, sn, sub, ab, col, dd, k0, k1, k2, k3, k5, hC, hT, hpass⟩ := T.cls
  obtain ⟨hp, g, dr, tk, os⟩ := s
  have k : ∀ b o, hp.get? b = some o → ((hp.push (kdv_tup us)).push (excO C hp.objs.size)).get? b = some o := fun b o e => Heap.get?_push_of_some _ (Heap.get?_push_of_some _ e)
  have hget : ((hp.push (kdv_tup us)).push (excO C hp.objs.size)).get? (hp.objs.size + 1) = some (excO C hp.objs.size) := by heap_get
  have hnx : K.lookup (hp.objs.size + 1) = none := by
    cases e : K.lookup (hp.objs.size + 1) with
    | none => rfl
    | some o =>
      have z : hp.get? (hp.objs.size + 1) = some o := X _ _ e
      exact absurd (Nat.lt_of_succ_lt (Heap.lt_size z)) (Nat.lt_irrefl _)
  refine call_own T.F hT (X _ _ hC) (looks_findIn X I.iC) (fun self => bind_fn X self I.tI) (by rw [sizeLine_eq]; omega) ?_
  have up : ∀ {v : Value} {u : Addr} {its : Array Value} {h' : Heap}, s0p ((hp.push (kdv_tup us)).push (excO C hp.objs.size)) h' (hp.objs.size + 1) u its v → (∃ o, hp.get? u = some o) → s0p hp h' (hp.objs.size + 1) u its v := fun {v u its h'} z ⟨o, e⟩ => by
    have e2 := k _ _ e
    rcases z with ⟨⟨o', q, r⟩, z⟩ | ⟨⟨o', q, r⟩, t, z1, z2, z3, z4⟩
    · rw [e2] at q
      cases q
      exact .inl ⟨⟨o, e, r⟩, z⟩
    · rw [e2] at q
      cases q
      refine .inr ⟨⟨o, e, r⟩, t, z1, ?_, z3, z4⟩
      rw [Heap.size_push, Heap.size_push] at z2
      omega
  refine init_raw (s := ⟨(hp.push (kdv_tup us)).push (excO C hp.objs.size), g, dr, tk, os⟩) T I (t0 := hp.objs.size) hus (X.keeps k) (hg.keeps k) gs (hb.keeps k) bs (fun e => ?_) (hlim.keeps k) hget hnx hroom fun h' tk' dd vs M G => ?_
  · obtain ⟨g1, g2, u, its, g3, g4⟩ := gt e
    refine ⟨g1, g2, u, its, g3, ?_⟩
    rcases g4 with ⟨o, e1, r⟩ | ⟨⟨o, e1, r⟩, hz⟩
    · exact .inl ⟨o, k _ _ e1, r⟩
    · exact .inr ⟨⟨o, k _ _ e1, r⟩, hz⟩
  have old : ∀ b o, hp.get? b = some o → h'.get? b = some o := fun b o e => M.keep b o (Nat.ne_of_lt (Nat.lt_succ_of_lt (Heap.lt_size e))) (k b o e)
  refine ⟨rfl, hq h' tk' (hp.objs.size + 1) dd vs (Nat.le_succ _) old M.obj ?_ (fun e => ?_) fun e => ?_⟩
  · have dct := M.dct
    cases dd with
    | none => exact dct
    | some dx =>
      obtain ⟨a1, a2, a3⟩ := dct
      have z : hp.objs.size + 1 + 1 ≤ dx := by
        have q := a1
        rw [Heap.size_push, Heap.size_push] at q
        exact q
      exact ⟨Nat.le_trans (Nat.le_trans (Nat.le_succ _) (Nat.le_succ _)) z, a2, a3⟩
  · subst e
    refine got_zip (m := fun y => ((("self" : Str) :: ps).zip (.ref (hp.objs.size + 1) :: us)).reverse.lookup y) hus (fun i p hi => ?_) ?_
    · have hlt : i < us.length := by rw [hus]; exact (List.getElem?_eq_some_iff.mp hi).1
      rw [List.getElem?_eq_getElem hlt]
      exact NdefX.zip_look (i := i + 1) I.nodup (by simpa using hi) (by simp [hlt])
    · unfold GotP at G
      rw [if_neg (by decide)] at G
      exact G
  · subst e
    unfold GotP at G
    rw [if_pos rfl] at G
    obtain ⟨u, its, v, e1, e2, e3⟩ := G
    obtain ⟨_, _, u', its', e4, e5⟩ := gt rfl
    obtain ⟨eps, _⟩ := I.pth rfl
    subst e4
    subst eps
    have e1 : some (Value.ref u') = some (.ref u) := e1
    cases e1
    refine ⟨u, its, v, rfl, e2, up e3 ?_⟩
    rcases e5 with ⟨o, e1, r⟩ | ⟨⟨o, e1, r⟩, _⟩
    · exact ⟨o, e1⟩
    · exact ⟨o, e1⟩
end
end XI
section
open PySem PySem.W PySem.Calls PyProof.Rows PySem.HandSPX L2
theorem lookup_zip_none {α : Type} {f : Str} : ∀ {ps : List Str} {us : List α}, f ∉ ps → (ps.zip us).lookup f = none
  | [], us, h => rfl
  | p :: ps, [], h => rfl
  | p :: ps, u :: us, h => by
    have e : (f == p) = false := by
      have : f ≠ p := fun z => h (by rw [z]; exact List.mem_cons_self ..)
      simpa using this
    rw [List.zip_cons_cons, List.lookup_cons, e]
    exact lookup_zip_none fun z => h (List.mem_cons_of_mem _ z)
theorem lookup_zip_some {α : Type} {f : Str} : ∀ {ps : List Str} {us : List α} {i : Nat} {u : α}, ps.Nodup → ps[i]? = some f → us[i]? = some u → (ps.zip us).lookup f = some u
  | [], us, i, u, _, h, _ => by simp at h
  | p :: ps, [], i, u, _, _, h => by simp at h
  | p :: ps, v :: us, 0, u, nd, h1, h2 => by
    simp at h1 h2
    subst h1
    subst h2
    simp [List.lookup]
  | p :: ps, v :: us, i + 1, u, nd, h1, h2 => by
    have hm : f ∈ ps := List.mem_of_getElem? (by simpa using h1)
    have e : (f == p) = false := by
      have : f ≠ p := fun z => (List.nodup_cons.mp nd).1 (by rw [← z]; exact hm)
      simpa using this
    rw [List.zip_cons_cons, List.lookup_cons, e]
    exact lookup_zip_some (i := i) (List.nodup_cons.mp nd).2 (by simpa using h1) (by simpa using h2)
theorem lookup_rev_none {f : Str} {l : List (Str × Value)} (h : ∀ v, (f, v) ∉ l) : l.reverse.lookup f = none := by
  cases e : l.reverse.lookup f with
  | none => rfl
  | some v => exact absurd (List.mem_reverse.mp (PySem.mem_of_lookup e)) (h v)
theorem rel_zip {ps : List Str} {vs : List V} {us : List Value} (nd : ps.Nodup) (r : Vals vs us) (hl : us.length = ps.length) (f : Str) : RelO ((ps.zip vs).lookup f) ((ps.zip us).reverse.lookup f) := by
  by_cases hf : f ∈ ps
  · obtain ⟨i, hi⟩ := List.mem_iff_getElem?.mp hf
    have hlt : i < us.length := by rw [hl]; exact (List.getElem?_eq_some_iff.mp hi).1
    have hv : vs[i]? = some (vs[i]'(by rw [r.length]; exact hlt)) := by simp
    obtain ⟨u, hu, rv⟩ := r.get hv
    rw [lookup_zip_some nd hi hv, NdefX.zip_look nd hi hu]
    exact rv
  · rw [lookup_zip_none hf, lookup_rev_none fun v hv => hf (List.of_mem_zip hv).1]
    trivial
theorem zip_nil {ps : List Str} {us : List Value} (h : us.length = ps.length) (e : ps.zip us = []) : ps = [] := by
  cases ps with
  | nil => rfl
  | cons p ps => cases us with
    | nil => cases h
    | cons u us => cases e
/-- C(e, ..): a new exception; its dict -/
def tMkX (C : Addr) (ps : List Str) (ta : TA) : L2.St → Hp → XK → Prop := fun σ H Q => ta σ H fun vs H1 => vs.length = ps.length ∧ (ps = [] → Q (.ref C) none H1) ∧ ∀ d, H1 d = none → Q (.ref C) (some d) (upd H1 d (.xd (ps.zip vs)))
structure XC (P : Program) (K : Frag) (mg : Str → Option Value) (x : Str) (C : Addr) (ps : List Str) : Prop where
  ex : ∃ fI B newId initId bmB, XI.XCls K C B newId initId bmB ∧ XI.XIn P K C fI initId ps (ps.map fun p => (p, p)) false
  gC : mg x = some (.ref C)
  gs : mg "super" = none
  few : ps.length ≤ 1000
variable {X : Cx} {x : Str} {C : Addr} {ps : List Str} {k : Nat} {p pos : Pos} {e : Expr} {es : List Expr} {ta : TA}
theorem pmk_X (T : XC X.prog X.K X.mg x C ps) (hr : Room k X.A) (ha : PA X (e :: es) ta) (hg : Gl X x := by rfl) (hdb : (x == ("__debug__" : Str)) = false := by decide)
    (he : starEach (e :: es) X.env = (false, eval e X.env) :: starEach es X.env := by rfl) (hpl : (backTo pos (starEach es X.env)).any (·.1) = false := by rfl) :
    PMk X (.Call (.Name x p) (e :: es) [] pos) (tMkX C ps ta) := by
  intro pins s σ H Q I h
  obtain ⟨fI, B, newId, initId, bmB, TC, TI⟩ := T.ex
  refine wpAny_Call_Name_kw (ld_glob I hg T.gC ?_ hdb)
  refine PySem.W.callWith_K (h₀ := X.base) I.ok.mod.kin TC.kC (thn (ha.run pos pins s σ H _ I h) fun us s1 hh => ?_) he hpl
  obtain ⟨vs, H1, I1, r1, hl, q0, q1⟩ := hh
  have hus : us.length = ps.length := by rw [← r1.length]; exact hl
  refine ⟨I1.kIn, ?_⟩
  show wpAny _ _ (call (.ref C) us) _ _ _
  obtain ⟨mb, hb1, hb2⟩ := I1.mod.blt
  have hlim := I1.nolimit
  have bk := I1.bk
  have kin := I1.kIn
  obtain ⟨hp, g, dr, tk, os⟩ := s1
  refine wpAny_call (XI.made_raw TC TI hus kin (I1.mod.glob.keeps bk) T.gs (hb1.keeps bk) ((hb2 "super" (by decide)).trans (by decide +kernel)) (fun z => by cases z) hlim (by have := hr.dp; omega) (by have := T.few; omega) fun h' tk' e dd ws hnew keep hoe hdd ew _ => ?_)
  have ew := ew rfl
  show MkP X pins σ Q (.ref e) ⟨h', g, dr, tk', os⟩
  obtain ⟨t1, hoe⟩ := hoe
  obtain ⟨G', g1, g2⟩ := restrict h' fun b => decide (b ≠ e)
  have gk : ∀ b, b ≠ e → G'.get? b = h'.get? b := fun b hb => g1 b (decide_eq_true hb)
  have ge : G'.get? e = none := g2 e (by simp)
  have old : ∀ b o, hp.get? b = some o → G'.get? b = some o := fun b o q => (gk b (Nat.ne_of_lt (Nat.lt_of_lt_of_le (Heap.lt_size q) hnew))).trans (keep b o q)
  have up : ∀ b o, G'.get? b = some o → h'.get? b = some o := fun b o q => by
    by_cases hb : b = e
    · rw [hb, ge] at q; cases q
    · exact (gk b hb).symm.trans q
  have ne : H1 e = none := I1.hok.fresh hnew
  cases dd with
  | none =>
    have J : Inv X pins σ H1 ⟨G', g, dr, tk', os⟩ := I1.kept (t' := tk') old
    have eps : ps = [] := zip_nil hus (ew ▸ hdd)
    exact ⟨e, _, _, ⟨G', g, dr, tk', os⟩, _, .ref C, none, rfl, J, up, ge, hoe, ⟨rfl, rfl⟩, rfl, rfl, ne, rfl, I1.bare, raises_own TC.exC TC.tyC, q0 eps⟩
  | some d =>
    obtain ⟨dbig, dne, hns⟩ := hdd
    rw [ew] at hns
    have ob : ObjOk X.prog X.w (upd H1 d (.xd (ps.zip vs))) G' d (.xd (ps.zip vs)) := ⟨_, hns.at (fun o q => (gk d dne).trans q), fun f => rel_zip (List.nodup_cons.mp TI.nodup).2 r1 hus f⟩
    have J : Inv X pins σ (upd H1 d (.xd (ps.zip vs))) ⟨G', g, dr, tk', os⟩ := I1.laid (t' := tk') old dbig ob
    exact ⟨e, _, _, ⟨G', g, dr, tk', os⟩, _, .ref C, some d, rfl, J, up, ge, hoe, ⟨rfl, rfl⟩, rfl, rfl, by rw [upd_ne (Ne.symm dne)]; exact ne, rfl, I1.bare, raises_own TC.exC TC.tyC, q1 d (I1.hok.fresh dbig)⟩
end
end Bc

/-! Core X: defs that raise, calls of them, try .. except .. as .. -/
namespace Bc
open PySem L2 PySem.Spec PyProof.Rows
abbrev FX := Option (List (Str × D))
abbrev RX1 := List D → Value → FX → Prop
def SpX (src fr : Bool) (R : List D → D → Prop) (RX : RX1) : Sp := fun vs H Q E => ∃ F S ds, Okw F S H ∧ ArgOk src F S vs ds ∧ ((∃ d, R ds d) ∨ ∃ c f, RX ds c f) ∧ (∀ d v S' H', R ds d → Giv fr F S H d v S' H' → Q v H') ∧
  ∀ c f d S' H', RX ds c f → Gr F S H S' H' → XdAt S' d f → E c d H'
/-- which slots are told -/
def Hm : List (Option D) → List Sl → Prop
  | [], Δ => Δ = []
  | Option.none :: l, Δ => ∃ s r, Δ = s :: r ∧ Hm l r
  | some d :: l, Δ => ∃ r, Δ = .v d :: r ∧ Hm l r
theorem Hm.len : ∀ {l : List (Option D)} {Δ : List Sl}, Hm l Δ → Δ.length = l.length
  | [], Δ, h => by rw [show Δ = [] from h]; rfl
  | Option.none :: l, Δ, h => by
    obtain ⟨s, r, rfl, h⟩ := h
    rw [List.length_cons, List.length_cons, h.len]
  | some d :: l, Δ, h => by
    obtain ⟨r, rfl, h⟩ := h
    rw [List.length_cons, List.length_cons, h.len]
theorem Hm.get : ∀ {l : List (Option D)} {Δ : List Sl} {i : Nat} {d : D}, Hm l Δ → l[i]? = some (some d) → Δ[i]? = some (.v d)
  | [], Δ, i, d, h, e => by simp at e
  | Option.none :: l, Δ, 0, d, h, e => by simp at e
  | Option.none :: l, Δ, i + 1, d, h, e => by
    obtain ⟨s, r, rfl, h⟩ := h
    simpa using Hm.get h (by simpa using e)
  | some x :: l, Δ, 0, d, h, e => by
    obtain ⟨r, rfl, h⟩ := h
    simp at e
    subst e
    rfl
  | some x :: l, Δ, i + 1, d, h, e => by
    obtain ⟨r, rfl, h⟩ := h
    simpa using Hm.get h (by simpa using e)
theorem hm_none : ∀ {Δ : List Sl} {n : Nat}, Δ.length = n → Hm (List.replicate n Option.none) Δ
  | [], n, h => by
    subst h
    rfl
  | s :: r, n, h => by
    subst h
    exact ⟨s, r, rfl, hm_none rfl⟩
section
variable {F : Fp} {fr : Bool} {Δ : List Sl} {ta : TA} {R : List D → D → Prop} {RX : RX1} {W : WX} {PX : Value → FX → Prop} {l : List (Option D)} {ix : Nat}
/-- an exception goes its way -/
theorem xc_go {H0 S H S' H' : Hp} {σ : L2.St} {c : Value} {d : Option Addr} {f : FX} (t : StD F S H H0 σ Δ) (hx : Δ[ix]? = some (.xc W PX l)) (hm : Hm l Δ) (hp : PX c f) (g : Gr F S H S' H') (a : XdAt S' d f) : W c d σ H' := by
  obtain ⟨x, _, h⟩ := t.ok ix _ hx
  have h : XcOk F S H H0 W PX l := h
  refine h.go S' H' c d f σ (g.w h.hd) hp a (by rw [t.len, hm.len]) fun i y e => ?_
  obtain ⟨z, e1, h1⟩ := t.get (hm.get e)
  exact ⟨z, e1, h1.mono g.s⟩
theorem ev_callX {Pa : List D → Prop} (hx : Δ[ix]? = some (.xc W PX l)) (hm : Hm l Δ) (h : EvA F ta Δ Pa) (hR : ∀ ds, Pa ds → (∃ d, R ds d) ∨ ∃ c f, RX ds c f) (hp : ∀ ds c f, Pa ds → RX ds c f → PX c f) :
    EvR F (tCallS (SpX false false R RX) (WE W) ta) Δ fun d => ∃ ds, Pa ds ∧ R ds d := fun H0 S H σ w t Q k =>
  h H0 S H σ w t _ fun ds vs S' H' p g hd =>
    ⟨Option.none, S', ds, (g.ok w).base, ⟨rfl, hd⟩, hR ds p, fun d v S2 H2 r gv => k d v S2 H2 ⟨ds, p, r⟩ (g.trans gv.g.up) (gv.vl rfl), fun c f d S2 H2 r g2 a => xc_go t hx hm (hp ds c f p r) (g.trans g2.up) a⟩
theorem ef_callX {Pa : List D → Prop} (hx : Δ[ix]? = some (.xc W PX l)) (hm : Hm l Δ) (h : EvA F ta Δ Pa) (hR : ∀ ds, Pa ds → (∃ d, R ds d) ∨ ∃ c f, RX ds c f) (hp : ∀ ds c f, Pa ds → RX ds c f → PX c f) :
    EvF F (tCallS (SpX false true R RX) (WE W) ta) Δ fun es => ∃ ds, Pa ds ∧ R ds (.list es) := fun H0 S H σ w t Q k =>
  h H0 S H σ w t _ fun ds vs S' H' p g hd => by
    refine ⟨Option.none, S', ds, (g.ok w).base, ⟨rfl, hd⟩, hR ds p, fun d v S2 H2 r gv => ?_, fun c f d S2 H2 r g2 a => xc_go t hx hm (hp ds c f p r) (g.trans g2.up) a⟩
    obtain ⟨es, q, xs, e1, e2, e3, e4, e5, e6⟩ := gv.f rfl
    subst e1
    subst e2
    refine k es q xs S2 H2 ⟨ds, p, r⟩ (g.trans gv.g.up) ?_ e3 e4 e6
    cases e : H q with
    | none => rfl
    | some o =>
      obtain ⟨o', e'⟩ := g.m q o e
      rw [e5] at e'
      cases e'
theorem ev_callX1 {ds : List D} {d : D} (hx : Δ[ix]? = some (.xc W PX l)) (hm : Hm l Δ) (h : EvA F ta Δ fun r => r = ds) (hR : R ds d) (hu : ∀ e, R ds e → e = d) (hp : ∀ c f, RX ds c f → PX c f) : Ev1 F (tCallS (SpX false false R RX) (WE W) ta) Δ d :=
  (ev_callX hx hm h (fun _ e => .inl (e ▸ ⟨d, hR⟩)) fun _ c f e r => hp c f (e ▸ r)).imp fun e ⟨_, e1, e2⟩ => hu e (e1 ▸ e2)
theorem dtf_zip {S : Hp} : ∀ {ps : List Str} {ds : List D} {vs : List V}, DtL S ds vs → DtF S (ps.zip ds) (ps.zip vs)
  | [], ds, vs, h => by simp [DtF]
  | p :: ps, [], vs, h => by
    simp only [DtL] at h
    subst h
    simp [DtF]
  | p :: ps, d :: ds, vs, h => by
    simp only [DtL] at h
    obtain ⟨x, ys, rfl, h1, h2⟩ := h
    simp only [List.zip_cons_cons, DtF]
    exact ⟨x, ps.zip ys, rfl, h1, dtf_zip h2⟩
/-- raise C(e, ..) -/
theorem run_raise {po : Po} {C : Addr} {ps : List Str} {Pa : List D → Prop} (hx : Δ[ix]? = some (.xc W PX l)) (hm : Hm l Δ) (h : EvA F ta Δ Pa) (hl : ∀ ds, Pa ds → ds.length = ps.length) (hne : ps ≠ []) (hp : ∀ ds, Pa ds → PX (.ref C) (some (ps.zip ds))) :
    Run F fr (fun _ σ H => tMkX C ps ta σ H fun cls d H' => W cls d σ H') Δ po := fun S0 H0 B S H σ E w g st r =>
  h H0 S H σ w st _ fun ds vs S' H' p g' hd => by
    refine ⟨by rw [← hd.len, hl ds p], fun e => absurd e hne, fun d hn => ?_⟩
    have hs : S' d = Option.none := Same.free g'.h hn
    refine xc_go st hx hm (hp ds p) (g'.trans (Gr.newD (o := .xd (ps.zip vs)) g'.h hn)) ⟨d, ps.zip vs, rfl, upd_same, ?_⟩
    exact DtF.mono (fun x u e => by rw [upd_ne (ne_of_none e hs)]; exact e) _ _ (dtf_zip hd)
end
theorem StD.put {F : Fp} {S H H0 : Hp} {σ : L2.St} {Δ : List Sl} (t : StD F S H H0 σ Δ) {i : Nat} {s : Sl} (h : ∀ x, SlOk F S H H0 s x) (hn : ∀ ds, s ≠ .own ds) : StD F S H H0 σ (Δ.set i s) := by
  refine ⟨by rw [t.len]; simp, fun j s' e => ?_, fun j k ds es p e1 e2 f1 f2 => ?_, t.fh⟩
  · have hj : j < Δ.length := by
      have := (List.getElem?_eq_some_iff.mp e).1
      simpa using this
    by_cases hji : j = i
    · subst hji
      rw [List.getElem?_set_self hj] at e
      cases e
      have hjs : j < σ.length := by rw [t.len]; exact hj
      exact ⟨σ[j], by simp [hjs], h _⟩
    · rw [List.getElem?_set_ne (Ne.symm hji)] at e
      exact t.ok j s' e
  · have hj : j ≠ i := fun z => by
      subst z
      have := (List.getElem?_eq_some_iff.mp e1).1
      rw [List.getElem?_set_self (by simpa using this)] at e1
      cases e1
      exact hn _ rfl
    have hk : k ≠ i := fun z => by
      subst z
      have := (List.getElem?_eq_some_iff.mp e2).1
      rw [List.getElem?_set_self (by simpa using this)] at e2
      cases e2
      exact hn _ rfl
    rw [List.getElem?_set_ne (Ne.symm hj)] at e1
    rw [List.getElem?_set_ne (Ne.symm hk)] at e2
    exact t.nd j k ds es p e1 e2 f1 f2
abbrev WOf (E : XK) : WX := fun c d _ H => E c d H
/-- the slots at the entry of a def that raises: the last one is the way out -/
def iniX (E : XK) (src : Bool) (n : Nat) (ds : List D) (PX : Value → FX → Prop) : List Sl := (ini src n ds).set (n - 1) (.xc (WOf E) PX (List.replicate n Option.none))
structure FnTX (P : Program) (w : World) (K : PySem.W.Frag) (mg : Str → Option Value) (base : Heap) (k : Nat) (x : Str) (ps : List Str) (sp : Sp) : Prop where
  ex : ∃ f fd, mg x = some (.ref f) ∧ PySem.W.keepIn K (.ref f) = true ∧ Binds K fd ps [] ∧ FnOk P w K mg base (L2.CX P w) k f fd ps sp
section
variable {P : Program} {w : World} {K : PySem.W.Frag} {mg : Str → Option Value} {base : Heap}
theorem ok_X {x qual : Str} {st : Stmt} {f : Addr} {fd : FuncData} {N ps : List Str} {k : Nat} {src fr : Bool} {R : List D → D → Prop} {RX : RX1} (Fu : Fun K x qual st f fd) (S : FnScope N ps (defScope st)) (hl : ∀ ds, ((∃ d, R ds d) ∨ ∃ c f, RX ds c f) → ds.length + (if src then 1 else 0) = ps.length)
    (hbody : ∀ (cdv : Value) (A : Around) (outer : List Env) (s : Shared) (H : Hp) (E : XK), Room k (A.deeper (envOfC qual (defScope st) s.heap.objs.size f cdv)) →
      Takes (cxOf (L2.CX P w) P w K mg base N qual (defScope st) f cdv A outer s H E) (WOf E) →
      ∃ t, PSs (cxOf (L2.CX P w) P w K mg base N qual (defScope st) f cdv A outer s H E) (defBody st) t ∧ ∀ F ds, (src = false → F = Option.none) → ((∃ d, R ds d) ∨ ∃ c f, RX ds c f) → Run F fr t (iniX E src N.length ds (RX ds)) { nx := fun _ => fr = false ∧ R ds .none, rt := R ds }) :
    FnOk P w K mg base (L2.CX P w) (k + 1) f fd ps (SpX src fr R RX) := by
  have hps : ps.length ≤ N.length := by
    have := congrArg List.length S.pre
    rw [List.length_take] at this
    omega
  refine Fu.okX S (fun vs H Q E h => ?_) (fun cdv A outer s H vs Q E hr h => ?_)
  · obtain ⟨F, S', ds, _, a, r, _⟩ := h
    rw [arg_len a]
    exact hl ds r
  · obtain ⟨F, S', ds, w', a, r, hk, hx⟩ := h
    obtain ⟨t, ht, hrun⟩ := hbody cdv A outer s H E hr (takes_of rfl rfl rfl rfl)
    have st0 := st_ini (N := N) w' a (by rw [arg_len a, hl ds r]; exact hps)
    have st1 : StD F S' H H (L2.start N vs) (iniX E src N.length ds (RX ds)) := st0.put (fun y => show XcOk F S' H H _ _ _ from
      ⟨fun x o e => ⟨o, e⟩, fun S2 H2 c d f σ g p a2 _ _ => hx c f d S2 H2 p ⟨g.s, g.h, g.n, fun x o nf e => g.k x o o nf e e, g.m, g.src⟩ a2⟩) (fun _ z => by cases z)
    refine ⟨t, ht, hrun F ds (fun e => by subst e; exact a.1) r S' H S' S' H _ _ w' ⟨Gr.refl w'.s, Same.refl _⟩ st1 ⟨?_, ?_, fun _ _ _ _ z => z.elim, fun _ _ _ _ z => z.elim⟩⟩
    · exact fun Δ S2 H2 σ n w2 g2 _ => hk .none .non S2 H2 n.2 ⟨g2.g, fun _ => by simp only [Dt], fun e => by rw [n.1] at e; cases e⟩
    · exact fun d v _ S2 H2 _ q _ _ _ gv => hk d v S2 H2 q gv
end
section
variable {X : Cx} {k : Nat} {x : Str} {ps : List Str} {sp : Sp} {e : Expr} {es : List Expr} {t : TA} {p pos : Pos} {W : WX}
theorem pe_callTX (tk : Takes X W) (G : FnTX X.prog X.w X.K X.mg X.base k x ps sp) (hr : Room k X.A) (ha : PA X (e :: es) t) (hg : Gl X x := by rfl)
    (hdb : (x == ("__debug__" : Str)) = false := by decide) (he : starEach (e :: es) X.env = (false, eval e X.env) :: starEach es X.env := by rfl) (hpl : (backTo pos (starEach es X.env)).any (·.1) = false := by rfl) :
    PE X (.Call (.Name x p) (e :: es) [] pos) (tCallS sp (WE W) t) := by
  obtain ⟨f, fd, h1, h2, h3, h4⟩ := G.ex
  exact pe_callS h4 hr hg h1 h2 h3 (fun σ => passAt tk σ) ha hdb he hpl
end
/-- the slots that a handler knows -/
def hdl (l : List (Option D)) : List Sl := l.map fun o => match o with | some d => .v d | Option.none => .un
theorem std_hdl {F : Fp} {S H H0 : Hp} {σ : L2.St} {l : List (Option D)} (fh : ∀ x, fp F x → ∃ o, H0 x = some o) (hl : σ.length = l.length) (h : ∀ (i : Nat) (x : D), l[i]? = some (some x) → ∃ y, σ[i]? = some (some y) ∧ Dt S x y) : StD F S H H0 σ (hdl l) := by
  refine ⟨by simp [hdl, hl], fun j s e => ?_, fun j k ds es p e1 _ _ _ => ?_, fh⟩
  · rw [hdl, List.getElem?_map, Option.map_eq_some_iff] at e
    obtain ⟨o, e1, e2⟩ := e
    cases o with
    | none =>
      subst e2
      have hj : j < σ.length := by rw [hl]; exact (List.getElem?_eq_some_iff.mp e1).1
      exact ⟨σ[j], by simp [hj], trivial⟩
    | some d =>
      subst e2
      obtain ⟨y, e3, h3⟩ := h j d e1
      exact ⟨_, e3, y, rfl, h3⟩
  · rw [hdl, List.getElem?_map, Option.map_eq_some_iff] at e1
    obtain ⟨o, _, e2⟩ := e1
    cases o <;> cases e2
theorem StD.gone {F : Fp} {S H H0 : Hp} {σ : L2.St} {Δ : List Sl} (t : StD F S H H0 σ Δ) (i : Nat) : StD F S H H0 (σ.set i Option.none) (Δ.set i .un) := by
  refine ⟨by simp [t.len], fun j s e => ?_, fun j k ds es p e1 e2 f1 f2 => ?_, t.fh⟩
  · by_cases hj : j = i
    · subst hj
      have hlt := (List.getElem?_eq_some_iff.mp e).1
      have hlt : j < Δ.length := by simpa using hlt
      rw [List.getElem?_set_self hlt] at e
      cases e
      exact ⟨_, List.getElem?_set_self (by rw [t.len]; exact hlt), trivial⟩
    · rw [List.getElem?_set_ne (Ne.symm hj)] at e ⊢
      exact t.ok j s e
  · have hj : j ≠ i := fun z => by
      subst z
      have := (List.getElem?_eq_some_iff.mp e1).1
      rw [List.getElem?_set_self (by simpa using this)] at e1
      cases e1
    have hk : k ≠ i := fun z => by
      subst z
      have := (List.getElem?_eq_some_iff.mp e2).1
      rw [List.getElem?_set_self (by simpa using this)] at e2
      cases e2
    rw [List.getElem?_set_ne (Ne.symm hj)] at e1 f1
    rw [List.getElem?_set_ne (Ne.symm hk)] at e2 f2
    exact t.nd j k ds es p e1 e2 f1 f2
def tTry (K : PySem.W.Frag) (c0 : Value) (i : Nat) (tb : WX → TS) (ts : Addr → Value → Option Addr → TS) (Wout : WX) : TS := fun D σ H => tb (wAs K c0 i ts Wout D) D σ H
theorem ps_tryA {X : Cx} {x n : Str} {c : Value} {i : Nat} {body suite : List Stmt} {b₀ : Stmt} {np pos pos' : Pos} {tb : WX → TS} {ts : Addr → Value → Option Addr → TS} {Wout : WX} (hs : X.stack = X.env :: X.outer) (hf : X.env.frame = some X.env.locals) (hN : X.N.Nodup) (hi : X.N[i]? = some n) (hln : X.env.kindOf n = some .local) (hc : Names X x c) (tk : Takes X Wout)
    (hb : ∀ (W : WX) (pn : List (Addr × Obj)) (xe : Value → Shared → Prop), Takes (X.tr pn xe) W → PassesOwn (model X.prog X.w) X.A X.env xe → PSs (X.tr pn xe) body (tb W))
    (hsu : ∀ (a : Addr) (oe : Obj) (cls : Value) (d : Option Addr) (pn : List (Addr × Obj)), Zc cls d oe → (∃ vs, oe.data = .fields vs) → PSs (X.suite a ((a, oe) :: pn)) (b₀ :: suite) (ts a cls d)) :
    PS X (.Try body [.ExceptHandler (some (.Name x np)) (some n) (b₀ :: suite) pos'] [] [] pos) (tTry X.K c i tb ts Wout) := ps_try_as hs hf hN hi hln hc tk hb hsu
section
variable {F : Fp} {fr : Bool} {Δ : List Sl} {po : Po} {K : PySem.W.Frag} {c0 : Value} {i ix : Nat} {tb : WX → TS} {ts : Addr → Value → Option Addr → TS} {Wout : WX}
/-- try: .. except c0 as x: .. (x in slot i; slot ix is the way out) -/
theorem run_try (PX : Value → FX → Prop) (l : List (Option D)) (hno : ∀ c, ¬ PX c Option.none) (hc : ∀ c f, PX c f → PySem.W.exmOne K c c0 = some true)
    (hb : ∀ W, Run F fr (tb W) (Δ.set ix (.xc W PX l)) { nx := fun Δ' => po.nx (Δ'.set ix .un), rt := po.rt, ro := fun d Δ' => po.ro d (Δ'.set ix .un), bk := fun Δ' => po.bk (Δ'.set ix .un), ct := fun Δ' => po.ct (Δ'.set ix .un) })
    (hs : ∀ a c dd fs, PX c (some fs) → Run F fr (ts a c (some dd)) (((hdl l).set i (.v (.ref a))).set ix (.fz dd fs)) { nx := fun Δ' => po.nx ((Δ'.set i .un).set ix .un), rt := po.rt, ro := fun d Δ' => po.ro d (Δ'.set ix .un), bk := fun Δ' => po.bk ((Δ'.set i .un).set ix .un), ct := fun Δ' => po.ct ((Δ'.set i .un).set ix .un) }) :
    Run F fr (tTry K c0 i tb ts Wout) Δ po := fun S0 H0 B S H σ E w gb st r => by
  have un : ∀ {S H : Hp} {σ : L2.St} {Δ' : List Sl}, StD F S H H0 σ Δ' → StD F S H H0 σ (Δ'.set ix .un) := fun t => t.put (fun _ => trivial) fun _ z => by cases z
  refine hb (wAs K c0 i ts Wout E) S0 H0 B S H σ E w gb (st.put (fun y => show XcOk F S H H0 _ _ _ from ⟨gb.g.m, ?_⟩) fun _ z => by cases z)
    ⟨fun Δ' S' H' σ' n w' g' t => r.nx _ S' H' σ' n w' g' (un t), fun d v Δ' S' H' σ' a b w' t gv => r.rt d v _ S' H' σ' a b w' (un t) gv, fun Δ' S' H' σ' n w' g' t => r.bk _ S' H' σ' n w' g' (un t), fun Δ' S' H' σ' n w' g' t => r.ct _ S' H' σ' n w' g' (un t)⟩
  intro S' H' c d f σ' gw px xd hlen hsl
  refine ⟨true, hc c f px, fun _ a ha => ?_, fun z => nomatch z⟩
  cases f with
  | none => exact absurd px (hno c)
  | some fs =>
    obtain ⟨dd, vs, rfl, hd, hf⟩ := xd
    have t1 : StD F S' H' H0 σ' (hdl l) := std_hdl st.fh hlen hsl
    have t2 : StD F S' H' H0 (σ'.set i (some (.ref a))) (((hdl l).set i (.v (.ref a))).set ix (.fz dd fs)) := (t1.setV (i := i) (v := .ref a) (d := .ref a) (by simp only [Dt])).put (fun y => show ∃ vs, _ from ⟨vs, hd, hf⟩) fun _ z => by cases z
    refine hs a c dd fs px S0 H0 B S' H' _ _ (gw.ok w st.fh) ⟨gw.gr gb.g, gb.b.trans gw.s⟩ t2 ⟨?_, fun d v Δ' S' H' σ' a b w' t gv => r.rt d v _ S' H' σ' a b w' (un t) gv, ?_, ?_⟩
    · exact fun Δ' S2 H2 σ2 n w2 g2 t => r.nx _ S2 H2 _ n w2 g2 (un (t.gone i))
    · exact fun Δ' S2 H2 σ2 n w2 g2 t => r.bk _ S2 H2 _ n w2 g2 (un (t.gone i))
    · exact fun Δ' S2 H2 σ2 n w2 g2 t => r.ct _ S2 H2 _ n w2 g2 (un (t.gone i))
/-- x.f, x the caught exception -/
theorem ev_xf {a C dd : Addr} {fs : List (Str × D)} {f : Str} {d : D} {te : TE} (hx : Δ[ix]? = some (.fz dd fs)) (h : Ev1 F te Δ (.ref a)) (hf : fs.lookup f = some d) : Ev1 F (tXf a (.ref C) (some dd) C f te) Δ d := fun H0 S H σ w t Q k =>
  h H0 S H σ w t _ fun y v S' H' e g hd => by
    subst e
    simp only [Dt] at hd
    refine ⟨hd, rfl, ?_⟩
    obtain ⟨x, _, vs, e1, e2⟩ := (t.mono g).ok ix _ hx
    have key : ∀ {fs : List (Str × D)} {vs : List (Str × V)}, DtF S' fs vs → fs.lookup f = some d → ∃ u, vs.lookup f = some u ∧ Dt S' d u := by
      intro fs
      induction fs with
      | nil => intro vs _ e; cases e
      | cons p fs ih =>
        intro vs h e
        obtain ⟨n, q⟩ := p
        simp only [DtF] at h
        obtain ⟨u, us, rfl, h1, h2⟩ := h
        rw [List.lookup_cons] at e ⊢
        by_cases hn : f = n
        · subst hn
          simp only [beq_self_eq_true] at e ⊢
          cases e
          exact ⟨u, rfl, h1⟩
        · have hn' : (f == n) = false := by simpa using hn
          rw [hn'] at e ⊢
          exact ih h2 e
    obtain ⟨u, e3, h3⟩ := key e2 hf
    exact ⟨dd, vs, u, rfl, g.h _ _ e1, e3, k d u S' H' rfl g h3⟩
end
end Bc

/-! Core O: objects that a def changes; expressions that change them. -/
namespace Bc
open PySem L2 PySem.Spec PyProof.Rows
abbrev FS := List (Str × D)
def Dm (H0 H : Hp) : Prop := ∀ x o, H0 x = some o → ∃ o', H x = some o'
section
variable (F : Fp)
def EvM (te : TE) (Δ : List Sl) (P : D → List Sl → Prop) : Prop := ∀ (H0 S H : Hp) (σ : L2.St), Okw F S H → StD F S H H0 σ Δ → Dm H0 H → ∀ Q : VK, (∀ d v S' H' Δ', P d Δ' → Okw F S' H' → Gw F H0 S H S' H' → StD F S' H' H0 σ Δ' → Dt S' d v → Q v H') → te σ H Q
def EvTM (tt : TT) (Δ : List Sl) (P : Bool → List Sl → Prop) : Prop := ∀ (H0 S H : Hp) (σ : L2.St), Okw F S H → StD F S H H0 σ Δ → Dm H0 H → ∀ Q : Bool → Hp → Prop, (∀ b S' H' Δ', P b Δ' → Okw F S' H' → Gw F H0 S H S' H' → StD F S' H' H0 σ Δ' → Q b H') → tt σ H Q
def EvAM (ta : TA) (Δ : List Sl) (P : List D → List Sl → Prop) : Prop := ∀ (H0 S H : Hp) (σ : L2.St), Okw F S H → StD F S H H0 σ Δ → Dm H0 H → ∀ Q : List V → Hp → Prop, (∀ ds vs S' H' Δ', P ds Δ' → Okw F S' H' → Gw F H0 S H S' H' → StD F S' H' H0 σ Δ' → DtL S' ds vs → Q vs H') → ta σ H Q
/-- a new list -/
def EvFM (te : TE) (Δ : List Sl) (P : List D → List Sl → Prop) : Prop := ∀ (H0 S H : Hp) (σ : L2.St), Okw F S H → StD F S H H0 σ Δ → Dm H0 H → ∀ Q : VK, (∀ ds p xs S' H' Δ', P ds Δ' → Okw F S' H' → Gw F H0 S H S' H' → StD F S' H' H0 σ Δ' → H p = Option.none → H' p = some (.lst xs) → S' p = Option.none → DtL S' ds xs → Q (.ref p) H') → te σ H Q
end
section
variable {F : Fp} {fr : Bool} {te ta tb : TE} {ts t u : TS} {tr : TA} {Δ : List Sl} {P : D → List Sl → Prop} {po : Po}
theorem EvM.imp {P' : D → List Sl → Prop} (h : EvM F te Δ P) (i : ∀ d Δ', P d Δ' → P' d Δ') : EvM F te Δ P' := fun H0 S H σ w t dm Q k => h H0 S H σ w t dm Q fun d v S' H' Δ' p => k d v S' H' Δ' (i d Δ' p)
theorem EvTM.imp {tt : TT} {P P' : Bool → List Sl → Prop} (h : EvTM F tt Δ P) (i : ∀ d Δ', P d Δ' → P' d Δ') : EvTM F tt Δ P' := fun H0 S H σ w t dm Q k => h H0 S H σ w t dm Q fun d S' H' Δ' p => k d S' H' Δ' (i d Δ' p)
theorem EvAM.imp {P P' : List D → List Sl → Prop} (h : EvAM F tr Δ P) (i : ∀ d Δ', P d Δ' → P' d Δ') : EvAM F tr Δ P' := fun H0 S H σ w t dm Q k => h H0 S H σ w t dm Q fun d v S' H' Δ' p => k d v S' H' Δ' (i d Δ' p)
theorem EvFM.imp {P P' : List D → List Sl → Prop} (h : EvFM F te Δ P) (i : ∀ d Δ', P d Δ' → P' d Δ') : EvFM F te Δ P' := fun H0 S H σ w t dm Q k => h H0 S H σ w t dm Q fun d p xs S' H' Δ' q => k d p xs S' H' Δ' (i d Δ' q)
/-- what changes nothing -/
theorem EvR.m {P : D → Prop} (h : EvR F te Δ P) : EvM F te Δ fun d Δ' => P d ∧ Δ' = Δ := fun H0 S H σ w t dm Q k => h H0 S H σ w t Q fun d v S' H' p g hd => k d v S' H' Δ ⟨p, rfl⟩ (g.ok w) (g.w dm) (t.mono g) hd
theorem EvT.m {tt : TT} {P : Bool → Prop} (h : EvT F tt Δ P) : EvTM F tt Δ fun d Δ' => P d ∧ Δ' = Δ := fun H0 S H σ w t dm Q k => h H0 S H σ w t Q fun d S' H' p g => k d S' H' Δ ⟨p, rfl⟩ (g.ok w) (g.w dm) (t.mono g)
theorem eam_nil : EvAM F tNil Δ fun ds Δ' => ds = [] ∧ Δ' = Δ := fun H0 S H σ w t dm Q k => k _ _ S H Δ ⟨rfl, rfl⟩ w ((Gr.refl w.s).w dm) t (by simp only [DtL])
theorem eam_cons {Pr : D → List Sl → List D → List Sl → Prop} (h : EvM F te Δ P) (hr : ∀ d Δ', P d Δ' → EvAM F tr Δ' (Pr d Δ')) : EvAM F (tCons te tr) Δ fun ds Δ'' => ∃ d Δ' r, ds = d :: r ∧ P d Δ' ∧ Pr d Δ' r Δ'' := fun H0 S H σ w t dm Q k => by
  refine h H0 S H σ w t dm _ fun d v S1 H1 Δ1 p1 w1 g1 t1 hd => ?_
  refine hr d Δ1 p1 H0 S1 H1 σ w1 t1 g1.m _ fun ds vs S2 H2 Δ2 p2 w2 g2 t2 hds => ?_
  exact k _ _ S2 H2 Δ2 ⟨d, Δ1, ds, rfl, p1, p2⟩ w2 (g1.trans g2) t2 (dtl_cons (hd.mono g2.s) hds)
theorem evm_tup {Pa : List D → List Sl → Prop} (h : EvAM F tr Δ Pa) (hl : ∀ ds Δ', Pa ds Δ' → ds.length ≤ sizeLine) : EvM F (tTup tr) Δ fun d Δ' => ∃ ds, Pa ds Δ' ∧ d = .tuple ds := fun H0 S H σ w t dm Q k => by
  refine h H0 S H σ w t dm _ fun ds vs S1 H1 Δ1 p1 w1 g1 t1 hd => ?_
  refine ⟨by rw [← hd.len]; exact hl ds Δ1 p1, fun p hp => ?_⟩
  have g2 : Gr F S1 H1 (upd S1 p (.tup vs)) (upd H1 p (.tup vs)) := Gr.newD g1.h hp
  refine k (.tuple ds) (.ref p) _ _ Δ1 ⟨ds, p1, rfl⟩ (g2.ok w1) (g1.trans (g2.w g1.m)) (t1.mono g2) ?_
  simp only [Dt]
  exact ⟨p, vs, rfl, upd_same, hd.mono g2.s⟩
theorem evm_op {r : R2} {f : D → D → D → Prop} {Pb : D → List Sl → D → List Sl → Prop} (hr : OpS F r f) (ha : EvM F ta Δ P) (hb : ∀ x Δ', P x Δ' → EvM F tb Δ' (Pb x Δ')) {P2 : D → List Sl → Prop} (h : ∀ x Δ1 y Δ2, P x Δ1 → Pb x Δ1 y Δ2 → ∃ d, f x y d ∧ P2 d Δ2) : EvM F (tOp r ta tb) Δ P2 := fun H0 S H σ w t dm Q k => by
  refine ha H0 S H σ w t dm _ fun x u S1 H1 Δ1 p1 w1 g1 t1 hx => ?_
  refine hb x Δ1 p1 H0 S1 H1 σ w1 t1 g1.m _ fun y v S2 H2 Δ2 p2 w2 g2 t2 hy => ?_
  obtain ⟨d, hf, hd⟩ := h x Δ1 y Δ2 p1 p2
  exact hr S2 H2 x y d u v Q w2 (hx.mono g2.s) hy hf fun w' S3 H3 g3 q => k d w' S3 H3 Δ2 hd (g3.ok w2) ((g1.trans g2).trans (g3.w g2.m)) (t2.mono g3) q
theorem evm_cb {r : List V → Hp → VK → Prop} {f : List D → D → Prop} {Pa : List D → List Sl → Prop} {P2 : D → List Sl → Prop} (hr : CallS F r f) (h : EvAM F tr Δ Pa) (hk : ∀ ds Δ', Pa ds Δ' → ∃ d, f ds d ∧ P2 d Δ') : EvM F (tCB r tr) Δ P2 := fun H0 S H σ w t dm Q k =>
  h H0 S H σ w t dm _ fun ds vs S1 H1 Δ1 p1 w1 g1 t1 hd => by
    obtain ⟨d, hf, p⟩ := hk ds Δ1 p1
    exact hr S1 H1 ds d vs Q w1 hd hf fun w' S3 H3 g3 q => k d w' S3 H3 Δ1 p (g3.ok w1) (g1.trans (g3.w g1.m)) (t1.mono g3) q
theorem etm_test {Pb : Bool → List Sl → Prop} (h : EvM F te Δ fun d Δ' => ∃ b, d = .bool b ∧ Pb b Δ') : EvTM F (tTest te) Δ Pb := fun H0 S H σ w t dm Q k =>
  h H0 S H σ w t dm _ fun d v S' H' Δ' ⟨b, e, p⟩ w' g t' hd => by
    subst e
    simp only [Dt] at hd
    exact ⟨b, hd, k b S' H' Δ' p w' g t'⟩
theorem etm_B {Pb : Bool → List Sl → Prop} (h : EvM F te Δ fun d Δ' => ∃ b, d = .bool b ∧ Pb b Δ') : EvTM F (tB te) Δ Pb := fun H0 S H σ w t dm Q k =>
  h H0 S H σ w t dm _ fun d v S' H' Δ' ⟨b, e, p⟩ w' g t' hd => by
    subst e
    simp only [Dt] at hd
    exact ⟨b, hd, k b S' H' Δ' p w' g t'⟩
theorem etm_not {tt : TT} {Pb : Bool → List Sl → Prop} (h : EvTM F tt Δ Pb) : EvTM F (tNot tt) Δ fun b Δ' => Pb (!b) Δ' := fun H0 S H σ w t dm Q k =>
  h H0 S H σ w t dm _ fun b S' H' Δ' p w' g t' => k (!b) S' H' Δ' (by show Pb (!(!b)) Δ'; rw [Bool.not_not]; exact p) w' g t'
/-! statements -/
theorem Gb.stepM {S0 H0 B S H S' H' : Hp} (x : Gb F S0 H0 B S H) (g : Gw F H0 S H S' H') : Gb F S0 H0 B S' H' := ⟨g.gr x.g, x.b.trans g.s⟩
theorem run_setM {i : Nat} (h : EvM F te Δ P) (k : ∀ d Δ', P d Δ' → Run F fr u (Δ'.set i (.v d)) po) : Run F fr (tSeq (tAsg te (gName i)) u) Δ po := fun S0 H0 B S H σ E w g st r =>
  h H0 S H σ w st g.g.m _ fun d v S' H' Δ' p w' g' t' hd => k d Δ' p S0 H0 B S' H' _ E w' (g.stepM g') (t'.setV hd) r
theorem run_set1M {i : Nat} (h : EvM F te Δ P) (k : ∀ d Δ', P d Δ' → po.nx (Δ'.set i (.v d))) : Run F fr (tAsg te (gName i)) Δ po := fun S0 H0 B S H σ E w g st r =>
  h H0 S H σ w st g.g.m _ fun d v S' H' Δ' p w' g' t' hd => r.nx _ S' H' _ (k d Δ' p) w' (g.stepM g') (t'.setV hd)
theorem run_dropM (h : EvM F te Δ P) (k : ∀ d Δ', P d Δ' → po.nx Δ') : Run F fr (tDrop te) Δ po := fun S0 H0 B S H σ E w g st r =>
  h H0 S H σ w st g.g.m _ fun d v S' H' Δ' p w' g' t' hd => r.nx _ S' H' _ (k d Δ' p) w' (g.stepM g') t'
theorem run_dropMS (h : EvM F te Δ P) (k : ∀ d Δ', P d Δ' → Run F fr u Δ' po) : Run F fr (tSeq (tDrop te) u) Δ po :=
  run_seqM (N := fun Δ' => ∃ d, P d Δ') (run_dropM h fun d Δ' p => ⟨d, p⟩) fun Δ' ⟨d, p⟩ => k d Δ' p
theorem run_retM (h : EvM F te Δ P) (k : ∀ d Δ', P d Δ' → po.rt d ∧ po.ro d Δ') : Run F false (tRet te) Δ po := fun S0 H0 B S H σ E w g st r =>
  h H0 S H σ w st g.g.m _ fun d v S' H' Δ' p w' g' t' hd => r.rt d v Δ' S' H' σ (k d Δ' p).1 (k d Δ' p).2 w' t' ⟨(g.stepM g').g, fun _ => hd, fun e => nomatch e⟩
theorem run_retMS (h : EvM F te Δ P) (k : ∀ d Δ', P d Δ' → po.rt d ∧ po.ro d Δ') : Run F false (tSeq (tRet te) u) Δ po := run_seqM (N := fun _ => False) (run_retM (po := { po with nx := fun _ => False }) h k) fun _ n => n.elim
theorem run_retFM {Pa : List D → List Sl → Prop} (h : EvFM F te Δ Pa) (k : ∀ ds Δ', Pa ds Δ' → po.rt (.list ds) ∧ po.ro (.list ds) Δ') : Run F true (tRet te) Δ po := fun S0 H0 B S H σ E w g st r =>
  h H0 S H σ w st g.g.m _ fun ds p xs S' H' Δ' q w' g' t' hp h' hs hd => r.rt (.list ds) _ Δ' S' H' σ (k ds Δ' q).1 (k ds Δ' q).2 w' t' ⟨(g.stepM g').g, fun e => (nomatch e), fun _ => ⟨ds, p, xs, rfl, rfl, h', hs, (by
    cases e : H0 p with
    | none => rfl
    | some o =>
      obtain ⟨o', e'⟩ := g.g.m p o e
      rw [hp] at e'
      cases e'), hd⟩⟩
theorem run_ifM {c : TT} {Pb : Bool → List Sl → Prop} (h : EvTM F c Δ Pb) (h1 : ∀ Δ', Pb true Δ' → Run F fr t Δ' po) (h2 : ∀ Δ', Pb false Δ' → Run F fr u Δ' po) : Run F fr (tIfS c t u) Δ po := fun S0 H0 B S H σ E w g st r =>
  h H0 S H σ w st g.g.m _ fun b S' H' Δ' p w' g' t' => by
    cases b with
    | true => exact h1 Δ' p S0 H0 B S' H' σ E w' (g.stepM g') t' r
    | false => exact h2 Δ' p S0 H0 B S' H' σ E w' (g.stepM g') t' r
theorem run_ifMS {c : TT} {Pb : Bool → List Sl → Prop} {v : TS} (h : EvTM F c Δ Pb) (h1 : ∀ Δ', Pb true Δ' → Run F fr (tSeq t v) Δ' po) (h2 : ∀ Δ', Pb false Δ' → Run F fr (tSeq u v) Δ' po) : Run F fr (tSeq (tIfS c t u) v) Δ po := fun S0 H0 B S H σ E w g st r =>
  h H0 S H σ w st g.g.m _ fun b S' H' Δ' p w' g' t' => by
    cases b with
    | true => exact h1 Δ' p S0 H0 B S' H' σ E w' (g.stepM g') t' r
    | false => exact h2 Δ' p S0 H0 B S' H' σ E w' (g.stepM g') t' r
theorem run_whileM {c : TT} {tb : TS} (I : List Sl → Prop) (μ : List Sl → Nat) (h0 : I Δ)
    (hs : ∀ Δ', I Δ' → ∃ P : Bool → List Sl → Prop, EvTM F c Δ' P ∧ (∀ Δ'', P true Δ'' → Run F fr tb Δ'' { nx := fun z => I z ∧ μ z < μ Δ', ct := fun z => I z ∧ μ z < μ Δ', bk := po.nx, rt := po.rt, ro := po.ro }) ∧ (∀ Δ'', P false Δ'' → po.nx Δ'')) : Run F fr (tWhile c tb) Δ po := fun S0 H0 B S H σ E w gb st r => by
  refine ⟨fun m σ' H' => ∃ Δ' S', m = μ Δ' ∧ I Δ' ∧ Okw F S' H' ∧ Gb F S0 H0 B S' H' ∧ StD F S' H' H0 σ' Δ', ⟨μ Δ, Δ, S, rfl, h0, w, gb, st⟩, ?_⟩
  rintro m σ' H' ⟨Δ', S', rfl, hI, w', gb', st'⟩
  obtain ⟨P, hc, ht, hf⟩ := hs Δ' hI
  refine hc H0 S' H' σ' w' st' gb'.g.m _ fun b S2 H2 Δ2 p w2 g2 t2 => ?_
  cases b with
  | false => exact r.nx Δ2 S2 H2 σ' (hf Δ2 p) w2 (gb'.stepM g2) t2
  | true =>
    refine ⟨fun σ3 H3 => ∃ Δ3 S3, (I Δ3 ∧ μ Δ3 < μ Δ') ∧ Okw F S3 H3 ∧ Gb F S0 H0 B S3 H3 ∧ StD F S3 H3 H0 σ3 Δ3, fun σ3 H3 ⟨Δ3, S3, ⟨i3, l3⟩, w3, gb3, st3⟩ => ⟨μ Δ3, l3, Δ3, S3, rfl, i3, w3, gb3, st3⟩, ?_⟩
    exact ht Δ2 p S0 H0 B S2 H2 σ' _ w2 (gb'.stepM g2) t2 ⟨fun Δ3 S3 H3 σ3 n w3 gb3 st3 => ⟨Δ3, S3, n, w3, gb3, st3⟩, r.rt, r.nx, fun Δ3 S3 H3 σ3 n w3 gb3 st3 => ⟨Δ3, S3, n, w3, gb3, st3⟩⟩
end
/-! ### objects -/
def Sl.isOb : Sl → Bool
  | .ob _ _ _ _ => true
  | _ => false
/-- no other object in the slots -/
def ob1 (i : Nat) (Δ : List Sl) : Bool := (Δ.set i .un).all fun s => !s.isOb
theorem ob1_ne {i j : Nat} {Δ : List Sl} {s : Sl} (h : ob1 i Δ = true) (e : Δ[j]? = some s) (hj : j ≠ i) : s.isOb = false := by
  have := List.all_eq_true.mp h s (List.mem_of_getElem? (i := j) (by rw [List.getElem?_set_ne (Ne.symm hj)]; exact e))
  simpa using this
def prot (H : Hp) (a dx : Addr) : Hp := fun b => if b = a ∨ b = dx then Option.none else H b
theorem prot_ne {H : Hp} {a dx b : Addr} (h1 : b ≠ a) (h2 : b ≠ dx) : prot H a dx b = H b := if_neg fun z => z.elim h1 h2
theorem prot_some {H : Hp} {a dx b : Addr} {o : HO} (h : prot H a dx b = some o) : b ≠ a ∧ b ≠ dx ∧ H b = some o := by
  unfold prot at h
  split at h
  · cases h
  · rename_i n
    exact ⟨fun z => n (.inl z), fun z => n (.inr z), h⟩
/-- a def or method whose first argument is an object of the class at C that it may change: R (fields ahead) arguments result (fields behind) -/
def SpO (C : Addr) (fr : Bool) (R : FS → List D → D → FS → Prop) : Sp := fun vs H Q _ => ∃ S a dx fsV fs us ds, vs = .ref a :: us ∧ Same S H ∧ H a = some (.ins C dx fsV) ∧ H dx = some (.own a) ∧ S a = Option.none ∧ S dx = Option.none ∧ DtF S fs fsV ∧ DtL S ds us ∧ (∃ d fs', R fs ds d fs') ∧
  ∀ d v fs' vs' S' H', R fs ds d fs' → Giv fr Option.none S (prot H a dx) d v S' H' → H' a = some (.ins C dx vs') → H' dx = some (.own a) → S' a = Option.none → S' dx = Option.none → DtF S' fs' vs' → Q v H'
section
variable {F : Fp} {S H H0 S' H' : Hp} {σ : L2.St} {Δ : List Sl} {i : Nat} {a dx C : Addr} {fs fs' : FS} {vs vs' : List (Str × V)}
/-- the object was changed by another def -/
theorem ob_gw (t : StD F S H H0 σ Δ) (hi : Δ[i]? = some (.ob a dx C fs)) (dm : Dm H0 H) (g : Gr Option.none S (prot H a dx) S' H') : Gw F H0 S H S' H' := by
  obtain ⟨_, _, vs, _, e1, e2, _, _, e5, e6, _⟩ := t.ok i _ hi
  have ne : ∀ x o, H0 x = some o → x ≠ a ∧ x ≠ dx := fun x o e => ⟨fun z => (by rw [z, e5] at e; cases e), fun z => (by rw [z, e6] at e; cases e)⟩
  refine ⟨g.s, g.h, fun x o e => ?_, fun x o u nf e e' => ?_, fun x o e => ?_, fun p c e z => ?_⟩
  · obtain ⟨n1, n2⟩ := ne x o e
    obtain ⟨o', e'⟩ := dm x o e
    exact g.n x o' (by rw [prot_ne n1 n2]; exact e')
  · obtain ⟨n1, n2⟩ := ne x o e
    exact g.k x u (nfp0 x) (by rw [prot_ne n1 n2]; exact e')
  · obtain ⟨n1, n2⟩ := ne x o e
    obtain ⟨o', e'⟩ := dm x o e
    exact g.m x o' (by rw [prot_ne n1 n2]; exact e')
  · obtain ⟨ns, l, m, tt, z1, z2, z3⟩ := z
    have k : ∀ {y : Addr} {u : HO}, H y = some u → (∀ D dy w, u ≠ .ins D dy w) → (∀ y, u ≠ .own y) → H' y = some u := fun {y u} hy h1 h2 => g.k y u (nfp0 y) (by
      rw [prot_ne (fun z => by rw [z, e1] at hy; cases hy; exact h1 _ _ _ rfl) fun z => by rw [z, e2] at hy; cases hy; exact h2 _ rfl]
      exact hy)
    exact ⟨ns, l, m, tt, k z1 (fun _ _ _ z => by cases z) (fun _ z => by cases z), k z2 (fun _ _ _ z => by cases z) (fun _ z => by cases z), z3⟩
theorem ob_std (t : StD F S H H0 σ Δ) (hi : Δ[i]? = some (.ob a dx C fs)) (h1 : ob1 i Δ = true) (gw : Gw F H0 S H S' H') (k : ∀ x o, x ≠ a → x ≠ dx → H x = some o → S' x = S x ∧ (¬ fp F x → H' x = some o)) (ea : H' a = some (.ins C dx vs')) (ed : H' dx = some (.own a)) (sa : S' a = Option.none) (sd : S' dx = Option.none) (hf : DtF S' fs' vs') :
    StD F S' H' H0 σ (Δ.set i (.ob a dx C fs')) := by
  obtain ⟨x, ex, vs, rfl, e1, e2, _, _, e5, e6, _⟩ := t.ok i _ hi
  have hlt : i < Δ.length := (List.getElem?_eq_some_iff.mp hi).1
  refine ⟨by simp [t.len], fun j s e => ?_, fun j l ds es p f1 f2 f3 f4 => ?_, t.fh⟩
  · by_cases hj : j = i
    · subst hj
      rw [List.getElem?_set_self hlt] at e
      cases e
      exact ⟨_, ex, vs', rfl, ea, ed, sa, sd, e5, e6, hf⟩
    · rw [List.getElem?_set_ne (Ne.symm hj)] at e
      obtain ⟨y, ey, h⟩ := t.ok j s e
      refine ⟨y, ey, ?_⟩
      have nob := ob1_ne h1 e hj
      cases s with
      | un => trivial
      | v d =>
        obtain ⟨z, q1, q2⟩ := h
        exact ⟨z, q1, q2.mono gw.s⟩
      | own l =>
        obtain ⟨p, xs, q1, q2, q3, q4, q5⟩ := h
        have n1 : p ≠ a := fun z => by rw [z, e1] at q2; cases q2
        have n2 : p ≠ dx := fun z => by rw [z, e2] at q2; cases q2
        have nf : ¬ fp F p := fun z => by
          obtain ⟨o, q⟩ := t.fh p z
          rw [q4] at q
          cases q
        obtain ⟨k1, k2⟩ := k p _ n1 n2 q2
        exact ⟨p, xs, q1, k2 nf, by rw [k1]; exact q3, q4, q5.mono gw.s⟩
      | src => exact h
      | ob => cases nob
      | xc W PX l => exact XcOk.mono h gw
      | fz b gs =>
        obtain ⟨ws, q1, q2⟩ := h
        exact ⟨ws, gw.s _ _ q1, q2.mono gw.s⟩
      | od b kvs =>
        obtain ⟨ks, q1, q2, q3, q4, q5⟩ := h
        have n1 : b ≠ a := fun z => by rw [z, e1] at q2; cases q2
        have n2 : b ≠ dx := fun z => by rw [z, e2] at q2; cases q2
        have nf : ¬ fp F b := fun z => by
          obtain ⟨o, q⟩ := t.fh b z
          rw [q4] at q
          cases q
        obtain ⟨k1, k2⟩ := k b _ n1 n2 q2
        exact ⟨ks, q1, k2 nf, by rw [k1]; exact q3, q4, DtK.mono gw.s _ _ q5⟩
      | tb P q =>
        have hk : ∀ b u, H b = some u → (∀ C d vs, u ≠ .ins C d vs) → (∀ y, u ≠ .own y) → b ≠ a ∧ b ≠ dx := fun b u e z1 z2 => ⟨fun z => by rw [z, e1] at e; exact z1 _ _ _ (Option.some.inj e).symm, fun z => by rw [z, e2] at e; exact z2 _ (Option.some.inj e).symm⟩
        have h : TbOk F S H H0 P q := h
        obtain ⟨ps, z1, _⟩ := id h.t
        obtain ⟨n1, n2⟩ := hk _ _ z1 (by simp) (by simp)
        exact ⟨tabS_keep h.t fun b u e w1 w2 w3 w4 => (k b u (hk b u e w3 w4).1 (hk b u e w3 w4).2 e).2 (h.nfp e w1 w2), by rw [(k _ _ n1 n2 z1).1]; exact h.s, h.h0, fun x y e => gw.src x y e (h.src x y e)⟩
  · have n1 : j ≠ i := fun z => by
      subst z
      rw [List.getElem?_set_self hlt] at f1
      cases f1
    have n2 : l ≠ i := fun z => by
      subst z
      rw [List.getElem?_set_self hlt] at f2
      cases f2
    rw [List.getElem?_set_ne (Ne.symm n1)] at f1
    rw [List.getElem?_set_ne (Ne.symm n2)] at f2
    exact t.nd j l ds es p f1 f2 f3 f4
end
section
variable {F : Fp} {fr : Bool} {te ta tb tv : TE} {ts t u : TS} {tr : TA} {Δ : List Sl} {P : D → List Sl → Prop} {po : Po} {K : PySem.W.Frag} {i : Nat} {a dx C : Addr} {fs : FS} {R : FS → List D → D → FS → Prop} {E : XK} {m : Str}
/-- the promise at a call, the object in slot i -/
theorem spo_use {S0 S H H0 : Hp} {σ : L2.St} {us : List V} {ds : List D} {Q : VK} {fr : Bool} (w : Okw F S H) (t : StD F S H H0 σ Δ) (dm : Dm H0 H) (hi : Δ[i]? = some (.ob a dx C fs)) (h1 : ob1 i Δ = true) (hd : DtL S ds us) (hR : ∃ d fs', R fs ds d fs')
    (k : ∀ d v fs' S' H', R fs ds d fs' → Okw F S' H' → Gw F H0 S H S' H' → StD F S' H' H0 σ (Δ.set i (.ob a dx C fs')) → Giv fr Option.none S (prot H a dx) d v S' H' → Q v H') : SpO C fr R (.ref a :: us) H Q E := by
  obtain ⟨x, ex, vs, rfl, e1, e2, e3, e4, e5, e6, hf⟩ := t.ok i _ hi
  refine ⟨S, a, dx, vs, fs, us, ds, rfl, w.s, e1, e2, e3, e4, hf, hd, hR, fun d v fs' vs' S' H' r gv ea ed sa sd hf' => ?_⟩
  have gw := ob_gw t hi dm gv.g
  refine k d v fs' S' H' r (gw.ok w t.fh) gw (ob_std t hi h1 gw (fun x o n1 n2 e => ?_) ea ed sa sd hf') gv
  have e' : prot H a dx x = some o := by rw [prot_ne n1 n2]; exact e
  exact ⟨gv.g.n x o e', fun _ => gv.g.k x o (nfp0 x) e'⟩
theorem ob_var {S H H0 : Hp} {σ : L2.St} (t : StD F S H H0 σ Δ) (hi : Δ[i]? = some (.ob a dx C fs)) : ∃ vs, σ[i]? = some (some (.ref a)) ∧ H a = some (.ins C dx vs) ∧ DtF S fs vs := by
  obtain ⟨x, ex, vs, rfl, e1, _, _, _, _, _, hf⟩ := t.ok i _ hi
  exact ⟨vs, ex, e1, hf⟩
theorem dtf_lookup {S : Hp} {f : Str} : ∀ {fs : FS} {vs : List (Str × V)}, DtF S fs vs → (∀ d, fs.lookup f = some d → ∃ u, vs.lookup f = some u ∧ Dt S d u) ∧ (fs.lookup f = Option.none → vs.lookup f = Option.none)
  | [], vs, h => by
    simp only [DtF] at h
    subst h
    exact ⟨fun d e => (by cases e), fun _ => rfl⟩
  | (n, q) :: fs, vs, h => by
    simp only [DtF] at h
    obtain ⟨u, us, rfl, h1, h2⟩ := h
    obtain ⟨k1, k2⟩ := dtf_lookup (f := f) h2
    by_cases hn : f = n
    · subst hn
      refine ⟨fun d e => ?_, fun e => ?_⟩
      · simp only [List.lookup_cons, beq_self_eq_true] at e ⊢
        cases e
        exact ⟨u, rfl, h1⟩
      · simp only [List.lookup_cons, beq_self_eq_true] at e
        cases e
    · have hn' : (f == n) = false := by simpa using hn
      simp only [List.lookup_cons, hn']
      exact ⟨k1, k2⟩
/-- f(o, ..) -/
theorem evm_callO {Pa : List D → Prop} (hi : Δ[i]? = some (.ob a dx C fs)) (h1 : ob1 i Δ = true) (h : EvA F tr Δ Pa) (hR : ∀ ds, Pa ds → ∃ d fs', R fs ds d fs') : EvM F (tCall (SpO C false R) [] E (tCons (tVar i) tr)) Δ fun d Δ' => ∃ ds fs', Pa ds ∧ R fs ds d fs' ∧ Δ' = Δ.set i (.ob a dx C fs') := fun H0 S H σ w t dm Q k => by
  obtain ⟨vs, e1, _, _⟩ := ob_var t hi
  refine ⟨_, e1, h H0 S H σ w t _ fun ds us S1 H1 p g1 hd => ?_⟩
  show SpO C false R (.ref a :: us ++ []) H1 Q E
  rw [List.append_nil]
  refine spo_use (S0 := S) (g1.ok w) (t.mono g1) (fun x o e => (dm x o e).elim fun o' e' => g1.m x o' e') hi h1 hd (hR ds p) fun d v fs' S' H' r w' gw t' gv => k d v S' H' _ ⟨ds, fs', p, r, rfl⟩ w' ((g1.w dm).trans gw) t' (gv.vl rfl)
theorem efm_callO {Pa : List D → Prop} (hi : Δ[i]? = some (.ob a dx C fs)) (h1 : ob1 i Δ = true) (h : EvA F tr Δ Pa) (hR : ∀ ds, Pa ds → ∃ d fs', R fs ds d fs') : EvFM F (tCall (SpO C true R) [] E (tCons (tVar i) tr)) Δ fun es Δ' => ∃ ds fs', Pa ds ∧ R fs ds (.list es) fs' ∧ Δ' = Δ.set i (.ob a dx C fs') := fun H0 S H σ w t dm Q k => by
  obtain ⟨vs, e1, ea, _⟩ := ob_var t hi
  refine ⟨_, e1, h H0 S H σ w t _ fun ds us S1 H1 p g1 hd => ?_⟩
  show SpO C true R (.ref a :: us ++ []) H1 Q E
  rw [List.append_nil]
  have t1 := t.mono g1
  refine spo_use (S0 := S) (g1.ok w) t1 (fun x o e => (dm x o e).elim fun o' e' => g1.m x o' e') hi h1 hd (hR ds p) fun d v fs' S' H' r w' gw t' gv => ?_
  obtain ⟨es, q, xs, z1, z2, e3, e4, e5, e6⟩ := gv.f rfl
  subst z1
  subst z2
  refine k es q xs S' H' _ ⟨ds, fs', p, r, rfl⟩ w' ((g1.w dm).trans gw) t' ?_ e3 e4 e6
  obtain ⟨x, _, _, _, ea1, ed1, _⟩ := t1.ok i _ hi
  obtain ⟨x', _, _, _, ea2, ed2, _⟩ := t'.ok i _ (List.getElem?_set_self (List.getElem?_eq_some_iff.mp hi).1)
  have n1 : q ≠ a := fun z => by rw [z, ea2] at e3; cases e3
  have n2 : q ≠ dx := fun z => by rw [z, ed2] at e3; cases e3
  rw [prot_ne n1 n2] at e5
  cases e : H q with
  | none => rfl
  | some o =>
    obtain ⟨o', e'⟩ := g1.m q o e
    rw [e5] at e'
    cases e'
/-- o.m(..) -/
theorem evm_meth {Pa : List D → Prop} (hi : Δ[i]? = some (.ob a dx C fs)) (h1 : ob1 i Δ = true) (hm : fs.lookup m = Option.none) (h : EvA F tr Δ Pa) (hR : ∀ ds, Pa ds → ∃ d fs', R fs ds d fs') : EvM F (tMeth C m (SpO C false R) [] E (tVar i) tr) Δ fun d Δ' => ∃ ds fs', Pa ds ∧ R fs ds d fs' ∧ Δ' = Δ.set i (.ob a dx C fs') := fun H0 S H σ w t dm Q k => by
  obtain ⟨vs, e1, ea, hf⟩ := ob_var t hi
  refine ⟨_, e1, a, dx, vs, rfl, ea, (dtf_lookup hf).2 hm, h H0 S H σ w t _ fun ds us S1 H1 p g1 hd => ?_⟩
  show SpO C false R (.ref a :: (us ++ [])) H1 Q E
  rw [List.append_nil]
  refine spo_use (S0 := S) (g1.ok w) (t.mono g1) (fun x o e => (dm x o e).elim fun o' e' => g1.m x o' e') hi h1 hd (hR ds p) fun d v fs' S' H' r w' gw t' gv => k d v S' H' _ ⟨ds, fs', p, r, rfl⟩ w' ((g1.w dm).trans gw) t' (gv.vl rfl)
/-- o.f -/
theorem ev_fldO {f : Str} {d : D} (hi : Δ[i]? = some (.ob a dx C fs)) (c : Cls K C) (n : NoAttr K C f) (hf : fs.lookup f = some d) : Ev1 F (tFld K (tVar i) f) Δ d := fun H0 S H σ w t Q k => by
  obtain ⟨vs, e1, ea, hd⟩ := ob_var t hi
  obtain ⟨u, e2, h2⟩ := (dtf_lookup hd).1 d hf
  exact ⟨_, e1, a, C, dx, vs, u, rfl, ea, c, n, e2, k d u S H rfl (Gr.refl w.s) h2⟩
/-- .. of an object that is data -/
theorem ev_fldD {f : Str} {d : D} (h : Ev1 F te Δ (.obj C fs)) (c : Cls K C) (n : NoAttr K C f) (hf : fs.lookup f = some d) : Ev1 F (tFld K te f) Δ d := fun H0 S H σ w t Q k =>
  h H0 S H σ w t _ fun x v S' H' e g hx => by
    subst e
    simp only [Dt] at hx
    obtain ⟨b, dy, vs, rfl, e1, h1⟩ := hx
    obtain ⟨u, e2, h2⟩ := (dtf_lookup h1).1 d hf
    exact ⟨b, C, dy, vs, u, rfl, g.h _ _ e1, c, n, e2, k d u S' H' rfl g h2⟩
def putD (f : Str) (d : D) : FS → FS
  | [] => [(f, d)]
  | (g, x) :: r => if g = f then (g, d) :: r else (g, x) :: putD f d r
theorem dtf_put {S : Hp} {f : Str} {d : D} {v : V} (hv : Dt S d v) : ∀ {fs : FS} {vs : List (Str × V)}, DtF S fs vs → DtF S (putD f d fs) (L2.putF f v vs)
  | [], vs, h => by
    simp only [DtF] at h
    subst h
    simp only [putD, L2.putF, DtF]
    exact ⟨v, [], rfl, hv, rfl⟩
  | (n, q) :: fs, vs, h => by
    simp only [DtF] at h
    obtain ⟨u, us, rfl, h1, h2⟩ := h
    by_cases hn : n = f
    · simp only [putD, L2.putF, if_pos hn, DtF]
      exact ⟨v, us, rfl, hv, h2⟩
    · simp only [putD, L2.putF, if_neg hn, DtF]
      exact ⟨u, _, rfl, h1, dtf_put hv h2⟩
theorem dtf_len {S : Hp} : ∀ {fs : FS} {vs : List (Str × V)}, DtF S fs vs → fs.length = vs.length
  | [], vs, h => by simp only [DtF] at h; subst h; rfl
  | (n, q) :: fs, vs, h => by
    simp only [DtF] at h
    obtain ⟨u, us, rfl, _, h2⟩ := h
    rw [List.length_cons, List.length_cons, dtf_len h2]
/-- o.f = e -/
theorem run_fldM {f : Str} (c : Cls K C) (n : NoAttr K C f) (h : EvM F tv Δ P) (k : ∀ d Δ', P d Δ' → ∃ fs, Δ'[i]? = some (.ob a dx C fs) ∧ ob1 i Δ' = true ∧ fs.length < 1000 ∧ po.nx (Δ'.set i (.ob a dx C (putD f d fs)))) : Run F fr (sFld K (tVar i) tv f) Δ po := fun S0 H0 B S H σ E w gb st r =>
  h H0 S H σ w st gb.g.m _ fun d v S1 H1 Δ1 p w1 g1 t1 hd => by
    obtain ⟨fs, hi, h1, hl, hk⟩ := k d Δ1 p
    obtain ⟨x, ex, vs, rfl, e1, e2, e3, e4, e5, e6, hf⟩ := t1.ok i _ hi
    refine ⟨_, ex, a, C, dx, vs, rfl, e1, c, n, by rw [← dtf_len hf]; exact hl, ?_⟩
    have nf : ¬ fp F a := fun z => by
      obtain ⟨o, q⟩ := t1.fh a z
      rw [e5] at q
      cases q
    have gw : Gw F H0 S1 H1 S1 (upd H1 a (.ins C dx (L2.putF f v vs))) := Gw.mut w1.s e1 e3 e5 nf g1.m
    have hda : dx ≠ a := fun z => by rw [z, e1] at e2; cases e2
    refine r.nx _ S1 _ σ hk (gw.ok w1 t1.fh) ((gb.stepM g1).stepM gw) (ob_std t1 hi h1 gw (fun x o n1 n2 e => ⟨rfl, fun _ => by rw [upd_ne n1]; exact e⟩) upd_same (by rw [upd_ne hda]; exact e2) e3 e4 (dtf_put hd hf))
theorem run_fldMS {f : Str} (c : Cls K C) (n : NoAttr K C f) (h : EvM F tv Δ P) (k : ∀ d Δ', P d Δ' → ∃ fs, Δ'[i]? = some (.ob a dx C fs) ∧ ob1 i Δ' = true ∧ fs.length < 1000 ∧ Run F fr u (Δ'.set i (.ob a dx C (putD f d fs))) po) : Run F fr (tSeq (sFld K (tVar i) tv f) u) Δ po :=
  run_seqM (N := fun Δ' => Run F fr u Δ' po) (run_fldM c n h k) fun _ h => h
end
/-! ### a def's body, the object its first parameter -/
def iniO (n : Nat) (a dx C : Addr) (fs : FS) (ds : List D) : List Sl := .ob a dx C fs :: (ds.map Sl.v ++ List.replicate (n - ds.length - 1) Sl.un)
theorem prot_gr {S H : Hp} {a dx : Addr} (w : Same S H) : Gr Option.none S (prot H a dx) S H :=
  ⟨fun _ _ e => e, w, fun _ _ _ => rfl, fun x o _ e => (prot_some e).2.2, fun x o e => ⟨o, (prot_some e).2.2⟩, fun _ _ e => nomatch e⟩
theorem st_iniO {S H : Hp} {N : List Str} {a dx C : Addr} {fs : FS} {fsV : List (Str × V)} {us : List V} {ds : List D} (w : Same S H) (e1 : H a = some (.ins C dx fsV)) (e2 : H dx = some (.own a)) (e3 : S a = Option.none) (e4 : S dx = Option.none) (hf : DtF S fs fsV) (hd : DtL S ds us) (hl : us.length + 1 ≤ N.length) :
    StD Option.none S H (prot H a dx) (L2.start N (.ref a :: us)) (iniO N.length a dx C fs ds) := by
  have es : L2.start N (.ref a :: us) = some (.ref a) :: (us.map some ++ List.replicate (N.length - us.length - 1) Option.none) := by
    simp only [L2.start, List.map_cons, List.length_cons, List.cons_append, Nat.sub_sub]
  rw [es]
  refine ⟨by simp [iniO, hd.len], fun i s q => ?_, fun i j l m p q _ _ _ => ?_, fun x ⟨_, _, e, _⟩ => nomatch e⟩
  · cases i with
    | zero =>
      simp only [iniO, List.getElem?_cons_zero, Option.some.injEq] at q
      subst q
      exact ⟨_, rfl, fsV, rfl, e1, e2, e3, e4, if_pos (.inl rfl), if_pos (.inr rfl), hf⟩
    | succ i =>
      rw [iniO, List.getElem?_cons_succ] at q
      rw [List.getElem?_cons_succ]
      by_cases hi : i < ds.length
      · rw [List.getElem?_append_left (by simpa using hi)] at q
        rw [List.getElem?_append_left (by simpa [← hd.len] using hi)]
        exact okL hd q
      · rw [List.getElem?_append_right (by simpa using hi)] at q
        rw [List.getElem?_append_right (by simp [← hd.len]; omega)]
        have hm := List.mem_of_getElem? q
        have hlt := (List.getElem?_eq_some_iff.mp q).1
        rw [List.mem_replicate] at hm
        simp only [List.length_map, List.length_replicate] at hlt ⊢
        rw [hm.2]
        refine ⟨Option.none, ?_, trivial⟩
        rw [List.getElem?_replicate, if_pos]
        rw [← hd.len]
        exact hlt
  · cases i with
    | zero =>
      simp only [iniO, List.getElem?_cons_zero, Option.some.injEq] at q
      cases q
    | succ i => exact (no_own (by simpa [iniO] using q)).elim
section
variable {P : Program} {w : World} {K : PySem.W.Frag} {mg : Str → Option Value} {base : Heap}
theorem ok_O {x qual : Str} {st : Stmt} {f : Addr} {fd : FuncData} {N ps : List Str} {k : Nat} {C : Addr} {fr : Bool} {R : FS → List D → D → FS → Prop} (Fu : Fun K x qual st f fd) (Sc : FnScope N ps (defScope st)) (hl : ∀ fs ds d fs', R fs ds d fs' → ds.length + 1 = ps.length)
    (hbody : ∀ (cdv : Value) (A : Around) (outer : List Env) (s : Shared) (H : Hp) (E : XK), Room k (A.deeper (envOfC qual (defScope st) s.heap.objs.size f cdv)) →
      ∃ t, PSs (cxOf CX0 P w K mg base N qual (defScope st) f cdv A outer s H E).nox (defBody st) t ∧ ∀ a dx fs ds, (∃ d fs', R fs ds d fs') → Run Option.none fr t (iniO N.length a dx C fs ds) { nx := fun Δ => fr = false ∧ ∃ fs', Δ[0]? = some (.ob a dx C fs') ∧ R fs ds .none fs', rt := fun _ => True, ro := fun d Δ => ∃ fs', Δ[0]? = some (.ob a dx C fs') ∧ R fs ds d fs' }) :
    FnOk P w K mg base CX0 (k + 1) f fd ps (SpO C fr R) := by
  have hps : ps.length ≤ N.length := by
    have := congrArg List.length Sc.pre
    rw [List.length_take] at this
    omega
  refine Fu.ok Sc (fun vs H Q E h => ?_) (fun cdv A outer s H vs Q E hr h => ?_)
  · obtain ⟨S, a, dx, fsV, fs, us, ds, rfl, _, _, _, _, _, _, hd, ⟨d, fs', r⟩, _⟩ := h
    rw [List.length_cons, ← hd.len]
    exact hl fs ds d fs' r
  · obtain ⟨S, a, dx, fsV, fs, us, ds, rfl, same, e1, e2, e3, e4, hf, hd, ⟨d, fs', r⟩, hk⟩ := h
    obtain ⟨t, ht, hrun⟩ := hbody cdv A outer s H E hr
    have hlen : us.length + 1 ≤ N.length := by
      rw [← hd.len, hl fs ds d fs' r]
      exact hps
    refine ⟨t, ht, hrun a dx fs ds ⟨d, fs', r⟩ S (prot H a dx) S S H _ _ ⟨same, fun _ _ e => nomatch e⟩ ⟨prot_gr same, Same.refl _⟩ (st_iniO same e1 e2 e3 e4 hf hd hlen) ⟨?_, ?_, fun _ _ _ _ z => z.elim, fun _ _ _ _ z => z.elim⟩⟩
    · rintro Δ S2 H2 σ ⟨efr, fs2, q, r2⟩ w2 g2 t2
      obtain ⟨x, _, vs2, _, z1, z2, z3, z4, _, _, z5⟩ := t2.ok 0 _ q
      exact hk .none .non fs2 vs2 S2 H2 r2 ⟨g2.g, fun _ => by simp only [Dt], fun e => by rw [efr] at e; cases e⟩ z1 z2 z3 z4 z5
    · rintro d v Δ S2 H2 σ _ ⟨fs2, q, r2⟩ w2 t2 gv
      obtain ⟨x, _, vs2, _, z1, z2, z3, z4, _, _, z5⟩ := t2.ok 0 _ q
      exact hk d v fs2 vs2 S2 H2 r2 gv z1 z2 z3 z4 z5
end
/-! ### C(..) -/
section
variable {F : Fp} {fr : Bool} {tr : TA} {u : TS} {Δ : List Sl} {po : Po} {i : Nat} {C : Addr} {R : FS → List D → D → FS → Prop} {E : XK}
theorem mk_use {S H : Hp} {us : List V} {ds : List D} {Q : VK} (w : Same S H) (hd : DtL S ds us) (hR : ∃ d fs', R [] ds d fs') (hn : ∀ d fs', R [] ds d fs' → d = .none) {x dx : Addr} (hx : H x = Option.none) (hdx : H dx = Option.none) (hne : dx ≠ x)
    (k : ∀ fs' vs' S' H', R [] ds .none fs' → Gr Option.none S H S' H' → H' x = some (.ins C dx vs') → H' dx = some (.own x) → S' x = Option.none → S' dx = Option.none → DtF S' fs' vs' → Q (.ref x) H') :
    SpO C false R (.ref x :: us) (upd (upd H dx (.own x)) x (.ins C dx [])) (fun v H2 => v = .non ∧ Q (.ref x) H2) E := by
  have ep : prot (upd (upd H dx (.own x)) x (.ins C dx [])) x dx = H := by
    funext b
    unfold prot
    by_cases h1 : b = x
    · rw [if_pos (.inl h1), h1, hx]
    · by_cases h2 : b = dx
      · rw [if_pos (.inr h2), h2, hdx]
      · rw [if_neg (fun z => z.elim h1 h2), upd_ne h1, upd_ne h2]
  refine ⟨S, x, dx, [], [], us, ds, rfl, fun b o e => ?_, upd_same, by rw [upd_ne hne, upd_same], Same.free w hx, Same.free w hdx, by simp only [DtF], hd, hR, fun d v fs' vs' S' H' r gv ea ed sa sd hf => ?_⟩
  · have e' := w b o e
    rw [upd_ne (ne_of_none e' hx), upd_ne (ne_of_none e' hdx)]
    exact e'
  · have e := hn d fs' r
    subst e
    have hv := gv.vl rfl
    simp only [Dt] at hv
    have g := gv.g
    rw [ep] at g
    exact ⟨hv, k fs' vs' S' H' r g ea ed sa sd hf⟩
/-- x = C(..), the object the def's own -/
theorem run_mk {Pa : List D → Prop} (h : EvA F tr Δ Pa) (hR : ∀ ds, Pa ds → ∃ d fs', R [] ds d fs') (hn : ∀ ds d fs', R [] ds d fs' → d = .none) (k : ∀ ds fs' a dx, Pa ds → R [] ds .none fs' → Run F fr u (Δ.set i (.ob a dx C fs')) po) : Run F fr (tSeq (tAsg (tMake C (SpO C false R) [] E tr) (gName i)) u) Δ po := fun S0 H0 B S H σ En w gb st r =>
  h H0 S H σ w st _ fun ds us S1 H1 p g1 hd x dx hx hdx hne => by
    rw [List.append_nil]
    refine mk_use (Q := fun v H2 => gName i v σ H2 (u En)) g1.h hd (hR ds p) (hn ds) hx hdx hne fun fs' vs' S' H' r' g ea ed sa sd hf => ?_
    have dm : ∀ y, H1 y = Option.none → H0 y = Option.none := fun y e => by
      cases q : H0 y with
      | none => rfl
      | some o =>
        obtain ⟨o', e'⟩ := (gb.step g1).g.m y o q
        rw [e] at e'
        cases e'
    have g2 : Gr F S H S' H' := g1.trans g.up
    exact k ds fs' x dx p r' S0 H0 B S' H' _ En (g2.ok w) (gb.step g2) ((st.mono g2).set (s := .ob x dx C fs') ⟨vs', rfl, ea, ed, sa, sd, dm x hx, dm dx hdx, hf⟩ fun _ z => by cases z) r
/-- C(..) as data -/
theorem ev_mkD {Pa : List D → Prop} (h : EvA F tr Δ Pa) (hR : ∀ ds, Pa ds → ∃ d fs', R [] ds d fs') (hn : ∀ ds d fs', R [] ds d fs' → d = .none) : EvR F (tMake C (SpO C false R) [] E tr) Δ fun d => ∃ ds fs', Pa ds ∧ R [] ds .none fs' ∧ d = .obj C fs' := fun H0 S H σ w t Q k =>
  h H0 S H σ w t _ fun ds us S1 H1 p g1 hd x dx hx hdx hne => by
    rw [List.append_nil]
    refine mk_use (Q := Q) g1.h hd (hR ds p) (hn ds) hx hdx hne fun fs' vs' S' H' r' g ea ed sa sd hf => ?_
    have hx0 : H x = Option.none := by
      cases q : H x with
      | none => rfl
      | some o =>
        obtain ⟨o', e'⟩ := g1.m x o q
        rw [hx] at e'
        cases e'
    refine k (.obj C fs') (.ref x) _ H' ⟨ds, fs', p, r', rfl⟩ ((g1.trans g.up).freeze hx0 ea) ?_
    simp only [Dt]
    exact ⟨x, dx, vs', rfl, upd_same, DtF.mono (fun b o e => by rw [upd_ne (ne_of_none e sa)]; exact e) _ _ hf⟩
end
/-! ### own lists grow by what changes an object -/
section
variable {F : Fp} {fr : Bool} {te : TE} {Δ : List Sl} {K : PySem.W.Frag}
theorem run_appM {i : Nat} {po : Po} {P : D → List Sl → Prop} (hi : ∃ ds, Δ[i]? = some (.own ds)) (h : EvM F te Δ P) (k : ∀ d Δ', P d Δ' → ∃ ds, Δ'[i]? = some (.own ds) ∧ ds.length < sizeLine ∧ po.nx (Δ'.set i (.own (ds ++ [d])))) :
    Run F fr (tDrop (tBM K "list" rAppend (tVar i) (tCons te tNil))) Δ po := fun S0 H0 B S H σ E w gb st r => by
  obtain ⟨ds0, hi⟩ := hi
  obtain ⟨x, e1, p, xs0, rfl, h1, h2, h3, h4⟩ := st.ok i _ hi
  refine ⟨_, e1, Or.inl ⟨rfl, xs0, SqL.of h1⟩, ?_⟩
  refine h H0 S H σ w st gb.g.m _ fun d v S1 H1 Δ1 pd w1 g1 st1 hv => ?_
  obtain ⟨ds, hi1, hl, hk⟩ := k d Δ1 pd
  obtain ⟨x, f1, p1, xs, rfl, q1, q2, q3, q4⟩ := st1.ok i _ hi1
  rw [e1] at f1
  cases f1
  have nf : ¬ fp F p := fun z => by
    obtain ⟨o, q⟩ := st.fh p z
    rw [h3] at q
    cases q
  refine ⟨p, xs, v, rfl, rfl, q1, by rw [← q4.len]; exact hl, ?_⟩
  have gw : Gw F H0 S1 H1 S1 (upd H1 p (.lst (xs ++ [v]))) := Gw.mut w1.s q1 q2 q3 nf g1.m
  have hlt : i < Δ1.length := (List.getElem?_eq_some_iff.mp hi1).1
  refine r.nx _ S1 _ σ hk (gw.ok w1 st1.fh) ((gb.stepM g1).stepM gw) ⟨by simp [st1.len], fun j s' ej => ?_, fun j l es fs q f1 f2 f3 f4 => ?_, st1.fh⟩
  · by_cases hj : j = i
    · subst hj
      rw [List.getElem?_set_self hlt] at ej
      cases ej
      exact ⟨_, e1, p, _, rfl, upd_same, q2, q3, q4.append (dtl_cons hv dtl_nil)⟩
    · rw [List.getElem?_set_ne (Ne.symm hj)] at ej
      obtain ⟨y, f1, f2⟩ := st1.ok j s' ej
      refine ⟨y, f1, ?_⟩
      cases s' with
      | un => trivial
      | v d => exact f2
      | src => exact f2
      | ob a dx C fs =>
        obtain ⟨vs, z1, z2, z3, z4, z5, z6, z7, z8⟩ := f2
        have n1 : a ≠ p := fun z => by rw [z, q1] at z2; cases z2
        have n2 : dx ≠ p := fun z => by rw [z, q1] at z3; cases z3
        exact ⟨vs, z1, by rw [upd_ne n1]; exact z2, by rw [upd_ne n2]; exact z3, z4, z5, z6, z7, z8⟩
      | xc W PX l => exact XcOk.mono f2 gw
      | fz a fs => exact f2
      | tb P q => exact TbOk.own f2 q1 nf
      | od b kvs =>
        obtain ⟨ks, z1, z2, z3, z4, z5⟩ := f2
        exact ⟨ks, z1, by rw [upd_ne (fun z => by rw [z, q1] at z2; cases z2)]; exact z2, z3, z4, z5⟩
      | own es =>
        obtain ⟨q, ys, rfl, y1, y2, y3, y4⟩ := f2
        refine ⟨q, ys, rfl, ?_, y2, y3, y4⟩
        rw [upd_ne (fun z => hj ?_)]
        · exact y1
        · subst z
          exact st1.nd j i es ds q ej hi1 f1 e1
  · by_cases n1 : j = i
    · by_cases n2 : l = i
      · rw [n1, n2]
      · subst n1
        rw [List.getElem?_set_ne (Ne.symm n2)] at f2
        exact st1.nd j l ds fs q hi1 f2 f3 f4
    · rw [List.getElem?_set_ne (Ne.symm n1)] at f1
      by_cases n2 : l = i
      · subst n2
        exact st1.nd j l es ds q f1 hi1 f3 f4
      · rw [List.getElem?_set_ne (Ne.symm n2)] at f2
        exact st1.nd j l es fs q f1 f2 f3 f4
end
/-! ### comprehensions whose items change objects -/
def noX (Δ : List Sl) : Bool := Δ.all fun s => match s with | .xc _ _ _ => false | .tb _ _ => false | .od _ _ => false | _ => true
theorem noX_at {Δ : List Sl} {j : Nat} {W : WX} {PX : Value → FX → Prop} {l : List (Option D)} (h : noX Δ = true) (e : Δ[j]? = some (.xc W PX l)) : False := by
  have := List.all_eq_true.mp h _ (List.mem_of_getElem? e)
  cases this
theorem noT_at {Δ : List Sl} {j : Nat} {P : Addr} {q : Str} (h : noX Δ = true) (e : Δ[j]? = some (.tb P q)) : False := by
  have := List.all_eq_true.mp h _ (List.mem_of_getElem? e)
  cases this
theorem noD_at {Δ : List Sl} {j : Nat} {P : Addr} {q : List (Key × D)} (h : noX Δ = true) (e : Δ[j]? = some (.od P q)) : False := by
  have := List.all_eq_true.mp h _ (List.mem_of_getElem? e)
  cases this
theorem Gw.less {F : Fp} {H0 S H S' H' : Hp} {L : Addr} {o : HO} (g : Gw F (upd H0 L o) S H S' H') (hL : H0 L = Option.none) : Gw F H0 S H S' H' := by
  have up : ∀ x u, H0 x = some u → upd H0 L o x = some u := fun x u e => by rw [upd_ne (ne_of_none e hL)]; exact e
  exact ⟨g.s, g.h, fun x u e => g.n x u (up x u e), fun x u v nf e => g.k x u v nf (up x u e), fun x u e => g.m x u (up x u e), g.src⟩
section
variable {F : Fp} {S H H0 : Hp} {σ : L2.St} {Δ : List Sl} {L : Addr} {o u : HO}
/-- one more object is kept -/
theorem StD.more (t : StD F S H H0 σ Δ) (hL : H0 L = Option.none) (hf : ∀ (j : Nat) (s : Sl), Δ[j]? = some s → (∀ ds : List D, s = Sl.own ds → σ[j]? ≠ some (some (V.ref L))) ∧ ∀ (a dx C : Addr) (fs : FS), s = Sl.ob a dx C fs → a ≠ L ∧ dx ≠ L) (hx : noX Δ = true) : StD F S H (upd H0 L o) σ Δ := by
  refine ⟨t.len, fun j s e => ?_, t.nd, fun x z => ?_⟩
  · obtain ⟨x, e1, h⟩ := t.ok j s e
    refine ⟨x, e1, ?_⟩
    cases s with
    | un => trivial
    | v d => exact h
    | src => exact h
    | xc W PX l => exact (noX_at hx e).elim
    | tb P q => exact (noT_at hx e).elim
    | od P q => exact (noD_at hx e).elim
    | fz a fs => exact h
    | own l =>
      obtain ⟨p, xs, rfl, q2, q3, q4, q5⟩ := h
      exact ⟨p, xs, rfl, q2, q3, by rw [upd_ne (fun z => (hf j _ e).1 l rfl (by rw [e1, z]))]; exact q4, q5⟩
    | ob a dx C fs =>
      obtain ⟨vs, q1, q2, q3, q4, q5, q6, q7, q8⟩ := h
      obtain ⟨n1, n2⟩ := (hf j _ e).2 a dx C fs rfl
      exact ⟨vs, q1, q2, q3, q4, q5, by rw [upd_ne n1]; exact q6, by rw [upd_ne n2]; exact q7, q8⟩
  · obtain ⟨w, e⟩ := t.fh x z
    exact ⟨w, by rw [upd_ne (ne_of_none e hL)]; exact e⟩
theorem StD.less (t : StD F S H (upd H0 L o) σ Δ) (hL : H0 L = Option.none) (hf : ∀ x, fp F x → ∃ o, H0 x = some o) (hx : noX Δ = true) : StD F S H H0 σ Δ := by
  have dn : ∀ {x : Addr}, upd H0 L o x = Option.none → H0 x = Option.none := fun {x} e => by
    by_cases h : x = L
    · rw [h]; exact hL
    · rw [upd_ne h] at e; exact e
  refine ⟨t.len, fun j s e => ?_, t.nd, hf⟩
  obtain ⟨x, e1, h⟩ := t.ok j s e
  refine ⟨x, e1, ?_⟩
  cases s with
  | un => trivial
  | v d => exact h
  | src => exact h
  | xc W PX l => exact (noX_at hx e).elim
  | tb P q => exact (noT_at hx e).elim
  | od P q => exact (noD_at hx e).elim
  | fz a fs => exact h
  | own l =>
    obtain ⟨p, xs, rfl, q2, q3, q4, q5⟩ := h
    exact ⟨p, xs, rfl, q2, q3, dn q4, q5⟩
  | ob a dx C fs =>
    obtain ⟨vs, q1, q2, q3, q4, q5, q6, q7, q8⟩ := h
    exact ⟨vs, q1, q2, q3, q4, q5, dn q6, dn q7, q8⟩
/-- a kept object that no slot holds is changed -/
theorem StD.mutL (t : StD F S H (upd H0 L o) σ Δ) (hx : noX Δ = true) : StD F S (upd H L u) (upd H0 L o) σ Δ := by
  have ne : ∀ {x : Addr}, upd H0 L o x = Option.none → x ≠ L := fun {x} e z => by rw [z, upd_same] at e; cases e
  refine ⟨t.len, fun j s e => ?_, t.nd, t.fh⟩
  obtain ⟨x, e1, h⟩ := t.ok j s e
  refine ⟨x, e1, ?_⟩
  cases s with
  | un => trivial
  | v d => exact h
  | src => exact h
  | xc W PX l => exact (noX_at hx e).elim
  | tb P q => exact (noT_at hx e).elim
  | od P q => exact (noD_at hx e).elim
  | fz a fs => exact h
  | own l =>
    obtain ⟨p, xs, rfl, q2, q3, q4, q5⟩ := h
    exact ⟨p, xs, rfl, by rw [upd_ne (ne q4)]; exact q2, q3, q4, q5⟩
  | ob a dx C fs =>
    obtain ⟨vs, q1, q2, q3, q4, q5, q6, q7, q8⟩ := h
    exact ⟨vs, q1, by rw [upd_ne (ne q6)]; exact q2, by rw [upd_ne (ne q7)]; exact q3, q4, q5, q6, q7, q8⟩
/-- behind a turn: the comprehension's own names go -/
theorem StD.back {σ2 : L2.St} {js vs : List Nat} {Δ' : List Sl} (t : StD F S H H0 σ2 Δ') (hl : σ.length = σ2.length) (h : ∀ j, j ∉ vs → σ2[j]? = σ[j]?) : StD F S H H0 σ (wipeD Δ' vs) := by
  have wl : ∀ vs : List Nat, (wipeD Δ' vs).length = Δ'.length := fun vs => by
    induction vs with
    | nil => rfl
    | cons v vs ih => simp only [wipeD, List.length_set, ih]
  have wg : ∀ (vs : List Nat) (j : Nat), j < Δ'.length → (wipeD Δ' vs)[j]? = if j ∈ vs then some .un else Δ'[j]? := fun vs => by
    induction vs with
    | nil => intro j _; simp [wipeD]
    | cons v vs ih =>
      intro j hj
      simp only [wipeD]
      by_cases e : j = v
      · subst e
        rw [List.getElem?_set_self (by rw [wl]; exact hj), if_pos (List.mem_cons_self ..)]
      · rw [List.getElem?_set_ne (Ne.symm e), ih j hj]
        simp [e]
  refine ⟨by rw [hl, t.len, wl], fun j s e => ?_, fun i j ds es p e1 e2 f1 f2 => ?_, t.fh⟩
  · have hj : j < Δ'.length := by
      have := (List.getElem?_eq_some_iff.mp e).1
      rw [wl] at this
      exact this
    rw [wg vs j hj] at e
    by_cases m : j ∈ vs
    · rw [if_pos m] at e
      cases e
      have hj' : j < σ.length := by rw [hl, t.len]; exact hj
      exact ⟨σ[j], by simp [hj'], trivial⟩
    · rw [if_neg m] at e
      obtain ⟨x, e1, h1⟩ := t.ok j s e
      exact ⟨x, by rw [← h j m]; exact e1, h1⟩
  · have key : ∀ {i : Nat} {ds : List D}, (wipeD Δ' vs)[i]? = some (.own ds) → i ∉ vs ∧ Δ'[i]? = some (.own ds) := fun {i ds} e => by
      have hi : i < Δ'.length := by
        have := (List.getElem?_eq_some_iff.mp e).1
        rw [wl] at this
        exact this
      rw [wg vs i hi] at e
      by_cases m : i ∈ vs
      · rw [if_pos m] at e; cases e
      · rw [if_neg m] at e; exact ⟨m, e⟩
    obtain ⟨m1, g1⟩ := key e1
    obtain ⟨m2, g2⟩ := key e2
    exact t.nd i j ds es p g1 g2 (by rw [h i m1]; exact f1) (by rw [h j m2]; exact f2)
end
section
variable {F : Fp} {te : TE} {Δ : List Sl}
theorem efm_lcP {wi : TI} {g : TG} {tt : TT} {vs : List Nat} {Pd : List D → Prop} {Pr : List D → List Sl → Prop} (h : EvI F wi Δ Pd) (hz : ∀ ds, Pd ds → ds.length ≤ sizeLine) (J : List D → Nat → List D → List Sl → Prop) (h0 : ∀ ds, Pd ds → J ds 0 [] Δ) (hx : ∀ ds i acc Δi, J ds i acc Δi → noX Δi = true)
    (hs : ∀ ds i d acc Δi, Pd ds → ds[i]? = some d → J ds i acc Δi → acc.length ≤ i → ∃ js Δ', EvG F g d (wipeD Δi vs) js Δ' ∧ (∀ j ∈ js, j ∈ vs) ∧ ∃ Pt : Bool → Prop, EvT F tt Δ' Pt ∧ (Pt false → J ds (i + 1) acc (wipeD Δ' vs)) ∧ (Pt true → EvM F te Δ' fun e Δ'' => J ds (i + 1) (acc ++ [e]) (wipeD Δ'' vs)))
    (hd : ∀ ds acc Δn, Pd ds → J ds ds.length acc Δn → Pr acc Δn) : EvFM F (tLc wi g tt te vs) Δ Pr := fun H0 S H σ w st dm Q k => by
  refine h H0 S H σ w st _ fun ds Jt S1 H1 p g1 W => ?_
  intro L hL
  have hLH : H L = Option.none := by
    cases e : H L with
    | none => rfl
    | some o =>
      obtain ⟨o', e'⟩ := g1.m L o e
      rw [hL] at e'
      cases e'
  have hL0 : H0 L = Option.none := by
    cases e : H0 L with
    | none => rfl
    | some o =>
      obtain ⟨o', e'⟩ := dm L o e
      rw [hLH] at e'
      cases e'
  have nfL : ¬ fp F L := fun z => by
    obtain ⟨o, e⟩ := st.fh L z
    rw [hL0] at e
    cases e
  have g0 : Gr F S1 H1 S1 (upd H1 L (.lst [])) := Gr.new g1.h hL
  have st0 : StD F S1 (upd H1 L (.lst [])) (upd H0 L (.lst [])) σ Δ := by
    refine ((st.mono g1).mono g0).more hL0 (fun j s e => ⟨fun l es z => ?_, fun a dx C fs es => ?_⟩) (hx ds 0 [] Δ (h0 ds p))
    · subst es
      obtain ⟨x, e1, q, xs, rfl, q2, _⟩ := (st.mono g1).ok j _ e
      rw [z] at e1
      cases e1
      rw [hL] at q2
      cases q2
    · subst es
      obtain ⟨x, e1, vs, _, q2, q3, _⟩ := (st.mono g1).ok j _ e
      exact ⟨fun z => (by rw [z, hL] at q2; cases q2), fun z => (by rw [z, hL] at q3; cases q3)⟩
  refine ⟨fun i m H' => m = ds.length - i ∧ i ≤ ds.length ∧ ∃ acc xs S' Δi, J ds i acc Δi ∧ acc.length ≤ i ∧ Okw F S' H' ∧ Gw F H0 S H S' H' ∧ StD F S' H' (upd H0 L (.lst [])) σ Δi ∧ Same S1 S' ∧ H' L = some (.lst xs) ∧ S' L = Option.none ∧ DtL S' acc xs,
    ⟨ds.length, rfl, Nat.zero_le _, [], [], S1, Δ, h0 ds p, Nat.le_refl _, g0.ok (g1.ok w), (g1.trans g0).w dm, st0, Same.refl _, upd_same, Same.free g1.h hL, dtl_nil⟩, ?_⟩
  rintro i m H' ⟨rfl, hi, acc, xs, S', Δi, hJ, hla, w', g', t', sm, hxL, hsx, hdl⟩
  by_cases hlt : i < ds.length
  · refine .inr ⟨W.go i S' H' sm w' hlt, fun H2 => ∃ acc xs S' Δi, J ds (i + 1) acc Δi ∧ acc.length ≤ i + 1 ∧ Okw F S' H2 ∧ Gw F H0 S H S' H2 ∧ StD F S' H2 (upd H0 L (.lst [])) σ Δi ∧ Same S1 S' ∧ H2 L = some (.lst xs) ∧ S' L = Option.none ∧ DtL S' acc xs, fun H2 z => ⟨ds.length - (i + 1), by omega, rfl, hlt, z⟩, fun x H2 y => ?_⟩
    obtain ⟨d, S2, e, g2, hxd⟩ := W.yld i S' H' x H2 sm w' hlt y
    obtain ⟨js, Δ2, hg, hjs, Pt, hT, hF, hE⟩ := hs ds i d acc Δi p e hJ hla
    have stw : StD F S2 H2 (upd H0 L (.lst [])) (wipe σ vs) (wipeD Δi vs) := (t'.mono g2).wipes vs
    have dm' : Dm (upd H0 L (.lst [])) H' := fun x o e => by
      by_cases hxl : x = L
      · exact ⟨_, by rw [hxl]; exact hxL⟩
      · rw [upd_ne hxl] at e
        exact g'.m x o e
    refine hg _ S2 H2 (wipe σ vs) x (g2.ok w') stw hxd _ fun σ2 st2 off => ?_
    refine ⟨by rw [wipe_off off hjs, wipe_wipe], ?_⟩
    have hlen : σ.length = σ2.length := by
      obtain ⟨o1, _⟩ := off
      rw [o1, wipe_length]
    have hoff : ∀ j, j ∉ vs → σ2[j]? = σ[j]? := fun j hj => by
      obtain ⟨_, o2⟩ := off
      rw [o2 j (fun z => hj (hjs j z)), wipe_get, if_neg hj]
    refine hT _ S2 H2 σ2 (g2.ok w') st2 _ fun b S3 H3 pb g3 => ?_
    have gg : Gw F H0 S H S3 H3 := (g'.trans (g2.w g'.m)).trans (g3.w ((g'.trans (g2.w g'.m)).m))
    have h3 : H3 L = some (.lst xs) := g3.k _ _ nfL (g2.k _ _ nfL hxL)
    have s3 : S3 L = Option.none := by rw [g3.n _ _ (g2.k _ _ nfL hxL), g2.n _ _ hxL]; exact hsx
    cases b with
    | false => exact ⟨acc, xs, S3, _, hF pb, by omega, g3.ok (g2.ok w'), gg, (st2.mono g3).back (js := js) hlen hoff, (sm.trans g2.s).trans g3.s, h3, s3, (hdl.mono g2.s).mono g3.s⟩
    | true =>
      have dm3 : Dm (upd H0 L (.lst [])) H3 := fun x o e => by
        obtain ⟨o1, e1⟩ := dm' x o e
        obtain ⟨o2, e2⟩ := g2.m x o1 e1
        exact g3.m x o2 e2
      refine hE pb _ S3 H3 σ2 (g3.ok (g2.ok w')) (st2.mono g3) dm3 _ fun ed v S4 H4 Δ4 pe w4 g4 st4 hv => ?_
      have h4 : H4 L = some (.lst xs) := g4.k _ (.lst []) _ nfL upd_same h3
      have s4 : S4 L = Option.none := by rw [g4.n L (.lst []) upd_same]; exact s3
      have hlen2 : xs.length = acc.length := hdl.len.symm
      have gw4 : Gw F H0 S H S4 H4 := gg.trans (g4.less hL0)
      have gwm : Gw F H0 S4 H4 S4 (upd H4 L (.lst (xs ++ [v]))) := Gw.mut w4.s h4 s4 hL0 nfL gw4.m
      refine ⟨xs, h4, ?_, acc ++ [ed], xs ++ [v], S4, _, pe, by simp; omega, gwm.ok w4 st.fh, gw4.trans gwm, ((st4.back (js := js) hlen hoff).mutL (hx _ _ _ _ pe)), ((sm.trans g2.s).trans g3.s).trans g4.s, upd_same, s4, (((hdl.mono g2.s).mono g3.s).mono g4.s).append (dtl_cons hv dtl_nil)⟩
      have := hz ds p
      omega
  · have e : i = ds.length := by omega
    subst e
    exact .inl ⟨W.stop _ S' H' sm w' (Nat.le_refl _), k acc L xs S' H' Δi (hd ds acc Δi p hJ) w' g' (t'.less hL0 st.fh (hx _ _ _ _ hJ)) hLH hxL hsx hdl⟩
/-- a starred list within arguments -/
theorem eam_star {K : PySem.W.Frag} {tr : TA} {Pa : List D → List Sl → Prop} {Pr : List D → List Sl → List D → List Sl → Prop} (h : EvFM F te Δ Pa) (hr : ∀ l Δ', Pa l Δ' → EvAM F tr Δ' (Pr l Δ')) : EvAM F (StX.tStar K te tr) Δ fun ds Δ'' => ∃ l Δ' r, ds = l ++ r ∧ Pa l Δ' ∧ Pr l Δ' r Δ'' := fun H0 S H σ w t dm Q k => by
  refine h H0 S H σ w t dm _ fun l p xs S1 H1 Δ1 p1 w1 g1 t1 hp h1 hs hd => ?_
  refine ⟨p, xs, rfl, .inr (SqL.of h1), ?_⟩
  refine hr l Δ1 p1 H0 S1 H1 σ w1 t1 g1.m _ fun ds vs S2 H2 Δ2 p2 w2 g2 t2 hds => ?_
  exact k _ _ S2 H2 Δ2 ⟨l, Δ1, ds, rfl, p1, p2⟩ w2 (g1.trans g2) t2 ((hd.mono g2.s).append hds)
theorem ea_star {K : PySem.W.Frag} {tr : TA} {Pa Pr : List D → Prop} (h : EvF F te Δ Pa) (hr : EvA F tr Δ Pr) : EvA F (StX.tStar K te tr) Δ fun ds => ∃ l r, ds = l ++ r ∧ Pa l ∧ Pr r := fun H0 S H σ w t Q k => by
  refine h H0 S H σ w t _ fun l p xs S1 H1 p1 g1 hp h1 hs hd => ?_
  refine ⟨p, xs, rfl, .inr (SqL.of h1), ?_⟩
  refine hr H0 S1 H1 σ (g1.ok w) (t.mono g1) _ fun ds vs S2 H2 p2 g2 hds => ?_
  exact k _ _ S2 H2 ⟨l, ds, rfl, p1, p2⟩ (g1.trans g2) ((hd.mono g2.s).append hds)
end
/-! ### methods and constructors, bundled -/
structure MethT (P : Program) (w : World) (K : PySem.W.Frag) (mg : Str → Option Value) (base : Heap) (k : Nat) (C : Addr) (m : Str) (ps : List Str) (sp : Sp) : Prop where
  ex : ∃ f fd, Meth K C m f ∧ Binds K fd ps [] ∧ FnOk P w K mg base CX0 k f fd ps sp
  cls : Cls K C
structure MkT (P : Program) (w : World) (K : PySem.W.Frag) (mg : Str → Option Value) (base : Heap) (k : Nat) (x : Str) (C : Addr) (ps : List Str) (sp : Sp) : Prop where
  ex : ∃ f fd, Mk K C f ∧ Binds K fd ps [] ∧ FnOk P w K mg base CX0 k f fd ps sp
  gl : mg x = some (.ref C)
section
variable {X : Cx} {k : Nat} {C : Addr} {x m : Str} {ps : List Str} {sp : Sp} {o e : Expr} {es : List Expr} {to : TE} {t : TA} {p pos apos : Pos}
theorem pe_methT {pl : Sem Bool} (G : MethT X.prog X.w X.K X.mg X.base k C m ps sp) (hr : Room k X.A) (he : PE X o to) (ha : PA X (e :: es) t)
    (hst : starEach (e :: es) X.env = (false, eval e X.env) :: starEach es X.env := by rfl) (hpl : (backTo pos (starEach es X.env)).any (·.1) = false := by rfl)
    (ht : eval (.Call (.Attribute o m apos) (e :: es) [] pos) X.env = (do
      let ov ← eval o X.env
      standAt apos.atName
      let (f, first) ← holding [ov] (getMethod ov m pl)
      callWith pos f first (backTo pos (starEach (e :: es) X.env)) (backToKw pos (keywordEach [] X.env))) := by rfl) :
    PE X (.Call (.Attribute o m apos) (e :: es) [] pos) (tMeth C m sp [] E0 to t) := by
  obtain ⟨f, fd, h1, h2, h3⟩ := G.ex
  exact pe_meth he G.cls h1 h3 hr h2 .nil pass0 ha hst hpl ht
theorem pe_methT0 {pl : Sem Bool} (G : MethT X.prog X.w X.K X.mg X.base k C m ps sp) (hr : Room k X.A) (he : PE X o to)
    (ht : eval (.Call (.Attribute o m apos) [] [] pos) X.env = (do
      let ov ← eval o X.env
      standAt apos.atName
      let (f, first) ← holding [ov] (getMethod ov m pl)
      callWith pos f first (backTo pos (starEach [] X.env)) (backToKw pos (keywordEach [] X.env))) := by rfl) :
    PE X (.Call (.Attribute o m apos) [] [] pos) (tMeth C m sp [] E0 to tNil) := by
  obtain ⟨f, fd, h1, h2, h3⟩ := G.ex
  exact pe_meth0 he G.cls h1 h3 hr h2 .nil pass0 ht
theorem pe_makeT (G : MkT X.prog X.w X.K X.mg X.base k x C ps sp) (hr : Room (k + 1) X.A) (ha : PA X (e :: es) t) (hg : Gl X x := by rfl)
    (hdb : (x == ("__debug__" : Str)) = false := by decide) (he : starEach (e :: es) X.env = (false, eval e X.env) :: starEach es X.env := by rfl) (hpl : (backTo pos (starEach es X.env)).any (·.1) = false := by rfl) :
    PE X (.Call (.Name x p) (e :: es) [] pos) (tMake C sp [] E0 t) := by
  obtain ⟨f, fd, h1, h2, h3⟩ := G.ex
  exact pe_make h1 h3 hr hg G.gl h2 .nil pass0 ha hdb he hpl
end
end Bc

/-! Core R: the exact repr of lists and tuples, where no repr is under way. -/
namespace Bc
open PySem L2 PySem.Spec PyProof.Rows
abbrev rReprD (K : PySem.W.Frag) : List V → Hp → VK → Prop := fun xs H Q => ∃ (a : Addr) (d : PyData), xs = [.ref a] ∧ Dp K H (.ref a) d ∧ d.showable = true ∧ d.hasDict = false ∧ d.depth ≤ 64 ∧ d.shown.length ≤ sizeLine ∧ Q (.str d.shown) H
theorem pRepr {X : Cx} {K : PySem.W.Frag} (hg : X.A.guards = some []) (hu : X.A.units + 65 < cLine) (hK : X.K = K := by rfl) : CallR X (.builtin "repr") (rReprD K) := by
  subst hK
  intro pins s σ H xs us Q I r h
  obtain ⟨a, d, rfl, hd, hs, hdi, hdp, hz, q⟩ := h
  obtain ⟨u, rfl, hu1⟩ := vals1 r
  obtain rfl : u = Value.ref a := hu1
  obtain ⟨as, r1⟩ := Dp.reads I d (.ref a) (.ref a) hd rfl
  obtain ⟨hp, g, dr, tk, os⟩ := s
  exact repr_of_reads' r1 hs (fun h => by rw [hdi] at h; cases h) hg (by omega) (fun _ _ e => e) (fun h' u tk' hk => ⟨.str d.shown, H, I.kept (t' := tk') hk, ⟨u, rfl⟩, q⟩) hz
section
variable {F : Fp} {Δ : List Sl} {te : TE} {K : PySem.W.Frag}
/-- repr of a list or tuple that is data -/
theorem ev_repr {x : D} (h : Ev1 F te Δ x) (hx : (∃ l, x = .list l) ∨ ∃ l, x = .tuple l) (hp : x.isPy = true) (hs : x.py.showable = true) (hd : x.py.hasDict = false) (hn : x.py.depth ≤ 64) (hz : x.py.shown.length ≤ sizeLine) : Ev1 F (tCB (rReprD K) (tCons te tNil)) Δ (.str x.py.shown) := fun H0 S H σ w t Q k =>
  h H0 S H σ w t _ fun d v S' H' e g hv => by
    have hv : Dt S' x v := e ▸ hv
    have dp := Dt.dp (K := K) g.h x v hp hv
    obtain ⟨a, rfl⟩ : ∃ a, v = .ref a := by
      rcases hx with ⟨l, rfl⟩ | ⟨l, rfl⟩
      · simp only [Dt] at hv
        obtain ⟨a, _, e, _⟩ := hv
        exact ⟨a, e⟩
      · simp only [Dt] at hv
        obtain ⟨a, _, e, _⟩ := hv
        exact ⟨a, e⟩
    exact ⟨a, x.py, rfl, dp, hs, hd, hn, hz, k _ _ S' H' rfl g (by simp only [Dt])⟩
end
/-! ### law: behind the source -/
theorem law_start {rest : TS} {n : Nat} {H' : Hp} {σ : L2.St} {p c : Addr} {Q : VK} (hp : SrcAt H' p c) (hl : σ.length = n + 2) (h1 : σ[1]? = some (some (.ref p)))
    (hrun : Run (some (p, c)) false rest (Sl.un :: Sl.src :: List.replicate n Sl.un) { nx := fun _ => False, rt := fun d => d = .bool true }) (hQ : ∀ H, Q (.bl true) H) : rest { nx := fun _ H => Q .non H, rt := Q } σ H' := by
  have w : Okw (some (p, c)) (fun _ => Option.none) H' := ⟨fun _ _ e => (by cases e), fun a b e => by cases e; exact ⟨rfl, rfl, hp⟩⟩
  have hf : ∀ x, fp (some (p, c)) x → ∃ o, H' x = some o := fun x ⟨a, b, e, z⟩ => by
    cases e
    obtain ⟨ns, l, m, t, e1, e2, _⟩ := hp
    rcases z with rfl | rfl
    · exact ⟨_, e1⟩
    · exact ⟨_, e2⟩
  refine hrun (fun _ => Option.none) H' (fun _ => Option.none) (fun _ => Option.none) H' σ _ w ⟨Gr.refl w.s, Same.refl _⟩ ⟨by simp [hl], fun i s e => ?_, fun i j ds es q e1 _ _ _ => ?_, hf⟩ ⟨fun _ _ _ _ n => n.elim, fun d v Δ S H σ e _ _ _ gv => ?_, fun _ _ _ _ n => n.elim, fun _ _ _ _ n => n.elim⟩
  · have hi : i < n + 2 := by
      have := (List.getElem?_eq_some_iff.mp e).1
      simpa using this
    have hx : σ[i]? = some (σ[i]'(by omega)) := by simp
    cases i with
    | zero =>
      cases e
      exact ⟨_, hx, trivial⟩
    | succ i => cases i with
      | zero =>
        cases e
        exact ⟨_, h1, p, c, rfl, rfl⟩
      | succ i =>
        have := List.mem_of_getElem? (show (List.replicate n Sl.un)[i]? = some s from e)
        rw [List.mem_replicate] at this
        rw [this.2]
        exact ⟨_, hx, trivial⟩
  · cases i with
    | zero => cases e1
    | succ i => cases i with
      | zero => cases e1
      | succ i =>
        have := List.mem_of_getElem? (show (List.replicate n Sl.un)[i]? = some _ from e1)
        rw [List.mem_replicate] at this
        cases this.2
  · have hv := gv.vl rfl
    rw [e] at hv
    simp only [Dt] at hv
    rw [hv]
    exact hQ _
end Bc

/-! Core S: how long an exact repr may get; repr of the def's own list. -/
namespace Bc
open PySem L2 PySem.Spec PyProof.Rows
theorem textFrom_le : ∀ (ts : List Str) (k : Nat) (acc : Str), (textFrom k acc ts).length ≤ acc.length + piled ts
  | [], k, acc => by show acc.length ≤ _; omega
  | t :: r, k, acc => by
    have h := textFrom_le r (k + 1) (acc ++ (if k > 0 then ", " else "" : String) ++ t)
    have e : (acc ++ (if k > 0 then ", " else "" : String) ++ t).length = acc.length + (if k > 0 then 2 else 0) + t.length := by
      rw [strLen_append, strLen_append]
      split <;> rfl
    have h2 : (if k > 0 then 2 else 0 : Nat) ≤ 2 := by split <;> omega
    show (textFrom (k + 1) _ r).length ≤ _
    rw [piled_cons]
    omega
theorem listText_le (ts : List Str) : (listText ts).length ≤ 2 + piled ts := by
  have h := textFrom_le ts 0 "["
  have e : (("[" : String) : Str).length = 1 := rfl
  have e2 : (("]" : String) : Str).length = 1 := rfl
  unfold listText
  rw [strLen_append, e2]
  omega
theorem tupleText_le (ts : List Str) : (tupleText ts).length ≤ 3 + piled ts := by
  have e1 : ((("(" : String) : Str)).length = 1 := rfl
  have e3 : (((if ts.length == 1 then ",)" else ")" : String) : Str)).length ≤ 2 := by split <;> decide
  unfold tupleText
  rw [strLen_append, strLen_append, e1]
  by_cases h : ts = []
  · subst h
    simp only [piled_nil, Nat.add_zero]
    exact (by decide : 1 + (Str.join ", " []).length + ((if ([] : List Str).length == 1 then ",)" else ")" : String) : Str).length ≤ 3)
  · have := join_length_add ts h
    omega
mutual
/-- a bound of the shown text -/
def D.rsz : D → Nat
  | .none => 4
  | .bool _ => 5
  | .int i => (toString i : Str).length
  | .str s => 10 * s.length + 2
  | .list l => 2 + rszL l
  | .tuple l => 3 + rszL l
  | .dict _ => 4
  | .obj _ _ => 4
  | .exc _ _ => 4
  | .ref _ => 4
def rszL : List D → Nat
  | [] => 0
  | d :: ds => d.rsz + 2 + rszL ds
end
mutual
/-- texts of code points -/
def D.cpok : D → Bool
  | .str s => s.cps.toList.all fun c => decide (c < 1114112)
  | .list l => cpokL l
  | .tuple l => cpokL l
  | _ => true
def cpokL : List D → Bool
  | [] => true
  | d :: ds => d.cpok && cpokL ds
end
mutual
theorem D.shown_le : ∀ d : D, d.cpok = true → d.py.shown.length ≤ d.rsz
  | .none, _ => by simp only [D.py, PyData.shown, D.rsz]; decide
  | .bool b, _ => by cases b <;> simp only [D.py, PyData.shown, D.rsz] <;> decide
  | .int i, _ => by
    simp only [D.py, PyData.shown, D.rsz]
    exact Nat.le_refl _
  | .str s, h => by
    simp only [D.py, PyData.shown, D.rsz]
    refine PySem.StrLaws.reprText_len s fun c hc => ?_
    simp only [D.cpok, List.all_eq_true, decide_eq_true_eq] at h
    exact Nat.lt_trans (h c hc) (by decide)
  | .list l, h => by
    simp only [D.py, PyData.shown, D.rsz]
    exact Nat.le_trans (listText_le _) (Nat.add_le_add_left (shownL_le l (by simpa only [D.cpok] using h)) _)
  | .tuple l, h => by
    simp only [D.py, PyData.shown, D.rsz]
    exact Nat.le_trans (tupleText_le _) (Nat.add_le_add_left (shownL_le l (by simpa only [D.cpok] using h)) _)
  | .dict _, _ => by simp only [D.py, PyData.shown, D.rsz]; decide
  | .obj _ _, _ => by simp only [D.py, PyData.shown, D.rsz]; decide
  | .exc _ _, _ => by simp only [D.py, PyData.shown, D.rsz]; decide
  | .ref _, _ => by simp only [D.py, PyData.shown, D.rsz]; decide
theorem shownL_le : ∀ l : List D, cpokL l = true → piled (PyData.shownAll (pyL l)) ≤ rszL l
  | [], _ => by simp only [pyL, PyData.shownAll, rszL, piled_nil]; exact Nat.le_refl _
  | d :: l, h => by
    simp only [cpokL, Bool.and_eq_true] at h
    simp only [pyL, PyData.shownAll, rszL, piled_cons]
    have := D.shown_le d h.1
    have := shownL_le l h.2
    omega
end
theorem cpokL_of : ∀ {l : List D}, (∀ d ∈ l, d.cpok = true) → cpokL l = true
  | [], _ => rfl
  | d :: l, h => by
    simp only [cpokL, Bool.and_eq_true]
    exact ⟨h d (List.mem_cons_self ..), cpokL_of fun e he => h e (List.mem_cons_of_mem _ he)⟩
theorem rszL_le {b : Nat} : ∀ {l : List D}, (∀ d ∈ l, d.rsz ≤ b) → rszL l ≤ (b + 2) * l.length
  | [], _ => Nat.zero_le _
  | d :: l, h => by
    have h1 := h d (List.mem_cons_self ..)
    have h2 := rszL_le fun e he => h e (List.mem_cons_of_mem _ he)
    simp only [rszL, List.length_cons]
    rw [Nat.mul_add_one]
    omega
theorem isPyL_of : ∀ {l : List D}, (∀ d ∈ l, d.isPy = true) → isPyL l = true
  | [], _ => rfl
  | d :: l, h => by
    simp only [isPyL, Bool.and_eq_true]
    exact ⟨h d (List.mem_cons_self ..), isPyL_of fun e he => h e (List.mem_cons_of_mem _ he)⟩
theorem showL_of : ∀ {l : List D}, (∀ d ∈ l, d.py.showable = true) → PyData.showableAll (pyL l) = true
  | [], _ => rfl
  | d :: l, h => by
    simp only [pyL, PyData.showableAll, Bool.and_eq_true]
    exact ⟨h d (List.mem_cons_self ..), showL_of fun e he => h e (List.mem_cons_of_mem _ he)⟩
theorem nodL_of : ∀ {l : List D}, (∀ d ∈ l, d.py.hasDict = false) → PyData.hasDictAll (pyL l) = false
  | [], _ => rfl
  | d :: l, h => by
    simp only [pyL, PyData.hasDictAll, Bool.or_eq_false_iff]
    exact ⟨h d (List.mem_cons_self ..), nodL_of fun e he => h e (List.mem_cons_of_mem _ he)⟩
theorem depL_of {b : Nat} : ∀ {l : List D}, (∀ d ∈ l, d.py.depth ≤ b) → PyData.depthAll (pyL l) ≤ b
  | [], _ => Nat.zero_le _
  | d :: l, h => by
    simp only [pyL, PyData.depthAll]
    exact Nat.max_le.mpr ⟨h d (List.mem_cons_self ..), depL_of fun e he => h e (List.mem_cons_of_mem _ he)⟩
section
variable {F : Fp} {Δ : List Sl} {K : PySem.W.Frag}
/-- repr of the def's own list -/
theorem ev_reprO {i : Nat} {ds : List D} (e : Δ[i]? = some (.own ds)) (hp : isPyL ds = true) (hs : (D.list ds).py.showable = true) (hd : (D.list ds).py.hasDict = false) (hn : (D.list ds).py.depth ≤ 64) (hz : (D.list ds).py.shown.length ≤ sizeLine) : Ev1 F (tCB (rReprD K) (tCons (tVar i) tNil)) Δ (.str (D.list ds).py.shown) := fun H0 S H σ w t Q k =>
  es_own e H0 S H σ w t _ fun ds' p xs S' H' e1 g nf h1 h2 => by
    subst e1
    have dp : Dp K H' (.ref p) (D.list ds').py := by
      simp only [D.py]
      exact .lst (SqL.of h1) (DtL.dp g.h ds' xs hp h2)
    exact ⟨p, _, rfl, dp, hs, hd, hn, hz, k _ _ S' H' rfl g (by simp only [Dt])⟩
end
end Bc

/-! Core E: exceptions as values: made, looked at by isinstance, their fields read; a path told as a tuple. -/
namespace Bc
open PySem L2 PySem.Spec PyProof.Rows PySem.W PySem.Calls PySem.HandSPX
/-- an exception class that only holds self.path = tuple(path) -/
structure XCP (P : Program) (K : Frag) (mg : Str → Option Value) (x : Str) (C : Addr) : Prop where
  ex : ∃ fI B newId initId bmB, XI.XCls K C B newId initId bmB ∧ XI.XIn P K C fI initId [("path" : Str)] ([("path" : Str)].map fun p => (p, p)) true
  gC : mg x = some (.ref C)
  gs : mg "super" = none
  gt : mg "tuple" = none
abbrev frE (C e t1 : Addr) (d : Option Addr) : HO := .frz (excR0 C t1 d) (.own e)
def tNewX (C : Addr) (ps : List Str) (ta : TA) : TE := fun σ H Q => ta σ H fun vs H1 => vs.length = ps.length ∧ (ps = [] → ∀ e t1, H1 e = none → Q (.ref e) (upd H1 e (frE C e t1 none))) ∧ ∀ e t1 d, H1 e = none → H1 d = none → d ≠ e → Q (.ref e) (upd (upd H1 d (.xd (ps.zip vs))) e (frE C e t1 (some d)))
def tNewP (K : Frag) (C : Addr) (ta : TA) : TE := fun σ H Q => ta σ H fun vs H1 => ∃ a ys, vs = [.ref a] ∧ ((SqT K H1 a ys ∧ ∀ e t1 d, H1 e = none → H1 d = none → d ≠ e → Q (.ref e) (upd (upd H1 d (.xd [(("path" : Str), .ref a)])) e (frE C e t1 (some d)))) ∨
  (SqL K H1 a ys ∧ ∀ t e t1 d, H1 t = none → H1 e = none → H1 d = none → t ≠ d → t ≠ e → d ≠ e → Q (.ref e) (upd (upd (upd H1 t (.tup ys)) d (.xd [(("path" : Str), .ref t)])) e (frE C e t1 (some d)))))
def tMkP (K : Frag) (C : Addr) (ta : TA) : L2.St → Hp → XK → Prop := fun σ H Q => ta σ H fun vs H1 => ∃ a ys, vs = [.ref a] ∧ ((SqT K H1 a ys ∧ ∀ d, H1 d = none → Q (.ref C) (some d) (upd H1 d (.xd [(("path" : Str), .ref a)]))) ∨
  (SqL K H1 a ys ∧ ∀ t d, H1 t = none → H1 d = none → t ≠ d → Q (.ref C) (some d) (upd (upd H1 t (.tup ys)) d (.xd [(("path" : Str), .ref t)]))))
section
variable {X : Cx} {x : Str} {C : Addr} {ps : List Str} {k : Nat} {p pos : Pos} {e : Expr} {es : List Expr} {ta : TA} {pins : List (Addr × Obj)} {σ : L2.St} {H : Hp} {s : Shared}
/-- a part of a heap -/
theorem cutHeap (h : Heap) (bad : List Addr) : ∃ G : Heap, (∀ b, b ∉ bad → G.get? b = h.get? b) ∧ ∀ b, b ∈ bad → G.get? b = none := by
  obtain ⟨G, g1, g2⟩ := restrict h fun b => decide (b ∉ bad)
  exact ⟨G, fun b hb => g1 b (decide_eq_true hb), fun b hb => g2 b (by simpa using hb)⟩
/-- two new things at once -/
theorem lay2 (I : Inv X pins σ H s) {h' : Heap} {t' : Nat} {d e : Addr} {o u : HO} (hd : s.heap.objs.size ≤ d) (he : s.heap.objs.size ≤ e) (hde : d ≠ e) (keep : ∀ b o, s.heap.get? b = some o → h'.get? b = some o)
    (ho : ∀ G, G.get? d = h'.get? d → ObjOk X.prog X.w (upd H d o) G d o) (hu : ObjOk X.prog X.w (upd (upd H d o) e u) h' e u) : Inv X pins σ (upd (upd H d o) e u) { s with heap := h', toks := t' } := by
  obtain ⟨G0, a1, a2⟩ := cutHeap h' [d, e]
  obtain ⟨G1, b1, b2⟩ := cutHeap h' [e]
  have lt : ∀ b o, s.heap.get? b = some o → b < s.heap.objs.size := fun b o q => Heap.lt_size q
  have I0 : Inv X pins σ H { s with heap := G0, toks := t' } := I.kept (t' := t') fun b o q => by
    have z := lt b o q
    have nb : b ∉ [d, e] := fun w => by
      simp only [List.mem_cons, List.not_mem_nil, or_false] at w
      rcases w with rfl | rfl
      all_goals exact absurd z (Nat.not_lt.mpr (by assumption))
    rw [a1 b nb]
    exact keep b o q
  have I1 : Inv X pins σ (upd H d o) { s with heap := G1, toks := t' } := I0.laidN (t' := t') (fun b o q => by
    by_cases hb : b ∈ [d, e]
    · rw [a2 b hb] at q
      cases q
    · rw [a1 b hb] at q
      rw [b1 b (fun z => hb (List.mem_cons_of_mem _ z))]
      exact q) (a2 d (by simp)) (I.hok.fresh hd) (ho G1 (b1 d (by simpa using hde)))
  exact I1.laidN (t' := t') (fun b o q => by
    by_cases hb : b ∈ [e]
    · rw [b2 b hb] at q
      cases q
    · rw [b1 b hb] at q
      exact q) (b2 e (by simp)) (by rw [upd_ne (Ne.symm hde)]; exact I.hok.fresh he) hu
theorem lay3 (I : Inv X pins σ H s) {h' : Heap} {t' : Nat} {t d e : Addr} {o u v : HO} (ht : s.heap.objs.size ≤ t) (hd : s.heap.objs.size ≤ d) (he : s.heap.objs.size ≤ e) (htd : t ≠ d) (hte : t ≠ e) (hde : d ≠ e) (keep : ∀ b o, s.heap.get? b = some o → h'.get? b = some o)
    (hv : ∀ G, G.get? t = h'.get? t → ObjOk X.prog X.w (upd H t v) G t v) (ho : ∀ G, G.get? d = h'.get? d → ObjOk X.prog X.w (upd (upd H t v) d o) G d o) (hu : ObjOk X.prog X.w (upd (upd (upd H t v) d o) e u) h' e u) : Inv X pins σ (upd (upd (upd H t v) d o) e u) { s with heap := h', toks := t' } := by
  obtain ⟨G0, a1, a2⟩ := cutHeap h' [t, d, e]
  obtain ⟨G1, b1, b2⟩ := cutHeap h' [d, e]
  obtain ⟨G2, c1, c2⟩ := cutHeap h' [e]
  have lt : ∀ b o, s.heap.get? b = some o → b < s.heap.objs.size := fun b o q => Heap.lt_size q
  have I0 : Inv X pins σ H { s with heap := G0, toks := t' } := I.kept (t' := t') fun b o q => by
    have z := lt b o q
    have nb : b ∉ [t, d, e] := fun w => by
      simp only [List.mem_cons, List.not_mem_nil, or_false] at w
      rcases w with rfl | rfl | rfl
      all_goals exact absurd z (Nat.not_lt.mpr (by assumption))
    rw [a1 b nb]
    exact keep b o q
  have I1 : Inv X pins σ (upd H t v) { s with heap := G1, toks := t' } := I0.laidN (t' := t') (fun b o q => by
    by_cases hb : b ∈ [t, d, e]
    · rw [a2 b hb] at q
      cases q
    · rw [a1 b hb] at q
      rw [b1 b (fun z => hb (List.mem_cons_of_mem _ z))]
      exact q) (a2 t (by simp)) (I.hok.fresh ht) (hv G1 (b1 t (by simp [htd, hte])))
  have I2 : Inv X pins σ (upd (upd H t v) d o) { s with heap := G2, toks := t' } := I1.laidN (t' := t') (fun b o q => by
    by_cases hb : b ∈ [d, e]
    · rw [b2 b hb] at q
      cases q
    · rw [b1 b hb] at q
      rw [c1 b (fun z => hb (List.mem_cons_of_mem _ z))]
      exact q) (b2 d (by simp)) (by rw [upd_ne (Ne.symm htd)]; exact I.hok.fresh hd) (ho G2 (c1 d (by simpa using hde)))
  exact I2.laidN (t' := t') (fun b o q => by
    by_cases hb : b ∈ [e]
    · rw [c2 b hb] at q
      cases q
    · rw [c1 b hb] at q
      exact q) (c2 e (by simp)) (by rw [upd_ne (Ne.symm hde), upd_ne (Ne.symm hte)]; exact I.hok.fresh he) hu
theorem new_run (T : XC X.prog X.K X.mg x C ps) (hr : Room k X.A) {Q : VK} {us : List Value} {vs : List V} (I1 : Inv X pins σ H s) (r1 : Vals vs us) (hl : vs.length = ps.length)
    (q0 : ps = [] → ∀ e t1, H e = none → Q (.ref e) (upd H e (frE C e t1 none))) (q1 : ∀ e t1 d, H e = none → H d = none → d ≠ e → Q (.ref e) (upd (upd H d (.xd (ps.zip vs))) e (frE C e t1 (some d)))) :
    wpAny (model X.prog X.w) X.A (call (.ref C) us) (EP X pins σ Q) X.xe s := by
  obtain ⟨fI, B, newId, initId, bmB, TC, TI⟩ := T.ex
  have hus : us.length = ps.length := by rw [← r1.length]; exact hl
  obtain ⟨mb, hb1, hb2⟩ := I1.mod.blt
  have hlim := I1.nolimit
  have bk := I1.bk
  have kin := I1.kIn
  obtain ⟨hp, g, dr, tk, os⟩ := s
  refine wpAny_call (XI.made_raw TC TI hus kin (I1.mod.glob.keeps bk) T.gs (hb1.keeps bk) ((hb2 "super" (by decide)).trans (by decide +kernel)) (fun z => by cases z) hlim (by have := hr.dp; omega) (by have := T.few; omega) fun h' tk' e dd ws hnew keep hoe hdd ew _ => ?_)
  have ew := ew rfl
  obtain ⟨t1, hoe⟩ := hoe
  show EP X pins σ Q (.ref e) ⟨h', g, dr, tk', os⟩
  cases dd with
  | none =>
    have eps : ps = [] := zip_nil hus (ew ▸ hdd)
    refine ⟨.ref e, _, I1.laid (t' := tk') keep hnew (show ObjOk X.prog X.w _ h' e (frE C e t1 none) from ⟨hoe, _, hoe⟩), rfl, q0 eps e t1 (I1.hok.fresh hnew)⟩
  | some d =>
    obtain ⟨dbig, dne, hns⟩ := hdd
    rw [ew] at hns
    refine ⟨.ref e, _, lay2 (t' := tk') I1 dbig hnew dne keep (o := .xd (ps.zip vs)) (u := frE C e t1 (some d)) (fun G hG => ?_) ⟨hoe, _, hoe⟩, rfl, q1 e t1 d (I1.hok.fresh hnew) (I1.hok.fresh dbig) dne⟩
    exact ⟨_, hns.at (fun o q => hG.trans q), fun f => rel_zip (List.nodup_cons.mp TI.nodup).2 r1 hus f⟩
theorem pe_newX (T : XC X.prog X.K X.mg x C ps) (hr : Room k X.A) (ha : PA X (e :: es) ta) (hg : Gl X x := by rfl) (hdb : (x == ("__debug__" : Str)) = false := by decide)
    (he : starEach (e :: es) X.env = (false, eval e X.env) :: starEach es X.env := by rfl) (hpl : (backTo pos (starEach es X.env)).any (·.1) = false := by rfl) : PE X (.Call (.Name x p) (e :: es) [] pos) (tNewX C ps ta) := by
  refine ⟨fun pins s σ H Q I h => ?_⟩
  obtain ⟨fI, B, newId, initId, bmB, TC, TI⟩ := T.ex
  refine wpAny_Call_Name_kw (ld_glob I hg T.gC ?_ hdb)
  refine PySem.W.callWith_K (h₀ := X.base) I.ok.mod.kin TC.kC (thn (ha.run pos pins s σ H _ I h) fun us s1 hh => ?_) he hpl
  obtain ⟨vs, H1, I1, r1, hl, q0, q1⟩ := hh
  exact ⟨I1.kIn, new_run T hr I1 r1 hl q0 q1⟩
theorem pe_newX0 (T : XC X.prog X.K X.mg x C []) (hr : Room k X.A) (hg : Gl X x := by rfl) (hdb : (x == ("__debug__" : Str)) = false := by decide) : PE X (.Call (.Name x p) [] [] pos) (tNewX C [] tNil) := by
  refine ⟨fun pins s σ H Q I h => ?_⟩
  obtain ⟨fI, B, newId, initId, bmB, TC, TI⟩ := id T.ex
  refine wpAny_Call_Name_kw (ld_glob I hg T.gC ?_ hdb)
  obtain ⟨_, q0, q1⟩ := h
  exact PySem.W.callWith_K0 I.kIn TC.kC (new_run (us := []) (vs := []) T hr I .nil rfl q0 q1)
theorem not_both (I : Inv X pins σ H s) {a : Addr} {xs ys : List V} (h1 : SqT X.K H a xs) (h2 : SqL X.K H a ys) : False := by
  obtain ⟨_, _, ⟨o, e1, e2, _⟩, _⟩ := I.tuple h1
  obtain ⟨_, _, pl, _⟩ := I.list h2
  obtain ⟨o2, e3, e4, _⟩ := pl.isList
  rw [e1] at e3
  cases e3
  rw [e2] at e4
  exact absurd (Value.type.inj e4) (by decide)
/-- what the two path rules share -/
theorem path_run (T : XCP X.prog X.K X.mg x C) (hr : Room k X.A) {us : List Value} {vs : List V} {R : Value → Shared → Prop} (I1 : Inv X pins σ H s) (r1 : Vals vs us) {a : Addr} {ys : List V} (ev : vs = [.ref a]) (hs : SqT X.K H a ys ∨ SqL X.K H a ys)
    (h : ∀ (h' : Heap) (tk' : Nat) (e t1 d : Addr) (v : Value), s.heap.objs.size ≤ e → s.heap.objs.size ≤ d → d ≠ e → (∀ b o, s.heap.get? b = some o → h'.get? b = some o) → h'.get? e = some (excR0 C t1 (some d)) → (h'.Ns1 d fun y => [(("path" : Str), v)].lookup y) →
      ((SqT X.K H a ys ∧ v = .ref a) ∨ (SqL X.K H a ys ∧ ∃ t its, v = .ref t ∧ s.heap.objs.size ≤ t ∧ t ≠ e ∧ t ≠ d ∧ ys.length ≤ sizeLine ∧ Vals ys its ∧ h'.get? t = some { cls := .type "tuple", data := .seq its.toArray })) → R (.ref e) { s with heap := h', toks := tk' }) :
    wpAny (model X.prog X.w) X.A (call (.ref C) us) R X.xe s := by
  obtain ⟨fI, B, newId, initId, bmB, TC, TI⟩ := T.ex
  subst ev
  obtain ⟨u0, rfl, ru⟩ := vals1 r1
  cases ru
  obtain ⟨mb, hb1, hb2⟩ := I1.mod.blt
  have hlim := I1.nolimit
  have bk := I1.bk
  have kin := I1.kIn
  have seq : ∃ its, Vals ys its ∧ ys.length ≤ sizeLine ∧ ((SqT X.K H a ys ∧ s.heap.IsTuple a its.toArray) ∨ (SqL X.K H a ys ∧ s.heap.IsList a its.toArray)) := by
    rcases hs with hs | hs
    · obtain ⟨its, r', pl, hz⟩ := I1.tuple hs
      exact ⟨its, r', hz, .inl ⟨hs, pl⟩⟩
    · obtain ⟨its, r', pl, hz⟩ := I1.list hs
      exact ⟨its, r', hz, .inr ⟨hs, pl.isList⟩⟩
  obtain ⟨its, rv, hz, seq⟩ := seq
  obtain ⟨hp, g, dr, tk, os⟩ := s
  have hz' : its.toArray.size ≤ sizeLine := by rw [List.size_toArray, ← rv.length]; exact hz
  refine wpAny_call (XI.made_raw TC TI rfl kin (I1.mod.glob.keeps bk) T.gs (hb1.keeps bk) ((hb2 "super" (by decide)).trans (by decide +kernel)) (fun _ => ⟨T.gt, (hb2 "tuple" (by decide)).trans (by decide +kernel), a, its.toArray, rfl, seq.imp (fun z => z.2) fun z => ⟨z.2, hz'⟩⟩) hlim (by have := hr.dp; omega) (show 1 ≤ 1000 by decide) fun h' tk' e dd ws hnew keep hoe hdd _ ew => ?_)
  obtain ⟨u, its2, v, e1, e2, e3⟩ := ew rfl
  cases e1
  subst e2
  obtain ⟨t1, hoe⟩ := hoe
  cases dd with
  | none => cases hdd
  | some d =>
    obtain ⟨dbig, dne, hns⟩ := hdd
    refine h h' tk' e t1 d v hnew dbig dne keep hoe hns ?_
    have same : ∀ {o o2 : Obj}, hp.get? a = some o → hp.get? a = some o2 → o = o2 := fun e1 e2 => Option.some.inj (e1.symm.trans e2)
    rcases e3 with ⟨⟨o2, f1, f2, _⟩, rfl⟩ | ⟨⟨o2, f1, f2, n2, f3⟩, t, rfl, z2, z3, z4⟩
    · rcases seq with ⟨s1, _⟩ | ⟨s1, o, f4, f5, _⟩
      · exact .inl ⟨s1, rfl⟩
      · rw [same f1 f4, f5] at f2
        exact absurd (Value.type.inj f2) (by decide)
    · rcases seq with ⟨s1, o, f4, f5, _⟩ | ⟨s1, o, f4, f5, n, f6⟩
      · rw [same f1 f4, f5] at f2
        exact absurd (Value.type.inj f2) (by decide)
      · rw [same f1 f4, f6] at f3
        cases f3
        refine .inr ⟨s1, t, its, rfl, z2, z3, fun w => ?_, hz, rv, z4⟩
        subst w
        obtain ⟨o3, es, ep, q1, q2, _⟩ := hns
        rw [z4] at q1
        cases q1
        cases q2
theorem pe_newP (T : XCP X.prog X.K X.mg x C) (hr : Room k X.A) (ha : PA X (e :: es) ta) (hg : Gl X x := by rfl) (hdb : (x == ("__debug__" : Str)) = false := by decide)
    (he : starEach (e :: es) X.env = (false, eval e X.env) :: starEach es X.env := by rfl) (hpl : (backTo pos (starEach es X.env)).any (·.1) = false := by rfl) : PE X (.Call (.Name x p) (e :: es) [] pos) (tNewP X.K C ta) := by
  refine ⟨fun pins s σ H Q I h => ?_⟩
  obtain ⟨fI, B, newId, initId, bmB, TC, TI⟩ := id T.ex
  refine wpAny_Call_Name_kw (ld_glob I hg T.gC ?_ hdb)
  refine PySem.W.callWith_K (h₀ := X.base) I.ok.mod.kin TC.kC (thn (ha.run pos pins s σ H _ I h) fun us s1 hh => ?_) he hpl
  obtain ⟨vs, H1, I1, r1, a, ys, ev, hh⟩ := hh
  refine ⟨I1.kIn, path_run T hr I1 r1 ev (hh.imp (fun z => z.1) fun z => z.1) fun h' tk' e t1 d v hnew dbig dne keep hoe hns hv => ?_⟩
  have xdok : ∀ {H2 : Hp} {G : Heap} {w : V}, RelV w v → G.get? d = h'.get? d → ObjOk X.prog X.w H2 G d (.xd [(("path" : Str), w)]) := fun {H2 G w} rw_ hG => ⟨_, hns.at (fun o q => hG.trans q), fun f => by
    by_cases hf : f = ("path" : Str)
    · subst hf
      simp only [List.lookup, beq_self_eq_true]
      exact rw_
    · have : (f == ("path" : Str)) = false := by simpa using hf
      simp only [List.lookup, this]
      trivial⟩
  rcases hh with ⟨h1, k1⟩ | ⟨h1, k1⟩
  · rcases hv with ⟨_, rfl⟩ | ⟨h2, _⟩
    · exact ⟨.ref e, _, lay2 (t' := tk') I1 dbig hnew dne keep (o := .xd [(("path" : Str), .ref a)]) (u := frE C e t1 (some d)) (fun G hG => xdok rfl hG) ⟨hoe, _, hoe⟩, rfl, k1 e t1 d (I1.hok.fresh hnew) (I1.hok.fresh dbig) dne⟩
    · exact (not_both I1 h1 h2).elim
  · rcases hv with ⟨h2, rfl⟩ | ⟨h2, t, its, rfl, tbig, tne, tnd, hz, rv, ht⟩
    · exact (not_both I1 h2 h1).elim
    · exact ⟨.ref e, _, lay3 (t' := tk') I1 tbig dbig hnew tnd tne dne keep (v := .tup ys) (o := .xd [(("path" : Str), .ref t)]) (u := frE C e t1 (some d)) (fun G hG => ⟨hz, its, rv, _, hG.trans ht, rfl, _, rfl⟩) (fun G hG => xdok rfl hG) ⟨hoe, _, hoe⟩, rfl, k1 t e t1 d (I1.hok.fresh tbig) (I1.hok.fresh hnew) (I1.hok.fresh dbig) tnd tne dne⟩
theorem xd1_ok {P : Program} {wd : World} {h' G : Heap} {d : Addr} {H2 : Hp} {w : V} {v : Value} (hns : h'.Ns1 d fun y => [(("path" : Str), v)].lookup y) (r : RelV w v) (hG : G.get? d = h'.get? d) : ObjOk P wd H2 G d (.xd [(("path" : Str), w)]) := ⟨_, hns.at (fun o q => hG.trans q), fun f => by
    by_cases hf : f = ("path" : Str)
    · subst hf
      simp only [List.lookup, beq_self_eq_true]
      exact r
    · have : (f == ("path" : Str)) = false := by simpa using hf
      simp only [List.lookup, this]
      trivial⟩
theorem pmk_XP (T : XCP X.prog X.K X.mg x C) (hr : Room k X.A) (ha : PA X (e :: es) ta) (hg : Gl X x := by rfl) (hdb : (x == ("__debug__" : Str)) = false := by decide)
    (he : starEach (e :: es) X.env = (false, eval e X.env) :: starEach es X.env := by rfl) (hpl : (backTo pos (starEach es X.env)).any (·.1) = false := by rfl) : PMk X (.Call (.Name x p) (e :: es) [] pos) (tMkP X.K C ta) := by
  intro pins s σ H Q I h
  obtain ⟨fI, B, newId, initId, bmB, TC, TI⟩ := id T.ex
  refine wpAny_Call_Name_kw (ld_glob I hg T.gC ?_ hdb)
  refine PySem.W.callWith_K (h₀ := X.base) I.ok.mod.kin TC.kC (thn (ha.run pos pins s σ H _ I h) fun us s1 hh => ?_) he hpl
  obtain ⟨vs, H1, I1, r1, a, ys, ev, hh⟩ := hh
  refine ⟨I1.kIn, path_run T hr I1 r1 ev (hh.imp (fun z => z.1) fun z => z.1) fun h' tk' e t1 d v hnew dbig dne keep hoe hns hv => ?_⟩
  show MkP X pins σ Q (.ref e) _
  obtain ⟨G', g1, g2⟩ := cutHeap h' [e]
  have gk : ∀ b, b ≠ e → G'.get? b = h'.get? b := fun b hb => g1 b (by simpa using hb)
  have ge : G'.get? e = none := g2 e (by simp)
  have old : ∀ b o, s1.heap.get? b = some o → G'.get? b = some o := fun b o q => (gk b (Nat.ne_of_lt (Nat.lt_of_lt_of_le (Heap.lt_size q) hnew))).trans (keep b o q)
  have up : ∀ b o, G'.get? b = some o → h'.get? b = some o := fun b o q => by
    by_cases hb : b = e
    · rw [hb, ge] at q; cases q
    · exact (gk b hb).symm.trans q
  have ne : H1 e = none := I1.hok.fresh hnew
  rcases hh with ⟨h1, k1⟩ | ⟨h1, k1⟩
  · rcases hv with ⟨_, rfl⟩ | ⟨h2, _⟩
    · have J : Inv X pins σ (upd H1 d (.xd [(("path" : Str), .ref a)])) { s1 with heap := G', toks := tk' } := I1.laid (t' := tk') old dbig (xd1_ok hns rfl (gk d dne))
      exact ⟨e, _, _, { s1 with heap := G', toks := tk' }, _, .ref C, some d, rfl, J, up, ge, hoe, ⟨rfl, rfl⟩, rfl, rfl, by rw [upd_ne (Ne.symm dne)]; exact ne, rfl, I1.bare, raises_own TC.exC TC.tyC, k1 d (I1.hok.fresh dbig)⟩
    · exact (not_both I1 h1 h2).elim
  · rcases hv with ⟨h2, rfl⟩ | ⟨h2, t, its, rfl, tbig, tne, tnd, hz, rv, ht⟩
    · exact (not_both I1 h2 h1).elim
    · have J : Inv X pins σ (upd (upd H1 t (.tup ys)) d (.xd [(("path" : Str), .ref t)])) { s1 with heap := G', toks := tk' } := lay2 (t' := tk') I1 tbig dbig tnd old (fun G hG => ⟨hz, its, rv, _, hG.trans ((gk t tne).trans ht), rfl, _, rfl⟩) (xd1_ok hns rfl (gk d dne))
      exact ⟨e, _, _, { s1 with heap := G', toks := tk' }, _, .ref C, some d, rfl, J, up, ge, hoe, ⟨rfl, rfl⟩, rfl, rfl, by rw [upd_ne (Ne.symm dne), upd_ne (Ne.symm tne)]; exact ne, rfl, I1.bare, raises_own TC.exC TC.tyC, k1 t d (I1.hok.fresh tbig) (I1.hok.fresh dbig) tnd⟩
end
/-! ### looked at -/
structure XAt (K : Frag) (C : Addr) : Prop where
  ga : findIn K (.ref C) "__getattribute__" = some (some (.builtin "BaseException.__getattribute__"))
  gg : findIn K (.ref C) "__getattr__" = some none
  exC : subIn K (.ref C) (.type "BaseException") = some true
  hdC : hasDictIn K C = true
  cl : findIn K (.ref C) "__class__" = some (some (.builtin "object.__class__"))
  ob : mroIn K C (.type "object") = some true
theorem spc_class {K : Frag} : specialIn K (.builtin "object.__class__") "__get__" = some (some (.builtin "getset_descriptor.__get__")) := by kernel_rfl
theorem tak_class {K : Frag} : takesIn K (.builtin "object.__class__") = some true := by kernel_rfl
/-- an exception's object at a, its class C -/
def ExcAt (H : Hp) (a C : Addr) : Prop := ∃ t1, H a = some (frE C a t1 none) ∨ ∃ d vs, H a = some (frE C a t1 (some d)) ∧ H d = some (.xd vs)
theorem ExcAt.inst {X : Cx} {pins : List (Addr × Obj)} {σ : L2.St} {H : Hp} {s : Shared} {a C : Addr} (I : Inv X pins σ H s) (h : ExcAt H a C) : ∃ ox od, PySem.W.InstAt s.heap a ox C od := by
  obtain ⟨t1, h | ⟨d, vs, h, h2⟩⟩ := h
  · obtain ⟨e, _⟩ := (show ObjOk X.prog X.w H s.heap a (frE C a t1 none) from I.hok a _ h)
    exact ⟨_, none, e, rfl, rfl, trivial⟩
  · obtain ⟨e, _⟩ := (show ObjOk X.prog X.w H s.heap a (frE C a t1 (some d)) from I.hok a _ h)
    obtain ⟨_, ⟨o, _, _, e2, _⟩, _⟩ := (show ObjOk X.prog X.w H s.heap d (.xd vs) from I.hok d _ h2)
    exact ⟨_, some o, e, rfl, rfl, e2⟩
abbrev rIsiE (K : Frag) : List V → Hp → VK → Prop := fun xs H Q => ∃ (a C : Addr) (c : V) (u : Value) (b : Bool), xs = [.ref a, c] ∧ ClsV c u ∧ ExcAt H a C ∧ XAt K C ∧ kitOne K (.ref C) u = some b ∧ Q (.bl b) H
section
variable {X : Cx}
theorem call_isiE : CallR X (.builtin "isinstance") (rIsiE X.K) := by
  intro pins s σ H xs us Q I r h
  obtain ⟨a, C, c, u, b, rfl, k, ea, T, e, q⟩ := h
  obtain ⟨u1, u2, rfl, r1, r2⟩ := vals2 r
  have e2 := k.eq r2
  subst e2
  cases (show u1 = Value.ref a from r1)
  obtain ⟨ox, od, J⟩ := ea.inst I
  obtain ⟨cd, hc, _⟩ := any_some T.hdC
  have hcl : (clsIn X.K C).isSome = true := by rw [hc]; rfl
  exact kia_one (kitx_exc (ox := ox) (od := od) hcl T.ga T.gg T.exC T.cl spc_class tak_class T.ob) I.kIn J e (fun z => nomatch z) fun tk => ⟨.bl b, H, I.tok tk, rfl, q⟩
theorem qIsiE {K : Frag} (hK : X.K = K := by rfl) : CallR X (.builtin "isinstance") (rIsiE K) := by subst hK; exact call_isiE
/-- e.f -/
def tFldE (K : Frag) (f : Str) (te : TE) : TE := fun σ H Q => te σ H fun x H1 => ∃ (a C t1 d : Addr) (vs : List (Str × V)) (v : V), x = .ref a ∧ H1 a = some (frE C a t1 (some d)) ∧ H1 d = some (.xd vs) ∧ XAt K C ∧ findIn K (.ref C) f = some none ∧ vs.lookup f = some v ∧ Q v H1
theorem pe_fldE {K : Frag} {e : Expr} {te : TE} {pos : Pos} {n : Str} (he : PE X e te) (hb : attributeBase e n X.env (eval e X.env) = eval e X.env := by rfl) (hK : X.K = K := by rfl) : PE X (.Attribute e n pos) (tFldE K n te) := by
  subst hK
  refine ⟨fun pins s σ H Q I h => ?_⟩
  refine attr_of hb (thn (he.run pins s σ H _ I h) fun u s1 hh => ?_)
  obtain ⟨x, H1, I1, rx, a, C, t1, d, vs, v, rfl, ea, ed, T, hno, l, q⟩ := hh
  obtain rfl : u = Value.ref a := rx
  obtain ⟨ha, _⟩ := (show ObjOk X.prog X.w H1 s1.heap a (frE C a t1 (some d)) from I1.hok a _ ea)
  obtain ⟨mA, hns, hr⟩ := (show ObjOk X.prog X.w H1 s1.heap d (.xd vs) from I1.hok d _ ed)
  obtain ⟨od, ho, hl⟩ := lookIn_ns hns
  obtain ⟨u, hu, ru⟩ := RelO.some_of (v := v) (o := mA n) (by rw [← l]; exact hr n)
  have J : PySem.W.InstAt s1.heap a (excR0 C t1 (some d)) C (some od) := ⟨ha, rfl, rfl, ho⟩
  exact HandSPX.exc_get I1.kIn J T.ga T.gg T.exC (PySem.W.findObj_own T.hdC hno rfl (by rw [hl, hu])) (handed_of ru) ⟨v, H1, I1.tok _, ru, q⟩
end
section
variable {F : Fp} {Δ : List Sl} {te : TE} {ta : TA} {K : Frag} {C : Addr}
theorem dt_exc {S H : Hp} {fs : List (Str × D)} {v : V} (hs : Same S H) (h : Dt S (.exc C fs) v) : ∃ a, v = .ref a ∧ ExcAt H a C := by
  simp only [Dt] at h
  obtain ⟨a, t1, rfl, ⟨_, e⟩ | ⟨d, vs, _, e, e2, _⟩⟩ := h
  · exact ⟨a, rfl, t1, .inl (hs _ _ e)⟩
  · exact ⟨a, rfl, t1, .inr ⟨d, vs, hs _ _ e, hs _ _ e2⟩⟩
theorem ev_isiE {fs : List (Str × D)} {c : V} {u : Value} {b : Bool} (h : Ev1 F te Δ (.exc C fs)) (k : ClsV c u) (T : XAt K C) (e : kitOne K (.ref C) u = some b) : Ev1 F (tCB (rIsiE K) (tCons te (tCons (tC c) tNil))) Δ (.bool b) := fun H0 S H σ w t Q q =>
  h H0 S H σ w t _ fun d v S' H' ed g hv => by
    subst ed
    obtain ⟨a, rfl, ea⟩ := dt_exc g.h hv
    exact ⟨a, C, c, u, b, rfl, k, ea, T, e, q _ _ S' H' rfl g (by simp only [Dt])⟩
theorem ev_fldE {fs : List (Str × D)} {f : Str} {d : D} (h : Ev1 F te Δ (.exc C fs)) (T : XAt K C) (n : NoAttr K C f) (l : fs.lookup f = some d) : Ev1 F (tFldE K f te) Δ d := fun H0 S H σ w t Q q =>
  h H0 S H σ w t _ fun x v S' H' ed g hv => by
    subst ed
    simp only [Dt] at hv
    obtain ⟨a, t1, rfl, ⟨e0, _⟩ | ⟨dx, vs, _, e1, e2, hf⟩⟩ := hv
    · subst e0
      cases l
    · obtain ⟨y, hy, hd⟩ := (dtf_lookup hf).1 _ l
      exact ⟨a, C, t1, dx, vs, y, rfl, g.h _ _ e1, g.h _ _ e2, T, n, hy, q _ _ S' H' rfl g hd⟩
theorem ev_newX {ps : List Str} {Pa : List D → Prop} (h : EvA F ta Δ Pa) (hl : ∀ ds, Pa ds → ds.length = ps.length) : EvR F (tNewX C ps ta) Δ fun d => ∃ ds, Pa ds ∧ d = .exc C (ps.zip ds) := fun H0 S H σ w t Q k =>
  h H0 S H σ w t _ fun ds vs S1 H1 p g hd => by
    refine ⟨by rw [← hd.len]; exact hl ds p, fun e => ?_, fun e t1 dx he hx hne => ?_⟩
    · intro e' t1 he
      refine k (.exc C (ps.zip ds)) _ _ _ ⟨ds, p, rfl⟩ (g.trans (Gr.newD g.h he)) ?_
      simp only [Dt]
      exact ⟨e', t1, rfl, .inl ⟨by rw [e]; rfl, upd_same⟩⟩
    · have g1 := Gr.newD (F := F) (o := .xd (ps.zip vs)) g.h hx
      have he' : upd H1 dx (.xd (ps.zip vs)) e = Option.none := by rw [upd_ne (Ne.symm hne)]; exact he
      have g2 := Gr.newD (F := F) (o := frE C e t1 (some dx)) g1.h he'
      refine k (.exc C (ps.zip ds)) _ _ _ ⟨ds, p, rfl⟩ ((g.trans g1).trans g2) ?_
      simp only [Dt]
      exact ⟨e, t1, rfl, .inr ⟨dx, _, hne, upd_same, by rw [upd_ne hne]; exact upd_same, DtF.mono (g1.s.trans g2.s) _ _ (dtf_zip hd)⟩⟩
theorem ev_newX1 {ps : List Str} {ds : List D} (h : EvA F ta Δ fun r => r = ds) (hl : ds.length = ps.length) : Ev1 F (tNewX C ps ta) Δ (.exc C (ps.zip ds)) := (ev_newX h fun _ e => by rw [e]; exact hl).imp fun d ⟨_, e, e2⟩ => by rw [e2, e]
theorem ev_newP {x : D} {l : List D} (h : Ev1 F te Δ x) (hx : x = .list l ∨ x = .tuple l) : Ev1 F (tNewP K C (tCons te tNil)) Δ (.exc C [(("path" : Str), .tuple l)]) := fun H0 S H σ w t Q k =>
  h H0 S H σ w t _ fun d v S1 H1 ed g hv => by
    subst ed
    rcases hx with rfl | rfl
    · simp only [Dt] at hv
      obtain ⟨a, xs, rfl, e1, h1⟩ := hv
      refine ⟨a, xs, rfl, .inr ⟨SqL.of (g.h _ _ e1), fun tt e t1 dx ht he hx htd hte hde => ?_⟩⟩
      have g1 := Gr.newD (F := F) (o := .tup xs) g.h ht
      have hx' : upd H1 tt (.tup xs) dx = Option.none := by rw [upd_ne (Ne.symm htd)]; exact hx
      have g2 := Gr.newD (F := F) (o := .xd [(("path" : Str), .ref tt)]) g1.h hx'
      have he' : upd (upd H1 tt (.tup xs)) dx (.xd [(("path" : Str), .ref tt)]) e = Option.none := by rw [upd_ne (Ne.symm hde), upd_ne (Ne.symm hte)]; exact he
      have g3 := Gr.newD (F := F) (o := frE C e t1 (some dx)) g2.h he'
      refine k _ _ _ _ rfl (((g.trans g1).trans g2).trans g3) ?_
      simp only [Dt, DtF]
      exact ⟨e, t1, rfl, .inr ⟨dx, _, hde, upd_same, by rw [upd_ne hde]; exact upd_same, _, _, rfl, ⟨tt, xs, rfl, by rw [upd_ne hte, upd_ne htd]; exact upd_same, h1.mono ((g1.s.trans g2.s).trans g3.s)⟩, rfl⟩⟩
    · simp only [Dt] at hv
      obtain ⟨a, xs, rfl, e1, h1⟩ := hv
      refine ⟨a, xs, rfl, .inl ⟨SqT.of (g.h _ _ e1), fun e t1 dx he hx hde => ?_⟩⟩
      have g2 := Gr.newD (F := F) (o := .xd [(("path" : Str), .ref a)]) g.h hx
      have he' : upd H1 dx (.xd [(("path" : Str), .ref a)]) e = Option.none := by rw [upd_ne (Ne.symm hde)]; exact he
      have g3 := Gr.newD (F := F) (o := frE C e t1 (some dx)) g2.h he'
      refine k _ _ _ _ rfl ((g.trans g2).trans g3) ?_
      simp only [Dt, DtF]
      exact ⟨e, t1, rfl, .inr ⟨dx, _, hde, upd_same, by rw [upd_ne hde]; exact upd_same, _, _, rfl, ⟨a, xs, rfl, (g2.s.trans g3.s) _ _ e1, h1.mono (g2.s.trans g3.s)⟩, rfl⟩⟩
end
end Bc

/-! Core D: the exact repr of data with dicts in it. -/
namespace Bc
open PySem L2 PySem.Spec PyProof.Rows
def keyP : Key → PyData
  | .inl i => .int i
  | .inr x => .str x
mutual
def D.pr : D → PyData
  | .none => .none
  | .bool b => .bool b
  | .int i => .int i
  | .str s => .str s
  | .list l => .list (prL l)
  | .tuple l => .tuple (prL l)
  | .dict l => .dict (prK l)
  | .obj _ _ => .none
  | .exc _ _ => .none
  | .ref _ => .none
def prL : List D → List PyData
  | [] => []
  | d :: ds => d.pr :: prL ds
def prK : List (Key × D) → List (PyData × PyData)
  | [] => []
  | (k, d) :: ds => (keyP k, d.pr) :: prK ds
end
mutual
def D.prOk : D → Bool
  | .none => true
  | .bool _ => true
  | .int _ => true
  | .str _ => true
  | .list l => prOkL l
  | .tuple l => prOkL l
  | .dict l => prOkK l
  | .obj _ _ => false
  | .exc _ _ => false
  | .ref _ => false
def prOkL : List D → Bool
  | [] => true
  | d :: ds => d.prOk && prOkL ds
def prOkK : List (Key × D) → Bool
  | [] => true
  | (_, d) :: ds => d.prOk && prOkK ds
end
section
variable {X : Cx} {pins : List (Addr × Obj)} {σ : L2.St} {H S : Hp} {s : Shared}
theorem reads_key {h : Heap} {k : Key} {v : Value} (e : keyIs k v = true) : Reads h v (keyP k) [] := by
  rcases keyIs_shape e with ⟨i, t, rfl, rfl⟩ | ⟨x, t, rfl, rfl⟩
  · exact .int i t
  · exact .str x t
theorem not_app {a : Addr} {as bs : List Addr} (h1 : a ∉ as) (h2 : a ∉ bs) : a ∉ as ++ bs := fun z => (List.mem_append.mp z).elim h1 h2
mutual
theorem dt_reads (I : Inv X pins σ H s) (e : Same S H) (sm : SysB X.base) : ∀ (d : D) (v : V) (u : Value), d.prOk = true → Dt S d v → RelV v u → ∃ as, Reads s.heap u d.pr as ∧ sysModules ∉ as
  | .none, _, _, _, h, r => by
    simp only [Dt] at h
    subst h
    cases r
    exact ⟨_, .none, List.not_mem_nil⟩
  | .bool b, _, _, _, h, r => by
    simp only [Dt] at h
    subst h
    cases r
    exact ⟨_, .bool b, List.not_mem_nil⟩
  | .int i, _, _, _, h, r => by
    simp only [Dt] at h
    subst h
    obtain ⟨t, rfl⟩ := r
    exact ⟨_, .int i t, List.not_mem_nil⟩
  | .str x, _, _, _, h, r => by
    simp only [Dt] at h
    subst h
    obtain ⟨t, rfl⟩ := r
    exact ⟨_, .str x t, List.not_mem_nil⟩
  | .ref a, v, _, q, _, _ => by simp [D.prOk] at q
  | .obj C a, v, _, q, _, _ => by simp [D.prOk] at q
  | .exc C a, v, _, q, _, _ => by simp [D.prOk] at q
  | .list ds, v, u, q, h, r => by
    simp only [Dt] at h
    simp only [D.prOk] at q
    obtain ⟨a, xs, rfl, e1, h1⟩ := h
    cases r
    obtain ⟨its, rv, ⟨o, n, ho, hc, _, hd⟩, _⟩ := I.list (SqL.of (e _ _ e1))
    obtain ⟨as, hr, hn⟩ := dtl_reads I e sm ds xs its q h1 rv
    refine ⟨_, .list ho hc hd hr, fun z => ?_⟩
    rcases List.mem_cons.mp z with z | z
    · obtain ⟨mm, o2, es, ep, k1, k2, _⟩ := sm
      have := I.bk _ _ k1
      rw [z, ho] at this
      cases this
      rw [hd] at k2
      cases k2
    · exact hn z
  | .tuple ds, v, u, q, h, r => by
    simp only [Dt] at h
    simp only [D.prOk] at q
    obtain ⟨a, xs, rfl, e1, h1⟩ := h
    cases r
    obtain ⟨its, rv, ⟨o, ho, hc, n, hd⟩, _⟩ := I.tuple (SqT.of (e _ _ e1))
    obtain ⟨as, hr, hn⟩ := dtl_reads I e sm ds xs its q h1 rv
    exact ⟨_, .tuple ho hc hd hr, hn⟩
  | .dict ds, v, u, q, h, r => by
    simp only [Dt] at h
    simp only [D.prOk] at q
    obtain ⟨a, ks, rfl, e1, h1⟩ := h
    cases r
    obtain ⟨_, hs, vs, kv, o, es, ep, ho, hx, hd, _, hp, _⟩ := dk_of I.hok (e _ _ e1)
    obtain ⟨as, bs, ha, hb, na, nb⟩ := dtk_reads I e sm ds ks vs es.toList q h1 kv hp
    refine ⟨_, .dict ho hx.1 hd ha hb, fun z => ?_⟩
    rcases List.mem_cons.mp z with z | z
    · rw [← z] at hs
      simp at hs
    · exact not_app na nb z
theorem dtl_reads (I : Inv X pins σ H s) (e : Same S H) (sm : SysB X.base) : ∀ (ds : List D) (xs : List V) (us : List Value), prOkL ds = true → DtL S ds xs → Vals xs us → ∃ as, ReadsAll s.heap us (prL ds) as ∧ sysModules ∉ as
  | [], xs, us, _, h, r => by
    simp only [DtL] at h
    subst h
    cases r
    exact ⟨_, .nil, List.not_mem_nil⟩
  | d :: ds, xs, us, q, h, r => by
    simp only [DtL] at h
    simp only [prOkL, Bool.and_eq_true] at q
    obtain ⟨x, ys, rfl, h1, h2⟩ := h
    cases r with
    | cons r1 r2 =>
      obtain ⟨as, q1, n1⟩ := dt_reads I e sm d x _ q.1 h1 r1
      obtain ⟨bs, q2, n2⟩ := dtl_reads I e sm ds ys _ q.2 h2 r2
      exact ⟨_, .cons q1 q2, not_app n1 n2⟩
theorem dtk_reads (I : Inv X pins σ H s) (e : Same S H) (sm : SysB X.base) : ∀ (ds : List (Key × D)) (ks : List (Key × V)) (vs : List (Key × Value)) (es : List DictEntry), prOkK ds = true → DtK S ds ks → KV ks vs → Pairs (mixKind X.prog X.w) es vs →
    ∃ as bs, ReadsAll s.heap (es.map (·.key)) ((prK ds).map (·.1)) as ∧ ReadsAll s.heap (es.map (·.val)) ((prK ds).map (·.2)) bs ∧ sysModules ∉ as ∧ sysModules ∉ bs
  | [], ks, vs, es, _, h, r, p => by
    simp only [DtK] at h
    subst h
    cases r
    cases p
    exact ⟨_, _, .nil, .nil, List.not_mem_nil, List.not_mem_nil⟩
  | (k, d) :: ds, ks, vs, es, q, h, r, p => by
    simp only [DtK] at h
    simp only [prOkK, Bool.and_eq_true] at q
    obtain ⟨x, ys, rfl, h1, h2⟩ := h
    cases r with
    | cons r1 r2 =>
      cases p with
      | cons p1 p2 p3 =>
        obtain ⟨e1, e2⟩ := r1
        obtain ⟨as, bs, a1, b1, n1, n2⟩ := dtk_reads I e sm ds ys _ _ q.2 h2 r2 p3
        obtain ⟨cs, c1, n3⟩ := dt_reads I e sm d x _ q.1 h1 e2
        refine ⟨_, _, .cons (reads_key (k := k) ?_) a1, .cons ?_ b1, not_app List.not_mem_nil n1, not_app n3 n2⟩
        · rw [show k = _ from e1]
          exact p1
        · dsimp only
          rw [p2]
          exact c1
end
abbrev rReprX (K : PySem.W.Frag) : List V → Hp → VK → Prop := fun xs H Q => ∃ (S : Hp) (a : Addr) (d : D), xs = [.ref a] ∧ Same S H ∧ Dt S d (.ref a) ∧ d.prOk = true ∧ d.pr.showable = true ∧ d.pr.depth ≤ 64 ∧ d.pr.shown.length ≤ sizeLine ∧ Q (.str d.pr.shown) H
theorem pReprX (sm : SysB X.base) (hg : X.A.guards = some []) (hu : X.A.units + 65 < cLine) {K : PySem.W.Frag} (hK : X.K = K := by rfl) : CallR X (.builtin "repr") (rReprX K) := by
  subst hK
  intro pins s σ H xs us Q I r h
  obtain ⟨S, a, d, rfl, e, hd, hp, hs, hdp, hz, q⟩ := h
  obtain ⟨u, rfl, hu1⟩ := vals1 r
  obtain rfl : u = Value.ref a := hu1
  obtain ⟨as, r1, n1⟩ := dt_reads I e sm d (.ref a) (.ref a) hp hd rfl
  obtain ⟨hp', g, dr, tk, os⟩ := s
  exact repr_of_reads' r1 hs (fun _ => n1) hg (by omega) (fun _ _ e => e) (fun h' u tk' hk => ⟨.str d.pr.shown, H, I.kept (t' := tk') hk, ⟨u, rfl⟩, q⟩) hz
end
theorem ev_reprX {F : Fp} {Δ : List Sl} {te : TE} {K : PySem.W.Frag} {x : D} (h : Ev1 F te Δ x) (hx : (∃ l, x = .list l) ∨ ∃ l, x = .tuple l) (hp : x.prOk = true) (hs : x.pr.showable = true) (hn : x.pr.depth ≤ 64) (hz : x.pr.shown.length ≤ sizeLine) : Ev1 F (tCB (rReprX K) (tCons te tNil)) Δ (.str x.pr.shown) := fun H0 S H σ w t Q k =>
  h H0 S H σ w t _ fun d v S' H' e g hv => by
    subst e
    obtain ⟨a, rfl⟩ : ∃ a, v = .ref a := by
      rcases hx with ⟨l, rfl⟩ | ⟨l, rfl⟩
      · simp only [Dt] at hv
        obtain ⟨a, _, e, _⟩ := hv
        exact ⟨a, e⟩
      · simp only [Dt] at hv
        obtain ⟨a, _, e, _⟩ := hv
        exact ⟨a, e⟩
    exact ⟨S', a, d, rfl, g.h, hv, hp, hs, hn, hz, k _ _ S' H' rfl g (by simp only [Dt])⟩
/-- what an exact repr wants -/
def D.rOk (x : D) : Bool := x.prOk && (x.pr.showable && (decide (x.pr.depth ≤ 64) && decide (x.pr.shown.length ≤ sizeLine)))
theorem ev_reprR {F : Fp} {Δ : List Sl} {te : TE} {K : PySem.W.Frag} {x : D} (h : Ev1 F te Δ x) (hx : (∃ l, x = .list l) ∨ ∃ l, x = .tuple l) (hr : x.rOk = true) : Ev1 F (tCB (rReprX K) (tCons te tNil)) Δ (.str x.pr.shown) := by
  simp only [D.rOk, Bool.and_eq_true, decide_eq_true_eq] at hr
  exact ev_reprX h hx hr.1 hr.2.1 hr.2.2.1 hr.2.2.2
theorem ev_reprL {F : Fp} {Δ : List Sl} {te : TE} {K : PySem.W.Frag} {l : List D} (h : Ev1 F te Δ (.list l)) (hr : (D.list l).rOk = true) : Ev1 F (tCB (rReprX K) (tCons te tNil)) Δ (.str (D.list l).pr.shown) := ev_reprR h (.inl ⟨l, rfl⟩) hr
theorem ev_dnew {F : Fp} {Δ : List Sl} : Ev1 F tDNewK Δ (.dict []) := fun H0 S H σ w t Q k p hp => k _ _ _ _ rfl (Gr.newD w.s hp) (by simp only [Dt, DtK]; exact ⟨p, [], rfl, upd_same, rfl⟩)
theorem ev_neg {F : Fp} {Δ : List Sl} {te : TE} {i : Int} (h : Ev1 F te Δ (.int i)) : Ev1 F (tUn (rU fun i => .int (-i)) te) Δ (.int (-i)) := fun H0 S H σ w t Q k =>
  h H0 S H σ w t _ fun d v S' H' e g hv => by
    subst e
    simp only [Dt] at hv
    exact ⟨i, hv, k _ _ S' H' rfl g (by simp only [Dt])⟩
/-- a member of a display, by a drawn number -/
theorem ev_drawn {F : Fp} {Δ : List Sl} {ta tb : TE} {K : PySem.W.Frag} {l : List D} {n : Nat} (h : Ev1 F ta Δ (.list l)) (hi : EvR F tb Δ fun d => ∃ r : Nat, r < n ∧ d = .int (r : Nat)) (hn : l.length = n) : EvR F (tOp (rIx K) ta tb) Δ fun d => d ∈ l :=
  ev_op sIx (P1 := fun d => d = .list l) h hi fun x y e1 ⟨r, hr, e2⟩ => by
    subst e1
    subst e2
    have hl : r < l.length := by omega
    exact ⟨l[r], atI_nat (List.getElem?_eq_getElem hl), List.getElem_mem hl⟩
theorem ef_mapL {F : Fp} {Δ : List Sl} {te : TE} {α : Type} {wi : TI} {g : TG} {vs : List Nat} (l : List α) (f f' : α → D) (h : EvI F wi Δ fun r => r = l.map f) (hz : l.length ≤ sizeLine)
    (hs : ∀ (i : Nat) (a : α), l[i]? = some a → ∃ js Δ', EvG F g (f a) (wipeD Δ vs) js Δ' ∧ (∀ j ∈ js, j ∈ vs) ∧ Ev1 F te Δ' (f' a)) : EvF F (tLc wi g tYes te vs) Δ fun r => r = l.map f' := by
  refine ef_lcP h (fun _ e => by rw [e, List.length_map]; exact hz) (fun ds' i acc => acc = (l.take i).map f') (fun ds' _ => by simp) (fun ds' i d acc e hi ha _ => ?_) fun ds' acc e ha => by subst e; rw [ha, List.length_map, List.take_length]
  subst e
  rw [List.getElem?_map, Option.map_eq_some_iff] at hi
  obtain ⟨a, hi, rfl⟩ := hi
  obtain ⟨js, Δ', hg, hj, he⟩ := hs i a hi
  refine ⟨js, Δ', hg, hj, fun c => c = true, et_yes, (nomatch ·), fun _ => he.imp fun x hx => ?_⟩
  rw [ha, hx, List.take_succ, hi]
  simp
end Bc

/-! Core H: what the written part says of the exceptions' classes, put together. -/
namespace Bc
open PySem L2 PySem.Spec PyProof.Rows PySem.W PySem.Calls PySem.HandSPX
abbrev leTail : List Value := [.type "LookupError", .type "Exception", .type "BaseException", .type "object"]
section
variable {P : Program} {K : Frag} {mg : Str → Option Value} {C CB : Addr} {nm q : Str} {N : Addr} {bs : List Value} {sn : List Str} {sub : List Value} {ab : Bool} {col : Option Bool} {dd : Option Addr} {m0 m1 m2 m3 m5 : Option Value}
theorem le_pass (self : Value) : refuseLoop self "__setattr__" leTail = pure () := by kernel_rfl
theorem xcls_VE (lk : K.lookup C = some (excClassObj nm q C N bs [.ref CB, .type "ValueError", .type "Exception", .type "BaseException", .type "object"] true sn sub ab col dd m0 m1 m2 m3 m5 "ValueError.__new__"))
    (sa : findIn K (.ref C) "__setattr__" = some (some (.builtin "object.__setattr__"))) (kC : keepIn K (.ref C) = true) (exC : subIn K (.ref C) (.type "BaseException") = some true) (tyC : typeIn K (.ref C) = some (.type "type")) (sB : subIn K (.ref C) (.type "ValueError") = some true) :
    XI.XCls K C "ValueError" "ValueError.__new__" "ValueError.__init__" [.type "ValueError", .type "Exception", .type "BaseException", .type "object"] where
  F := F.excBase_ValueError
  X := kxs_ValueError
  cls := ⟨_, _, _, _, _, _, _, _, _, _, _, _, _, _, _, lk, fun X => by rw [List.contains_cons]; rfl, fun self => refsVE_pass self _ (show refsVE veTail = true by decide +kernel)⟩
  ob := by decide +kernel
  sa := sa
  kC := kC
  exC := exC
  tyC := tyC
  sB := sB
theorem xcls_LE (lk : K.lookup C = some (excClassObj nm q C N bs [.ref CB, .type "LookupError", .type "Exception", .type "BaseException", .type "object"] true sn sub ab col dd m0 m1 m2 m3 m5 "LookupError.__new__"))
    (sa : findIn K (.ref C) "__setattr__" = some (some (.builtin "object.__setattr__"))) (kC : keepIn K (.ref C) = true) (exC : subIn K (.ref C) (.type "BaseException") = some true) (tyC : typeIn K (.ref C) = some (.type "type")) (sB : subIn K (.ref C) (.type "LookupError") = some true) :
    XI.XCls K C "LookupError" "LookupError.__new__" "LookupError.__init__" [.type "LookupError", .type "Exception", .type "BaseException", .type "object"] where
  F := F.excBase_LookupError
  X := kxs_LookupError
  cls := ⟨_, _, _, _, _, _, _, _, _, _, _, _, _, _, _, lk, fun X => by rw [List.contains_cons]; rfl, fun self => by rw [refuseLoop_ref, refuseLoop_ref]; exact le_pass self⟩
  ob := by decide +kernel
  sa := sa
  kC := kC
  exC := exC
  tyC := tyC
  sB := sB
/-- the text of a class's __init__, by the statement itself -/
structure XText (P : Program) (st : Stmt) (ps : List Str) (pt : Bool) : Prop where
  ex : ∃ (p0 p1 p2 p3 p4 p5 : Pos) (msg : Str) (j : Nat) (rest : List Stmt), defBody st = .Expr (.Call (.Attribute (.Call (.Name "super" p0) [] [] p1) "__init__" p2) [.Constant (.str msg) j p3] [] p4) p5 :: rest ∧ (if pt = true then XI.PathL (defScope st) rest else XI.AsgL rest (ps.map fun p => (p, p))) ∧ (p2.endLine == p4.line) = true
  ar : ∃ ar, ((defArgs st).posonlyargs ++ (defArgs st).args).head? = some ar ∧ ar.arg = "self"
  kind : (defScope st).kind = .function
  co : (defScope st).isCoroutine = false
  gen : (defScope st).isGenerator = false
  sup : (defScope st).names.lookup ("super" : Str) = some .globalImplicit
  cls : (defScope st).names.lookup ("__class__" : Str) = some .free
  loc : ∀ x ∈ ("self" : Str) :: ps, (defScope st).names.lookup x = some .local
  noc : ∀ x ∈ (defScope st).names, x.2 ≠ .cell
  nodup : (("self" : Str) :: ps).Nodup
  ndbg : ∀ p ∈ ps, (p == ("__debug__" : Str)) = false
  few : ps.length ≤ 900
  pth : pt = true → ps = [("path" : Str)]
theorem xin_mk {st : Stmt} {ps : List Str} {pt : Bool} {qual : Str} {fI cc cda : Addr} {oc : Value} {od an : Option Addr} {osl : Array (Option Value)} {dV kV doc pm ct : Value} {ccl cl : Value} {cdd cld : Option Addr} {vs : Array Value} {ccs csl : Array (Option Value)} {file : Str} {tf : Tok} {initId : String}
    (T : XText P st ps pt) (iC : findIn K (.ref C) "__init__" = some (some (.ref fI))) (tI : typeIn K (.ref fI) = some (.type "function")) (noN : ∀ p ∈ ps, findIn K (.ref C) p = some none)
    (l : K.lookup fI = some ⟨oc, od, .func (fnX "__init__" qual (defArgs st) (defBody st) (defScope st) [("__class__", cc)] dV kV doc pm an (.ref cda) ct), osl⟩) (c : codeIn K (.ref cda) qual = true)
    (lc : K.lookup cda = some ⟨ccl, cdd, .fields vs, ccs⟩) (lv : vs[2]? = some (.str file tf)) (lf : ((P.main.file : Str) == file) = true) (le : K.lookup cc = some ⟨cl, cld, .cell (some (.ref C)), csl⟩)
    (hD : isClsIn K C = true) (hm : mroIn K C (.ref C) = some true) (hs : ks_superIn K C C "__init__" = some (some (.builtin initId))) (op : nsIn K cStatics "thirdparty.any" = some none) (nt : (P.main.scope.names.lookup ("super" : Str)).isSome = false)
    (hb : ∀ us : List Value, us.length = ps.length + 1 → bindArgs (fnX "__init__" qual (defArgs st) (defBody st) (defScope st) [("__class__", cc)] dV kV doc pm an (.ref cda) ct) ⟨us, []⟩ = pure ((("self" : Str) :: ps).zip us)) :
    XI.XIn P K C fI initId ps (ps.map fun p => (p, p)) pt where
  iC := iC
  tI := tI
  noN := fun p hp => by
    obtain ⟨y, hy, rfl⟩ := List.mem_map.mp hp
    exact noN y hy
  fn := by
    obtain ⟨p0, p1, p2, p3, p4, p5, msg, j, rest, e, h1, h2⟩ := T.ex
    obtain ⟨cd, hcd⟩ := Option.isSome_iff_exists.mp (show (clsIn K C).isSome = true from hD)
    rw [e] at l hb
    exact ⟨_, _, _, _, _, cc, cda, C, _, _, _, _, _, _, _, p0, p1, p2, p3, p4, p5, msg, j, rest, cd, l, c, h1, h2, T.ar, T.kind, T.co, T.gen, T.sup, T.cls, T.loc, T.noc, ⟨_, _, _, _, _, _, lc, lv, lf⟩, ⟨_, _, _, le⟩, hcd, hm, hs, hb⟩
  nodup := T.nodup
  mem := fun p hp => by
    obtain ⟨y, hy, rfl⟩ := List.mem_map.mp hp
    exact hy
  few := by rw [List.length_map]; exact T.few
  ndbg := fun p hp => by
    obtain ⟨y, hy, rfl⟩ := List.mem_map.mp hp
    exact T.ndbg y hy
  nda := by
    have := (List.nodup_cons.mp T.nodup).2
    rw [List.map_map, show ((fun x : Str × Str => x.1) ∘ fun p : Str => (p, p)) = id from rfl, List.map_id]
    exact this
  notop := nt
  pth := fun h => by
    have := T.pth h
    rw [this]
    exact ⟨rfl, rfl⟩
  opq := op
/-- super().__init__ is the base's -/
theorem super_mk {nm' q' : Str} {N' : Addr} {bs' bm : List Value} {sn' : List Str} {sub' : List Value} {ab' : Bool} {col' : Option Bool} {dd' : Option Addr} {n0 n1 n2 n3 n5 : Option Value} {newId newId' : String} {r : Option (Option Value)}
    (lk : K.lookup C = some (excClassObj nm q C N bs (.ref CB :: bm) true sn sub ab col dd m0 m1 m2 m3 m5 newId)) (lb : K.lookup CB = some (excClassObj nm' q' CB N' bs' bm true sn' sub' ab' col' dd' n0 n1 n2 n3 n5 newId')) (f : findIn K (.ref CB) "__init__" = r) :
    ks_superIn K C C "__init__" = r := by
  have hcl : clsIn K C = some { name := nm, bases := bs, mro := .ref C :: .ref CB :: bm, ns := N, qualname := q, hasDict := true, slotNames := sn, subclasses := sub, abstract := ab, collection := col, hasDel := false } := by unfold clsIn; rw [lk] <;> rfl
  unfold findIn at f
  dsimp only at f
  rw [lb] at f
  unfold ks_superIn
  rw [hcl]
  show alongIn K "__init__" (((Value.ref C :: .ref CB :: bm).dropWhile (· != .ref C)).drop 1) = r
  rw [show ((Value.ref C :: .ref CB :: bm).dropWhile (· != .ref C)).drop 1 = .ref CB :: bm by simp [List.dropWhile_cons]]
  exact f
/-- one class below another, by its mro -/
theorem kit_own {D : Addr} {bm : List Value} {newId : String} (lk : K.lookup C = some (excClassObj nm q C N bs bm true sn sub ab col dd m0 m1 m2 m3 m5 newId)) (hD : isClsIn K D = true) (tD : typeIn K (.ref D) = some (.type "type")) :
    kitOne K (.ref C) (.ref D) = some (decide (C = D) || bm.contains (.ref D)) := by
  have hcl : clsIn K C = some { name := nm, bases := bs, mro := .ref C :: bm, ns := N, qualname := q, hasDict := true, slotNames := sn, subclasses := sub, abstract := ab, collection := col, hasDel := false } := by unfold clsIn; rw [lk] <;> rfl
  have hm : mroIn K C (.ref D) = some ((Value.ref C :: bm).contains (.ref D)) := by
    unfold mroIn
    rw [hcl]
    rfl
  unfold kitOne
  by_cases h : C = D
  · subst h
    simp
  · have h1 : (Value.ref C == Value.ref D) = false := by simpa using h
    rw [h1, if_neg (by decide)]
    unfold kitCls
    dsimp only
    rw [show (clsIn K D).isSome = true from hD, tD]
    rw [if_pos (by simp)]
    show mroIn K C (.ref D) = _
    rw [hm, List.contains_cons]
    have h2 : (Value.ref D == Value.ref C) = false := by simpa using fun z => h z.symm
    rw [h2, decide_eq_false h]
theorem kit_blt {T : String} {bm : List Value} {newId : String} (lk : K.lookup C = some (excClassObj nm q C N bs bm true sn sub ab col dd m0 m1 m2 m3 m5 newId)) (hT : kitMeta T = true) :
    kitOne K (.ref C) (.type T) = some (bm.contains (.type T)) := by
  have hcl : clsIn K C = some { name := nm, bases := bs, mro := .ref C :: bm, ns := N, qualname := q, hasDict := true, slotNames := sn, subclasses := sub, abstract := ab, collection := col, hasDel := false } := by unfold clsIn; rw [lk] <;> rfl
  have hm : mroIn K C (.type T) = some ((Value.ref C :: bm).contains (.type T)) := by
    unfold mroIn
    rw [hcl]
    rfl
  unfold kitOne
  rw [show (Value.ref C == Value.type T) = false from rfl, if_neg (by decide)]
  unfold kitCls
  dsimp only
  rw [if_pos hT]
  show mroIn K C (.type T) = _
  rw [hm, List.contains_cons]
  rfl
end
end Bc

/-! Core Y: a generator def of which only the first item is asked. -/
namespace Bc
open PySem L2 PySem.Spec PyProof.Rows
section
variable {M : Model} {A : Around} {R : GenEnd} {Y : Protocol} {n : Nat} {s₀ : Shared} {c : Code} {fs : List Frame} {s : Shared} {env : Env} {K : Flow → Sem PySem.Fin} {J : Value → Sem PySem.Fin} {gd : Bool → Bool} {lv : List Value → List Value}
theorem og_if {test : Expr} {body orelse : List Stmt} {pos : Pos}
    (h : wpAny M (A.over c fs) (isTrue test env (eval test env)) (fun b s' => Seg M A R Y n s₀ c ((if b = true then execs body env else execs orelse env).wrap K J gd lv) fs s') (fun x s' => Seg M A R Y n s₀ c (J x) fs s') s) :
    Seg M A R Y n s₀ c ((exec (.If test body orelse pos) env).wrap K J gd lv) fs s := by
  rw [exec_If]
  refine seg_at ?_
  show Seg M A R Y n s₀ c (((isTrue test env (eval test env)) >>= fun b => if b = true then execs body env else execs orelse env).wrap K J gd lv) fs s
  rw [Sem.bind_eq_wrap', Sem.wrap_wrap]
  refine seg_wrap (wpAny_mono h (fun b s' hb => ?_) fun _ _ x => x)
  cases b <;> exact hb
theorem og_For {target iter : Expr} {body orelse : List Stmt} {pos : Pos}
    (h : wpAny M (A.over c fs) (eval iter env) (fun x s₁ => wpAny M (A.over c fs) (pyIter x) (fun it s₂ => ∀ p, Seg M A R Y n s₀ (.forLoop target it body orelse env) (M.den (.forLoop target it body orelse env))
      (.ret (fun r => ((match r with | .ok f => (.pure f : Sem Flow) | .error e => .raise e).onRaise fun (x : Value) => do
        if (← field x 1) == Value.none then unsupported "frame.own-activation:exception-without-traceback"
        setFlight x env.frame).wrap K J gd lv) none (gd false) (lv []) c p [] :: fs) s₂)
        (fun x s' => Seg M A R Y n s₀ c (J x) fs s') s₁) (fun x s' => Seg M A R Y n s₀ c (J x) fs s') s)
    (hs : ∀ x, foldedSetIterable iter env x = pure x) :
    Seg M A R Y n s₀ c ((exec (.For target iter body orelse pos) env).wrap K J gd lv) fs s := by
  rw [exec_For]
  refine seg_at ?_
  show Seg M A R Y n s₀ c ((eval iter env >>= fun x0 => foldedSetIterable iter env x0 >>= fun x => standAt iter.pos >>= fun _ => holding [x] (pyIter x) >>= fun it => runOwn (.forLoop target it body orelse env) env).wrap K J gd lv) fs s
  rw [Sem.bind_eq_wrap', Sem.wrap_wrap]
  refine seg_wrap (wpAny_mono h (fun x s1 h1 => ?_) fun _ _ x => x)
  rw [hs x]
  refine seg_at ?_
  show Seg M A R Y n s₀ c ((holding [x] (pyIter x) >>= fun it => runOwn (.forLoop target it body orelse env) env).wrap K J gd lv) fs s1
  rw [Sem.bind_eq_wrap', Sem.wrap_wrap]
  refine seg_wrap (wpAny_holding (wpAny_mono h1 (fun it s2 h2 => ?_) fun _ _ x => x))
  exact seg_call h2
end
section
variable {prog : Program} {w : World} {A : Around} {R : GenEnd} {Y : Protocol} {n : Nat} {s₀ : Shared} {fs : List Frame} {s : Shared} {env : Env} {target : Expr} {it : Value} {body : List Stmt}
theorem og_forLoop
    (h : wpAny (model prog w) (A.over (.forLoop target it body [] env) fs) (pyNext it) (fun r s1 => match r with
      | none => Seg (model prog w) A R Y n s₀ (.block [] env) ((model prog w).den (.block [] env)) fs s1
      | some v => wpAny (model prog w) (A.over (.forLoop target it body [] env) fs) (letOwnedTupleGo target it v) (fun _ s1' => wpAny (model prog w) (A.over (.forLoop target it body [] env) fs) (assign target env v) (fun _ s2 =>
          Seg (model prog w) A R Y n s₀ (.forLoop target it body [] env) ((execs body env).wrap (fun f => match f with
            | .next | .cont => .pure (.again (.forLoop target it body [] env))
            | .brk => .pure (.done .next)
            | .ret v => .pure (.done (.ret v))) (fun e => (do noteFrame e env; theTreesLotGoes e : Sem Unit).wrap (fun _ => .raise e) .raise id id) id id) fs s2) (fun _ _ => False) s1') (fun _ _ => False) s1) (fun _ _ => False) s) :
    Seg (model prog w) A R Y n s₀ (.forLoop target it body [] env) ((model prog w).den (.forLoop target it body [] env)) fs s := by
  show Seg _ A R Y n s₀ _ ((forTurn target it body [] env).onRaise (fun x => do noteFrame x env; theTreesLotGoes x)) fs s
  rw [Sem.onRaise_eq_wrap]
  unfold forTurn
  refine seg_at ?_
  show Seg _ A R Y n s₀ _ (((pyNext it).onRaise (fun _ => standAt { target.pos with line := 0 }) >>= fun r => (match r with
    | none => again (.block [] env)
    | some v => letOwnedTupleGo target it v >>= fun _ => assign target env v >>= fun _ => execs body env >>= fun f => (match f with
      | .next | .cont => again (.forLoop target it body [] env)
      | .brk => pure (.done .next)
      | .ret v => pure (.done (.ret v)) : Sem PySem.Fin) : Sem PySem.Fin)).wrap .pure (fun x => (do noteFrame x env; theTreesLotGoes x : Sem Unit) >>= fun _ => .raise x) id id) fs s
  rw [Sem.bind_eq_wrap', Sem.wrap_wrap]
  refine seg_wrap (wpAny_onRaise (wpAny_mono h (fun r s1 h1 => ?_) fun _ _ z => z.elim))
  cases r with
  | none => exact seg_again rfl h1
  | some v =>
    show Seg _ A R Y n s₀ _ ((letOwnedTupleGo target it v >>= fun _ => assign target env v >>= fun _ => execs body env >>= fun f => (match f with
      | .next | .cont => again (.forLoop target it body [] env)
      | .brk => pure (.done .next)
      | .ret v => pure (.done (.ret v)) : Sem PySem.Fin)).wrap .pure (fun x => (do noteFrame x env; theTreesLotGoes x : Sem Unit) >>= fun _ => .raise x) id id) fs s1
    rw [Sem.bind_eq_wrap', Sem.wrap_wrap]
    refine seg_wrap (wpAny_mono h1 (fun _ s1' h1' => ?_) fun _ _ z => z.elim)
    show Seg _ A R Y n s₀ _ ((assign target env v >>= fun _ => execs body env >>= fun f => (match f with
      | .next | .cont => again (.forLoop target it body [] env)
      | .brk => pure (.done .next)
      | .ret v => pure (.done (.ret v)) : Sem PySem.Fin)).wrap .pure (fun x => (do noteFrame x env; theTreesLotGoes x : Sem Unit) >>= fun _ => .raise x) id id) fs s1'
    rw [Sem.bind_eq_wrap', Sem.wrap_wrap]
    refine seg_wrap (wpAny_mono h1' (fun _ s2 h2 => ?_) fun _ _ z => z.elim)
    show Seg _ A R Y n s₀ _ ((execs body env >>= fun f => (match f with
      | .next | .cont => again (.forLoop target it body [] env)
      | .brk => pure (.done .next)
      | .ret v => pure (.done (.ret v)) : Sem PySem.Fin)).wrap .pure (fun x => (do noteFrame x env; theTreesLotGoes x : Sem Unit) >>= fun _ => .raise x) id id) fs s2
    rw [Sem.bind_eq_wrap', Sem.wrap_wrap]
    rw [Sem.wrap_congr (execs body env) _ _ (K' := fun f => match f with
            | .next | .cont => .pure (.again (.forLoop target it body [] env))
            | .brk => .pure (.done .next)
            | .ret v => .pure (.done (.ret v))) (H' := (fun e => (do noteFrame e env; theTreesLotGoes e : Sem Unit).wrap (fun _ => .raise e) .raise id id))
        (fun f => by cases f <;> rfl) (fun e => by first | exact Sem.bind_eq_wrap _ _ | (rw [Sem.bind_eq_wrap']; rfl))]
    exact h2
end
/-! ### statements up to the first item -/
def OP (X : Cx) (pins : List (Addr × Obj)) (D : Ends) (f : Flow) (s' : Shared) : Prop :=
  match f with
  | .next => ∃ σ' H', Inv X pins σ' H' s' ∧ D.nx σ' H'
  | .brk => ∃ σ' H', Inv X pins σ' H' s' ∧ D.bk σ' H'
  | .cont => ∃ σ' H', Inv X pins σ' H' s' ∧ D.ct σ' H'
  | .ret _ => False
structure OG (X : Cx) (st : Stmt) (t : TS) : Prop where
  run : ∀ (A : Around) (R : GenEnd) (Y : Protocol) (n : Nat) (s₀ : Shared) (c : Code) (fs : List Frame) (K : Flow → Sem PySem.Fin) (J : Value → Sem PySem.Fin) (gd : Bool → Bool) (lv : List Value → List Value) (s : Shared) (pins : List (Addr × Obj)) (σ : L2.St) (H : Hp) (D : Ends),
    A.over c fs = X.A → splitAtGen fs = none → fs.any Frame.guarded = false → gd false = false → (∀ x v s' pins σ' H' kap, RelV x v → Inv X pins σ' H' s' → D.rt x H' → Y n s₀ v s' kap) →
    (∀ f s', OP X pins D f s' → Seg (model X.prog X.w) A R Y (n + 1) s₀ c (K f) fs s') → Inv X pins σ H s → t D σ H → Seg (model X.prog X.w) A R Y (n + 1) s₀ c ((exec st X.env).wrap K J gd lv) fs s
structure OGs (X : Cx) (st : List Stmt) (t : TS) : Prop where
  run : ∀ (A : Around) (R : GenEnd) (Y : Protocol) (n : Nat) (s₀ : Shared) (c : Code) (fs : List Frame) (K : Flow → Sem PySem.Fin) (J : Value → Sem PySem.Fin) (gd : Bool → Bool) (lv : List Value → List Value) (s : Shared) (pins : List (Addr × Obj)) (σ : L2.St) (H : Hp) (D : Ends),
    A.over c fs = X.A → splitAtGen fs = none → fs.any Frame.guarded = false → gd false = false → (∀ x v s' pins σ' H' kap, RelV x v → Inv X pins σ' H' s' → D.rt x H' → Y n s₀ v s' kap) →
    (∀ f s', OP X pins D f s' → Seg (model X.prog X.w) A R Y (n + 1) s₀ c (K f) fs s') → Inv X pins σ H s → t D σ H → Seg (model X.prog X.w) A R Y (n + 1) s₀ c ((execs st X.env).wrap K J gd lv) fs s
section
variable {X : Cx} {st : Stmt} {rest : List Stmt} {t u : TS} {pos : Pos}
theorem og_nil : OGs X [] tNext := ⟨fun A R Y n s₀ c fs K J gd lv s pins σ H D ho hsp hgu hgd hY hK I h => seg_execs_nil (hK .next s ⟨σ, H, I, h⟩)⟩
theorem og_cons (a : OG X st t) (b : OGs X rest u) : OGs X (st :: rest) (tSeq t u) := by
  refine ⟨fun A R Y n s₀ c fs K J gd lv s pins σ H D ho hsp hgu hgd hY hK I h => ?_⟩
  refine seg_execs_cons ?_
  refine a.run A R Y n s₀ c fs _ J gd lv s pins σ H { D with nx := fun σ' H' => u D σ' H' } ho hsp hgu hgd hY (fun f s' hs => ?_) I h
  cases f with
  | next =>
    obtain ⟨σ', H', I', q⟩ := hs
    exact b.run A R Y n s₀ c fs K J gd lv s' pins σ' H' D ho hsp hgu hgd hY hK I' q
  | brk => exact hK .brk s' hs
  | cont => exact hK .cont s' hs
  | ret v => exact hs.elim
theorem og_one (a : OG X st t) : OGs X [st] t := by
  refine ⟨fun A R Y n s₀ c fs K J gd lv s pins σ H D ho hsp hgu hgd hY hK I h => ?_⟩
  refine seg_execs_cons ?_
  refine a.run A R Y n s₀ c fs _ J gd lv s pins σ H D ho hsp hgu hgd hY (fun f s' hs => ?_) I h
  cases f with
  | next => exact seg_execs_nil (hK .next s' hs)
  | brk => exact hK .brk s' hs
  | cont => exact hK .cont s' hs
  | ret v => exact hs.elim
/-- a statement that hands out nothing and leaves nothing -/
def tPl (t : TS) : TS := fun D σ H => t { D with rt := fun _ _ => False } σ H
theorem og_ps (hx : ∀ e s, ¬ X.xe e s) (h : PS X st t) : OG X st (tPl t) := by
  refine ⟨fun A R Y n s₀ c fs K J gd lv s pins σ H D ho hsp hgu hgd hY hK I ht => ?_⟩
  refine seg_wrap ?_
  rw [ho]
  refine wpAny_mono (h.run pins s σ H _ I ht) (fun f s' hs => hK f s' ?_) fun x s' z => (hx x s' z).elim
  cases f with
  | next => exact hs
  | brk => exact hs
  | cont => exact hs
  | ret v =>
    obtain ⟨_, _, _, _, _, z⟩ := hs
    exact z
theorem og_if' (hx : ∀ e s, ¬ X.xe e s) {test : Expr} {body orelse : List Stmt} {tc : TT} (hc : PT X test tc) (ha : OGs X body t) (hb : OGs X orelse u) : OG X (.If test body orelse pos) (tIfS tc t u) := by
  refine ⟨fun A R Y n s₀ c fs K J gd lv s pins σ H D ho hsp hgu hgd hY hK I h => ?_⟩
  refine og_if ?_
  rw [ho]
  refine wpAny_mono (hc.run pins s σ H _ I h) (fun b s' ⟨H1, I1, q1⟩ => ?_) fun x s' z => (hx x s' z).elim
  cases b with
  | true => exact ha.run A R Y n s₀ c fs K J gd lv s' pins σ H1 D ho hsp hgu hgd hY hK I1 q1
  | false => exact hb.run A R Y n s₀ c fs K J gd lv s' pins σ H1 D ho hsp hgu hgd hY hK I1 q1
theorem og_yield (hx : ∀ e s, ¬ X.xe e s) {e : Expr} {yp : Pos} {te : TE} (he : PE X e te) (hco : X.env.scope.isCoroutine = false := by rfl) (hi : interactive X.env = false := by rfl) : OG X (.Expr (.Yield (some e) yp) pos) (tRet te) := by
  refine ⟨fun A R Y n s₀ c fs K J gd lv s pins σ H D ho hsp hgu hgd hY hK I h => ?_⟩
  refine seg_Expr_Yield hsp hgd hgu ?_ hco hi
  rw [ho]
  refine wpAny_mono (he.run pins s σ H _ I h) (fun v s' ⟨x, H1, I1, rv, q⟩ => fun kap _ => hY x v s' pins σ H1 kap rv I1 q) fun x s' z => (hx x s' z).elim
theorem og_for (hx : ∀ e s, ¬ X.xe e s) (hc : X.calm = true) {tg iter : Expr} {body : List Stmt} {wi : TI} {g : TG} {tb : TS} (hi : PI X tg iter wi) (hg : PG X tg g) (hb : OGs X body tb)
    (hs : ∀ x, foldedSetIterable iter X.env x = pure x := by intro _; rfl) : OG X (.For tg iter body [] pos) (tFor wi g tb) := by
  refine ⟨fun A R Y n s₀ c fs K JJ gd lv s pins σ H D ho hsp hgu hgd hY hK I h => ?_⟩
  refine og_For ?_ hs
  rw [ho]
  refine wpAny_mono (hi.run pins s σ H _ I h) (fun v s1 h1 => wpAny_mono h1 (fun itv s2 h2 => ?_) fun e s' z => (hx e s' z).elim) fun e s' z => (hx e s' z).elim
  intro p
  obtain ⟨it, fp, tn, J, H2, e, I2, T, st2, f2, W, ⟨m0, w0⟩, turn⟩ := h2
  subst e
  have stat : ∀ {H' : Hp}, (∀ b ∈ fp, H' b = Option.none) → ∀ b ∈ fp, FpOk X pins H' b := fun hn b hb => ⟨hn b hb, (f2 b hb).2⟩
  have fr2 : ∀ b ∈ fp, H2 b = Option.none := fun b hb => (f2 b hb).1
  clear h1 I h
  have over' : ∀ (k : Result → Sem PySem.Fin), A.over (.forLoop tg (.ref it) body [] X.env) (.ret k Option.none (gd false) (lv []) c p [] :: fs) = X.A := fun k => (GenW.over_loop rfl rfl).trans ho
  have loop : ∀ (m i : Nat) (s3 : Shared) (σ3 : L2.St) (H3 : Hp), Inv X pins σ3 H3 s3 → tn i s3.heap → (∀ b ∈ fp, H3 b = Option.none) → W i m σ3 H3 →
      Seg (model X.prog X.w) A R Y (n + 1) s₀ (.forLoop tg (.ref it) body [] X.env) ((model X.prog X.w).den (.forLoop tg (.ref it) body [] X.env))
        (.ret (fun r => ((match r with | .ok f => (.pure f : Sem Flow) | .error e => .raise e).onRaise fun (x : Value) => do
        if (← field x 1) == Value.none then unsupported "frame.own-activation:exception-without-traceback"
        setFlight x X.env.frame).wrap K JJ gd lv) Option.none (gd false) (lv []) c p [] :: fs) s3 := by
    intro m
    induction m using Nat.strongRecOn with
    | ind m ih =>
      intro i s3 σ3 H3 I3 st3 fr3 w3
      refine og_forLoop ?_
      rw [over']
      rcases turn i m σ3 H3 w3 with ⟨stop, qn⟩ | ⟨go, N, hN, step⟩
      · refine wpAny_mono (T.done X rfl rfl rfl hc i pins s3 σ3 H3 (fun _ _ => False) I3 (stat fr3) st3 stop) (fun r s4 ⟨hr, I4⟩ => ?_) fun _ _ z => z
        subst hr
        exact seg_leaf (.ok .next) (hK .next s4 ⟨σ3, H3, I4, qn⟩)
      · refine wpAny_mono (T.item X rfl rfl rfl hc i pins s3 σ3 H3 (fun _ _ => False) I3 (stat fr3) st3 go) (fun r s4 ⟨u, hr, h4⟩ => ?_) fun _ _ z => z
        subst hr
        refine wpAny_mono h4 (fun _ s5 ⟨x, H5, I5, r5, y5, st5, fr5⟩ => ?_) fun _ _ z => z
        have I5' := I5.pinned (stat fr5) (T.obj _ _ st5)
        refine wpAny_mono (hg.run _ s5 σ3 H5 x u _ I5' r5 (step x H5 y5)) (fun _ s6 ⟨σ6, H6, I6, q6⟩ => ?_) fun e s' z => (hx e s' z).elim
        have again : ∀ {σ7 : L2.St} {H7 : Hp} {s7 : Shared}, Inv X (pins ++ pinsAt fp s5.heap) σ7 H7 s7 → N σ7 H7 → Seg (model X.prog X.w) A R Y (n + 1) s₀ (.forLoop tg (.ref it) body [] X.env) ((model X.prog X.w).den (.forLoop tg (.ref it) body [] X.env))
            (.ret (fun r => ((match r with | .ok f => (.pure f : Sem Flow) | .error e => .raise e).onRaise fun (x : Value) => do
            if (← field x 1) == Value.none then unsupported "frame.own-activation:exception-without-traceback"
            setFlight x X.env.frame).wrap K JJ gd lv) Option.none (gd false) (lv []) c p [] :: fs) s7 := fun {σ7 H7 s7} I7 n7 => by
          obtain ⟨m', hm, w7⟩ := hN σ7 H7 n7
          refine ih m' hm (i + 1) s7 σ7 H7 I7.unpinned (T.keep _ _ _ st5 fun b hb o e => (I7.pin (b, o) (List.mem_append_right _ (List.mem_append_right _ (mem_pinsAt hb e)))).1) (fun b hb => ?_) w7
          obtain ⟨o, e, d⟩ := T.obj _ _ st5 b hb
          exact (I7.pin (b, o) (List.mem_append_right _ (List.mem_append_right _ (mem_pinsAt hb e)))).2.1
        refine hb.run A R Y n s₀ _ _ _ _ id id s6 _ σ6 H6 { D with nx := N, ct := N, bk := D.nx } (over' _) (by show (splitAtGen fs).map _ = Option.none; rw [hsp]; rfl) (by show (gd false || fs.any Frame.guarded) = false; rw [hgd, hgu]; rfl) rfl hY (fun f s7 q7 => ?_) I6 q6
        cases f with
        | next => obtain ⟨σ7, H7, I7, n7⟩ := q7; exact seg_again rfl (again I7 n7)
        | cont => obtain ⟨σ7, H7, I7, n7⟩ := q7; exact seg_again rfl (again I7 n7)
        | brk => obtain ⟨σ7, H7, I7, q7⟩ := q7; exact seg_leaf (.ok .next) (hK .next s7 ⟨σ7, H7, I7.unpinned, q7⟩)
        | ret v => exact q7.elim
  exact loop m0 0 s2 σ H2 I2 st2 fr2 w0
end
end Bc

/-! Core Z: the promise of a generator def of which only the first item is asked; the loop that asks. -/
namespace Bc
open PySem L2 PySem.Spec PyProof.Rows
abbrev SpF := List V → Hp → VK → (Hp → Prop) → Prop
/-- it ends without an item -/
def FEnd (P : Program) (w : World) (outer : List Env) (H : Hp) (s : Shared) (Qn : Hp → Prop) : GenEnd := fun _ _ r t =>
  (r = .ok (.ret .none) ∨ r = .ok .next) ∧ ∃ H', t.os = s.os ∧ AllBare t.gens ∧ Un (frs outer) [] H H' s.heap t.heap ∧ HOk P w H' t.heap ∧ Qn H'
/-- its first item -/
def FItem (P : Program) (w : World) (outer : List Env) (H : Hp) (s : Shared) (Qy : VK) : Protocol := fun _ _ v t _ =>
  ∃ x H', RelV x v ∧ t.os = s.os ∧ AllBare t.gens ∧ Un (frs outer) [] H H' s.heap t.heap ∧ HOk P w H' t.heap ∧ Qy x H'
def FMade (P : Program) (w : World) (k : Nat) (outer : List Env) (H : Hp) (s : Shared) (Qy : VK) (Qn : Hp → Prop) (u : Value) (t : Shared) : Prop :=
  ∃ (a : Addr) (g : Nat) (c : Code), u = .ref a ∧ t.heap.IsGen a g ∧ t.gens[g]? = some (.fresh c) ∧ t.os = s.os ∧ AllBare t.gens ∧ t.heap.NoLimit ∧ (∀ b o, s.heap.get? b = some o → t.heap.get? b = some o) ∧
    ∀ (A : Around) (n : Nat) (z : Shared), Room k A → A.frames = some outer → (∀ b o, t.heap.get? b = some o → z.heap.get? b = some o) → z.os = s.os → AllBare z.gens →
      Seg (model P w) A (FEnd P w outer H s Qn) (FItem P w outer H s Qy) (n + 1) z c ((model P w).den c) [] z
structure FFn (P : Program) (w : World) (K : PySem.W.Frag) (mg : Str → Option Value) (base : Heap) (k : Nat) (f : Addr) (fd : FuncData) (ps : List Str) (sp : SpF) : Prop where
  len : ∀ vs H Qy Qn, sp vs H Qy Qn → vs.length = ps.length
  run : ∀ (A : Around) (outer : List Env) (s : Shared) (H : Hp) (args : Args) (us : List Value) (vs : List V) (Qy : VK) (Qn : Hp → Prop), Room k A → Env0 P w K mg base A outer s H → BindsTo s fd args (ps.zip us) → Vals vs us → sp vs H Qy Qn →
    codeAny (model P w) A (.call (.ref f) args) (fun r t => match r with | .ok (.ret u) => FMade P w k outer H s Qy Qn u t | _ => False) s
/-- the context of such a def's body -/
def fcx (P : Program) (w : World) (K : PySem.W.Frag) (mg : Str → Option Value) (base : Heap) (N : List Str) (qual : Str) (scope : Scope) (f : Addr) (cd : Value) (A : Around) (outer : List Env) (s : Shared) (H : Hp) : Cx :=
  { gcxOf P w K mg base N qual scope f cd A outer s H E0 [] with xe := fun _ _ => False }
theorem fcx_inv {P : Program} {w : World} {K : PySem.W.Frag} {mg : Str → Option Value} {base : Heap} {N : List Str} {qual : Str} {scope : Scope} {f : Addr} {cd : Value} {A : Around} {outer : List Env} {s t : Shared} {H H' : Hp} {pins : List (Addr × Obj)} {σ : L2.St}
    (I : Inv (gcxOf P w K mg base N qual scope f cd A outer s H E0 []) pins σ H' t) : Inv (fcx P w K mg base N qual scope f cd A outer s H) pins σ H' t :=
  ⟨⟨I.ok.mod, I.ok.kind, I.ok.glob, I.ok.blt, I.ok.above, I.ok.inj, I.ok.has, I.ok.cab, I.ok.hd, I.ok.frames, I.ok.stk, I.ok.exf, I.ok.bs, I.ok.bsz, I.ok.noex, I.ok.exfs, I.ok.funs, I.ok.frf⟩, I.os, I.bare, I.base, I.loc, I.cell, I.free, I.freeC, I.pin, I.hok, I.len⟩
section
variable {P : Program} {w : World} {K : PySem.W.Frag} {mg : Str → Option Value} {base : Heap} {k : Nat}
theorem ffn_of {x qual : Str} {st : Stmt} {f : Addr} {fd : FuncData} {N ps : List Str} {sp : SpF} (Fu : Fun K x qual st f fd) (S : GScope N ps (defScope st)) (len : ∀ vs H Qy Qn, sp vs H Qy Qn → vs.length = ps.length)
    (hbody : ∀ (cdv : Value) (A : Around) (outer : List Env) (s : Shared) (H : Hp) (vs : List V) (Qy : VK) (Qn : Hp → Prop), Room k (A.deeper (envOfC qual (defScope st) s.heap.objs.size f cdv)) → sp vs H Qy Qn →
      ∃ t, OGs (fcx P w K mg base N qual (defScope st) f cdv A outer s H) (defBody st) t ∧ t { nx := fun _ H' => Qn H', rt := Qy } (L2.start N vs) H) : FFn P w K mg base (k + 1) f fd ps sp := by
  obtain ⟨oc, od, kV, doc, pm, an, cdv, ct, osl, rfl, lk, hcd⟩ := Fu.ex
  refine ⟨len, fun A outer s H args us vs Qy Qn rm env0 hb rel hsp => ?_⟩
  have nvs := len _ _ _ _ hsp
  have inK : K.In s.heap := env0.mod.kin.keeps fun b o z => (env0.bs b o z).1
  have lim := env0.mod.nolimit.keeps fun b o z => (env0.bs b o z).1
  have kinds : ∀ y ∈ ps.zip us, (defScope st).names.lookup y.1 = some .local ∨ ((defScope st).names.lookup y.1 = some .cell ∧ ((cellsFrom (s.heap.objs.size + 1) (defScope st).names []).lookup y.1).isSome = true) := by
    rintro ⟨n, v⟩ hy
    cases S.par n (List.of_mem_zip hy).1 with
    | inl q => exact Or.inl q
    | inr q => exact Or.inr ⟨q, PySem.W.cellsFrom_some _ _ _ (Or.inl q)⟩
  refine codeAny_call_generator rm.depth (inK _ _ lk) rfl S.co S.gen rfl (PySem.W.codeRec_of inK hcd) (hb _ _ _ _ ?_)
  refine wpAny_newFunctionEnv_cells S.kind kinds ?_
  intro env ee t1 ic
  subst ee
  have lim1 : t1.heap.NoLimit := lim.keeps ic.toInCall.keep
  refine ⟨lim1, ?_⟩
  obtain ⟨h1, tk, et, hk1⟩ := ic.done
  have os1 : t1.os = s.os := by rw [et]
  have gen1 : t1.gens = s.gens := by rw [et]
  refine ⟨t1.heap.objs.size, t1.gens.size, _, rfl, ⟨_, _, _, Heap.get?_push_size _ rfl, rfl, rfl, rfl⟩, Array.getElem?_push_size .., os1, ?_, lim1.keeps fun b o e => Heap.get?_push_of_some _ e, fun b o e => Heap.get?_push_of_some _ (ic.toInCall.keep b o e), ?_⟩
  · exact AllBare.push (by rw [gen1]; exact env0.bare) rfl
  intro Aw n z rmw frw keep osz bz
  have envw : Env0 P w K mg base Aw outer s H := ⟨frw, env0.mod, env0.bs, env0.bsz, env0.funs, env0.frf, env0.hok, env0.bare⟩
  obtain ⟨t, ht, hq⟩ := hbody cdv Aw outer s H vs Qy Qn (rmw.deeper _) hsp
  have I1 : Inv (gcxOf P w K mg base N qual (defScope st) f cdv Aw outer s H E0 []) [] (L2.start N vs) H t1 := inv_startG S rmw.hd envw nvs rel ic
  have kz : ∀ b o, t1.heap.get? b = some o → z.heap.get? b = some o := fun b o e => keep b o (Heap.get?_push_of_some _ e)
  have I2 : Inv (gcxOf P w K mg base N qual (defScope st) f cdv Aw outer s H E0 []) [] (L2.start N vs) H z := I1.call' (ch := []) (osz.trans os1.symm) (Un.kept kz) (I1.hok.kept kz) bz fun b q => by simp at q
  have I3 := fcx_inv I2
  refine seg_func ?_
  refine ht.run Aw _ _ n z _ [] _ _ id id z [] (L2.start N vs) H _ GenW.over_func rfl rfl rfl ?_ ?_ I3 hq
  · rintro x' v' s' pins σ' H' kap rv J q
    exact ⟨x', H', rv, J.os, J.bare, J.base, J.hok, q⟩
  · intro fl s' hs
    cases fl with
    | next =>
      obtain ⟨σ', H', J, q⟩ := hs
      exact seg_end (.ok (.ret .none)) ⟨.inl rfl, H', J.os, J.bare, J.base, J.hok, q⟩
    | brk => obtain ⟨_, _, _, q⟩ := hs; exact q.elim
    | cont => obtain ⟨_, _, _, q⟩ := hs; exact q.elim
    | ret u => exact hs.elim
end
/-! ### the loop that asks for the first item alone -/
structure FnTF (P : Program) (w : World) (K : PySem.W.Frag) (mg : Str → Option Value) (base : Heap) (k : Nat) (x : Str) (ps : List Str) (sp : SpF) : Prop where
  ex : ∃ f fd, mg x = some (.ref f) ∧ PySem.W.keepIn K (.ref f) = true ∧ Binds K fd ps [] ∧ FFn P w K mg base k f fd ps sp
def tForF (sp : SpF) (g : TG) (ta : TA) (tb : TS) : TS := fun D σ H => ta σ H fun vs H1 => sp vs H1 (fun x H2 => g x σ H2 fun σ3 H3 => tb { D with nx := fun _ _ => False, ct := fun _ _ => False, bk := D.nx } σ3 H3) (fun H2 => D.nx σ H2)
section
variable {X : Cx} {k : Nat} {x v : Str} {ps : List Str} {sp : SpF} {e : Expr} {es : List Expr} {ta : TA} {p pv cpos pos : Pos} {body : List Stmt} {g : TG} {tb : TS}
theorem ps_forF (G : FnTF X.prog X.w X.K X.mg X.base k x ps sp) (hr : Room (k + 1) X.A) (hp : PassesOwn (model X.prog X.w) X.A X.env X.xe) (ha : PA X (e :: es) ta) (hg : PG X (.Name v pv) g) (hb : PSs X body tb) (hgl : Gl X x := by rfl) (hdb : (x == ("__debug__" : Str)) = false := by decide)
    (he : starEach (e :: es) X.env = (false, eval e X.env) :: starEach es X.env := by rfl) (hpl : (backTo cpos (starEach es X.env)).any (·.1) = false := by rfl) (hs : ∀ z, foldedSetIterable (.Call (.Name x p) (e :: es) [] cpos) X.env z = pure z := by intro _; rfl) :
    PS X (.For (.Name v pv) (.Call (.Name x p) (e :: es) [] cpos) body [] pos) (tForF sp g ta tb) := by
  obtain ⟨f, fd, g1, g2, g3, g4⟩ := G.ex
  refine ⟨fun pins s σ H D I h => ?_⟩
  refine wpAny_For (Q := SP X pins D) ?_ hs
  refine wpAny_Call_Name_kw (ld_glob I hgl g1 ?_ hdb)
  refine PySem.W.callWith_K (h₀ := X.base) I.ok.mod.kin g2 (thn (ha.run cpos pins s σ H _ I h) fun us s1 hv => ?_) he hpl
  obtain ⟨vs, H1, I1, r1, q⟩ := hv
  refine ⟨I1.kIn, ?_⟩
  have hl : (us ++ []).length = ps.length := by rw [List.append_nil, ← r1.length]; exact g4.len _ _ _ _ q
  have bt := g3 s1 us I1.kIn hl
  rw [List.append_nil] at bt
  refine wpAny_call (codeAny_mono (g4.run X.A X.stack s1 H1 ⟨us, []⟩ us vs _ _ (hr.mono (Nat.le_succ k)) I1.env0 bt r1 q) fun res s2 hq => ?_)
  cases res with
  | error z => exact hq.elim
  | ok fl =>
    cases fl with
    | next => exact hq.elim
    | brk => exact hq.elim
    | cont => exact hq.elim
    | ret u =>
      obtain ⟨a, gn, c, rfl, isg, hgs, hos, hbr, hlm, hkp, wake⟩ := hq
      refine wpAny_pyIter_gen isg ?_
      refine codeAny_forLoop_any (fun n s' => n = 0 ∧ s' = s2) (fun n s3 hn => ?_) 0 ⟨rfl, rfl⟩
      obtain ⟨_, rfl⟩ := hn
      refine wpAny_passesOwn hp ?_
      have rin : Room k X.A.in1 := hr.in1
      have sg := wake X.A.in1 0 (s3.setGen gn .running) rin I1.ok.frames (fun _ _ e => e) hos (allBare_setGen hbr rfl)
      refine next_genG (gs := .fresh c) (n := 1) (F := fun _ _ t => ∃ H', t.os = s1.os ∧ AllBare t.gens ∧ Un (frs X.stack) [] H1 H' s1.heap t.heap ∧ HOk X.prog X.w H' t.heap ∧ D.nx σ H') (Er := fun _ _ => False) (Y := FItem X.prog X.w X.stack H1 s1 (fun x H2 => g x σ H2 fun σ3 H3 => tb { D with nx := fun _ _ => False, ct := fun _ _ => False, bk := D.nx } σ3 H3))
        hr.hd hlm (by have := hr.dp; omega) isg hgs ⟨rfl, seg_imp (R := FEnd X.prog X.w X.stack H1 s1 (fun H2 => D.nx σ H2)) (Y := FItem X.prog X.w X.stack H1 s1 (fun x H2 => g x σ H2 fun σ3 H3 => tb { D with nx := fun _ _ => False, ct := fun _ _ => False, bk := D.nx } σ3 H3)) (fun _ _ r t z => Or.inl z) (fun _ _ _ _ _ _ _ z => z) 1 sg⟩ ?_ ?_ (fun _ _ z => z.elim)
      · rintro y t gs' hbg ⟨x2, H2, rv, o1, o2, o3, o4, q2⟩
        have J : Inv X pins σ H2 (t.setGen gn gs') := I1.call' (s' := t.setGen gn gs') (ch := []) o1 o3 o4 (allBare_setGen o2 hbg) fun b z => by simp at z
        dsimp only
        unfold letOwnedTupleGo
        refine wpAny_pure ?_
        refine wpAny_passesOwn hp (thn (hg.run pins _ σ H2 x2 y _ J rv q2) fun _ s6 ⟨σ6, H6, I6, q6⟩ => ?_)
        refine wpAny_passesOwn hp (thn (hb.run pins s6 σ6 H6 _ I6 q6) fun fl s7 q7 => ?_)
        cases fl with
        | next => obtain ⟨_, _, _, z⟩ := q7; exact z.elim
        | cont => obtain ⟨_, _, _, z⟩ := q7; exact z.elim
        | brk => obtain ⟨σ7, H7, I7, z⟩ := q7; exact ⟨σ7, H7, I7, z⟩
        | ret z => exact q7
      · rintro t ⟨H2, o1, o2, o3, o4, q2⟩ h' kp'
        have J : Inv X pins σ H2 (t.setGen gn .finished) := I1.call' (s' := t.setGen gn .finished) (ch := []) o1 o3 o4 (allBare_setGen o2 rfl) fun b z => by simp at z
        exact wpAny_execs_nil ⟨σ, H2, J.kept (t' := (t.setGen gn .finished).toks) kp', q2⟩
end
/-! ### .. by data -/
def SpFD (R : List D → Option D → Prop) : SpF := fun vs H Qy Qn => ∃ S ds, Okw Option.none S H ∧ ArgOk false Option.none S vs ds ∧ (∃ o, R ds o) ∧ (∀ d v S' H', R ds (some d) → Giv false Option.none S H d v S' H' → Qy v H') ∧ ∀ S' H', R ds Option.none → Gr Option.none S H S' H' → Qn H'
theorem ok_F {P : Program} {w : World} {K : PySem.W.Frag} {mg : Str → Option Value} {base : Heap} {x qual : Str} {st : Stmt} {f : Addr} {fd : FuncData} {N ps : List Str} {k : Nat} {R : List D → Option D → Prop} (Fu : Fun K x qual st f fd) (S : GScope N ps (defScope st)) (hl : ∀ ds o, R ds o → ds.length = ps.length)
    (hbody : ∀ (cdv : Value) (A : Around) (outer : List Env) (s : Shared) (H : Hp), Room k (A.deeper (envOfC qual (defScope st) s.heap.objs.size f cdv)) →
      ∃ t, OGs (fcx P w K mg base N qual (defScope st) f cdv A outer s H) (defBody st) t ∧ ∀ ds, (∃ o, R ds o) → Run Option.none false t (ini false N.length ds) { nx := fun _ => R ds Option.none, rt := fun d => R ds (some d) }) :
    FFn P w K mg base (k + 1) f fd ps (SpFD R) := by
  have hps : ps.length ≤ N.length := by
    have := congrArg List.length S.pre
    rw [List.length_take] at this
    omega
  refine ffn_of Fu S (fun vs H Qy Qn h => ?_) (fun cdv A outer s H vs Qy Qn hr h => ?_)
  · obtain ⟨S', ds, _, a, ⟨o, r⟩, _⟩ := h
    rw [arg_len a]
    exact hl ds o r
  · obtain ⟨S', ds, w', a, ⟨o, r⟩, ky, kn⟩ := h
    obtain ⟨t, ht, hrun⟩ := hbody cdv A outer s H hr
    refine ⟨t, ht, hrun ds ⟨o, r⟩ S' H S' S' H _ _ w' ⟨Gr.refl w'.s, Same.refl _⟩ (st_ini w' a (by rw [arg_len a]; simpa using Nat.le_trans (Nat.le_of_eq (hl ds o r)) hps)) ⟨?_, ?_, fun _ _ _ _ z => z.elim, fun _ _ _ _ z => z.elim⟩⟩
    · exact fun Δ S2 H2 σ n w2 g2 _ => kn S2 H2 n g2.g
    · exact fun d v _ S2 H2 _ q _ _ _ gv => ky d v S2 H2 q gv
theorem run_forF {F : Fp} {fr : Bool} {Δ : List Sl} {po : Po} {ta : TA} {tb : TS} {R : List D → Option D → Prop} {Pa : List D → Prop} {i : Nat} (h : EvA F ta Δ Pa) (hR : ∀ ds, Pa ds → ∃ o, R ds o)
    (k1 : ∀ ds d, Pa ds → R ds (some d) → Run F fr tb (Δ.set i (.v d)) { nx := fun _ => False, ct := fun _ => False, bk := po.nx, rt := po.rt, ro := po.ro }) (k0 : ∀ ds, Pa ds → R ds Option.none → po.nx Δ) :
    Run F fr (tForF (SpFD R) (gName i) ta tb) Δ po := fun S0 H0 B S H σ E w g st r =>
  h H0 S H σ w st _ fun ds vs S1 H1 p g1 hd => by
    refine ⟨S1, ds, (g1.ok w).base, ⟨rfl, hd⟩, hR ds p, fun d v S2 H2 r2 gv => ?_, fun S2 H2 r2 g2 => ?_⟩
    · have gg := g1.trans gv.g.up
      refine k1 ds d p r2 S0 H0 B S2 H2 _ _ (gg.ok w) (g.step gg) ((st.mono gg).setV (gv.vl rfl)) ⟨fun _ _ _ _ n => n.elim, r.rt, ?_, fun _ _ _ _ n => n.elim⟩
      exact fun Δ3 S3 H3 σ3 n w3 gb3 st3 => r.nx Δ3 S3 H3 σ3 n w3 gb3 st3
    · have gg := g1.trans g2.up
      exact r.nx Δ S2 H2 σ (k0 ds p r2) (gg.ok w) (g.step gg) (st.mono gg)
end Bc

/-! Core N: enumerate over a list or a tuple. -/
namespace Bc
open PySem L2 PySem.Spec PyProof.Rows
set_option maxHeartbeats 8000000 in
theorem enum_meets {v : Value} {o : Obj} {Z : Heap → Prop} (B : Begins v o Z) :
    Meets (Builtin.«enumerate.__new__» ⟨[.type "enumerate", v], []⟩) (fun _ R s => Z s.heap ∧
      R (.ok (.ret (.ref (s.heap.push o).objs.size))) { s with heap := (s.heap.push o).push { cls := .type "enumerate", data := .fields #[.none, .bool false, .ref s.heap.objs.size, rawInt 0, .none, .none] } }) :=
  .of_wp fun prog w A R s h => by
    obtain ⟨hq, gq, dq, tq, oq⟩ := s
    obtain ⟨hz, h⟩ := h
    have hsub := sub_enumerate
    have begin_ : ∀ {A' : Around} {E : Value → Shared → Prop} {Q : Value → Shared → Prop}, Q (.ref hq.objs.size) ⟨hq.push o, gq, dq, tq, oq⟩ → wpAny (model prog w) A' (pyIter v) Q E ⟨hq, gq, dq, tq, oq⟩ :=
      fun q => B.iter prog w _ _ ⟨hq, gq, dq, tq, oq⟩ _ hz q
    wp_walk using begin_
    refine wpAny_stack_any fun st => wpAny_pure ?_
    split
    · rename_i c _ _ _ _ _
      cases (c == Value.type "enumerate") <;> (wp_walk using begin_; exact ⟨_, rfl, h⟩)
    · wp_walk using begin_
      exact ⟨_, rfl, h⟩
section
variable {prog : Program} {w : World} {A : Around} {E : Value → Shared → Prop} {s : Shared}
theorem enum_call {v : Value} {o : Obj} {Z : Heap → Prop} {Q : Value → Shared → Prop} (B : Begins v o Z) (hz : Z s.heap)
    (h : ∀ h', IsEnum h' (s.heap.objs.size + 1) s.heap.objs.size 0 .none → h'.get? s.heap.objs.size = some o → (∀ b u, s.heap.get? b = some u → h'.get? b = some u) → Q (.ref (s.heap.objs.size + 1)) { s with heap := h' }) :
    wpAny (model prog w) A (call (.type "enumerate") [v]) Q E s := by
  refine callType_new F.called_enumerate (by decide) (F.typeCall_enumerate_1 _) (F.newCall_enumerate_1 _) (fun obj => F.args_object_init_2 obj _) F.entry_enumerate_new (enum_meets B) ⟨hz, ?_⟩
  have sz : (s.heap.push o).objs.size = s.heap.objs.size + 1 := Heap.size_push ..
  show _ ∧ _
  rw [sz]
  have he : IsEnum ((s.heap.push o).push { cls := .type "enumerate", data := .fields #[.none, .bool false, .ref s.heap.objs.size, rawInt 0, .none, .none] }) (s.heap.objs.size + 1) s.heap.objs.size 0 .none := by
    have q := Heap.get?_push_size (s.heap.push o) (o := { cls := .type "enumerate", data := .fields #[.none, .bool false, .ref s.heap.objs.size, rawInt 0, .none, .none] }) rfl
    rw [sz] at q
    exact q
  exact ⟨⟨_, he, rfl⟩, h _ he (Heap.get?_push_of_some _ (Heap.get?_push_size _ B.free)) fun b u x => Heap.get?_push_of_some _ (Heap.get?_push_of_some _ x)⟩
end
/-- the tuple at a, each item in a new pair -/
def IteT (K : PySem.W.Frag) (a : Addr) : It :=
  ⟨fun i H => ∃ (xs : List V) (x : V), SqT K H a xs ∧ xs[i]? = some x, fun i H v H' => ∃ T x, v = .ref T ∧ H T = none ∧ H' = upd H T (.tup [.int (i : Nat), x]) ∧ ∀ xs, SqT K H a xs → xs[i]? = some x, fun i H => ∃ xs : List V, SqT K H a xs ∧ xs.length ≤ i⟩
theorem turn_enumT {P : Program} {w : World} {K : PySem.W.Frag} {elts : List Expr} {kk : Nat} {tpos : Pos} (a e it : Addr) :
    Turn P w K (.Tuple elts kk tpos) (IteT K a) [e, it] e (fun i h => (∃ old, IsEnum h e it ((i : Nat) : Int) old) ∧ h.IsTupleIter it a i ∧ e ≠ it ∧ a ≠ it ∧ a ≠ e) where
  mem := List.mem_cons_self ..
  obj := fun i h st b hb => by
    obtain ⟨⟨old, he⟩, ⟨o, ho, _, hd⟩, _⟩ := st
    simp only [List.mem_cons, List.not_mem_nil, or_false] at hb
    rcases hb with rfl | rfl
    · exact ⟨_, he, fun v q => nomatch q⟩
    · exact ⟨o, ho, fun v q => by rw [hd] at q; cases q⟩
  keep := fun i h h' st k => by
    obtain ⟨⟨old, he⟩, hi, hne⟩ := st
    exact ⟨⟨old, k e (by simp) _ he⟩, hi.at fun o q => k it (by simp) o q, hne⟩
  item := by
    intro X hP hw hK hc i pins s σ H E I hf st hg
    subst hP hw hK
    obtain ⟨⟨old, he⟩, hit, hne, hai, hae⟩ := st
    obtain ⟨xs, x, hq, hx⟩ := hg
    obtain ⟨its, rv, p, hz⟩ := I.tuple hq
    obtain ⟨u, hu, ru⟩ := rv.get hx
    have hi : i < its.toArray.size := by
      have := (List.getElem?_eq_some_iff.mp hu).1
      simpa using this
    have hel : e < s.heap.objs.size := Heap.lt_size he
    have hil : it < s.heap.objs.size := by obtain ⟨_, q, _⟩ := hit; exact Heap.lt_size q
    refine wpAny_pyNext_enum_itemD (Draws.tuple (A := X.A.in1) (I.ok.hd hc) it a hai its.toArray) he ⟨hit, p⟩ hi hne (by simp [hne, Ne.symm hae]) fun x' h' tk hP ho hst hT hsz hk => ?_
    obtain ⟨hit', _⟩ := hst
    have ex : x' = u := by
      have hP : its.toArray[i]? = some x' := hP
      rw [List.getElem?_toArray, hu] at hP
      cases hP
      rfl
    subst ex
    refine ⟨_, rfl, wpAny_letOwnedTupleGo_enum (s := { s with heap := h', toks := tk + 1 }) ho fun h'' he' sb => ?_⟩
    have hT2 : h''.get? s.heap.objs.size = some { cls := .type "tuple", data := .seq #[.int i tk, x'] } := (sb.2 _ (Nat.ne_of_gt hel)).trans hT
    have new : ObjOk X.prog X.w (upd H s.heap.objs.size (.tup [.int (i : Nat), x])) h'' s.heap.objs.size (.tup [.int (i : Nat), x]) :=
      ⟨by show 2 ≤ sizeLine; decide, [.int i tk, x'], .cons ⟨_, rfl⟩ (.cons ru .nil), ⟨_, hT2, rfl, _, rfl⟩⟩
    have I1 : Inv X pins σ (upd H s.heap.objs.size (.tup [.int (i : Nat), x])) { s with heap := h'', toks := tk + 1 } :=
      I.turnedNew (ch := [e, it]) (fun b ob hb q => (sb.2 b (fun z => hb (by simp [z]))).trans (hk b ob (fun z => hb (by simp [z])) (fun z => hb (by simp [z])) q)) hf (Nat.le_refl _) new
    refine ⟨.ref s.heap.objs.size, _, I1, rfl, ⟨_, x, rfl, I.hok.fresh (Nat.le_refl _), rfl, fun ys hy => by rw [I.tuple_inj hy hq]; exact hx⟩, ⟨⟨x', ?_⟩, hit'.at fun o q => (sb.2 it (Ne.symm hne)).trans q, hne, hai, hae⟩, fun b hb => ?_⟩
    · have e1 : ((i + 1 : Nat) : Int) = (i : Int) + 1 := by omega
      rw [e1]
      exact he'
    · have hb' : b < s.heap.objs.size := by
        simp only [List.mem_cons, List.not_mem_nil, or_false] at hb
        rcases hb with rfl | rfl
        · exact hel
        · exact hil
      rw [upd_ne (Nat.ne_of_lt hb')]
      exact (hf b hb).1
  done := by
    intro X hP hw hK hc i pins s σ H E I hf st hg
    subst hP hw hK
    obtain ⟨⟨old, he⟩, hit, hne, hai, hae⟩ := st
    obtain ⟨xs, hq, hx⟩ := hg
    obtain ⟨its, rv, p, hz⟩ := I.tuple hq
    obtain ⟨f0, f1, f2, f3, f4, f5⟩ := hf it (by simp)
    have hl := rv.length
    have hnone : its.toArray[i]? = Option.none := by simp; omega
    have ty : s.TypeIs (.ref e) "enumerate" := ⟨_, he, rfl⟩
    unfold pyNext
    refine wpAny_bind (wpAny_attempt (wpAny_callSpecial?_slot (name := Str.ofString "__next__") ty F.slot_enumerate_next (wpAny_call_entry F.slot_enumerate_next ty F.entry_enumerate_next (show wpAny _ _ (field (Value.ref e) 2 >>= _) _ _ s from ?_) (F.args_enumerate_next_1 _))))
    refine wpAny_bind (wpAny_field he rfl (x := Value.ref it) rfl (wpAny_bind (wpAny_nextOf_tuple_end (A := X.A.in1) (I.ok.hd hc) hit p hnone fun h' x ex hx' => ?_)))
    obtain ⟨o, ho, oc⟩ := hx'
    exact wpAny_bind (wpAny_isInstance (T := "StopIteration") (b := true) ⟨o, ho, oc⟩ isSubtype_stop (wpAny_pure ⟨rfl, I.turned (t' := s.toks) (fun b ob hb q => ex b ob hb q) f0 f1 f3 f4 f5⟩))
  self := fun A i s Q E st h => by
    obtain ⟨⟨_, he⟩, _⟩ := st
    exact wpAny_pyIter_enum he h
def iEnumX (K : PySem.W.Frag) (ta : TA) : TI := fun σ H R => ta σ H fun vs H1 => ∃ a xs, vs = [.ref a] ∧ ((SqL K H1 a xs ∧ R (Ite K a) H1) ∨ (SqT K H1 a xs ∧ R (IteT K a) H1))
theorem pi_enumX {X : Cx} {K : PySem.W.Frag} {e : Expr} {ta : TA} {p pos tpos : Pos} {elts : List Expr} {kk : Nat} (hg : Gl X "enumerate") (hm : X.mg "enumerate" = none) (ha : PA X [e] ta) (hs : starEach [e] X.env = [(false, eval e X.env)] := by rfl) (hK : X.K = K := by rfl) :
    PI X (.Tuple elts kk tpos) (.Call (.Name "enumerate" p) [e] [] pos) (iEnumX K ta) := by
  subst hK
  refine ⟨fun pins s σ H R I h => ?_⟩
  refine Call_ (ld_blt I hg hm boot_enumerate (PyProof.Rows.callWith_type1 (thn (ha.run pos pins s σ H _ I h) fun us s1 ⟨vs, H1, I1, r1, q1⟩ => ?_) hs rfl))
  obtain ⟨a, xs, rfl, hq⟩ := q1
  obtain ⟨u, rfl, ru⟩ := vals1 r1
  cases ru
  have fresh : ∀ {h' : Heap}, ∀ b ∈ [s1.heap.objs.size + 1, s1.heap.objs.size], FpOk X pins H1 b := fun {h'} b hb => by
    have hle : s1.heap.objs.size ≤ b := by
      simp only [List.mem_cons, List.not_mem_nil, or_false] at hb
      rcases hb with rfl | rfl
      · exact Nat.le_succ _
      · exact Nat.le_refl _
    exact I1.fpOk hle (I1.hok.fresh hle)
  rcases hq with ⟨hq, q⟩ | ⟨hq, q⟩
  · obtain ⟨its, rv, pl, hz⟩ := I1.list hq
    refine enum_call (begins_list a its.toArray) pl.isList fun h' he hit hk => wpAny_pyIter_enum he ?_
    have I2 : Inv X pins σ H1 { s1 with heap := h' } := I1.kept (t' := s1.toks) hk
    exact ⟨s1.heap.objs.size + 1, [s1.heap.objs.size + 1, s1.heap.objs.size], _, _, H1, rfl, I2, turn_enum a (s1.heap.objs.size + 1) s1.heap.objs.size, ⟨⟨.none, he⟩, ⟨_, hit, rfl, rfl⟩, Nat.succ_ne_self _⟩, fresh (h' := h'), q⟩
  · obtain ⟨its, rv, pl, hz⟩ := I1.tuple hq
    refine enum_call (begins_tuple a its.toArray) pl fun h' he hit hk => wpAny_pyIter_enum he ?_
    have I2 : Inv X pins σ H1 { s1 with heap := h' } := I1.kept (t' := s1.toks) hk
    have lt : a < s1.heap.objs.size := by obtain ⟨_, e1, _⟩ := id pl; exact Heap.lt_size e1
    exact ⟨s1.heap.objs.size + 1, [s1.heap.objs.size + 1, s1.heap.objs.size], _, _, H1, rfl, I2, turn_enumT a (s1.heap.objs.size + 1) s1.heap.objs.size, ⟨⟨.none, he⟩, ⟨_, hit, rfl, rfl⟩, Nat.succ_ne_self _, Nat.ne_of_lt lt, Nat.ne_of_lt (Nat.lt_succ_of_lt lt)⟩, fresh (h' := h'), q⟩
/-- the pairs -/
def pairsD : Nat → List D → List D
  | _, [] => []
  | i, d :: ds => .tuple [.int (i : Nat), d] :: pairsD (i + 1) ds
theorem pairs_len : ∀ (i : Nat) (ds : List D), (pairsD i ds).length = ds.length
  | _, [] => rfl
  | i, d :: ds => by simp [pairsD, pairs_len (i + 1) ds]
theorem pairs_get : ∀ {i j : Nat} {ds : List D} {d : D}, ds[j]? = some d → (pairsD i ds)[j]? = some (.tuple [.int ((i + j : Nat) : Int), d])
  | i, 0, e :: ds, d, h => by
    simp only [List.getElem?_cons_zero, Option.some.injEq] at h
    subst h
    rfl
  | i, j + 1, e :: ds, d, h => by
    simp only [List.getElem?_cons_succ] at h
    have := pairs_get (i := i + 1) h
    simp only [pairsD, List.getElem?_cons_succ]
    rw [this, show i + 1 + j = i + (j + 1) by omega]
  | _, _, [], _, h => by simp at h
theorem walk_enumL {F : Fp} {K : PySem.W.Frag} {S : Hp} {a : Addr} {xs : List V} {ds : List D} (e : S a = some (.lst xs)) (h : DtL S ds xs) : WalkD F (Ite K a) S (pairsD 0 ds) where
  go := fun i S' H' sm w hi => by
    rw [pairs_len, h.len] at hi
    exact ⟨xs, xs[i], SqL.of (w.s _ _ (sm _ _ e)), by simp [hi]⟩
  yld := fun i S' H' v H'' sm w hi y => by
    rw [pairs_len] at hi
    obtain ⟨T, x, rfl, hT, rfl, hx⟩ := y
    have hx := hx xs (SqL.of (w.s _ _ (sm _ _ e)))
    obtain ⟨d, hd, hv⟩ := h.get' hx
    have g := Gr.newD (F := F) (o := .tup [.int (i : Nat), x]) w.s hT
    refine ⟨.tuple [.int (i : Nat), d], _, by rw [pairs_get hd, Nat.zero_add], g, ?_⟩
    simp only [Dt, DtL]
    exact ⟨T, _, rfl, upd_same, _, _, rfl, rfl, _, _, rfl, (hv.mono sm).mono g.s, rfl⟩
  stop := fun i S' H' sm w hi => by
    rw [pairs_len, h.len] at hi
    exact ⟨xs, SqL.of (w.s _ _ (sm _ _ e)), hi⟩
theorem walk_enumT {F : Fp} {K : PySem.W.Frag} {S : Hp} {a : Addr} {xs : List V} {ds : List D} (e : S a = some (.tup xs)) (h : DtL S ds xs) : WalkD F (IteT K a) S (pairsD 0 ds) where
  go := fun i S' H' sm w hi => by
    rw [pairs_len, h.len] at hi
    exact ⟨xs, xs[i], SqT.of (w.s _ _ (sm _ _ e)), by simp [hi]⟩
  yld := fun i S' H' v H'' sm w hi y => by
    rw [pairs_len] at hi
    obtain ⟨T, x, rfl, hT, rfl, hx⟩ := y
    have hx := hx xs (SqT.of (w.s _ _ (sm _ _ e)))
    obtain ⟨d, hd, hv⟩ := h.get' hx
    have g := Gr.newD (F := F) (o := .tup [.int (i : Nat), x]) w.s hT
    refine ⟨.tuple [.int (i : Nat), d], _, by rw [pairs_get hd, Nat.zero_add], g, ?_⟩
    simp only [Dt, DtL]
    exact ⟨T, _, rfl, upd_same, _, _, rfl, rfl, _, _, rfl, (hv.mono sm).mono g.s, rfl⟩
  stop := fun i S' H' sm w hi => by
    rw [pairs_len, h.len] at hi
    exact ⟨xs, SqT.of (w.s _ _ (sm _ _ e)), hi⟩
theorem ei_enum {F : Fp} {Δ : List Sl} {K : PySem.W.Frag} {ta : TA} {x : D} {ds : List D} (h : EvA F ta Δ fun r => r = [x]) (hx : x = .list ds ∨ x = .tuple ds) : EvI F (iEnumX K ta) Δ fun r => r = pairsD 0 ds := fun H0 S H σ w t R k =>
  h H0 S H σ w t _ fun r vs S' H' e g hd => by
    subst e
    simp only [DtL] at hd
    obtain ⟨v, ys, rfl, hv, rfl⟩ := hd
    rcases hx with rfl | rfl
    · simp only [Dt] at hv
      obtain ⟨a, xs, rfl, e1, h1⟩ := hv
      exact ⟨a, xs, rfl, .inl ⟨SqL.of (g.h _ _ e1), k _ _ S' H' rfl g (walk_enumL e1 h1)⟩⟩
    · simp only [Dt] at hv
      obtain ⟨a, xs, rfl, e1, h1⟩ := hv
      exact ⟨a, xs, rfl, .inr ⟨SqT.of (g.h _ _ e1), k _ _ S' H' rfl g (walk_enumT e1 h1)⟩⟩
end Bc

/-! Core B: objects that stay: their methods, their own ==, isinstance; list(dict), list(d.values()), dict comprehensions, dict items, all([..]). -/
namespace Bc
open PySem L2 PySem.Spec PyProof.Rows
/-! ### the own == of a class -/
structure EqC (K : PySem.W.Frag) (C f : Addr) : Prop where
  ex : ∃ (nm q : Str) (N : Addr) (bs : List Value) (sn : List Str) (sub : List Value) (ab : Bool) (col : Option Bool) (dd : Option Addr) (m0 m1 m2 m3 m5 : Option Value),
    K.lookup C = some (excClassObj nm q C N bs [.type "object"] true sn sub ab col dd m0 m1 m2 m3 m5 "object.__new__") ∧ PySem.W.nsOkIn K N = true ∧ PySem.W.nsIn K N "__eq__" = some (some (.ref f)) ∧ PySem.W.nsIn K N "__ne__" = some none
  fn : PySem.W.isFn K (.ref f) = true
  fi : PySem.W.findIn K (.ref C) "__eq__" = some (some (.ref f))
def rOwn (C : Addr) (neg : Bool) (sp : Sp) : R2 := fun x y H Q => ∃ a b dx dy fs gs, x = .ref a ∧ y = .ref b ∧ H a = some (.ins C dx fs) ∧ H b = some (.ins C dy gs) ∧ sp [.ref a, .ref b] H (fun v H' => ∃ r, v = .bl r ∧ Q (.bl (r != neg)) H') E0
section
variable {X : Cx} {n : Nat} {C f : Addr} {fd : FuncData} {ps : List Str} {sp : Sp}
theorem own_call {A : Around} (hin : A = X.A ∨ A = X.A.in1) (G : FnOk X.prog X.w X.K X.mg X.base CX0 n f fd ps sp) (hb : Binds X.K fd ps []) (hr : Room n A) {pins : List (Addr × Obj)} {σ : L2.St} {H : Hp} {s : Shared} {a b : Addr} {Q : VK} {Qf : Value → Shared → Prop} (I : Inv X pins σ H s)
    (hsp : sp [.ref a, .ref b] H Q E0) (hq : ∀ v s' x H', Inv X pins σ H' s' → RelV x v → Q x H' → Qf v s') : wpAny (model X.prog X.w) A (call (.ref f) [.ref a, .ref b]) Qf X.xe s := by
  have e0 : Env0 X.prog X.w X.K X.mg X.base A X.stack s H := by
    have e := I.env0
    rcases hin with rfl | rfl
    · exact e
    · exact ⟨e.frames, e.mod, e.bs, e.bsz, e.funs, e.frf, e.hok, e.bare⟩
  have hl := G.len _ _ _ _ hsp
  have r2 : Vals [V.ref a, V.ref b] [Value.ref a, Value.ref b] := .cons rfl (.cons rfl .nil)
  refine wpAny_call (codeAny_mono (G.run A X.stack s H ⟨[.ref a, .ref b], []⟩ [.ref a, .ref b] [.ref a, .ref b] _ E0 hr e0 (by
    have := hb s [.ref a, .ref b] I.kIn (by simpa using hl)
    simpa using this) r2 hsp) fun r s' hq' => ?_)
  cases r with
  | error e => exact pass0 pins σ H s e s' I hq'
  | ok fl =>
    cases fl with
    | ret w =>
      obtain ⟨z, H', I', rz, q⟩ := I.after hq'
      exact hq _ _ z H' I' rz q
    | next => exact False.elim hq'
    | brk => exact False.elim hq'
    | cont => exact False.elim hq'
theorem op_own (c : EqC X.K C f) (G : FnOk X.prog X.w X.K X.mg X.base CX0 n f fd ps sp) (hb : Binds X.K fd ps []) (hr : Room n X.A) : OpR X (compareOp .Eq) (rOwn C false sp) := by
  intro pins s σ H x y v u Q I rx ry h
  obtain ⟨a, b, dx, dy, fs, gs, rfl, rfl, ha, hb', hsp⟩ := h
  cases rx
  cases ry
  obtain ⟨mA, J, _⟩ := ins_get I.hok ha
  obtain ⟨mB, J', _⟩ := ins_get I.hok hb'
  obtain ⟨od, J, _⟩ := J.look
  obtain ⟨od', J', _⟩ := J'.look
  obtain ⟨m, hF⟩ := I.fr
  show wpAny (model X.prog X.w) X.A (richCompare .Eq (.ref a) (.ref b)) (EP X pins σ Q) X.xe s
  refine PySem.W.cmp_K (op := .Eq) (tb := .ref C) hr.units0 hF I.ok.mod.kin J J'.type (by simp [PySem.W.notFirst]) c.fi c.fn ?_
  refine own_call (.inl rfl) G hb hr I hsp fun v s' x H' I' rv q => ?_
  obtain ⟨r, rfl, q⟩ := q
  cases rv
  exact ⟨.bl r, H', I', rfl, by simpa using q⟩
theorem ns_some_at {K : PySem.W.Frag} {h : Heap} {N : Addr} {mg : Str → Option Value} {n : Str} {v : Value} (X : K.In h) (G : h.Ns N mg) (e : PySem.W.nsIn K N n = some (some v)) : mg n = some v := by
  obtain ⟨ob, entries, epoch, at_, dt, _, fnd⟩ := G
  unfold PySem.W.nsIn at e
  split at e
  · rename_i c d es2 n2 sl q
    have same := X _ _ q
    rw [at_] at same
    cases same
    cases dt
    split at e
    · rename_i en hit
      cases e
      rw [← fnd]
      unfold nsFind findBy
      rw [← Array.find?_toList, hit]
      rfl
    · split at e <;> cases e
  · cases e
theorem op_ownNe (c : EqC X.K C f) (G : FnOk X.prog X.w X.K X.mg X.base CX0 n f fd ps sp) (hb : Binds X.K fd ps []) (hr : Room (n + 1) X.A) : OpR X (compareOp .NotEq) (rOwn C true sp) := by
  intro pins s σ H x y v u Q I rx ry h
  obtain ⟨a, b, dx, dy, fs, gs, rfl, rfl, ha, hb', hsp⟩ := h
  cases rx
  cases ry
  obtain ⟨mA, J, _⟩ := ins_get I.hok ha
  obtain ⟨mB, J', _⟩ := ins_get I.hok hb'
  obtain ⟨nm, q, N, bs, sn, sub, ab, col, dd, m0, m1, m2, m3, m5, hC, hno, he, hne⟩ := c.ex
  have hcall : wpAny (model X.prog X.w) X.A.in1 (call (.ref f) [.ref a, .ref b]) (fun v s' => ∃ r, v = .bool r ∧ EP X pins σ Q (.bool (!r)) s') X.xe s := by
    refine own_call (.inr rfl) G hb hr.in1 I hsp fun v s' x H' I' rv q => ?_
    obtain ⟨r, rfl, q⟩ := q
    cases rv
    exact ⟨r, rfl, .bl (!r), H', I', rfl, by simpa using q⟩
  have kin := I.kIn
  have G := Heap.Ns.of_isNs (PySem.W.isNs_of_in kin hno)
  have lf : ∃ fo : Obj, X.K.lookup f = some fo ∧ fo.cls = .type "function" := by
    have z : ((X.K.lookup f).map (·.cls) == some (.type "function")) = true := c.fn
    cases e : X.K.lookup f with
    | none =>
      rw [e] at z
      cases z
    | some fo =>
      rw [e] at z
      exact ⟨fo, rfl, by simpa using z⟩
  obtain ⟨fo, hfo, hfc⟩ := lf
  have Y : s.heap.OwnEqNoNe a C f "object" [.type "object"] := ⟨PySem.W.instObj C dx, fo, nm, q, N, bs, true, sn, sub, ab, col, dd, m0, m1, m2, m3, m5, "object.__new__", _, _, J.obj, rfl, kin _ _ hC, G, ns_some_at kin G he, kin _ _ hfo, hfc, PySem.F.mro_object, PySem.F.cmp_object.eq.lookup, PySem.W.ns_none_of kin G hne⟩
  obtain ⟨hp, g, d, t, os⟩ := s
  exact compareOp_ne_ownEq PySem.F.cmp_object Y J'.obj rfl (by have := hr.un; omega) hcall
structure EqT (P : Program) (w : World) (K : PySem.W.Frag) (mg : Str → Option Value) (base : Heap) (k : Nat) (C : Addr) (sp : Sp) : Prop where
  ex : ∃ (f : Addr) (fd : FuncData) (ps : List Str), EqC K C f ∧ Binds K fd ps [] ∧ FnOk P w K mg base CX0 k f fd ps sp
theorem qOwn {k : Nat} (G : EqT X.prog X.w X.K X.mg X.base k C sp) (hr : Room k X.A) : OpR X (compareOp .Eq) (rOwn C false sp) := by
  obtain ⟨f, fd, ps, c, b, o⟩ := G.ex
  exact op_own c o b hr
theorem qOwnNe {k : Nat} (G : EqT X.prog X.w X.K X.mg X.base k C sp) (hr : Room (k + 1) X.A) : OpR X (compareOp .NotEq) (rOwn C true sp) := by
  obtain ⟨f, fd, ps, c, b, o⟩ := G.ex
  exact op_ownNe c o b hr
abbrev rIsC (C : Addr) : List V → Hp → VK → Prop := fun xs H Q => ∃ a dx fs, xs = [.ref a, .ref C] ∧ H a = some (.ins C dx fs) ∧ Q (.bl true) H
theorem qIsC (c : C8.InsC X.K C) : CallR X (.builtin "isinstance") (rIsC C) := C8.call_isC c
theorem qIsiT {K : PySem.W.Frag} (hK : X.K = K := by rfl) : CallR X (.builtin "isinstance") (rIsiT K) := by subst hK; exact call_isiT
theorem qListD (hc : X.calm = true := by rfl) : CallR X (.type "list") rListD := call_list_dK hc
theorem qAll {K : PySem.W.Frag} (hc : X.calm = true := by rfl) (hK : X.K = K := by rfl) : CallR X (.builtin "all") (rAll K) := by subst hK; exact cr_all hc
/-- list(d.values()) -/
def tLVals (te : TE) : TE := fun σ H Q => te σ H fun x H1 => ∃ d kvs, x = .ref d ∧ H1 d = some (.dK kvs) ∧ ∀ q, H1 q = none → Q (.ref q) (upd H1 q (.lst (kvs.map (·.2))))
theorem kv_vals {κ : Type} : ∀ {kvs : List (κ × V)} {vs : List (κ × Value)}, KV kvs vs → Vals (kvs.map (·.2)) (vs.map (·.2)) := fun {kvs vs} r => by
  unfold KV at r
  induction r with
  | nil => exact .nil
  | cons h t ih => exact .cons h.2 ih
theorem pe_listVals {e : Expr} {te : TE} {p pos apos cpos : Pos} (hc : X.calm = true) (hg : Gl X "list") (hm : X.mg "list" = none) (he : PE X e te) (hbase : attributeBase e "values" X.env (eval e X.env) = eval e X.env := by rfl) (hline : (apos.endLine == cpos.line) = true := by rfl)
    (na : starEach [.Call (.Attribute e "values" apos) [] [] cpos] X.env = (false, eval (.Call (.Attribute e "values" apos) [] [] cpos) X.env) :: starEach [] X.env := by rfl) :
    PE X (.Call (.Name "list" p) [.Call (.Attribute e "values" apos) [] [] cpos] [] pos) (tLVals te) := by
  refine ⟨fun pins s σ H Q I h => ?_⟩
  refine Call_ (ld_blt I hg hm boot_list (PyProof.Rows.callWith_type1 (args_cons ?_ na) na))
  refine wpAny_Call_method (T := "dict") (id := "dict.values") hbase rfl hline PySem.F.plainAttrs_dict PySem.F.slot_dict_values PySem.F.type_dict_values (thn (he.run pins s σ H _ I h) fun u s1 ⟨x, H1, I1, rx, d, kvs, ex, hd, q⟩ => ?_)
  subst ex
  obtain rfl : u = Value.ref d := rx
  obtain ⟨z, lo, vs, rk, hdd⟩ := (show ObjOk X.prog X.w H1 s1.heap d (.dK kvs) from I1.hok d _ hd)
  obtain ⟨ep, hm⟩ := hdd.dictAt
  have hl : kvs.length = vs.length := Paired.length rk
  refine ⟨hm.dictOf.typeIs, hm.dictOf.mapOf.noDict, ?_⟩
  have I2 : Inv X pins σ H1 { s1 with heap := s1.heap.push { cls := .type "dict_values", data := .fields #[.ref d] } } := I1.kept (t' := s1.toks) fun b ob q => Heap.get?_push_of_some _ q
  show wpAny _ _ (callWith cpos (.builtin "dict.values") [.ref d] [] []) _ X.xe s1
  refine method_meetsIn PySem.F.slot_dict_values PySem.F.entry_dict_values rfl (PySem.evalArgs_none ⟨rfl, hm.dictOf.typeIs, PySem.F.args_dict_values_1 _, _, meets_dict_values (mixKind X.prog X.w) d lo, ⟨vs, hm.dictOf⟩, ?_⟩)
  refine args_nil ?_
  refine PySem.W.kdl_call (PySem.W.kdl_values (knd := mixKind X.prog X.w) (kvs := vs) (ep := ep) (d := d) (r := s1.heap.objs.size)) (I1.ok.hd hc) ⟨⟨_, Heap.get?_push_size _ rfl, rfl, rfl⟩, hm.push _⟩ (by rw [← hl]; exact z) fun h' tk acc' c' hkeep hS hacc => ?_
  refine ⟨.ref _, upd H1 _ (.lst (kvs.map (·.2))), I2.laid hkeep (Nat.le_refl _) (show ObjOk X.prog X.w _ _ _ (.lst (kvs.map (·.2))) from ⟨by rw [List.length_map]; exact z, acc'.toList, c', ?_, by rw [Array.toArray_toList]; exact hS⟩), rfl, q _ (I2.hok.fresh (Nat.le_refl _))⟩
  have el : acc'.toList.length = acc'.size := by simp
  have ev := PySem.W.kdl_vals_eq (kvs := vs) acc'.toList (by rw [el, hacc.1]) fun j w h2 => hacc.2 j w (by rw [← Array.getElem?_toList]; exact h2)
  rw [ev]
  exact kv_vals rk
end
end Bc

/-! Core C: the same by data. -/
namespace Bc
open PySem L2 PySem.Spec PyProof.Rows
section
variable {F : Fp} {fr : Bool} {Δ : List Sl} {te ta tb : TE} {tr : TA} {C : Addr} {fs : FS} {R : List D → D → Prop} {K : PySem.W.Frag} {E : XK}
theorem ev_methD {m : Str} {Pa : List D → Prop} (h : Ev1 F te Δ (.obj C fs)) (ha : EvA F tr Δ Pa) (hR : ∀ ds, Pa ds → ∃ d, R (.obj C fs :: ds) d) (hm : fs.lookup m = Option.none := by rfl) :
    EvR F (tMeth C m (SpD false false R) [] E te tr) Δ fun d => ∃ ds, Pa ds ∧ R (.obj C fs :: ds) d := fun H0 S H σ w t Q k => by
  refine h H0 S H σ w t _ fun y u S1 H1 e1 g1 hu => ?_
  subst e1
  have hu' := hu
  simp only [Dt] at hu
  obtain ⟨a, dx, vs, rfl, z1, z2⟩ := hu
  refine ⟨a, dx, vs, rfl, g1.h _ _ z1, (dtf_lookup z2).2 hm, ?_⟩
  refine ha H0 S1 H1 σ (g1.ok w) (t.mono g1) _ fun ds us S2 H2 p g2 hds => ?_
  rw [List.append_nil]
  refine ⟨Option.none, S2, .obj C fs :: ds, ((g1.trans g2).ok w).base, ⟨rfl, dtl_cons (hu'.mono g2.s) hds⟩, hR ds p, fun d v S3 H3 r gv => ?_⟩
  exact k d v S3 H3 ⟨ds, p, r⟩ ((g1.trans g2).trans gv.g.up) (gv.vl rfl)
theorem ef_methD {m : Str} {Pa : List D → Prop} (h : Ev1 F te Δ (.obj C fs)) (ha : EvA F tr Δ Pa) (hR : ∀ ds, Pa ds → ∃ d, R (.obj C fs :: ds) d) (hm : fs.lookup m = Option.none := by rfl) :
    EvF F (tMeth C m (SpD false true R) [] E te tr) Δ fun es => ∃ ds, Pa ds ∧ R (.obj C fs :: ds) (.list es) := fun H0 S H σ w t Q k => by
  refine h H0 S H σ w t _ fun y u S1 H1 e1 g1 hu => ?_
  subst e1
  have hu' := hu
  simp only [Dt] at hu
  obtain ⟨a, dx, vs, rfl, z1, z2⟩ := hu
  refine ⟨a, dx, vs, rfl, g1.h _ _ z1, (dtf_lookup z2).2 hm, ?_⟩
  refine ha H0 S1 H1 σ (g1.ok w) (t.mono g1) _ fun ds us S2 H2 p g2 hds => ?_
  rw [List.append_nil]
  refine ⟨Option.none, S2, .obj C fs :: ds, ((g1.trans g2).ok w).base, ⟨rfl, dtl_cons (hu'.mono g2.s) hds⟩, hR ds p, fun d v S3 H3 r gv => ?_⟩
  obtain ⟨es, q, xs, q1, q2, e3, e4, e5, e6⟩ := gv.f rfl
  subst q1
  subst q2
  have gg := g1.trans g2
  refine k es q xs S3 H3 ⟨ds, p, r⟩ (gg.trans gv.g.up) ?_ e3 e4 e6
  cases e : H q with
  | none => rfl
  | some o =>
    obtain ⟨o', e'⟩ := gg.m q o e
    rw [e5] at e'
    cases e'
def ownF (C : Addr) (R : List D → D → Prop) (neg : Bool) : D → D → D → Prop := fun x y d => ∃ fs gs r, x = .obj C fs ∧ y = .obj C gs ∧ R [x, y] (.bool r) ∧ (∀ d', R [x, y] d' → d' = .bool r) ∧ d = .bool (r != neg)
theorem sOwn {neg : Bool} : OpS F (rOwn C neg (SpD false false R)) (ownF C R neg) := fun S H x y d u v Q w hx hy ⟨fs, gs, r, e1, e2, h1, h2, e3⟩ k => by
  subst e1
  subst e2
  subst e3
  have hx' := hx
  have hy' := hy
  simp only [Dt] at hx hy
  obtain ⟨a, dx, vs, rfl, z1, z2⟩ := hx
  obtain ⟨b, dy, us, rfl, z3, z4⟩ := hy
  refine ⟨a, b, dx, dy, vs, us, rfl, rfl, w.s _ _ z1, w.s _ _ z3, Option.none, S, [.obj C fs, .obj C gs], w.base, ⟨rfl, dtl_cons hx' (dtl_cons hy' dtl_nil)⟩, ⟨_, h1⟩, fun d v S' H' r' gv => ?_⟩
  have e := h2 d r'
  subst e
  have hv := gv.vl rfl
  simp only [Dt] at hv
  exact ⟨r, hv, k _ S' H' gv.g.up (by simp only [Dt])⟩
theorem ev_isC (h : Ev1 F te Δ (.obj C fs)) : Ev1 F (tCB (rIsC C) (tCons te (tCons (tC (.ref C)) tNil))) Δ (.bool true) := fun H0 S H σ w t Q k => by
  refine h H0 S H σ w t _ fun y u S1 H1 e1 g1 hu => ?_
  subst e1
  simp only [Dt] at hu
  obtain ⟨a, dx, vs, rfl, z1, z2⟩ := hu
  exact ⟨a, dx, vs, rfl, g1.h _ _ z1, k _ _ S1 H1 rfl g1 (by simp only [Dt])⟩
theorem kit_LT {d : D} (hd : d.ty ≠ "?") : kitB d.ty "list" = some (d.ty == "list") ∧ kitB d.ty "tuple" = some (d.ty == "tuple") := by
  cases d <;> simp only [D.ty] at hd ⊢ <;> first | exact absurd rfl hd | (constructor <;> decide +kernel)
theorem ev_isLT {d : D} (h : Ev1 F te Δ d) (hd : d.ty ≠ "?") : Ev1 F (tCB (rIsiT K) (tCons te (tCons (tTup (tCons (tC (.ty "list")) (tCons (tC (.ty "tuple")) tNil))) tNil))) Δ (.bool (d.ty == "list" || d.ty == "tuple")) := fun H0 S H σ w t Q k => by
  refine h H0 S H σ w t _ fun y u S1 H1 e1 g1 hu => ?_
  subst e1
  refine ⟨by decide, fun p hp => ?_⟩
  have g2 : Gr F S1 H1 (upd S1 p (.tup [.ty "list", .ty "tuple"])) (upd H1 p (.tup [.ty "list", .ty "tuple"])) := Gr.newD g1.h hp
  have gg := g1.trans g2
  refine ⟨u, p, [.ty "list", .ty "tuple"], .type y.ty, [.type "list", .type "tuple"], (y.ty == "list" || y.ty == "tuple"), rfl, upd_same, .cons (.ty _) (.cons (.ty _) .nil), dt_ty gg.h (hu.mono g2.s) hd, ?_, k _ _ _ _ rfl gg (by simp only [Dt])⟩
  obtain ⟨k1, k2⟩ := kit_LT hd
  refine kitAny_cons (kit_ty k1) (fun e => kitAny_cons (kit_ty k2) (fun e2 => ?_) fun e2 => by rw [e2, Bool.or_true]) fun e => by rw [e, Bool.true_or]
  rw [e, e2]
  rfl
/-! dicts to lists -/
def keyT : Key → D
  | .inl i => .int i
  | .inr z => .str z
theorem dt_keyT {S : Hp} (k : Key) : Dt S (keyT k) (kV k) := by
  cases k <;> simp [keyT, kV, Dt]
theorem dtk_keysL {S : Hp} : ∀ {kvs : List (Key × D)} {ks : List (Key × V)}, DtK S kvs ks → DtL S (kvs.map fun q => keyT q.1) (ks.map fun q => kV q.1)
  | [], ks, h => by simp only [DtK] at h; subst h; exact dtl_nil
  | (k, d) :: r, ks, h => by
    simp only [DtK] at h
    obtain ⟨x, ys, rfl, _, h2⟩ := h
    exact dtl_cons (dt_keyT k) (dtk_keysL h2)
theorem dtk_valsL {S : Hp} : ∀ {kvs : List (Key × D)} {ks : List (Key × V)}, DtK S kvs ks → DtL S (kvs.map (·.2)) (ks.map (·.2))
  | [], ks, h => by simp only [DtK] at h; subst h; exact dtl_nil
  | (k, d) :: r, ks, h => by
    simp only [DtK] at h
    obtain ⟨x, ys, rfl, h1, h2⟩ := h
    exact dtl_cons h1 (dtk_valsL h2)
theorem ef_listD {kvs : List (Key × D)} (h : Ev1 F te Δ (.dict kvs)) : EvF F (tCB rListD (tCons te tNil)) Δ fun r => r = kvs.map fun q => keyT q.1 := fun H0 S H σ w t Q k => by
  refine h H0 S H σ w t _ fun y u S1 H1 e1 g1 hu => ?_
  subst e1
  simp only [Dt] at hu
  obtain ⟨a, ks, rfl, z1, z2⟩ := hu
  refine ⟨a, ks, rfl, g1.h _ _ z1, fun q hq => ?_⟩
  refine k _ q _ S1 _ rfl (g1.trans (Gr.new g1.h hq)) ?_ upd_same (Same.free g1.h hq) (dtk_keysL z2)
  cases e : H q with
  | none => rfl
  | some o =>
    obtain ⟨o', e'⟩ := g1.m q o e
    rw [hq] at e'
    cases e'
theorem ef_lvals {kvs : List (Key × D)} (h : Ev1 F te Δ (.dict kvs)) : EvF F (tLVals te) Δ fun r => r = kvs.map (·.2) := fun H0 S H σ w t Q k => by
  refine h H0 S H σ w t _ fun y u S1 H1 e1 g1 hu => ?_
  subst e1
  simp only [Dt] at hu
  obtain ⟨a, ks, rfl, z1, z2⟩ := hu
  refine ⟨a, ks, rfl, g1.h _ _ z1, fun q hq => ?_⟩
  refine k _ q _ S1 _ rfl (g1.trans (Gr.new g1.h hq)) ?_ upd_same (Same.free g1.h hq) (dtk_valsL z2)
  cases e : H q with
  | none => rfl
  | some o =>
    obtain ⟨o', e'⟩ := g1.m q o e
    rw [hq] at e'
    cases e'
theorem ev_dget {kvs : List (Key × D)} {x d : D} {k : Key} (h : Ev1 F ta Δ (.dict kvs)) (hx : Ev1 F tb Δ x) (hk : keyD x = some k) (hd : (kvs.find? fun q => decide (q.1 = k)).map (·.2) = some d) : Ev1 F (tDGet ta tb) Δ d := fun H0 S H σ w t Q q => by
  refine h H0 S H σ w t _ fun y u S1 H1 e1 g1 hu => ?_
  subst e1
  simp only [Dt] at hu
  obtain ⟨a, ks, rfl, z1, z2⟩ := hu
  refine hx H0 S1 H1 σ (g1.ok w) (t.mono g1) _ fun y v S2 H2 e2 g2 hv => ?_
  subst e2
  obtain ⟨x', f1, f2⟩ := (DtK.mono g2.s _ _ z2).val hd
  refine ⟨a, x', rfl, ?_, q _ _ S2 H2 rfl (g1.trans g2) f2⟩
  rw [dt_key hv hk, ← f1]
  exact DGet.k (g2.h _ _ (g2.s _ _ z1))
theorem ev_all {bs : List Bool} (h : EvF F te Δ fun r => r = bs.map D.bool) : Ev1 F (tCB (rAll K) (tCons te tNil)) Δ (.bool (bs.all id)) := fun H0 S H σ w t Q k => by
  refine h H0 S H σ w t _ fun ds p xs S1 H1 e g1 _ e1 _ hd => ?_
  subst e
  have ex : ∀ {bs : List Bool} {xs : List V}, DtL S1 (bs.map D.bool) xs → xs = bs.map V.bl := fun {bs} => by
    induction bs with
    | nil => intro xs h; simpa [DtL] using h
    | cons b bs ih =>
      intro xs h
      simp only [List.map_cons, DtL, Dt] at h
      obtain ⟨x, ys, rfl, rfl, h⟩ := h
      rw [ih h, List.map_cons]
  have ex := ex hd
  subst ex
  exact ⟨p, bs, rfl, SqL.of e1, k _ _ S1 H1 rfl g1 (by simp only [Dt])⟩
end
end Bc
namespace Bc
open PySem L2 PySem.Spec PyProof.Rows
section
variable {F : Fp} {fr : Bool} {Δ : List Sl} {te ta tb : TE} {tr : TA} {K : PySem.W.Frag}
/-! ### {k: v for t in it} -/
theorem putK_new {kvs : List (Key × V)} {k : Key} {v : V} (h : k ∉ kvs.map (·.1)) : putK kvs k v = kvs ++ [(k, v)] := by
  unfold putK
  rw [if_neg]
  intro z
  rw [List.any_eq_true] at z
  obtain ⟨p, hp, q⟩ := z
  exact h (of_decide_eq_true q ▸ List.mem_map_of_mem hp)
theorem dtk_app {S : Hp} {k : Key} {d : D} {x : V} (h : Dt S d x) : ∀ {kvs : List (Key × D)} {ks : List (Key × V)}, DtK S kvs ks → DtK S (kvs ++ [(k, d)]) (ks ++ [(k, x)])
  | [], ks, q => by
    simp only [DtK] at q
    subst q
    simp only [List.nil_append, DtK]
    exact ⟨x, [], rfl, h, rfl⟩
  | (k', d') :: r, ks, q => by
    simp only [DtK] at q
    obtain ⟨y, ys, rfl, h1, h2⟩ := q
    simp only [List.cons_append, DtK]
    exact ⟨y, _, rfl, h1, dtk_app h h2⟩
theorem ev_dc {wi : TI} {g : TG} {tk tv : TE} {vs : List Nat} {ds : List D} (h : EvI F wi Δ fun r => r = ds) (hz : ds.length ≤ sizeLine) (kf : D → Key) (vf : D → D) (nd : (ds.map kf).Nodup)
    (hs : ∀ (i : Nat) (d : D), ds[i]? = some d → ∃ js Δ', EvG F g d (wipeD Δ vs) js Δ' ∧ (∀ j ∈ js, j ∈ vs) ∧ (∃ x, Ev1 F tk Δ' x ∧ keyD x = some (kf d)) ∧ Ev1 F tv Δ' (vf d)) :
    Ev1 F (tDc wi g tYes tk tv vs) Δ (.dict (ds.map fun d => (kf d, vf d))) := fun H0 S H σ w st Q k => by
  refine h H0 S H σ w st _ fun ds' Jt S1 H1 p g1 W => ?_
  subst p
  intro L hL
  have hLH : H L = Option.none := by
    cases e : H L with
    | none => rfl
    | some o =>
      obtain ⟨o', e'⟩ := g1.m L o e
      rw [hL] at e'
      cases e'
  have nfL : ¬ fp F L := fun z => by
    obtain ⟨a, c, ef, z⟩ := z
    obtain ⟨_, _, ns, l, m, t, e1, e2, _⟩ := (g1.ok w).src a c ef
    rcases z with rfl | rfl
    · rw [hL] at e1; cases e1
    · rw [hL] at e2; cases e2
  have kvl : ∀ i, i ≤ ds'.length → ((ds'.take i).map fun d => (kf d, vf d)).length = i := fun i hi => by simp [hi]
  refine ⟨fun i m H' => m = ds'.length - i ∧ i ≤ ds'.length ∧ ∃ ks S', Okw F S' H' ∧ Gr F S H S' H' ∧ Same S1 S' ∧ H' L = some (.dK ks) ∧ S' L = Option.none ∧ DtK S' ((ds'.take i).map fun d => (kf d, vf d)) ks,
    ⟨ds'.length, rfl, Nat.zero_le _, [], S1, (Gr.new (F := F) g1.h hL).ok (g1.ok w), g1.trans (Gr.new g1.h hL), Same.refl _, upd_same, Same.free g1.h hL, by simp only [List.take_zero, List.map_nil, DtK]⟩, ?_⟩
  rintro i m H' ⟨rfl, hi, ks, S', w', g', sm, hx, hsx, hdl⟩
  by_cases hlt : i < ds'.length
  · refine .inr ⟨W.go i S' H' sm w' hlt, fun H2 => ∃ ks S', Okw F S' H2 ∧ Gr F S H S' H2 ∧ Same S1 S' ∧ H2 L = some (.dK ks) ∧ S' L = Option.none ∧ DtK S' ((ds'.take (i + 1)).map fun d => (kf d, vf d)) ks, fun H2 z => ⟨ds'.length - (i + 1), by omega, rfl, hlt, z⟩, fun x H2 y => ?_⟩
    obtain ⟨d, S2, e, g2, hxd⟩ := W.yld i S' H' x H2 sm w' hlt y
    obtain ⟨js, Δ2, hg, hjs, ⟨kx, hK, hk⟩, hV⟩ := hs i d e
    have stw : StD F S2 H2 H0 (wipe σ vs) (wipeD Δ vs) := ((st.mono g').mono g2).wipes vs
    refine hg H0 S2 H2 (wipe σ vs) x (g2.ok w') stw hxd _ fun σ2 st2 off => ?_
    refine ⟨by rw [wipe_off off hjs, wipe_wipe], ?_⟩
    show tYes σ2 H2 _
    refine et_yes (F := F) H0 S2 H2 σ2 (g2.ok w') st2 _ fun b S3 H3 pb g3 => ?_
    subst pb
    simp only [if_true]
    refine hK H0 S3 H3 σ2 (g3.ok (g2.ok w')) (st2.mono g3) _ fun d1 v1 S4 H4 e4 g4 hv1 => ?_
    subst e4
    refine hV H0 S4 H4 σ2 (g4.ok (g3.ok (g2.ok w'))) ((st2.mono g3).mono g4) _ fun d2 v2 S5 H5 e5 g5 hv2 => ?_
    subst e5
    have gx := ((g2.trans g3).trans g4).trans g5
    have gg := g'.trans gx
    have h5 : H5 L = some (.dK ks) := gx.k _ _ nfL hx
    have s5 : S5 L = Option.none := by rw [gx.n _ _ hx]; exact hsx
    have hlk : ks.length = i := by
      have := congrArg List.length (dtk_keys hdl)
      simpa [hi] using this
    have tk' : ds'.take (i + 1) = ds'.take i ++ [d] := by rw [List.take_succ, e]; rfl
    have nin : kf d ∉ ks.map (·.1) := fun z => by
      rw [dtk_keys hdl, List.map_map] at z
      have z : kf d ∈ (ds'.take i).map kf := z
      have nd2 := nd
      rw [← List.take_append_drop (i + 1) ds', List.map_append, tk', List.map_append] at nd2
      have nd3 := (List.nodup_append.mp (List.nodup_append.mp nd2).1).2.2
      exact nd3 _ z _ (by simp) rfl
    have gm := (gg.mut hLH s5 h5 (o := .dK (ks ++ [(kf d, v2)])))
    refine ⟨ks, kf d, dt_key hv1 hk, h5, by omega, ?_⟩
    rw [putK_new nin]
    refine ⟨_, S5, gm.ok w, gm, ((sm.trans gx.s)), upd_same, s5, ?_⟩
    rw [tk', List.map_append]
    exact dtk_app hv2 (DtK.mono gx.s _ _ hdl)
  · have e : i = ds'.length := by omega
    subst e
    refine .inl ⟨W.stop _ S' H' sm w' (Nat.le_refl _), k _ _ (upd S' L (.dK ks)) H' rfl (g'.freeze hLH hx) ?_⟩
    rw [List.take_length] at hdl
    simp only [Dt]
    exact ⟨L, ks, rfl, upd_same, DtK.mono (fun x u e => by rw [upd_ne (ne_of_none e hsx)]; exact e) _ _ hdl⟩
/-! ### own lists looked at -/
theorem StD.frzE {S H H0 : Hp} {σ : L2.St} {i : Nat} {ds : List D} (st : StD F S H H0 σ Δ) (w : Okw F S H) (e : Δ[i]? = some (.own ds)) : ∃ p xs, S p = Option.none ∧ H p = some (.lst xs) ∧ Okw F (upd S p (.lst xs)) H ∧ StD F (upd S p (.lst xs)) H H0 σ (Δ.set i (.v (.list ds))) := by
  obtain ⟨x, e1, p, xs, rfl, h1, h2, h3, h4⟩ := st.ok i _ e
  have hi : i < Δ.length := (List.getElem?_eq_some_iff.mp e).1
  have sm : Same S (upd S p (.lst xs)) := fun x u e => by rw [upd_ne (ne_of_none e h2)]; exact e
  refine ⟨p, xs, h2, h1, ⟨fun x u q => ?_, fun a c ef => ?_⟩, ⟨by simp [st.len], fun j s' ej => ?_, fun j k es fs q f1 f2 f3 f4 => ?_, st.fh⟩⟩
  · by_cases hx : x = p
    · subst hx
      rw [upd_same] at q
      cases q
      exact h1
    · rw [upd_ne hx] at q
      exact w.s _ _ q
  · obtain ⟨q1, q2, q3⟩ := w.src a c ef
    have n1 : a ≠ p := fun z => by
      obtain ⟨o, q⟩ := st.fh a ⟨a, c, ef, .inl rfl⟩
      rw [z, h3] at q
      cases q
    have n2 : c ≠ p := fun z => by
      obtain ⟨o, q⟩ := st.fh c ⟨a, c, ef, .inr rfl⟩
      rw [z, h3] at q
      cases q
    exact ⟨by rw [upd_ne n1]; exact q1, by rw [upd_ne n2]; exact q2, q3⟩
  · by_cases hj : j = i
    · subst hj
      rw [List.getElem?_set_self hi] at ej
      cases ej
      refine ⟨_, e1, _, rfl, ?_⟩
      simp only [Dt]
      exact ⟨p, xs, rfl, upd_same, h4.mono sm⟩
    · rw [List.getElem?_set_ne (Ne.symm hj)] at ej
      obtain ⟨x, f1, f2⟩ := st.ok j s' ej
      refine ⟨x, f1, ?_⟩
      cases s' with
      | un => trivial
      | v d =>
        obtain ⟨y, z1, z2⟩ := f2
        exact ⟨y, z1, z2.mono sm⟩
      | src => exact f2
      | ob a dx C fs =>
        obtain ⟨vs, z1, z2, z3, z4, z5, z6, z7, z8⟩ := f2
        have n1 : a ≠ p := fun z => by rw [z, h1] at z2; cases z2
        have n2 : dx ≠ p := fun z => by rw [z, h1] at z3; cases z3
        exact ⟨vs, z1, z2, z3, by rw [upd_ne n1]; exact z4, by rw [upd_ne n2]; exact z5, z6, z7, z8.mono sm⟩
      | xc W PX l => exact XcOk.mono f2 (Gw.frz w.s h1 h2 h3 f2.hd)
      | fz a fs =>
        obtain ⟨vs, z1, z2⟩ := f2
        exact ⟨vs, sm _ _ z1, z2.mono sm⟩
      | tb P q => exact TbOk.frz f2 h1
      | od b kvs =>
        obtain ⟨ks, z1, z2, z3, z4, z5⟩ := f2
        exact ⟨ks, z1, z2, by rw [upd_ne (fun z => by rw [z, h1] at z2; cases z2)]; exact z3, z4, DtK.mono sm _ _ z5⟩
      | own es =>
        obtain ⟨q, ys, rfl, y1, y2, y3, y4⟩ := f2
        refine ⟨q, ys, rfl, y1, ?_, y3, y4.mono sm⟩
        rw [upd_ne (fun z => hj ?_)]
        · exact y2
        · subst z
          exact st.nd j i es ds q ej e f1 e1
  · have n1 : j ≠ i := fun z => by
      subst z
      rw [List.getElem?_set_self hi] at f1
      cases f1
    have n2 : k ≠ i := fun z => by
      subst z
      rw [List.getElem?_set_self hi] at f2
      cases f2
    rw [List.getElem?_set_ne (Ne.symm n1)] at f1
    rw [List.getElem?_set_ne (Ne.symm n2)] at f2
    exact st.nd j k es fs q f1 f2 f3 f4
theorem Gr.thaw {S H S' H' : Hp} {p : Addr} {o : HO} (hs : S p = Option.none) (g : Gr F (upd S p o) H S' H') : Gr F S H S H' :=
  ⟨fun _ _ e => e, fun x u e => g.h _ _ (g.s x u (by rw [upd_ne (ne_of_none e hs)]; exact e)), fun _ _ _ => rfl, g.k, g.m, g.src⟩
/-- data without addresses -/
def D.flat : D → Prop
  | .none | .bool _ | .int _ | .str _ => True
  | _ => False
theorem D.flat.dt {S S' : Hp} {d : D} {v : V} (f : d.flat) (h : Dt S d v) : Dt S' d v := by
  cases d <;> first | exact f.elim | (simp only [Dt] at h ⊢; exact h)
theorem ev_thaw {i : Nat} {ds : List D} {P : D → Prop} (hi : Δ[i]? = some (.own ds)) (h : EvR F te (Δ.set i (.v (.list ds))) P) (hf : ∀ d, P d → d.flat) : EvR F te Δ P := fun H0 S H σ w t Q k => by
  obtain ⟨p, xs, hs, hp, w', t'⟩ := t.frzE w hi
  exact h H0 _ H σ w' t' Q fun d v S' H' pd g hd => k d v S H' pd (g.thaw hs) ((hf d pd).dt hd)
theorem et_thaw {tt : TT} {i : Nat} {ds : List D} {P : Bool → Prop} (hi : Δ[i]? = some (.own ds)) (h : EvT F tt (Δ.set i (.v (.list ds))) P) : EvT F tt Δ P := fun H0 S H σ w t Q k => by
  obtain ⟨p, xs, hs, hp, w', t'⟩ := t.frzE w hi
  exact h H0 _ H σ w' t' Q fun b S' H' pd g => k b S H' pd (g.thaw hs)
theorem run_forF0 {po : Po} {ta : TA} {tb : TS} {g : TG} {R : List D → Option D → Prop} {Pa : List D → Prop} {i : Nat} {ds : List D} (hi : Δ[i]? = some (.own ds)) (h : EvA F ta (Δ.set i (.v (.list ds))) Pa) (hR : ∀ as, Pa as → R as Option.none ∧ ∀ d, ¬ R as (some d)) (k0 : po.nx Δ) :
    Run F fr (tForF (SpFD R) g ta tb) Δ po := fun S0 H0 B S H σ E w gb st r => by
  obtain ⟨p, xs, hs, hp, w', t'⟩ := st.frzE w hi
  refine h H0 _ H σ w' t' _ fun as vs S1 H1 pa g1 hd => ?_
  refine ⟨S1, as, (g1.ok w').base, ⟨rfl, hd⟩, ⟨_, (hR as pa).1⟩, fun d v S2 H2 r2 gv => ((hR as pa).2 d r2).elim, fun S2 H2 r2 g2 => ?_⟩
  have gg := (g1.trans g2.up).thaw hs
  exact r.nx Δ S H2 σ k0 (gg.ok w) (gb.step gg) (st.mono gg)
end
end Bc
namespace Bc
open PySem L2 PySem.Spec PyProof.Rows
theorem qJoin {X : Cx} {K : PySem.W.Frag} {o e : Expr} {to te : TE} {apos pos : Pos} (ho : PE X o to) (he : PE X e te) (hs : starEach [e] X.env = [(false, eval e X.env)] := by rfl) (hbase : attributeBase o "join" X.env (eval o X.env) = eval o X.env := by rfl) (hline : (apos.endLine == pos.line) = true := by rfl) (hK : X.K = K := by rfl) :
    PE X (.Call (.Attribute o "join" apos) [e] [] pos) (tM1 (fun x xs H Q => ∃ a p, ∃ ys : List Str, x = .str a ∧ xs = [.ref p] ∧ (SqL K H p (ys.map V.str) ∨ SqT K H p (ys.map V.str)) ∧ (ys.map (·.length)).sum + ys.length * a.length ≤ 16777216 ∧ Q (.str (Txt.join a ys)) H) to te) := by
  subst hK
  exact pe_join ho he hs hbase hline
end Bc

/-! Core P: own lists that are taken from; a = .., [..] with one new list; new lists beside effects; drawn slices. -/
namespace Bc
open PySem L2 PySem.Spec PyProof.Rows
section
variable {F : Fp} {fr : Bool} {Δ : List Sl} {te ta tb : TE} {tr : TA} {u : TS} {po : Po} {K : PySem.W.Frag} {S H H0 : Hp} {σ : L2.St} {i : Nat} {ds : List D}
theorem own_mut (st : StD F S H H0 σ Δ) (w : Okw F S H) (dm : Dm H0 H) (hi : Δ[i]? = some (.own ds)) : ∃ p xs, σ[i]? = some (some (.ref p)) ∧ H p = some (.lst xs) ∧ DtL S ds xs ∧
    ∀ ds' xs', DtL S ds' xs' → Okw F S (upd H p (.lst xs')) ∧ Gw F H0 S H S (upd H p (.lst xs')) ∧ StD F S (upd H p (.lst xs')) H0 σ (Δ.set i (.own ds')) := by
  obtain ⟨x, e1, p, xs, rfl, q1, q2, q3, q4⟩ := st.ok i _ hi
  have nf : ¬ fp F p := fun z => by
    obtain ⟨o, q⟩ := st.fh p z
    rw [q3] at q
    cases q
  refine ⟨p, xs, e1, q1, q4, fun ds' xs' hd => ?_⟩
  have gw : Gw F H0 S H S (upd H p (.lst xs')) := Gw.mut w.s q1 q2 q3 nf dm
  have hlt : i < Δ.length := (List.getElem?_eq_some_iff.mp hi).1
  refine ⟨gw.ok w st.fh, gw, by simp [st.len], fun j s' ej => ?_, fun j l es fs q f1 f2 f3 f4 => ?_, st.fh⟩
  · by_cases hj : j = i
    · subst hj
      rw [List.getElem?_set_self hlt] at ej
      cases ej
      exact ⟨_, e1, p, _, rfl, upd_same, q2, q3, hd⟩
    · rw [List.getElem?_set_ne (Ne.symm hj)] at ej
      obtain ⟨y, f1, f2⟩ := st.ok j s' ej
      refine ⟨y, f1, ?_⟩
      cases s' with
      | un => trivial
      | v d => exact f2
      | src => exact f2
      | ob a dx C fs =>
        obtain ⟨vs, z1, z2, z3, z4, z5, z6, z7, z8⟩ := f2
        have n1 : a ≠ p := fun z => by rw [z, q1] at z2; cases z2
        have n2 : dx ≠ p := fun z => by rw [z, q1] at z3; cases z3
        exact ⟨vs, z1, by rw [upd_ne n1]; exact z2, by rw [upd_ne n2]; exact z3, z4, z5, z6, z7, z8⟩
      | xc W PX l => exact XcOk.mono f2 gw
      | fz a fs => exact f2
      | tb P q => exact TbOk.own f2 q1 nf
      | od b kvs =>
        obtain ⟨ks, z1, z2, z3, z4, z5⟩ := f2
        exact ⟨ks, z1, by rw [upd_ne (fun z => by rw [z, q1] at z2; cases z2)]; exact z2, z3, z4, z5⟩
      | own es =>
        obtain ⟨q, ys, rfl, y1, y2, y3, y4⟩ := f2
        refine ⟨q, ys, rfl, ?_, y2, y3, y4⟩
        rw [upd_ne (fun z => hj ?_)]
        · exact y1
        · subst z
          exact st.nd j i es ds q ej hi f1 e1
  · by_cases n1 : j = i
    · by_cases n2 : l = i
      · rw [n1, n2]
      · subst n1
        rw [List.getElem?_set_ne (Ne.symm n2)] at f2
        exact st.nd j l ds fs q hi f2 f3 f4
    · rw [List.getElem?_set_ne (Ne.symm n1)] at f1
      by_cases n2 : l = i
      · subst n2
        exact st.nd j l es ds q f1 hi f3 f4
      · rw [List.getElem?_set_ne (Ne.symm n2)] at f2
        exact st.nd j l es fs q f1 f2 f3 f4
/-- l.pop() -/
theorem evm_pop {x : D} {r : List D} (hi : Δ[i]? = some (.own (r ++ [x]))) : EvM F (tBM0 K "list" rPop (tVar i)) Δ fun d Δ' => d = x ∧ Δ' = Δ.set i (.own r) := fun H0 S H σ w st dm Q k => by
  obtain ⟨p, xs, e1, q1, q4, hm⟩ := own_mut st w dm hi
  have hl := q4.len
  rw [List.length_append, List.length_singleton] at hl
  have hy : xs[xs.length - 1]? = some xs[xs.length - 1] := by
    rw [List.getElem?_eq_getElem]
  obtain ⟨d, e2, hd⟩ := q4.get' hy
  have : xs.length - 1 = r.length := by omega
  rw [this, List.getElem?_append_right (Nat.le_refl _), Nat.sub_self] at e2
  cases e2
  have hr : DtL S r xs.dropLast := by
    have := q4.take r.length
    rw [List.take_left] at this
    rw [List.dropLast_eq_take, show xs.length - 1 = r.length by omega]
    exact this
  obtain ⟨w', gw, st'⟩ := hm r xs.dropLast hr
  exact ⟨_, e1, Or.inl ⟨rfl, xs, SqL.of q1⟩, p, xs, _, rfl, rfl, q1, hy, k _ _ S _ _ ⟨rfl, rfl⟩ w' gw st' hd⟩
/-- l.pop(i), i drawn -/
theorem evm_popAt (hi : Δ[i]? = some (.own ds)) (h : EvR F ta Δ fun d => ∃ r : Nat, r < ds.length ∧ d = .int (r : Nat)) (hz : ds.length < 2 ^ 62) : EvM F (tBM K "list" rPopAt (tVar i) (tCons ta tNil)) Δ fun d Δ' => ∃ r : Nat, ds[r]? = some d ∧ Δ' = Δ.set i (.own (ds.eraseIdx r)) := fun H0 S H σ w st dm Q k => by
  obtain ⟨x, e1, p, xs, rfl, q1, q2, q3, q4⟩ := st.ok i _ hi
  refine ⟨_, e1, Or.inl ⟨rfl, xs, SqL.of q1⟩, ?_⟩
  refine h H0 S H σ w st _ fun d v S1 H1 pd g1 hv => ?_
  obtain ⟨r, hr, rfl⟩ := pd
  simp only [Dt] at hv
  subst hv
  obtain ⟨p', xs', e1', q1', q4', hm⟩ := own_mut (st.mono g1) (g1.ok w) (g1.w dm).m hi
  rw [e1] at e1'
  cases e1'
  have hl := q4'.len
  obtain ⟨x, ex, hx⟩ := q4'.get (i := r) (d := ds[r]) (by simp [hr])
  obtain ⟨w', gw, st'⟩ := hm (ds.eraseIdx r) (xs'.eraseIdx r) (q4'.erase r)
  refine ⟨p, xs', (r : Int), r, x, rfl, rfl, q1', by omega, by omega, ?_, ex, k ds[r] x S1 _ _ ⟨r, by simp [hr], rfl⟩ w' ((g1.w dm).trans gw) st' hx⟩
  unfold seqIndex?
  rw [hl] at hr
  have hneg : ¬ ((r : Int) < 0) := by omega
  simp [hneg, hr]
/-- a, b, .. = x, [..], ..: the second one a new list of the def's own -/
theorem run_asgO {i j n : Nat} {gs : TGs} {P1 : D → Prop} {P2 P3 : List D → Prop} (ha : EvR F ta Δ P1) (hb : EvF F tb Δ P2) (hr : EvA F tr Δ P3) (hz : ∀ r, P3 r → r.length + 2 = n) (hn : n ≤ sizeLine) (hj : j < Δ.length)
    (k : ∀ x ds r, P1 x → P2 ds → P3 r → ∃ js Δ', EvGs F gs r ((Δ.set i (.v x)).set j (.own ds)) js Δ' ∧ Run F fr u Δ' po) : Run F fr (tSeq (tAsg (tTup (tCons ta (tCons tb tr))) (gTup K n (gCons (gName i) (gCons (gName j) gs)))) u) Δ po := fun S0 H0 B S H σ E w gb st r => by
  refine ha H0 S H σ w st _ fun x vx S1 H1 p1 g1 hx => ?_
  refine hb H0 S1 H1 σ (g1.ok w) (st.mono g1) _ fun ds p xs S2 H2 p2 g2 hp h2 hs hd => ?_
  have gA := g1.trans g2
  refine hr H0 S2 H2 σ (gA.ok w) (st.mono gA) _ fun rs vr S3 H3 p3 g3 hrd => ?_
  have gB := gA.trans g3
  have hl := hz rs p3
  refine ⟨by simp only [List.length_cons]; rw [← hrd.len]; omega, fun q hq => ?_⟩
  have gN : Gr F S3 H3 S3 (upd H3 q (.tup (vx :: .ref p :: vr))) := Gr.new g3.h hq
  have gC := gB.trans gN
  refine ⟨q, vx :: .ref p :: vr, rfl, SqT.of upd_same, by simp only [List.length_cons]; rw [← hrd.len]; omega, vx, .ref p :: vr, rfl, ?_⟩
  have h0 : H0 p = Option.none := by
    cases e : H0 p with
    | none => rfl
    | some o =>
      obtain ⟨o', e'⟩ := gb.g.m p o e
      obtain ⟨o2, e2⟩ := g1.m p o' e'
      rw [hp] at e2
      cases e2
  have nf : ¬ fp F p := fun z => by
    obtain ⟨o, e⟩ := st.fh p z
    rw [h0] at e
    cases e
  have h3 : H3 p = some (.lst xs) := g3.k _ _ nf h2
  have s3 : S3 p = Option.none := by rw [g3.n _ _ h2]; exact hs
  have hpq : p ≠ q := fun z => by rw [← z, h3] at hq; cases hq
  have st1 : StD F S3 (upd H3 q (.tup (vx :: .ref p :: vr))) H0 (σ.set i (some vx)) (Δ.set i (.v x)) := (st.mono gC).setV ((hx.mono g2.s).mono g3.s)
  have st2 : StD F S3 (upd H3 q (.tup (vx :: .ref p :: vr))) H0 ((σ.set i (some vx)).set j (some (.ref p))) ((Δ.set i (.v x)).set j (.own ds)) := st1.set ⟨p, xs, rfl, by rw [upd_ne hpq]; exact h3, s3, h0, hd.mono g3.s⟩ fun es _ m fs q' e1 e2 e3 => by
    cases e3
    by_cases hm : m = i
    · subst hm
      by_cases hlt : m < Δ.length
      · rw [List.getElem?_set_self hlt] at e1
        cases e1
      · rw [List.getElem?_eq_none (by rw [List.length_set]; omega)] at e1
        cases e1
    · rw [List.getElem?_set_ne (Ne.symm hm)] at e1 e2
      obtain ⟨y, f1, q', ys, f2, f3, _⟩ := (st.mono g1).ok m _ e1
      rw [e2] at f1
      cases f1
      cases f2
      rw [hp] at f3
      cases f3
  refine ⟨.ref p, vr, rfl, ?_⟩
  obtain ⟨js, Δ', hg, hrun⟩ := k x ds rs p1 p2 p3
  exact hg H0 S3 _ _ vr (gC.ok w) st2 hrd _ fun σ' st' off => hrun S0 H0 B S3 _ σ' E (gC.ok w) (gb.step gC) st' r
/-- a, b, c = x, [..], z by names alone: the second one a new list of the def's own -/
theorem run_par3O {i j l : Nat} {tc : TE} {P1 P3 : D → Prop} {P2 : List D → Prop} (ha : EvR F ta Δ P1) (hb : EvF F tb Δ P2) (hc : EvR F tc Δ P3) (hj : j < Δ.length) (hjl : j ≠ l)
    (k : ∀ x ds z, P1 x → P2 ds → P3 z → Run F fr u (((Δ.set i (.v x)).set j (.own ds)).set l (.v z)) po) : Run F fr (tSeq (tPar3 i j l (tCons ta (tCons tb (tCons tc tNil)))) u) Δ po := fun S0 H0 B S H σ E w gb st r => by
  refine ha H0 S H σ w st _ fun x vx S1 H1 p1 g1 hx => ?_
  refine hb H0 S1 H1 σ (g1.ok w) (st.mono g1) _ fun ds p xs S2 H2 p2 g2 hp h2 hs hd => ?_
  have gA := g1.trans g2
  refine hc H0 S2 H2 σ (gA.ok w) (st.mono gA) _ fun z vz S3 H3 p3 g3 hz => ?_
  have gB := gA.trans g3
  refine ⟨vx, .ref p, vz, rfl, ?_⟩
  have h0 : H0 p = Option.none := by
    cases e : H0 p with
    | none => rfl
    | some o =>
      obtain ⟨o', e'⟩ := gb.g.m p o e
      obtain ⟨o2, e2⟩ := g1.m p o' e'
      rw [hp] at e2
      cases e2
  have nf : ¬ fp F p := fun z => by
    obtain ⟨o, e⟩ := st.fh p z
    rw [h0] at e
    cases e
  have h3 : H3 p = some (.lst xs) := g3.k _ _ nf h2
  have s3 : S3 p = Option.none := by rw [g3.n _ _ h2]; exact hs
  have st1 : StD F S3 H3 H0 (σ.set i (some vx)) (Δ.set i (.v x)) := (st.mono gB).setV ((hx.mono g2.s).mono g3.s)
  have st2 : StD F S3 H3 H0 ((σ.set i (some vx)).set j (some (.ref p))) ((Δ.set i (.v x)).set j (.own ds)) := st1.set ⟨p, xs, rfl, h3, s3, h0, hd.mono g3.s⟩ fun es _ m fs q' e1 e2 e3 => by
    cases e3
    by_cases hm : m = i
    · subst hm
      by_cases hlt : m < Δ.length
      · rw [List.getElem?_set_self hlt] at e1
        cases e1
      · rw [List.getElem?_eq_none (by rw [List.length_set]; omega)] at e1
        cases e1
    · rw [List.getElem?_set_ne (Ne.symm hm)] at e1 e2
      obtain ⟨y, f1, q', ys, f2, f3, _⟩ := (st.mono g1).ok m _ e1
      rw [e2] at f1
      cases f1
      cases f2
      rw [hp] at f3
      cases f3
  exact k x ds z p1 p2 p3 S0 H0 B S3 H3 _ E (gB.ok w) (gb.step gB) (st2.setV hz) r
/-- a, b = [..], [..]: both the def's own -/
theorem run_parFF {i j : Nat} {Pa Pb : List D → Prop} (ha : EvF F ta Δ Pa) (hb : EvF F tb Δ Pb) (hi : i < Δ.length) (hij : i ≠ j) (k : ∀ as bs, Pa as → Pb bs → Run F fr u ((Δ.set i (.own as)).set j (.own bs)) po) : Run F fr (tSeq (tPar i j (tCons ta (tCons tb tNil))) u) Δ po := fun S0 H0 B S H σ E w gb st r => by
  refine ha H0 S H σ w st _ fun as p xs S1 H1 pa g1 hp h1 hs hd => ?_
  refine hb H0 S1 H1 σ (g1.ok w) (st.mono g1) _ fun bs q ys S2 H2 pb g2 hq h2 hs2 hd2 => ?_
  have h0 : ∀ {y : Addr}, H y = Option.none → H0 y = Option.none := fun {y} e => by
    cases e' : H0 y with
    | none => rfl
    | some o =>
      obtain ⟨o', e2⟩ := gb.g.m y o e'
      rw [e] at e2
      cases e2
  have nf : ¬ fp F p := fun z => by
    obtain ⟨o, e⟩ := st.fh p z
    rw [h0 hp] at e
    cases e
  have hq0 : H q = Option.none := by
    cases e' : H q with
    | none => rfl
    | some o =>
      obtain ⟨o', e2⟩ := g1.m q o e'
      rw [hq] at e2
      cases e2
  have h2p : H2 p = some (.lst xs) := g2.k _ _ nf h1
  have s2p : S2 p = Option.none := by rw [g2.n _ _ h1]; exact hs
  have gg := g1.trans g2
  have own_ne : ∀ {y : Addr}, H y = Option.none → ∀ (m : Nat) (fs : List D), Δ[m]? = some (.own fs) → σ[m]? = some (some (V.ref y)) → False := fun {y} hy m fs e1 e2 => by
    obtain ⟨x, f1, q', zs, f2, f3, _⟩ := st.ok m _ e1
    rw [e2] at f1
    cases f1
    cases f2
    rw [hy] at f3
    cases f3
  have hlσ : i < σ.length := by rw [st.len]; exact hi
  have st1 : StD F S2 H2 H0 (σ.set i (some (.ref p))) (Δ.set i (.own as)) := (st.mono gg).set ⟨p, xs, rfl, h2p, s2p, h0 hp, hd.mono g2.s⟩ fun es _ m fs q' e1 e2 e3 => by
    cases e3
    exact own_ne hp m fs e1 e2
  have st2 : StD F S2 H2 H0 ((σ.set i (some (.ref p))).set j (some (.ref q))) ((Δ.set i (.own as)).set j (.own bs)) := st1.set ⟨q, ys, rfl, h2, hs2, h0 hq0, hd2⟩ fun es _ m fs q' e1 e2 e3 => by
    cases e3
    by_cases hm : m = i
    · subst hm
      rw [List.getElem?_set_self hlσ] at e2
      cases e2
      rw [h1] at hq
      cases hq
    · rw [List.getElem?_set_ne (Ne.symm hm)] at e1 e2
      exact own_ne hq0 m fs e1 e2
  exact ⟨.ref p, .ref q, rfl, k as bs pa pb S0 H0 B S2 H2 _ E (gg.ok w) (gb.step gg) st2 r⟩
/-- a new list, made beside effects, is the def's own -/
theorem run_setFM {i : Nat} {Pa : List D → List Sl → Prop} (h : EvFM F te Δ Pa) (ho : ∀ ds Δ', Pa ds Δ' → ∀ (j : Nat) (es : List D), Δ'[j]? = some (.own es) → ∃ es0, Δ[j]? = some (.own es0)) (k : ∀ ds Δ', Pa ds Δ' → Run F fr u (Δ'.set i (.own ds)) po) : Run F fr (tSeq (tAsg te (gName i)) u) Δ po := fun S0 H0 B S H σ E w gb st r => by
  refine h H0 S H σ w st gb.g.m _ fun ds p xs S1 H1 Δ1 pa w1 g1 st1 hp h1 hs hd => ?_
  have h0 : H0 p = Option.none := by
    cases e' : H0 p with
    | none => rfl
    | some o =>
      obtain ⟨o', e2⟩ := gb.g.m p o e'
      rw [hp] at e2
      cases e2
  refine k ds Δ1 pa S0 H0 B S1 H1 _ E w1 (gb.stepM g1) (st1.set ⟨p, xs, rfl, h1, hs, h0, hd⟩ fun es _ m fs q' e1 e2 e3 => ?_) r
  cases e3
  obtain ⟨es0, e4⟩ := ho ds Δ1 pa m fs e1
  obtain ⟨x, f1, q', zs, f2, f3, _⟩ := st.ok m _ e4
  rw [e2] at f1
  cases f1
  cases f2
  rw [hp] at f3
  cases f3
theorem cut_take (l : List D) (r : Nat) : cutD l Option.none (some (r : Int)) = l.take r := by
  unfold cutD
  rw [HT.sIx_none, HT.sIx_nat, List.drop_zero, Nat.sub_zero]
  by_cases h : r ≤ l.length
  · rw [Nat.min_eq_left h]
  · rw [Nat.min_eq_right (by omega), List.take_length, List.take_of_length_le (by omega)]
/-- l[:r], l and r drawn -/
theorem ev_slL {th : TE} {P : List D → Prop} {Ph : Nat → Prop} (h : EvR F te Δ fun d => ∃ l, P l ∧ d = .list l) (hh : EvR F th Δ fun d => ∃ r : Nat, Ph r ∧ d = .int (r : Nat)) : EvR F (tSl (rSlP K) te tNoPart (tPart th)) Δ fun d => ∃ l r, P l ∧ Ph r ∧ d = .list (l.take r) := fun H0 S H σ w t Q k => by
  refine h H0 S H σ w t _ fun d v S1 H1 ⟨l, pl, e⟩ g1 hd => ?_
  subst e
  refine hh H0 S1 H1 σ (g1.ok w) (t.mono g1) _ fun d u S2 H2 ⟨r, pr, e⟩ g2 hu => ?_
  subst e
  simp only [Dt] at hu
  refine ⟨(r : Int), hu, ?_⟩
  have w2 := g2.ok (g1.ok w)
  have hd2 := hd.mono g2.s
  have gg := g1.trans g2
  simp only [Dt] at hd2
  obtain ⟨a, xs, rfl, e1, h1⟩ := hd2
  refine .inl ⟨a, xs, rfl, SqL.of (w2.s _ _ e1), fun p hp => k _ _ _ _ ⟨l, r, pl, pr, rfl⟩ (gg.trans (Gr.newD w2.s hp)) ?_⟩
  simp only [Dt]
  refine ⟨p, _, rfl, upd_same, ?_⟩
  rw [← cut_take]
  exact (h1.cut Option.none (some (r : Int))).mono (Gr.newD (F := F) (o := .lst (cutV xs Option.none (some (r : Int)))) w2.s hp).s
end
end Bc

/-! Core L: lambdas without parameters handed to a def that calls them in a try; the law's end with a table of code objects. -/
namespace Bc
open PySem L2 PySem.Spec PyProof.Rows
/-- all but the table at P stays; the table is one of q still -/
structure TbUp (H H1 : Hp) (P : Addr) (q : Str) : Prop where
  t : LamX.TabS H1 P q
  k : ∀ b o, b ≠ P → H b = some o → H1 b = some o
section
variable {X : Cx} {pins : List (Addr × Obj)} {σ : L2.St} {H : Hp} {s : Shared}
/-- a lambda is made: of all that is known, nothing but the table at P changes -/
theorem lam_mk {c P : Addr} {params : Arguments} {body : Expr} {scope : Scope} {pos : Pos} {E Q : Value → Shared → Prop} (I : Inv X pins σ H s) (TB : LamX.TabB X.base X.mg c P) (hcode : X.env.code = .ref c) (hT : LamX.TabS H P (X.env.qual ++ "<lambda>")) (hdef : defaultsOf params X.env = ([], []))
    (hfree : ∀ y ∈ scope.names, y.2 = .free → ∃ c, X.env.cells.lookup y.1 = some c)
    (h : ∀ (f c' : Addr) (pm ctv : Value) (H1 : Hp) (s' : Shared), Inv X pins σ H1 s' → TbUp H H1 P (X.env.qual ++ "<lambda>") →
      s'.heap.get? f = some (PySem.W.kla_obj "<lambda>" (X.env.qual ++ "<lambda>") params body scope (cloFrom X.env.cells scope.names []) pm c' ctv) → H1 f = Option.none → f ∉ frs X.stack → H1 c' = some (LamX.CodeO c' (X.env.qual ++ "<lambda>")) → Q (.ref f) s') :
    wpAny (model X.prog X.w) X.A (eval (.Lambda params body scope pos) X.env) Q E s := by
  have hT0 := hT
  obtain ⟨ps, hP, htr, hin⟩ := hT
  have tab : s.heap.get? P = some { cls := .none, data := .fields ps } := I.hok P _ hP
  have cde := TB.code.keeps I.bk
  have blt := TB.bm.keeps I.bk
  have clo := closure_ok (env := X.env) hfree
  have above : ∀ g, s.heap.objs.size ≤ g → g ∉ frs X.stack := fun g hg z => by
    rcases List.mem_cons.mp (I.stkSub _ z) with e | e
    · have := I.lt
      rw [← e] at this
      exact absurd (Nat.lt_of_lt_of_le this hg) (Nat.lt_irrefl _)
    · exact I.nofs hg e
  refine PySem.W.kla_eval hdef ?_
  match hc : codeAmong pos ps.toList with
  | some cv =>
    obtain ⟨c', rfl, known⟩ := hin pos cv hc
    refine PySem.W.kla_makeFunctionHit (mg := X.mg) (c := c) (P := P) (ps := ps) clo I.ok.glob (I.mod.glob.keeps I.bk) hcode cde tab htr hc blt fun ctv h' tk keep sz => ?_
    exact h h'.objs.size c' _ ctv H _ (I.kept fun b o e => Heap.get?_push_of_some _ (keep b o e)) ⟨hT0, fun _ _ _ e => e⟩ (Heap.get?_push_size _ rfl) (I.hok.fresh sz) (above _ sz) known
  | none =>
    refine PySem.W.kla_makeFunction (mg := X.mg) (c := c) (P := P) (ps := ps) clo I.ok.glob (I.mod.glob.keeps I.bk) hcode cde tab htr hc TB.gP blt fun c' ctv h' tk keep low high record grown => ?_
    obtain ⟨_, oc, vs, t, ⟨⟩, g1, g2, g3⟩ := record
    have unknown : H c' = Option.none := I.hok.fresh low
    have wide : s.heap.objs.size ≤ h'.objs.size := Nat.le_trans low (Nat.le_of_lt high)
    have J := LamX.inv_table (t' := tk) (more := #[rawInt pos.line, rawInt pos.col, .ref c']) (h' := h'.push (PySem.W.kla_obj "<lambda>" (X.env.qual ++ "<lambda>") params body scope (cloFrom X.env.cells scope.names []) ((X.mg "__name__").getD .none) c' ctv)) (q := X.env.qual ++ "<lambda>") I hP
      (fun b o hb e => Heap.get?_push_of_some _ (keep b o hb e)) (Heap.get?_push_of_some _ grown) low ⟨oc, vs, t, Heap.get?_push_of_some _ g1, g2, g3⟩
    have nPc : P ≠ c' := ne_of_none hP unknown
    have stay : ∀ b o, b ≠ P → H b = some o → upd (upd H P (.tbl (ps ++ #[rawInt pos.line, rawInt pos.col, .ref c']))) c' (LamX.CodeO c' (X.env.qual ++ "<lambda>")) b = some o := fun b o n e => by
      rw [upd_ne (ne_of_none e unknown), upd_ne n]
      exact e
    have asL : (ps ++ #[rawInt pos.line, rawInt pos.col, .ref c']).toList = ps.toList ++ [rawInt pos.line, rawInt pos.col, .ref c'] := by simp
    refine h h'.objs.size c' ((X.mg "__name__").getD .none) ctv _ _ J ⟨⟨_, by rw [upd_ne nPc, upd_same], by rw [asL]; exact PySem.TriplesOk_snoc _ _ _ _ htr, fun p' cv z => ?_⟩, stay⟩ (Heap.get?_push_size _ rfl) ?_ (above _ wide) upd_same
    · rw [asL] at z
      rcases LamX.among_app _ htr z with z | z
      · obtain ⟨c0, e1, e2⟩ := hin p' cv z
        exact ⟨c0, e1, stay _ _ (fun y => by rw [y, hP] at e2; exact LamX.codeO_ne _ (Option.some.inj e2).symm) e2⟩
      · exact ⟨c', z, upd_same⟩
    · rw [upd_ne (Nat.ne_of_gt high), upd_ne (Nat.ne_of_gt (Nat.lt_of_lt_of_le (Heap.lt_size tab) wide))]
      exact I.hok.fresh wide
/-- the lambda is called in the def that got it: what it raises goes the way W of that place -/
theorem pe_actS {CXg : CXT} {Eg : XK} {Ng : List Str} {qg : Str} {sg : Scope} {g f c' : Addr} {cdg pm ctv : Value} {params : Arguments} {body : Expr} {scope : Scope} {k i : Nat} {a : Str} {pn : List (Addr × Obj)} {xe : Value → Shared → Prop} {W : WX} {tb : XK → TE} {p1 p2 : Pos}
    (I : Inv X pins σ H s) (L : LamX.LamS X.env.scope scope) (hf : s.heap.get? f = some (PySem.W.kla_obj "<lambda>" (X.env.qual ++ "<lambda>") params body scope (cloFrom X.env.cells scope.names []) pm c' ctv)) (hfn : H f = Option.none) (hfr : f ∉ frs X.stack)
    (hbind : bindArgs (PySem.W.kla_fn "<lambda>" (X.env.qual ++ "<lambda>") params body scope (cloFrom X.env.cells scope.names []) pm (.ref c') ctv) ⟨[], []⟩ = pure [])
    (tk : Takes ((cxOf CXg X.prog X.w X.K X.mg X.base Ng qg sg g cdg X.A X.stack s H Eg).tr pn xe) W) (hr : Room (k + 1) (X.A.deeper (envOfC qg sg s.heap.objs.size g cdg)))
    (hbody : ∀ (A : Around) (outer : List Env) (s : Shared) (H : Hp) (E : XK), Room k (A.deeper (LamX.lamEnv X scope s.heap.objs.size f c')) → PE (LamX.lamCx X A outer s H E scope f c') body (tb E))
    (hN : Ng[i]? = some a) (hv : Vis sg a) (hd : (a == ("__debug__" : Str)) = false := by decide) (hcd : (a == ("__classdict__" : Str)) = false := by decide) :
    PE ((cxOf CXg X.prog X.w X.K X.mg X.base Ng qg sg g cdg X.A X.stack s H Eg).tr pn xe) (.Call (.Name a p1) [] [] p2)
      (fun σZ HZ Q => σZ[i]? = some (some (.ref f)) ∧ HZ c' = some (LamX.CodeO c' (X.env.qual ++ "<lambda>")) ∧ tb (WE W σZ) σ HZ Q) := by
  refine ⟨fun pinsZ sZ σZ HZ Q IZ ⟨at_, code, ht⟩ => ?_⟩
  refine wpAny_Call_Name_kw (thn ((pe_var (pos := p1) (i := i) hN hv hd hcd).run pinsZ sZ σZ HZ (fun v H1 => v = .ref f ∧ H1 = HZ) IZ ⟨.ref f, at_, rfl, rfl⟩) ?_)
  rintro u s1 ⟨_, H1, I1, rel, rfl, eH⟩
  have eH : H1 = HZ := eH
  subst eH
  obtain rfl : u = Value.ref f := rel
  have here : s1.heap.get? f = some (PySem.W.kla_obj "<lambda>" (X.env.qual ++ "<lambda>") params body scope (cloFrom X.env.cells scope.names []) pm c' ctv) := I1.base.keep f _ hf hfn hfr (fun z => (List.not_mem_nil (show f ∈ ([] : List Addr) from z)).elim)
  refine PySem.W.callWith_F0 ⟨_, _, _, _, here⟩ ?_
  obtain ⟨⟨oc, vs, t, q1, q2, q3⟩, _, _⟩ := I1.hok c' _ code
  have un : Un (frs X.stack) [] H H1 s.heap s1.heap := I1.base
  have rc : codeAny (model X.prog X.w) (X.A.deeper (envOfC qg sg s.heap.objs.size g cdg)) (.call (.ref f) ⟨[], []⟩) (CR (L2.CX X.prog X.w) (envOfC qg sg s.heap.objs.size g cdg :: X.stack) X.prog X.w H1 s1 Q (WE W σZ)) s1 := by
    refine PySem.W.kla_callFunE hr.depth here rfl L.co L.gen rfl ⟨c', oc, vs, t, rfl, q1, q2, q3⟩ ?_
    rw [hbind]
    refine wpAny_pure (wpAny_newFunctionEnv (fun y hy => (L.own y hy).2) (fun y hy => (List.not_mem_nil hy).elim) (fun h₁ hns hsb => ⟨I1.nolimit.fresh _ hsb, ?_⟩) L.kind)
    show codeAny _ _ (.expr body (LamX.lamEnv X scope s1.heap.objs.size f c')) _ _
    have kp : ∀ b o, s1.heap.get? b = some o → h₁.get? b = some o := fun b o e => hsb.extBut b o (Nat.ne_of_lt (Heap.lt_size e)) (Heap.get?_push_of_some _ e)
    have J : Inv (LamX.lamCx X (X.A.deeper (envOfC qg sg s.heap.objs.size g cdg)) (envOfC qg sg s.heap.objs.size g cdg :: X.stack) s1 H1 (WE W σZ) scope f c') [] σ H1 { s1 with heap := h₁, toks := s1.toks + ([] : List (Str × Value)).length } := LamX.lam_start2 I L I1.env0 hr.hd un hns kp
    refine PySem.W.kla_codeExpr (wpAny_mono ((hbody _ _ s1 H1 (WE W σZ) (hr.deeper _)).run [] _ _ H1 Q J ht) ?_ fun _ _ z => z)
    rintro v s' ⟨w', H', J', rv, q⟩
    exact ⟨w', H', J'.os, J'.bare, J'.base, J'.hok, rv, q⟩
  refine wpAny_call (codeAny_mono rc fun r s' hq => ?_)
  match r, hq with
  | .error e, hq => exact passAt tk σZ pinsZ H1 s1 e s' I1 hq
  | .ok (.ret u), hq => exact I1.after hq
/-- the def that calls what it got: a calls it; TT: what it makes of the lambda's reading -/
def GivesS (X : Cx) (Ng : List Str) (x : Str) (sg : Scope) (g : Addr) (cdg : Value) (bg : List Stmt) (a : Str) (q : Str) (TT : (XK → Hp → VK → Prop) → Hp → VK → Prop) : Prop :=
  ∀ (f c' : Addr) (s : Shared) (H : Hp) (Q : VK) (tl : XK → Hp → VK → Prop),
    (∀ (W : WX) (pn : List (Addr × Obj)) (xe : Value → Shared → Prop) (p1 p2 : Pos), Takes ((cxOf CX0 X.prog X.w X.K X.mg X.base Ng x sg g cdg X.A X.stack s H E0).tr pn xe) W →
      PE ((cxOf CX0 X.prog X.w X.K X.mg X.base Ng x sg g cdg X.A X.stack s H E0).tr pn xe) (.Call (.Name a p1) [] [] p2) (fun σZ HZ Q => σZ[0]? = some (some (.ref f)) ∧ HZ c' = some (LamX.CodeO c' q) ∧ tl (WE W σZ) HZ Q)) →
    H c' = some (LamX.CodeO c' q) → TT tl H Q →
    ∃ t, PSs (cxOf CX0 X.prog X.w X.K X.mg X.base Ng x sg g cdg X.A X.stack s H E0).nox bg t ∧ t { nx := fun _ H' => Q .non H', rt := Q } (L2.start Ng [.ref f]) H
def tLamS (P : Addr) (q : Str) (TT : (XK → Hp → VK → Prop) → Hp → VK → Prop) (t : XK → TE) : TE := fun σ H Q => LamX.TabS H P q ∧ ∀ H1, TbUp H H1 P q → TT (fun E H' Q' => t E σ H' Q') H1 Q
end
section
variable {X : Cx}
/-- x(lambda: body) -/
theorem pe_lamS {P c g : Addr} {TT : (XK → Hp → VK → Prop) → Hp → VK → Prop} {x a : Str} {k : Nat} {st : Stmt} {fd : FuncData} {Ng : List Str} {params : Arguments} {body : Expr} {scope : Scope} {t : XK → TE} {p lpos pos : Pos} (Fu : Fun X.K x x st g fd) (hm : X.mg x = some (.ref g)) (hk : PySem.W.keepIn X.K (.ref g) = true) (hb : L2.Binds X.K fd [a] [])
    (Sg : FnScope Ng [a] (defScope st)) (hG : ∀ cdg, GivesS X Ng x (defScope st) g cdg (defBody st) a (X.env.qual ++ "<lambda>") TT)
    (TB : LamX.TabB X.base X.mg c P) (hcode : X.env.code = .ref c) (hr : Room (k + 2) X.A) (hNg : Ng[0]? = some a := by rfl) (hva : Vis (defScope st) a := by exact Or.inl rfl)
    (L : LamX.LamS X.env.scope scope := by exact LamX.lamS_by (by decide +kernel)) (hbody : ∀ (A : Around) (outer : List Env) (s : Shared) (H : Hp) (E : XK) (f c' : Addr), Room k (A.deeper (LamX.lamEnv X scope s.heap.objs.size f c')) → PE (LamX.lamCx X A outer s H E scope f c') body (t E)) (hdef : defaultsOf params X.env = ([], []) := by rfl)
    (hbind : ∀ (q : Str) (cl : List (Str × Addr)) (pm cv ctv : Value), bindArgs (PySem.W.kla_fn "<lambda>" q params body scope cl pm cv ctv) ⟨[], []⟩ = pure [] := by intros; rfl)
    (hg : Gl X x := by rfl) (hdb : (x == ("__debug__" : Str)) = false := by decide) (hd : (a == ("__debug__" : Str)) = false := by decide) (hcd : (a == ("__classdict__" : Str)) = false := by decide) :
    PE X (.Call (.Name x p) [.Lambda params body scope lpos] [] pos) (tLamS P (X.env.qual ++ "<lambda>") TT t) := by
  obtain ⟨oc, od, kV, doc, pm, an, cdv, ct, osl, rfl, lk, hcg⟩ := Fu.ex
  refine ⟨fun pins s σ H Q I ⟨hT, h⟩ => ?_⟩
  refine wpAny_Call_Name_kw (ld_glob I hg hm ?_ hdb)
  refine PySem.W.callWith_K (h₀ := X.base) I.ok.mod.kin hk ?_ (by rfl) (by rfl)
  show wpAny _ _ (spliced ((false, eval (.Lambda params body scope lpos) X.env) :: backTo pos (starEach [] X.env))) _ _ s
  refine Calls.spliced_cons (lam_mk I TB hcode hT hdef (L.has I.ok) fun f c' pm' ctv H1 s' I1 up hf hfn hfr hco => ?_)
  refine Calls.spliced_nil ⟨I1.kIn, ?_⟩
  have rc : codeAny (model X.prog X.w) X.A (.call (.ref g) ⟨[.ref f], []⟩) (CR CX0 X.stack X.prog X.w H1 s' Q E0) s' := by
    refine LamX.run_ofS (N := Ng) (ps := [a]) (us := [.ref f]) (vs := [.ref f]) lk hcg Sg hr I1.env0 (hb s' [.ref f] I1.kIn rfl) (.cons rfl .nil) rfl fun hr' => ?_
    obtain ⟨t', ht', hq'⟩ := hG cdv f c' s' H1 Q (fun E H' Q' => t E σ H' Q') (fun W pn xe p1 p2 tk => pe_actS (i := 0) I1 L hf hfn hfr (hbind _ _ _ _ _) tk hr' (fun A outer s H E hr2 => hbody A outer s H E f c' hr2) hNg hva hd hcd) hco (h H1 up)
    exact ⟨t', ht'.nox, hq'⟩
  refine wpAny_call (codeAny_mono rc fun r s2 hq => ?_)
  match r, hq with
  | .error e, hq => exact (show False from hq).elim
  | .ok (.ret u), hq => exact I1.after hq
end
/-! ### a def that tells the name that is missing -/
/-- try: a() except C as e: return [e.name]; return [] -/
def TTm (C : Addr) : (XK → Hp → VK → Prop) → Hp → VK → Prop := fun tl H Q => ∀ (E : XK) (Q1 : VK),
  (∀ (H' : Hp) (dd : Addr) (vs : List (Str × V)) (v : V), H' dd = some (.xd vs) → vs.lookup ("name" : Str) = some v → (∀ p, H' p = Option.none → Q (.ref p) (upd H' p (.lst [v]))) → E (.ref C) (some dd) H') →
  (∀ v H', (∀ p, H' p = Option.none → Q (.ref p) (upd H' p (.lst []))) → Q1 v H') → tl E H Q1
/-- of the slots those that no call changes -/
def dat (Δ : List Sl) : List Sl := Δ.map fun s => match s with
  | .v d => .v d
  | .src => .src
  | _ => .un
def tb1 (i : Nat) (Δ : List Sl) : Bool := (Δ.set i .un).all fun s => match s with | .tb _ _ => false | _ => true
theorem tb1_ne {i j : Nat} {Δ : List Sl} {s : Sl} (h : tb1 i Δ = true) (e : Δ[j]? = some s) (n : j ≠ i) : ∀ P q, s ≠ .tb P q := fun P q z => by
  have := List.all_eq_true.mp h s (List.mem_of_getElem? (i := j) (by rw [List.getElem?_set_ne (Ne.symm n)]; exact e))
  subst z
  cases this
section
variable {F : Fp} {fr : Bool} {Δ : List Sl} {S H H0 H1 S0 B : Hp} {σ : L2.St} {it : Nat} {P : Addr} {q : Str}
theorem tb_up (st : StD F S H H0 σ Δ) (w : Okw F S H) (gb : Gb F S0 H0 B S H) (hT : Δ[it]? = some (.tb P q)) (h1 : tb1 it Δ = true) (up : TbUp H H1 P q) : StD F S H1 H0 σ Δ ∧ Okw F S H1 ∧ Gb F S0 H0 B S H1 := by
  obtain ⟨_, _, tb⟩ := st.ok it _ hT
  have tb : TbOk F S H H0 P q := tb
  obtain ⟨ps, hP, _⟩ := id tb.t
  have ne : ∀ {x o}, H x = some o → (∀ ps, o ≠ .tbl ps) → x ≠ P := fun {x o} e n z => n ps (by rw [z, hP] at e; exact (Option.some.inj e).symm)
  have kS : Same S H1 := fun x o e => up.k x o (fun z => by rw [z, tb.s] at e; cases e) (w.s x o e)
  have k0 : ∀ x o u, H0 x = some o → H x = some u → H1 x = some u := fun x o u e1 e2 => up.k x u (fun z => by rw [z, tb.h0] at e1; cases e1) e2
  have ksrc : ∀ a c, SrcAt H a c → SrcAt H1 a c := fun a c ⟨ns, l, m, t, e1, e2, e3⟩ => ⟨ns, l, m, t, up.k _ _ (ne e1 (by simp)) e1, up.k _ _ (ne e2 (by simp)) e2, e3⟩
  have gw : Gw F H0 S H S H1 := ⟨fun _ _ e => e, kS, fun _ _ _ => rfl, fun x o u _ e1 e2 => k0 x o u e1 e2, fun x o e => (gb.g.m x o e).elim fun o' e' => ⟨o', k0 x o o' e e'⟩, fun a c _ z => ksrc a c z⟩
  refine ⟨⟨st.len, fun j s e => ?_, st.nd, st.fh⟩, ⟨kS, fun a c e => ⟨(w.src a c e).1, (w.src a c e).2.1, ksrc a c (w.src a c e).2.2⟩⟩, ⟨gw.gr gb.g, gb.b⟩⟩
  obtain ⟨x, e1, h⟩ := st.ok j s e
  refine ⟨x, e1, ?_⟩
  cases s with
  | un => trivial
  | v d => exact h
  | src => exact h
  | own l =>
    obtain ⟨p, xs, q1, q2, q3, q4, q5⟩ := h
    exact ⟨p, xs, q1, up.k _ _ (ne q2 (by simp)) q2, q3, q4, q5⟩
  | ob a dx C fs =>
    obtain ⟨vs, q1, q2, q3, r⟩ := h
    exact ⟨vs, q1, up.k _ _ (ne q2 (by simp)) q2, up.k _ _ (ne q3 (by simp)) q3, r⟩
  | xc W PX l => exact XcOk.mono h gw
  | fz a fs => exact h
  | od b kvs =>
    obtain ⟨ks, q1, q2, q3, q4, q5⟩ := h
    exact ⟨ks, q1, up.k _ _ (ne q2 (by simp)) q2, q3, q4, q5⟩
  | tb P' q' =>
    by_cases hj : j = it
    · subst hj
      rw [hT] at e
      cases e
      exact ⟨up.t, tb.s, tb.h0, fun a c e => ksrc a c (tb.src a c e)⟩
    · exact absurd rfl (tb1_ne h1 e hj _ _)
theorem dat_std (st : StD F S H H0 σ Δ) (dm : ∀ x o, H0 x = some o → ∃ o', H x = some o') : StD F S H H σ (dat Δ) := by
  refine ⟨by simp [dat, st.len], fun j s e => ?_, fun j k ds es p e1 _ _ _ => ?_, fun x z => (st.fh x z).elim fun o e => dm x o e⟩
  · rw [dat, List.getElem?_map, Option.map_eq_some_iff] at e
    obtain ⟨s0, e1, e2⟩ := e
    obtain ⟨x, e3, h⟩ := st.ok j s0 e1
    refine ⟨x, e3, ?_⟩
    subst e2
    cases s0 <;> first | exact trivial | exact h
  · rw [dat, List.getElem?_map, Option.map_eq_some_iff] at e1
    obtain ⟨s0, _, e2⟩ := e1
    cases s0 <;> cases e2
/-- y = x(lambda: ..), x as TTm says -/
theorem run_missing {i ix : Nat} {u : TS} {po : Po} {C : Addr} {t : XK → TE} {PX : Value → FX → Prop} {Pv : D → Prop} (hT : Δ[it]? = some (.tb P q)) (h1 : tb1 it Δ = true)
    (h : ∀ E : XK, EvR F (t E) ((dat Δ).set ix (.xc (WOf E) PX (List.replicate Δ.length Option.none))) Pv) (hx : ∀ c f, PX c f → ∃ d, c = .ref C ∧ f = some [(("name" : Str), d)])
    (k0 : ∀ d, Pv d → Run F fr u (Δ.set i (.own [])) po) (k1 : ∀ d, PX (.ref C) (some [(("name" : Str), d)]) → Run F fr u (Δ.set i (.own [d])) po) : Run F fr (tSeq (tAsg (tLamS P q (TTm C) t) (gName i)) u) Δ po := fun S0 H0 B S H σ E w gb st r => by
  obtain ⟨_, _, tb⟩ := st.ok it _ hT
  refine ⟨TbOk.t tb, fun H1 up E1 Q1 hE hQ => ?_⟩
  obtain ⟨st1, w1, gb1⟩ := tb_up st w gb hT h1 up
  have fin : ∀ {S' H' : Hp} {p : Addr} {ds : List D} {vs : List V}, Gr F S H1 S' H' → H' p = Option.none → DtL S' ds vs → Run F fr u (Δ.set i (.own ds)) po → u E (σ.set i (some (.ref p))) (upd H' p (.lst vs)) := fun {S' H' p ds vs} g hp hd k => by
    have g2 := g.trans (Gr.new (F := F) (o := .lst vs) g.h hp)
    have hp1 : H1 p = Option.none := by
      cases e : H1 p with
      | none => rfl
      | some o =>
        obtain ⟨o', e'⟩ := g.m p o e
        rw [hp] at e'
        cases e'
    have hp0 : H0 p = Option.none := by
      cases e : H0 p with
      | none => rfl
      | some o =>
        obtain ⟨o', e'⟩ := gb1.g.m p o e
        rw [hp1] at e'
        cases e'
    exact k S0 H0 B S' _ _ E (g2.ok w1) (gb1.step g2) (st1.setOwn g2 hp1 hp0 upd_same (Same.free g.h hp) hd) r
  have stx : StD F S H1 H1 σ ((dat Δ).set ix (.xc (WOf E1) PX (List.replicate Δ.length Option.none))) := (dat_std st1 gb1.g.m).put (fun y => show XcOk F S H1 H1 _ _ _ from ⟨fun x o e => ⟨o, e⟩, fun S' H' c d fs σ' gw px xd _ _ => ?_⟩) (fun _ z => by cases z)
  · refine h E1 H1 S H1 σ w1 stx Q1 fun d v S' H' pd g hd => hQ v H' fun p hp => fin g hp dtl_nil (k0 d pd)
  · obtain ⟨dv, rfl, rfl⟩ := hx c fs px
    obtain ⟨a, vs, rfl, e1, e2⟩ := xd
    simp only [DtF] at e2
    obtain ⟨v, _, rfl, hv, rfl⟩ := e2
    exact hE H' a _ v (gw.h _ _ e1) rfl fun p hp => fin ⟨gw.s, gw.h, gw.n, fun x o nf e => gw.k x o o nf e e, gw.m, gw.src⟩ hp (dtl_cons hv dtl_nil) (k1 dv px)
end
/-! ### law: behind the source, with a table -/
theorem law_startT {rest : TS} {n it : Nat} {H' : Hp} {σ : L2.St} {p c P : Addr} {q : Str} {Q : VK} (hp : SrcAt H' p c) (hP : H' P = some (.tbl #[])) (hl : σ.length = n + 2) (h1 : σ[1]? = some (some (.ref p)))
    (hrun : Run (some (p, c)) false rest ((Sl.un :: Sl.src :: List.replicate n Sl.un).set it (.tb P q)) { nx := fun _ => False, rt := fun d => d = .bool true }) (hQ : ∀ H, Q (.bl true) H) : rest { nx := fun _ H => Q .non H, rt := Q } σ H' := by
  have hp0 := hp
  obtain ⟨ns, l, m, t, e1, e2, e3⟩ := hp
  have nP : ∀ {x o}, H' x = some o → (∀ ps, o ≠ .tbl ps) → x ≠ P := fun {x o} e n z => n _ (by rw [z, hP] at e; exact (Option.some.inj e).symm)
  let H0 : Hp := fun x => if x = P then Option.none else H' x
  have at0 : ∀ {x o}, H' x = some o → (∀ ps, o ≠ .tbl ps) → H0 x = some o := fun {x o} e n => (if_neg (nP e n)).trans e
  have of0 : ∀ {x o}, H0 x = some o → H' x = some o := fun {x o} e => by
    by_cases hx : x = P
    · have : H0 x = Option.none := if_pos hx
      rw [this] at e
      cases e
    · exact (if_neg hx).symm.trans e
  have w : Okw (some (p, c)) (fun _ => Option.none) H' := ⟨fun _ _ e => (by cases e), fun a b e => by cases e; exact ⟨rfl, rfl, hp0⟩⟩
  have hf : ∀ x, fp (some (p, c)) x → ∃ o, H0 x = some o := fun x ⟨a, b, e, z⟩ => by
    cases e
    rcases z with rfl | rfl
    · exact ⟨_, at0 e1 (by simp)⟩
    · exact ⟨_, at0 e2 (by simp)⟩
  have st : StD (some (p, c)) (fun _ => Option.none) H' H0 σ (Sl.un :: Sl.src :: List.replicate n Sl.un) := by
    refine ⟨by simp [hl], fun i s e => ?_, fun i j ds es q e1 _ _ _ => ?_, hf⟩
    · have hi : i < n + 2 := by simpa using (List.getElem?_eq_some_iff.mp e).1
      have hx : ∃ y, σ[i]? = some y := ⟨σ[i]'(by omega), by simp⟩
      match i, e, hx with
      | 0, e, hx =>
        cases e
        exact ⟨_, hx.choose_spec, trivial⟩
      | 1, e, _ =>
        cases e
        exact ⟨_, h1, p, c, rfl, rfl⟩
      | i + 2, e, hx =>
        have := List.mem_of_getElem? (show (List.replicate n Sl.un)[i]? = some s from e)
        rw [List.mem_replicate] at this
        rw [this.2]
        exact ⟨_, hx.choose_spec, trivial⟩
    · match i, e1 with
      | 0, e1 => cases e1
      | 1, e1 => cases e1
      | i + 2, e1 =>
        have := List.mem_of_getElem? (show (List.replicate n Sl.un)[i]? = some _ from e1)
        rw [List.mem_replicate] at this
        cases this.2
  have st2 := st.put (i := it) (s := .tb P q) (fun y => show TbOk _ _ _ _ _ _ from ⟨LamX.TabS.nil hP, rfl, if_pos rfl, fun a c e => by cases e; exact hp0⟩) (fun _ z => by cases z)
  refine hrun (fun _ => Option.none) H0 (fun _ => Option.none) (fun _ => Option.none) H' σ _ w ⟨⟨fun _ _ e => e, fun _ _ e => (by cases e), fun _ _ _ => rfl, fun _ _ _ e => of0 e, fun _ o e => ⟨o, of0 e⟩, fun a c e _ => by cases e; exact hp0⟩, Same.refl _⟩ st2 ⟨fun _ _ _ _ n => n.elim, fun d v Δ S H σ e _ _ _ gv => ?_, fun _ _ _ _ n => n.elim, fun _ _ _ _ n => n.elim⟩
  have hv := gv.vl rfl
  rw [e] at hv
  simp only [Dt] at hv
  rw [hv]
  exact hQ _
/-! ### law's body and its call, its own code object known -/
/-- law's promise: the table P of its code object is empty -/
def spLawT (K : PySem.W.Frag) (P : Addr) : Sp := fun vs H Q _ => ∃ (a : Addr) (ns : List Int), vs = [.ref a] ∧ SqL K H a (ns.map V.int) ∧ ns.length ≤ 63 ∧ H P = some (.tbl #[]) ∧ ∀ H', Q (.bl true) H'
section
variable {P : Program} {w : World} {K : PySem.W.Frag} {mg : Str → Option Value} {base : Heap} {k : Nat} {f : Addr} {ps : List Str} {sp : Sp}
theorem bodyGC {x qual : Str} {st : Stmt} {N : List Str} {oc kV doc pm cdv ct : Value} {od an : Option Addr} {osl : Array (Option Value)} (lk : K.lookup f = some ⟨oc, od, .func (PySem.W.fnOf x qual (defArgs st) (defBody st) (defScope st) .none kV doc pm an cdv ct), osl⟩) (hcd : PySem.W.codeIn K cdv qual = true)
    (Sc : FnScope N ps (defScope st)) (len : ∀ vs H Q E, sp vs H Q E → vs.length = ps.length)
    (hbody : ∀ (A : Around) (outer : List Env) (s : Shared) (H : Hp) (vs : List V) (Q : VK) (E : XK), A.guards = some [] → Room k (A.deeper (envOfC qual (defScope st) s.heap.objs.size f cdv)) → sp vs H Q E →
      ∃ t, PSs (cxOf CX0 P w K mg base N qual (defScope st) f cdv A outer s H E).nox (defBody st) t ∧ t { nx := fun _ H' => Q .non H', rt := Q } (L2.start N vs) H) : FnOkG P w K mg base (k + 1) f (PySem.W.fnOf x qual (defArgs st) (defBody st) (defScope st) .none kV doc pm an cdv ct) ps sp := by
  refine ⟨len, fun A outer s0 H args us vs Q E gA rm env0 hb rel hsp => ?_⟩
  refine LamX.run_ofS lk hcd Sc rm env0 hb rel (len _ _ _ _ hsp) fun hr' => ?_
  obtain ⟨t, tk, tq⟩ := hbody A outer s0 H vs Q E gA hr' hsp
  exact ⟨t, tk.nox, tq⟩
theorem law_callGT {mb : Str → Option Value} {fa a c T : Addr} {fd : FuncData} {x : Str} {s : Shared} {vs : List Value} {ns : List Int}
    (inK : K.In s.heap) (hns : s.heap.Ns mainGlobals mg) (hb : s.heap.Ns builtinsNs mb) (hbb : ∀ x : Str, x ≠ "__name__" → mb x = bootBuiltins x) (lim : s.heap.NoLimit) (hg : s.gens = #[])
    (hT : s.heap.get? T = some { cls := .none, data := .fields #[] }) (nT : K.lookup T = Option.none) (C : PySem.W.CodeHd s.heap c T)
    (hbm : ∃ (bm : Addr) (ob : Obj), mg "__builtins__" = some (.ref bm) ∧ bm ≠ builtinsNs ∧ s.heap.get? bm = some ob ∧ ob.cls = .type "module" ∧ ob.dict = some builtinsNs ∧ ob.data = .plain)
    (ha : s.heap.get? a = some { cls := .type "list", data := .seq vs.toArray }) (hi : IntsAre vs ns) (hl : ns.length ≤ 63) (hr : Room k callerA) (hsb : SysB s.heap)
    (G : ∀ base : Heap, K.In base → base.Ns mainGlobals mg → SysB base → LamX.TabB base mg c T → FnOkG P w K mg base k fa fd [x] (spLawT K T)) (hbind : ∀ (s : Shared) (u : Value), BindsTo s fd ⟨[u], []⟩ [(x, u)]) :
    codeAny (model P w) callerA (.call (.ref fa) ⟨[.ref a], []⟩) (fun r s' => r = .ok (.ret (.bool true)) ∧ OldK s.heap s'.heap ∧ s'.os = s.os ∧ AllBare s'.gens) s := by
  have rv := vals_ints hi
  have nl := hi.length
  have hl2 : ns.length ≤ sizeLine := Nat.le_trans hl (by decide)
  have aT : a ≠ T := fun z => by
    rw [z, hT] at ha
    cases ha
  -- an abstract heap: the table; the script, locked, where K doesn't tell of it
  suffices core : ∀ H : Hp, H T = some (.tbl #[]) → (∀ b u, H b = some u → b = T ∨ (b = a ∧ (∃ o xs, u = .frz o (.lst xs)) ∧ K.lookup a = Option.none)) → SqL K H a (ns.map V.int) → HOk P w H s.heap →
      codeAny (model P w) callerA (.call (.ref fa) ⟨[.ref a], []⟩) (fun r s' => r = .ok (.ret (.bool true)) ∧ OldK s.heap s'.heap ∧ s'.os = s.os ∧ AllBare s'.gens) s by
    have tOk : HOk P w (fun b => if b = T then some (.tbl #[]) else Option.none) s.heap := fun b u z => by
      by_cases hb : b = T
      · have z := (if_pos hb).symm.trans z
        cases z
        rw [hb]
        exact hT
      · cases (if_neg hb).symm.trans z
    cases hk : K.lookup a with
    | some o =>
      have z := inK a o hk
      rw [ha] at z
      cases z
      refine core (fun b => if b = T then some (.tbl #[]) else Option.none) (if_pos rfl) (fun b u z => ?_) (Or.inr ⟨_, vs.toArray, _, hk, rfl, rfl, rfl, ?_, by simpa using rv⟩) tOk
      · by_cases hb : b = T
        · exact Or.inl hb
        · cases (if_neg hb).symm.trans z
      · rw [List.size_toArray, nl]
        exact hl2
    | none =>
      refine core (fun b => if b = a then some (HO.frz { cls := .type "list", data := .seq vs.toArray } (.lst (ns.map V.int))) else if b = T then some (.tbl #[]) else Option.none) ((if_neg (Ne.symm aT)).trans (if_pos rfl)) (fun b u z => ?_) (Or.inl (Or.inr ⟨_, if_pos rfl⟩)) (fun b u z => ?_)
      · by_cases hb : b = a
        · cases (if_pos hb).symm.trans z
          exact Or.inr ⟨hb, ⟨_, _, rfl⟩, hk⟩
        · by_cases hb2 : b = T
          · exact Or.inl hb2
          · cases (if_neg hb2).symm.trans ((if_neg hb).symm.trans z)
      · by_cases hb : b = a
        · cases (if_pos hb).symm.trans z
          rw [hb]
          exact ⟨ha, by rw [List.length_map]; exact hl2, vs, _, rv, ha⟩
        · by_cases hb2 : b = T
          · cases (if_pos hb2).symm.trans ((if_neg hb).symm.trans z)
            rw [hb2]
            exact hT
          · cases (if_neg hb2).symm.trans ((if_neg hb).symm.trans z)
  intro H hHT only sq hok
  have free_of : ∀ {b : Addr} {o : Obj}, s.heap.get? b = some o → b ≠ T → (b ≠ a ∨ K.lookup a ≠ Option.none) → H b = Option.none := fun {b o} _ n z => by
    cases q : H b with
    | none => rfl
    | some u =>
      rcases only b u q with z1 | ⟨z1, _, z2⟩
      · exact absurd z1 n
      · rcases z with z | z
        · exact absurd z1 z
        · exact absurd z2 z
  have noT : ∀ {b : Addr} {o : Obj}, s.heap.get? b = some o → o.data ≠ .fields #[] → b ≠ T := fun {b o} e n z => by
    rw [z, hT] at e
    cases e
    exact n rfl
  have noA : ∀ {b : Addr} {o : Obj}, s.heap.get? b = some o → (∀ vs n, o.data ≠ .seq vs n) → b ≠ a := fun {b o} e n z => by
    rw [z, ha] at e
    cases e
    exact n _ _ rfl
  have keep_of : ∀ {b : Addr} {o : Obj}, s.heap.get? b = some o → o.data ≠ .fields #[] → (∀ vs n, o.data ≠ .seq vs n) → (hidT s.heap H).get? b = some o := fun {b o} e n1 n2 => hidT_get e (free_of e (noT e n1) (Or.inl (noA e n2)))
  have ns_of : ∀ {b : Addr} {m : Str → Option Value}, s.heap.Ns b m → (hidT s.heap H).Ns b m := fun {b m} ⟨o, es, ep, e, d, r⟩ => ⟨o, es, ep, keep_of e (by rw [d]; simp) (by rw [d]; simp), d, r⟩
  have inB : K.In (hidT s.heap H) := fun b o e => hidT_get (inK b o e) (free_of (inK b o e) (fun z => by rw [z, nT] at e; cases e) (by
    by_cases hb : b = a
    · exact Or.inr fun z => by rw [← hb, e] at z; cases z
    · exact Or.inl hb))
  have hM : Mod K mg (hidT s.heap H) := ⟨inB, ns_of hns, ⟨mb, ns_of hb, hbb⟩, lim.elim fun mc h => ⟨mc, ns_of h.1, h.2⟩⟩
  have tb : LamX.TabB (hidT s.heap H) mg c T := by
    refine ⟨?_, ?_, fun z => ?_⟩
    · obtain ⟨o, us, file, tf, flags, tg, inF, text, tt, e1, r1, r2, r3, r⟩ := C
      exact ⟨o, us, file, tf, flags, tg, inF, text, tt, keep_of e1 (by rw [r2]; intro z; cases z; simp at r3) (by rw [r2]; simp), r1, r2, r3, r⟩
    · obtain ⟨bm, ob, b1, b2, b3, b4, b5, b6⟩ := hbm
      refine ⟨bm, ob, b1, b2, fun q => ?_, noT b3 (by rw [b6]; simp), keep_of b3 (by rw [b6]; simp) (by rw [b6]; simp), b4, b5, b6⟩
      obtain ⟨o, es, ep, e, hd, _⟩ := hns
      rw [q, e] at b3
      cases b3
      rw [hd] at b6
      cases b6
    · obtain ⟨o, es, ep, e, hd, _⟩ := hns
      rw [z, hT] at e
      cases e
      cases hd
  have env0 : Env0 P w K mg (hidT s.heap H) callerA [] s H := ⟨rfl, hM, fun b o e => of_hidT e, Nat.le_of_eq (hidT_size _ _), trivial, fun b z => (List.not_mem_nil z).elim, hok, .of_eq hg⟩
  refine codeAny_mono ((G _ inB (ns_of hns) (hsb.elim fun mm z => ⟨mm, ns_of z⟩) tb).run callerA [] s H ⟨[.ref a], []⟩ [.ref a] [.ref a] (fun v _ => v = .bl true) E0 rfl hr env0 (hbind s (.ref a)) (.cons rfl .nil) ⟨a, ns, rfl, sq, hl, hHT, fun _ => rfl⟩) fun r s' h => ?_
  match r, h with
  | .ok (.ret u), h =>
    obtain ⟨v, H', os, bare, un, hok', rel, q⟩ := h
    obtain rfl : v = .bl true := q
    obtain rfl : u = Value.bool true := rel
    obtain ⟨more, z⟩ := un.tbls T #[] hHT
    have grown : s'.heap.get? T = some { cls := .none, data := .fields (#[] ++ more) } := hok' T _ z
    have kept : ∀ b o, b ≠ T → s.heap.get? b = some o → s'.heap.get? b = some o := fun b o n e => by
      cases q : H b with
      | none => exact un.keep b o e q (fun z => (List.not_mem_nil z).elim) (by simp)
      | some u =>
        rcases only b u q with z | ⟨_, ⟨ob, xs, rfl⟩, _⟩
        · exact absurd z n
        · obtain ⟨f1, _⟩ := hok b _ q
          obtain ⟨f2, _⟩ := hok' b _ (un.frzs b ob _ q)
          rw [e] at f1
          cases f1
          exact f2
    refine ⟨rfl, ⟨fun b o e => ?_, fun b o e => ?_⟩, os, bare⟩
    · by_cases hb : b = T
      · subst hb
        rw [hT] at e
        cases e
        exact .inr (.inl ⟨(C.tab hT).isCodeTable, rfl, #[], more, rfl, grown⟩)
      · exact .inl (kept b o hb e)
    · by_cases hb : b = T
      · subst hb
        exact ⟨_, grown⟩
      · exact ⟨o, kept b o hb e⟩
end
theorem walk_GT {l : PySem.W.OpenLaw} {k : Nat} {q : Program} {loose : List Str} {XP : (Str → Option Value) → Heap → Prop} {YP : World → Heap → Prop} {d : DefRec} {K : Params → PySem.W.Frag} {x : Str} {T : Addr}
    (hn : l.most = some 63) (hdf : d.params.defaults = []) (hr : Room k callerA) (hi : importsNone q = true) (hY : ∀ (w : World) (h : Heap), YP w h → (K w.params).In h) (hYT : ∀ (w : World) (h : Heap), YP w h → h.get? T = some { cls := .none, data := .fields #[] })
    (F : ∀ (w : World) (mg : Str → Option Value) (fa : Addr) (h : Heap), (K w.params).In h → h.Ns mainGlobals mg → mg d.name = some (.ref fa) →
      ∃ (fd : FuncData) (c : Addr), PySem.W.codeHdIn (K w.params) c T = true ∧ (K w.params).lookup T = Option.none ∧ (∀ (s : Shared) (u : Value), BindsTo s fd ⟨[u], []⟩ [(x, u)]) ∧ ∀ base : Heap, (K w.params).In base → base.Ns mainGlobals mg → SysB base → LamX.TabB base mg c T → FnOkG l.prog w (K w.params) mg base k fa fd [x] (spLawT (K w.params) T)) :
    PySem.W.WalkO q loose XP YP l.row.toRowW d [] (fun f vs => PySem.call f vs) := by
  refine Att.attach_call hn hdf fun w s₀ s₁ mg mb fa o pm cd doc a vs ns Gd Y ho hd hcd hmg hobj hints hlen hg => ?_
  have KX := hY w _ Y
  obtain ⟨fd, c, hc, nT, hb, hF⟩ := F w mg fa _ KX Gd.T.g hmg
  exact law_callGT KX Gd.T.g Gd.T.b Gd.T.builtins Gd.T.nolimit hg (hYT w _ Y) nT (PySem.W.codeHd_of_K KX hc) Gd.T.bmain hobj hints hlen hr ⟨_, (Gd.T.seer hi).mods.choose_spec.1⟩ hF hb
end Bc

/-! Core Q: x in l, where x may hold dicts and the items of l don't. -/
namespace PySem.SeqAt
open AutoSeq1 (wpAny_loadPart')
open MeetsSeq
theorem tuple_eq_declines_dict (l b : Addr) (items : Array Value) (n : Nat) (dd : Option Addr) (sl : Array (Option Value)) (es : Array DictEntry) (ep : Nat) (dd2 : Option Addr) (sl2 : Array (Option Value)) :
    Meets (Builtin.«tuple.__eq__» ⟨[.ref l, .ref b], []⟩) (fun _ R s => s.heap.get? l = some { cls := .type "tuple", dict := dd, data := .seq items n, slots := sl } ∧ s.heap.get? b = some { cls := .type "dict", dict := dd2, data := .dict es ep, slots := sl2 } ∧ R (.ok (.ret .notImplemented)) s) :=
  .of_wp fun prog w A R s h => by obtain ⟨hp, g, d, tk, os⟩ := s; obtain ⟨hl, hb, h⟩ := h; have f1 := F.sub_dict_tuple; wp_walk using wpAny_loadPart' hl, wpAny_load hb; exact ⟨_, rfl, h⟩
theorem dict_eq_declines_tuple (l b : Addr) (items : Array Value) (n : Nat) (dd : Option Addr) (sl : Array (Option Value)) (es : Array DictEntry) (ep : Nat) (dd2 : Option Addr) (sl2 : Array (Option Value)) :
    Meets (Builtin.«dict.__eq__» ⟨[.ref b, .ref l], []⟩) (fun _ R s => s.heap.get? l = some { cls := .type "tuple", dict := dd, data := .seq items n, slots := sl } ∧ s.heap.get? b = some { cls := .type "dict", dict := dd2, data := .dict es ep, slots := sl2 } ∧ R (.ok (.ret .notImplemented)) s) :=
  .of_wp fun prog w A R s h => by obtain ⟨hp, g, d, tk, os⟩ := s; obtain ⟨hl, hb, h⟩ := h; have f1 := F.sub_tuple_dict; wp_walk using wpAny_loadPart' hl, wpAny_load hl, wpAny_load hb; exact ⟨_, rfl, h⟩
theorem str_eq_declines_dict (x : Str) (u : Tok) (b : Addr) (es : Array DictEntry) (ep : Nat) (dd2 : Option Addr) (sl2 : Array (Option Value)) :
    Meets (Builtin.«str.__eq__» ⟨[.str x u, .ref b], []⟩) (fun _ R s => s.heap.get? b = some { cls := .type "dict", dict := dd2, data := .dict es ep, slots := sl2 } ∧ R (.ok (.ret .notImplemented)) s) :=
  .of_wp fun prog w A R s h => by obtain ⟨hp, g, d, tk, os⟩ := s; obtain ⟨hb, h⟩ := h; wp_walk using wpAny_load hb; exact ⟨_, rfl, h⟩
theorem dict_eq_declines_str (x : Str) (u : Tok) (b : Addr) (es : Array DictEntry) (ep : Nat) (dd2 : Option Addr) (sl2 : Array (Option Value)) :
    Meets (Builtin.«dict.__eq__» ⟨[.ref b, .str x u], []⟩) (fun _ R s => s.heap.get? b = some { cls := .type "dict", dict := dd2, data := .dict es ep, slots := sl2 } ∧ R (.ok (.ret .notImplemented)) s) :=
  .of_wp fun prog w A R s h => by obtain ⟨hp, g, d, tk, os⟩ := s; obtain ⟨hb, h⟩ := h; have f1 := F.sub_str_dict; wp_walk using wpAny_load hb; exact ⟨_, rfl, h⟩
section
variable {A : Around} {s : Shared}
def IsDict (s : Shared) (b : Addr) : Prop := ∃ o es ep, s.heap.get? b = some o ∧ o.cls = .type "dict" ∧ o.data = .dict es ep
theorem EqAt.tuple_dict {l b : Addr} {items : Array Value} (hl : s.heap.IsTuple l items) (hb : IsDict s b) (hu : A.units < cLine) : EqAt A s (.ref l) (.ref b) false := by
  obtain ⟨⟨cls, dd, data, sl⟩, ho, hc, n, hd⟩ := id hl
  obtain ⟨⟨cls2, dd2, data2, sl2⟩, es, ep, ho2, hc2, hd2⟩ := id hb
  simp only at hc hd hc2 hd2
  subst hc hd hc2 hd2
  have hne : l ≠ b := fun e => by
    rw [e, ho2] at ho
    have := congrArg Obj.cls (Option.some.inj ho)
    simp at this
  exact .of_refs hne fun prog w E Q h => rc_eq_decline_or (k := false) ⟨_, ho, rfl⟩ ⟨_, ho2, rfl⟩ (by decide) F.sub_dict_tuple F.slot_tuple_eq F.slot_dict_eq_refl
    (fun _ hq => call_meets F.slot_tuple_eq ⟨_, ho, rfl⟩ F.entry_tuple_eq (F.args_tuple_eq_2 _ _) (tuple_eq_declines_dict l b items n dd sl es ep dd2 sl2) ⟨ho, ho2, hq⟩)
    (fun _ hq => call_meets F.slot_dict_eq_refl ⟨_, ho2, rfl⟩ F.entry_dict_eq (F.args_dict_eq_2 _ _) (dict_eq_declines_tuple l b items n dd sl es ep dd2 sl2) ⟨ho, ho2, hq⟩)
    (fun _ hq => wpAny_isSame_ref_other' hne ho ho2 (by simp) hq) (.inr hu) h
theorem EqAt.str_dict {b : Addr} (x : Str) (u : Tok) (hb : IsDict s b) (hu : A.units < cLine) : EqAt A s (.str x u) (.ref b) false := fun prog w E Q h => by
  obtain ⟨⟨cls2, dd2, data2, sl2⟩, es, ep, ho2, hc2, hd2⟩ := id hb
  simp only at hc2 hd2
  subst hc2 hd2
  unfold eqBool
  refine wpAny_holding ?_
  refine wpAny_ite_split (fun hab => absurd (eq_of_beq hab) nofun) (fun _ => ?_)
  refine wpAny_bind (rc_eq_decline_or (k := false) (typeIs_str s x u) ⟨_, ho2, rfl⟩ (by decide) F.sub_dict_str F.slot_str_eq F.slot_dict_eq_refl
    (fun _ hq => call_meets F.slot_str_eq (typeIs_str s x u) F.entry_str_eq (F.args_str_eq_2 _ _) (str_eq_declines_dict x u b es ep dd2 sl2) ⟨ho2, hq⟩)
    (fun _ hq => call_meets F.slot_dict_eq_refl ⟨_, ho2, rfl⟩ F.entry_dict_eq (F.args_dict_eq_2 _ _) (dict_eq_declines_str x u b es ep dd2 sl2) ⟨ho2, hq⟩)
    (fun _ hq => wpAny_of_eq (rfl : isSame (.str x u) (.ref b) = pure false) hq) (.inr hu) (wpAny_truthy_bool h))
mutual
/-- da == db may be asked: where a dict stands in db, a text or a tuple stands in da -/
def mx : PyData → PyData → Bool
  | .tuple xs, .tuple ys => mxL xs ys
  | .str _, .dict _ => true
  | .tuple _, .dict _ => true
  | _, db => db.canLay0
def mxL : List PyData → List PyData → Bool
  | x :: xs, y :: ys => mx x y && mxL xs ys
  | _, _ => true
end
mutual
theorem mx_at : ∀ (da db : PyData) (A : Around) (s : Shared) (a b : Value) (as bs : List Addr), Reads s.heap a da as → Reads s.heap b db bs → da.canLay0 = true → mx da db = true → A.units + da.depth < cLine → EqAt A s a b (PyData.eqv da db)
  | .none, db, A, s, a, b, as, bs, ra, rb, ha, hb, hu => eqAt_reads _ _ A s a b as bs ra rb ha (by simpa only [mx] using hb) (Nat.lt_of_le_of_lt (Nat.add_le_add_left (Nat.min_le_left _ _) _) hu)
  | .bool x, db, A, s, a, b, as, bs, ra, rb, ha, hb, hu => eqAt_reads _ _ A s a b as bs ra rb ha (by simpa only [mx] using hb) (Nat.lt_of_le_of_lt (Nat.add_le_add_left (Nat.min_le_left _ _) _) hu)
  | .int x, db, A, s, a, b, as, bs, ra, rb, ha, hb, hu => eqAt_reads _ _ A s a b as bs ra rb ha (by simpa only [mx] using hb) (Nat.lt_of_le_of_lt (Nat.add_le_add_left (Nat.min_le_left _ _) _) hu)
  | .list x, db, A, s, a, b, as, bs, ra, rb, ha, hb, hu => eqAt_reads _ _ A s a b as bs ra rb ha (by simpa only [mx] using hb) (Nat.lt_of_le_of_lt (Nat.add_le_add_left (Nat.min_le_left _ _) _) hu)
  | .dict x, db, A, s, a, b, as, bs, ra, rb, ha, hb, hu => by simp [PyData.canLay0] at ha
  | .str x, db, A, s, a, b, as, bs, ra, rb, ha, hb, hu => by
    by_cases hc : db.canLay0 = true
    · exact eqAt_reads _ _ A s a b as bs ra rb ha hc (Nat.lt_of_le_of_lt (Nat.add_le_add_left (Nat.min_le_left _ _) _) hu)
    · cases db with
      | dict kvs =>
        cases ra with
        | str _ t =>
          cases rb with
          | dict h1 h2 h3 h4 h5 => exact EqAt.str_dict x t ⟨_, _, _, h1, h2, h3⟩ (by omega)
      | none => exact absurd (by simpa only [mx] using hb) hc
      | bool _ => exact absurd (by simpa only [mx] using hb) hc
      | int _ => exact absurd (by simpa only [mx] using hb) hc
      | str _ => exact absurd (by simpa only [mx] using hb) hc
      | list _ => exact absurd (by simpa only [mx] using hb) hc
      | tuple _ => exact absurd (by simpa only [mx] using hb) hc
  | .tuple xs, db, A, s, a, b, as, bs, ra, rb, ha, hb, hu => by
    by_cases hc : db.canLay0 = true
    · exact eqAt_reads _ _ A s a b as bs ra rb ha hc (Nat.lt_of_le_of_lt (Nat.add_le_add_left (Nat.min_le_left _ _) _) hu)
    · cases db with
      | dict kvs =>
        cases ra with
        | tuple g1 g2 g3 g4 =>
          cases rb with
          | dict h1 h2 h3 h4 h5 => exact EqAt.tuple_dict ⟨_, g1, g2, _, g3⟩ ⟨_, _, _, h1, h2, h3⟩ (by omega)
      | none => exact absurd (by simpa only [mx] using hb) hc
      | bool _ => exact absurd (by simpa only [mx] using hb) hc
      | int _ => exact absurd (by simpa only [mx] using hb) hc
      | str _ => exact absurd (by simpa only [mx] using hb) hc
      | list _ => exact absurd (by simpa only [mx] using hb) hc
      | tuple ys =>
        cases ra with
        | @tuple l o vs n _ as₁ h1 h2 h3 h4 =>
          cases rb with
          | @tuple l' o' vs' n' _ bs₁ k1 k2 k3 k4 =>
            have n1 : vs.size = xs.length := by simpa using ReadsAll.length _ _ _ h4
            have n2 : vs'.size = ys.length := by simpa using ReadsAll.length _ _ _ k4
            show EqAt A s (.ref l) (.ref l') (PyData.eqvAll xs ys)
            have hll : l ≠ l' := fun e => by
              subst e
              have e : PyData.tuple xs = PyData.tuple ys := Reads.unique (.tuple xs) (.tuple ys) _ _ _ ha (.tuple h1 h2 h3 h4) (.tuple k1 k2 k3 k4)
              rw [← e] at hc
              exact hc ha
            rw [← eqvAll_eq xs ys, ← n1, ← n2]
            refine EqAt.of_refs hll (RcAt.tuples ⟨_, h1, h2, _, h3⟩ ⟨_, k1, k2, _, k3⟩ (by omega) fun j j1 j2 => ?_)
            have hd : PyData.depth (.tuple xs) = PyData.depthAll xs + 1 := rfl
            have := mxL_at xs ys A.in1 s vs.toList vs'.toList _ _ h4 k4 (by simpa only [PyData.canLay0] using ha) (by simpa only [mx] using hb) (by show A.units + 1 + PyData.depthAll xs < cLine; omega) j (by simpa using j1) (by simpa using j2)
            simpa using this
theorem mxL_at : ∀ (xs ys : List PyData) (A : Around) (s : Shared) (vs ws : List Value) (as bs : List Addr), ReadsAll s.heap vs xs as → ReadsAll s.heap ws ys bs → PyData.canLayAll0 xs = true → mxL xs ys = true → A.units + PyData.depthAll xs < cLine → ∀ j (h1 : j < vs.length) (h2 : j < ws.length), EqAt A s vs[j] ws[j] (pairEq xs ys j)
  | [], _, _, _, _, _, _, _, ra, _, _, _, _, j, h1, _ => by cases ra; exact absurd h1 (Nat.not_lt_zero _)
  | _ :: _, [], _, _, _, _, _, _, _, rb, _, _, _, j, _, h2 => by cases rb; exact absurd h2 (Nat.not_lt_zero _)
  | x :: xs, y :: ys, A, s, _, _, _, _, ra, rb, ha, hb, hu, j, h1, h2 => by
    have ha' : x.canLay0 = true ∧ PyData.canLayAll0 xs = true := by simpa [PyData.canLayAll0] using ha
    have hb' : mx x y = true ∧ mxL xs ys = true := by simpa [mxL] using hb
    have hd : PyData.depthAll (x :: xs) = max x.depth (PyData.depthAll xs) := rfl
    cases ra with
    | cons r rs =>
      cases rb with
      | cons r' rs' =>
        cases j with
        | zero => exact mx_at x y A s _ _ _ _ r r' ha'.1 hb'.1 (by omega)
        | succ j => exact mxL_at xs ys A s _ _ _ _ rs rs' ha'.2 hb'.2 (by omega) j (Nat.lt_of_succ_lt_succ h1) (Nat.lt_of_succ_lt_succ h2)
end
theorem readsAll_mem2 {h : Heap} {f : PyData → Prop} : ∀ (xs : List PyData) (vs : List Value) (as : List Addr), PyData.canLayAll0 xs = true → (∀ x ∈ xs, f x) → ReadsAll h vs xs as → ∀ y ∈ vs, ∃ d bs, Reads h y d bs ∧ d.canLay0 = true ∧ d.depth ≤ PyData.depthAll xs ∧ f d
  | [], _, _, _, _, r, y, hy => by cases r; cases hy
  | x :: xs, _, _, hc, hf, r, y, hy => by
    have hc' : x.canLay0 = true ∧ PyData.canLayAll0 xs = true := by simpa [PyData.canLayAll0] using hc
    cases r with
    | cons r1 r2 =>
      rcases List.mem_cons.mp hy with rfl | hy
      · exact ⟨x, _, r1, hc'.1, Nat.le_max_left _ _, hf x (List.mem_cons_self ..)⟩
      · obtain ⟨d, bs, rd, hd, hle, hfd⟩ := readsAll_mem2 xs _ _ hc'.2 (fun z hz => hf z (List.mem_cons_of_mem _ hz)) r2 y hy
        exact ⟨d, bs, rd, hd, Nat.le_trans hle (Nat.le_max_right _ _), hfd⟩
theorem in_list_mx {prog : Program} {w : World} {E : Value → Shared → Prop} {c x : Value} {xs : List PyData} {d : PyData} {as bs : List Addr} {Q : Value → Shared → Prop} (rc : Reads s.heap c (.list xs) as) (rx : Reads s.heap x d bs) (hxs : PyData.canLayAll0 xs = true) (hd : ∀ y ∈ xs, mx y d = true)
    (hu : A.units + 1 + PyData.depthAll xs < cLine) (h : Q (.bool (xs.any fun y => PyData.eqv y d)) s) : wpAny (model prog w) A (compareOp .In x c) Q E s := by
  cases rc with
  | list h1 h2 h3 h4 =>
    refine in_listAt (fun y => PyData.eqv (readOf s.heap y) d) ⟨_, h1, h2, _, h3⟩ (fun y hy => ?_) (by rw [any_by_data h4 hxs]; exact h)
    obtain ⟨dy, cs, ry, hcy, hle, hm⟩ := readsAll_mem2 (f := fun y => mx y d = true) xs _ _ hxs hd h4 y (by simpa using hy)
    rw [readOf_eq hcy ry]
    exact mx_at dy d A.in1 s y x _ _ ry rx hcy hm (by show A.units + 1 + dy.depth < cLine; omega)
end
end PySem.SeqAt
namespace Bc
open PySem L2 PySem.Spec PyProof.Rows
mutual
theorem py_pr : ∀ d : D, d.isPy = true → d.prOk = true ∧ d.pr = d.py
  | .none, _ => ⟨rfl, rfl⟩
  | .bool _, _ => ⟨rfl, rfl⟩
  | .int _, _ => ⟨rfl, rfl⟩
  | .str _, _ => ⟨rfl, rfl⟩
  | .list l, h => by
    simp only [D.isPy] at h
    obtain ⟨a, b⟩ := pyL_pr l h
    exact ⟨by simpa only [D.prOk] using a, by simp only [D.pr, D.py, b]⟩
  | .tuple l, h => by
    simp only [D.isPy] at h
    obtain ⟨a, b⟩ := pyL_pr l h
    exact ⟨by simpa only [D.prOk] using a, by simp only [D.pr, D.py, b]⟩
  | .dict _, h => by simp [D.isPy] at h
  | .obj _ _, h => by simp [D.isPy] at h
  | .exc _ _, h => by simp [D.isPy] at h
  | .ref _, h => by simp [D.isPy] at h
theorem pyL_pr : ∀ l : List D, isPyL l = true → prOkL l = true ∧ prL l = pyL l
  | [], _ => ⟨rfl, rfl⟩
  | d :: ds, h => by
    simp only [isPyL, Bool.and_eq_true] at h
    obtain ⟨a, b⟩ := py_pr d h.1
    obtain ⟨c, e⟩ := pyL_pr ds h.2
    exact ⟨by simp only [prOkL, a, c, Bool.and_self], by simp only [prL, pyL, b, e]⟩
end
abbrev rInM : R2 := fun x y H Q => ∃ (S : Hp) (dx : D) (ds : List D), Same S H ∧ Dt S dx x ∧ Dt S (.list ds) y ∧ dx.prOk = true ∧ oknL 8 ds = true ∧ (∀ d ∈ ds, SeqAt.mx d.py dx.pr = true) ∧ Q (.bl ((pyL ds).any fun z => PyData.eqv z dx.pr)) H
theorem mem_pyL : ∀ {ds : List D} {y : PyData}, y ∈ pyL ds → ∃ d ∈ ds, y = d.py
  | [], y, h => by cases h
  | d :: ds, y, h => by
    rcases List.mem_cons.mp h with rfl | h
    · exact ⟨d, List.mem_cons_self .., rfl⟩
    · obtain ⟨d', h1, h2⟩ := mem_pyL h
      exact ⟨d', List.mem_cons_of_mem _ h1, h2⟩
theorem qInM {X : Cx} (sm : SysB X.base) (hu : X.A.units + 65 < cLine) : OpR X (compareOp .In) rInM := by
  intro pins s σ H x y v u Q I rx ry h
  obtain ⟨S, dx, ds, e, hx, hy, px, py, hm, q⟩ := h
  obtain ⟨a1, a2, a3⟩ := oknL_py 8 ds py
  obtain ⟨b1, b2⟩ := pyL_pr ds a1
  obtain ⟨as, r1, _⟩ := dt_reads I e sm dx x v px hx rx
  obtain ⟨bs, r2, _⟩ := dt_reads I e sm (.list ds) y u (by simpa only [D.prOk] using b1) hy ry
  have r2 : Reads s.heap u (.list (pyL ds)) bs := by
    have : (D.list ds).pr = .list (pyL ds) := by simp only [D.pr, b2]
    rw [← this]
    exact r2
  refine SeqAt.in_list_mx r2 r1 a2 (fun y hy => ?_) (by omega) ⟨.bl _, H, I, rfl, q⟩
  obtain ⟨d, hd, rfl⟩ := mem_pyL hy
  exact hm d hd
section
variable {F : Fp} {Δ : List Sl} {ta tb : TE}
theorem ev_inM {x : D} {ds : List D} (ha : Ev1 F ta Δ x) (hb : Ev1 F tb Δ (.list ds)) (px : x.prOk = true) (py : oknL 8 ds = true) (hm : ∀ d ∈ ds, SeqAt.mx d.py x.pr = true) : Ev1 F (tOp rInM ta tb) Δ (.bool ((pyL ds).any fun z => PyData.eqv z x.pr)) := fun H0 S H σ w t Q k => by
  refine ha H0 S H σ w t _ fun d v S1 H1 e1 g1 hv => ?_
  subst e1
  refine hb H0 S1 H1 σ (g1.ok w) (t.mono g1) _ fun d' u S2 H2 e2 g2 hu => ?_
  subst e2
  exact ⟨S2, d, ds, g2.h, hv.mono g2.s, hu, px, py, hm, k _ _ S2 H2 rfl (g1.trans g2) (by simp only [Dt])⟩
end
end Bc

/-! Core U: == of data with itself where {} stands in it; repr of any data; own == beside other types. -/
namespace Bc
open PySem L2 PySem.Spec PyProof.Rows
theorem EqAt.dicts0 {A : Around} {s : Shared} {a b : Addr} {oa ob : Obj} {ea eb : Nat} (ha : s.heap.get? a = some oa) (da : oa.data = .dict #[] ea) (hb : s.heap.get? b = some ob) (db : ob.data = .dict #[] eb)
    (na : (a == sysModules) = false) (nb : (b == sysModules) = false) (hu : A.units < cLine) (da0 : oa.ExactDict) (db0 : ob.ExactDict) (hne : a ≠ b) : SeqAt.EqAt A s (.ref a) (.ref b) true := by
  refine .of_refs hne fun prog w E Q h => ?_
  have d1 : s.heap.DictOf (mixKind prog w) a [] := ⟨oa, #[], ea, ha, da0, da, fun e he => by simp at he, .nil, List.nodup_nil⟩
  have d2 : s.heap.DictOf (mixKind prog w) b [] := ⟨ob, #[], eb, hb, db0, db, fun e he => by simp at he, .nil, List.nodup_nil⟩
  exact PySem.W.rcP_dicts (r := true) na nb d1 d2 hu (fun _ => .nil) E Q h
theorem all_yes {α : Type} (l : List α) : (l.all fun _ => true) = true := by
  rw [List.all_eq_true]
  exact fun _ _ => rfl
mutual
/-- dicts in it are empty; how deep it is -/
def D.e0 : D → Bool
  | .none => true
  | .bool _ => true
  | .int _ => true
  | .str _ => true
  | .list xs => e0L xs
  | .tuple xs => e0L xs
  | .dict kvs => kvs.isEmpty
  | _ => false
def e0L : List D → Bool
  | [] => true
  | x :: xs => x.e0 && e0L xs
end
mutual
def D.dep : D → Nat
  | .list xs => depL xs + 1
  | .tuple xs => depL xs + 1
  | _ => 0
def depL : List D → Nat
  | [] => 0
  | x :: xs => max x.dep (depL xs)
end
section
variable {X : Cx} {pins : List (Addr × Obj)} {σ : L2.St} {H S : Hp} {s : Shared}
mutual
theorem dt_same (I : Inv X pins σ H s) (e : Same S H) : ∀ (d : D) (x y : V) (u v : Value) (A : Around), d.e0 = true → Dt S d x → Dt S d y → RelV x u → RelV y v → A.units + d.dep < cLine → SeqAt.EqAt A s u v true
  | .none, x, y, u, v, A, _, h1, h2, r1, r2, _ => by
    simp only [Dt] at h1 h2
    subst h1 h2
    cases r1
    cases r2
    exact .same _
  | .bool b, x, y, u, v, A, _, h1, h2, r1, r2, _ => by
    simp only [Dt] at h1 h2
    subst h1 h2
    cases r1
    cases r2
    exact .same _
  | .int i, x, y, u, v, A, _, h1, h2, r1, r2, _ => by
    simp only [Dt] at h1 h2
    subst h1 h2
    obtain ⟨t1, rfl⟩ := r1
    obtain ⟨t2, rfl⟩ := r2
    have := SeqAt.EqAt.int_int (A := A) (s := s) i t1 i t2
    rwa [beq_self_eq_true] at this
  | .str i, x, y, u, v, A, _, h1, h2, r1, r2, _ => by
    simp only [Dt] at h1 h2
    subst h1 h2
    obtain ⟨t1, rfl⟩ := r1
    obtain ⟨t2, rfl⟩ := r2
    have := SeqAt.EqAt.str_str (A := A) (s := s) i t1 i t2
    rwa [beq_self_eq_true] at this
  | .list ds, x, y, u, v, A, q, h1, h2, r1, r2, hu => by
    simp only [Dt] at h1 h2
    simp only [D.e0] at q
    simp only [D.dep] at hu
    obtain ⟨a, xs, rfl, e1, g1⟩ := h1
    obtain ⟨b, ys, rfl, e2, g2⟩ := h2
    cases r1
    cases r2
    by_cases hab : a = b
    · subst hab
      exact .same _
    · obtain ⟨its, rv, pl, _⟩ := I.list (SqL.of (e _ _ e1))
      obtain ⟨its2, rv2, pl2, _⟩ := I.list (SqL.of (e _ _ e2))
      have hsz : its.toArray.size = its2.toArray.size := by
        simp only [List.size_toArray]
        rw [← rv.length, ← rv2.length, ← g1.len, ← g2.len]
      have := SeqAt.RcAt.lists (A := A) (e := fun _ => true) pl.isList pl2.isList hsz (by omega) fun j j1 j2 => by
        have := dtl_same I e ds xs ys its its2 A.in1 q g1 g2 rv rv2 (by show A.units + 1 + depL ds < cLine; omega) j (by simpa using j1) (by simpa using j2)
        simpa using this
      refine .of_refs hab ?_
      rw [all_yes] at this
      exact this
  | .tuple ds, x, y, u, v, A, q, h1, h2, r1, r2, hu => by
    simp only [Dt] at h1 h2
    simp only [D.e0] at q
    simp only [D.dep] at hu
    obtain ⟨a, xs, rfl, e1, g1⟩ := h1
    obtain ⟨b, ys, rfl, e2, g2⟩ := h2
    cases r1
    cases r2
    by_cases hab : a = b
    · subst hab
      exact .same _
    · obtain ⟨its, rv, pl, _⟩ := I.tuple (SqT.of (e _ _ e1))
      obtain ⟨its2, rv2, pl2, _⟩ := I.tuple (SqT.of (e _ _ e2))
      have hsz : its.toArray.size = its2.toArray.size := by
        simp only [List.size_toArray]
        rw [← rv.length, ← rv2.length, ← g1.len, ← g2.len]
      have := SeqAt.RcAt.tuples (A := A) (e := fun _ => true) pl pl2 (by omega) fun j j1 j2 => by
        have := dtl_same I e ds xs ys its its2 A.in1 q g1 g2 rv rv2 (by show A.units + 1 + depL ds < cLine; omega) j (by simpa using j1) (by simpa using j2)
        simpa using this
      refine .of_refs hab ?_
      rw [all_yes, hsz, Bool.true_and, beq_self_eq_true] at this
      exact this
  | .dict [], x, y, u, v, A, _, h1, h2, r1, r2, hu => by
    simp only [Dt, DtK] at h1 h2
    obtain ⟨a, ks, rfl, e1, rfl⟩ := h1
    obtain ⟨b, ks', rfl, e2, rfl⟩ := h2
    cases r1
    cases r2
    by_cases hab : a = b
    · subst hab
      exact .same _
    · obtain ⟨_, hs, vs, kv, o, es, ep, ho, hx, hd, _, hp, _⟩ := dk_of I.hok (e _ _ e1)
      obtain ⟨_, hs2, vs2, kv2, o2, es2, ep2, ho2, hx2, hd2, _, hp2, _⟩ := dk_of I.hok (e _ _ e2)
      cases kv
      cases kv2
      have z : es = #[] := by
        have := hp.length
        simpa using this
      have z2 : es2 = #[] := by
        have := hp2.length
        simpa using this
      subst z z2
      exact EqAt.dicts0 ho hd ho2 hd2 hs hs2 (by omega) hx hx2 hab
  | .dict (p :: l), x, y, u, v, A, q, _, _, _, _, _ => by simp [D.e0] at q
  | .obj _ _, x, y, u, v, A, q, _, _, _, _, _ => by simp [D.e0] at q
  | .exc _ _, x, y, u, v, A, q, _, _, _, _, _ => by simp [D.e0] at q
  | .ref _, x, y, u, v, A, q, _, _, _, _, _ => by simp [D.e0] at q
theorem dtl_same (I : Inv X pins σ H s) (e : Same S H) : ∀ (ds : List D) (xs ys : List V) (us vs : List Value) (A : Around), e0L ds = true → DtL S ds xs → DtL S ds ys → Vals xs us → Vals ys vs → A.units + depL ds < cLine → ∀ j (h1 : j < us.length) (h2 : j < vs.length), SeqAt.EqAt A s us[j] vs[j] true
  | [], xs, ys, us, vs, A, _, h1, h2, r1, r2, _, j, j1, j2 => by
    simp only [DtL] at h1
    subst h1
    cases r1
    exact absurd j1 (Nat.not_lt_zero _)
  | d :: ds, xs, ys, us, vs, A, q, h1, h2, r1, r2, hu, j, j1, j2 => by
    simp only [DtL] at h1 h2
    simp only [e0L, Bool.and_eq_true] at q
    simp only [depL] at hu
    obtain ⟨x, xs, rfl, a1, b1⟩ := h1
    obtain ⟨y, ys, rfl, a2, b2⟩ := h2
    cases r1 with
    | cons c1 d1 =>
      cases r2 with
      | cons c2 d2 =>
        cases j with
        | zero => exact dt_same I e d x y _ _ A q.1 a1 a2 c1 c2 (by omega)
        | succ j => exact dtl_same I e ds xs ys _ _ A q.2 b1 b2 d1 d2 (by omega) j (Nat.lt_of_succ_lt_succ j1) (Nat.lt_of_succ_lt_succ j2)
end
/-- l != m, lists of the same data -/
abbrev rNeS : R2 := fun x y H Q => ∃ (S : Hp) (ds : List D), Same S H ∧ Dt S (.list ds) x ∧ Dt S (.list ds) y ∧ e0L ds = true ∧ depL ds ≤ 32 ∧ Q (.bl false) H
theorem qNeS (hu : X.A.units + 65 < cLine) : OpR X (compareOp .NotEq) rNeS := by
  intro pins s σ H x y v u Q I rx ry h
  obtain ⟨S, ds, e, h1, h2, q, hd, hq⟩ := h
  simp only [Dt] at h1 h2
  obtain ⟨a, xs, rfl, e1, g1⟩ := h1
  obtain ⟨b, ys, rfl, e2, g2⟩ := h2
  cases rx
  cases ry
  obtain ⟨its, rv, pl, _⟩ := I.list (SqL.of (e _ _ e1))
  obtain ⟨its2, rv2, pl2, _⟩ := I.list (SqL.of (e _ _ e2))
  have hsz : its.toArray.size = its2.toArray.size := by
    simp only [List.size_toArray]
    rw [← rv.length, ← rv2.length, ← g1.len, ← g2.len]
  have := SeqAt.RcNeAt.lists (e := fun _ => true) pl.isList pl2.isList hsz (A := X.A) (by omega) fun j j1 j2 => by
    have := dtl_same I e ds xs ys its its2 X.A.in1 q g1 g2 rv rv2 (by show X.A.units + 1 + depL ds < cLine; omega) j (by simpa using j1) (by simpa using j2)
    simpa using this
  have z : (!(List.range its.toArray.size).all fun _ => true) = false := by rw [all_yes]; rfl
  rw [z] at this
  exact this X.prog X.w X.xe _ ⟨.bl false, H, I, rfl, hq⟩
theorem ev_neS {F : Fp} {Δ : List Sl} {ta tb : TE} {ds : List D} (ha : Ev1 F ta Δ (.list ds)) (hb : Ev1 F tb Δ (.list ds)) (h : e0L ds = true) (hd : depL ds ≤ 32) : Ev1 F (tOp rNeS ta tb) Δ (.bool false) := fun H0 S H σ w t Q k => by
  refine ha H0 S H σ w t _ fun d v S1 H1 e1 g1 hv => ?_
  subst e1
  refine hb H0 S1 H1 σ (g1.ok w) (t.mono g1) _ fun d' u S2 H2 e2 g2 hu => ?_
  subst e2
  exact ⟨S2, ds, g2.h, hv.mono g2.s, hu, h, hd, k _ _ S2 H2 rfl (g1.trans g2) (by simp only [Dt])⟩
/-! ### repr of any data -/
abbrev rReprA : List V → Hp → VK → Prop := fun xs H Q => ∃ (S : Hp) (v : V) (d : D), xs = [v] ∧ Same S H ∧ Dt S d v ∧ d.prOk = true ∧ d.pr.showable = true ∧ d.pr.depth ≤ 64 ∧ d.pr.shown.length ≤ sizeLine ∧ Q (.str d.pr.shown) H
theorem qReprA (sm : SysB X.base) (hg : X.A.guards = some []) (hu : X.A.units + 65 < cLine) : CallR X (.builtin "repr") rReprA := by
  intro pins s σ H xs us Q I r h
  obtain ⟨S, v, d, rfl, e, hd, hp, hs, hdp, hz, q⟩ := h
  obtain ⟨u, rfl, hu1⟩ := vals1 r
  have refs : ∀ a, v = .ref a → wpAny (model X.prog X.w) X.A (call (.builtin "repr") [u]) (EP X pins σ Q) X.xe s := fun a ea => by
    subst ea
    obtain rfl : u = Value.ref a := hu1
    obtain ⟨as, r1, n1⟩ := dt_reads I e sm d (.ref a) (.ref a) hp hd rfl
    obtain ⟨hp', g, dr, tk, os⟩ := s
    exact repr_of_reads' r1 hs (fun _ => n1) hg (by omega) (fun _ _ e => e) (fun h' u tk' hk => ⟨.str d.pr.shown, H, I.kept (t' := tk') hk, ⟨u, rfl⟩, q⟩) hz
  have hd0 := hd
  cases d with
  | none =>
    simp only [Dt] at hd
    subst hd
    cases hu1
    exact PySem.P.repr_of_none ⟨.str _, H, I.tok _, ⟨_, rfl⟩, q⟩
  | bool b =>
    simp only [Dt] at hd
    subst hd
    cases hu1
    exact PySem.P.repr_of_bool ⟨.str _, H, I.tok _, ⟨_, rfl⟩, q⟩
  | int i =>
    simp only [Dt] at hd
    subst hd
    obtain ⟨t, rfl⟩ := hu1
    simp only [D.pr, PyData.showable, decide_eq_true_eq] at hs
    exact PySem.P.repr_of_int hs ⟨.str _, H, I.tok _, ⟨_, rfl⟩, q⟩
  | str z =>
    simp only [Dt] at hd
    subst hd
    obtain ⟨t, rfl⟩ := hu1
    exact PySem.P.repr_of_str ⟨.str _, H, I.tok _, ⟨_, rfl⟩, q⟩ hz
  | list l =>
    simp only [Dt] at hd
    obtain ⟨a, _, ea, _⟩ := hd
    exact refs a ea
  | tuple l =>
    simp only [Dt] at hd
    obtain ⟨a, _, ea, _⟩ := hd
    exact refs a ea
  | dict l =>
    simp only [Dt] at hd
    obtain ⟨a, _, ea, _⟩ := hd
    exact refs a ea
  | _ => simp [D.prOk] at hp
theorem ev_reprA {F : Fp} {Δ : List Sl} {te : TE} {x : D} (h : Ev1 F te Δ x) (hr : x.rOk = true) : Ev1 F (tCB rReprA (tCons te tNil)) Δ (.str x.pr.shown) := fun H0 S H σ w t Q k =>
  h H0 S H σ w t _ fun d v S' H' e g hv => by
    subst e
    simp only [D.rOk, Bool.and_eq_true, decide_eq_true_eq] at hr
    exact ⟨S', v, d, rfl, g.h, hv, hr.1, hr.2.1, hr.2.2.1, hr.2.2.2, k _ _ S' H' rfl g (by simp only [Dt])⟩
end
end Bc

/-! Core V: own == beside other types; constructors that raise; a def that grows its own table of code objects. -/
namespace Bc
open PySem L2 PySem.Spec PyProof.Rows
/-! ### own ==, the right side anything -/
def rOwnA (K : PySem.W.Frag) (C : Addr) (sp : Sp) : R2 := fun x y H Q => ∃ a dx fs T, x = .ref a ∧ H a = some (.ins C dx fs) ∧ TyX K H y (.type T) ∧ PySem.W.notFirst K C (.type T) = true ∧ sp [.ref a, y] H (fun v H' => ∃ r, v = .bl r ∧ Q (.bl r) H') E0
section
variable {X : Cx} {n : Nat} {C f : Addr} {fd : FuncData} {ps : List Str} {sp : Sp}
theorem op_ownA (c : EqC X.K C f) (G : FnOk X.prog X.w X.K X.mg X.base CX0 n f fd ps sp) (hb : Binds X.K fd ps []) (hr : Room n X.A) : OpR X (compareOp .Eq) (rOwnA X.K C sp) := by
  intro pins s σ H x y v u Q I rx ry h
  obtain ⟨a, dx, fs, T, rfl, ha, ty, hn, hsp⟩ := h
  cases rx
  obtain ⟨mA, J, _⟩ := ins_get I.hok ha
  obtain ⟨od, J, _⟩ := J.look
  obtain ⟨m, hF⟩ := I.fr
  obtain ⟨P, Z, p, _⟩ := kit_of I ry ty
  show wpAny (model X.prog X.w) X.A (richCompare .Eq (.ref a) u) (EP X pins σ Q) X.xe s
  refine PySem.W.cmp_K (op := .Eq) (tb := .type T) hr.units0 hF I.ok.mod.kin J (Z.ty _ _ I.kIn p) hn c.fi c.fn ?_
  have e0 : Env0 X.prog X.w X.K X.mg X.base X.A X.stack s H := I.env0
  have hl := G.len _ _ _ _ hsp
  refine wpAny_call (codeAny_mono (G.run X.A X.stack s H ⟨[.ref a, u], []⟩ [.ref a, u] [.ref a, y] _ E0 hr e0 (by
    have := hb s [.ref a, u] I.kIn (by simpa using hl)
    simpa using this) (.cons rfl (.cons ry .nil)) hsp) fun r s' hq' => ?_)
  cases r with
  | error e => exact pass0 pins σ H s e s' I hq'
  | ok fl =>
    cases fl with
    | ret w =>
      obtain ⟨z, H', I', rz, q⟩ := I.after hq'
      obtain ⟨r, rfl, q⟩ := q
      cases rz
      exact ⟨.bl r, H', I', rfl, q⟩
    | next => exact False.elim hq'
    | brk => exact False.elim hq'
    | cont => exact False.elim hq'
theorem qOwnA {k : Nat} {K : PySem.W.Frag} (G : EqT X.prog X.w X.K X.mg X.base k C sp) (hr : Room k X.A) (hK : X.K = K := by rfl) : OpR X (compareOp .Eq) (rOwnA K C sp) := by
  subst hK
  obtain ⟨f, fd, ps, c, b, o⟩ := G.ex
  exact op_ownA c o b hr
end
section
variable {F : Fp} {Δ : List Sl} {ta tb : TE} {K : PySem.W.Frag} {C : Addr} {fs : FS} {R : List D → D → Prop} {y : D} {r : Bool}
theorem ev_ownA (ha : Ev1 F ta Δ (.obj C fs)) (hb : Ev1 F tb Δ y) (hy : y.ty ≠ "?") (hn : PySem.W.notFirst K C (.type y.ty) = true) (hR : R [.obj C fs, y] (.bool r)) (hu : ∀ d, R [.obj C fs, y] d → d = .bool r) : Ev1 F (tOp (rOwnA K C (SpD false false R)) ta tb) Δ (.bool r) := fun H0 S H σ w t Q k => by
  refine ha H0 S H σ w t _ fun d v S1 H1 e1 g1 hv => ?_
  subst e1
  refine hb H0 S1 H1 σ (g1.ok w) (t.mono g1) _ fun d u S2 H2 e2 g2 hu2 => ?_
  subst e2
  have hv2 := hv.mono g2.s
  have hv3 := hv2
  simp only [Dt] at hv3
  obtain ⟨a, dx, vs, rfl, z1, z2⟩ := hv3
  have w2 := g2.ok (g1.ok w)
  refine ⟨a, dx, vs, _, rfl, w2.s _ _ z1, dt_ty w2.s hu2 hy, hn, Option.none, S2, _, w2.base, ⟨rfl, dtl_cons hv2 (dtl_cons hu2 dtl_nil)⟩, ⟨_, hR⟩, fun d v S' H' rd gv => ?_⟩
  have e := hu d rd
  subst e
  have := gv.vl rfl
  simp only [Dt] at this
  exact ⟨r, this, k _ _ S' H' rfl ((g1.trans g2).trans gv.g.up) (by simp only [Dt])⟩
end
/-! ### constructors that raise -/
def SpOX (C : Addr) (fr : Bool) (R : FS → List D → D → FS → Prop) (RX : RX1) : Sp := fun vs H Q E => ∃ S a dx fsV fs us ds, vs = .ref a :: us ∧ Same S H ∧ H a = some (.ins C dx fsV) ∧ H dx = some (.own a) ∧ S a = Option.none ∧ S dx = Option.none ∧ DtF S fs fsV ∧ DtL S ds us ∧ ((∃ d fs', R fs ds d fs') ∨ ∃ c f, RX ds c f) ∧
  (∀ d v fs' vs' S' H', R fs ds d fs' → Giv fr Option.none S (prot H a dx) d v S' H' → H' a = some (.ins C dx vs') → H' dx = some (.own a) → S' a = Option.none → S' dx = Option.none → DtF S' fs' vs' → Q v H') ∧
  ∀ c f d S' H', RX ds c f → Gr Option.none S (prot H a dx) S' H' → XdAt S' d f → E c d H'
section
variable {P : Program} {w : World} {K : PySem.W.Frag} {mg : Str → Option Value} {base : Heap}
theorem ok_OX {x qual : Str} {st : Stmt} {f : Addr} {fd : FuncData} {N ps : List Str} {k : Nat} {C : Addr} {fr : Bool} {R : FS → List D → D → FS → Prop} {RX : RX1} (Fu : Fun K x qual st f fd) (Sc : FnScope N ps (defScope st)) (hl : ∀ fs ds, ((∃ d fs', R fs ds d fs') ∨ ∃ c f, RX ds c f) → ds.length + 1 = ps.length) (hN : 1 < N.length)
    (hbody : ∀ (cdv : Value) (A : Around) (outer : List Env) (s : Shared) (H : Hp) (E : XK), Room k (A.deeper (envOfC qual (defScope st) s.heap.objs.size f cdv)) →
      Takes (cxOf (L2.CX P w) P w K mg base N qual (defScope st) f cdv A outer s H E) (WOf E) →
      ∃ t, PSs (cxOf (L2.CX P w) P w K mg base N qual (defScope st) f cdv A outer s H E) (defBody st) t ∧ ∀ a dx fs ds, ((∃ d fs', R fs ds d fs') ∨ ∃ c f, RX ds c f) → Run Option.none fr t ((iniO N.length a dx C fs ds).set (N.length - 1) (.xc (WOf E) (RX ds) (List.replicate N.length Option.none))) { nx := fun Δ => fr = false ∧ ∃ fs', Δ[0]? = some (.ob a dx C fs') ∧ R fs ds .none fs', rt := fun _ => True, ro := fun d Δ => ∃ fs', Δ[0]? = some (.ob a dx C fs') ∧ R fs ds d fs' }) :
    FnOk P w K mg base (L2.CX P w) (k + 1) f fd ps (SpOX C fr R RX) := by
  have hps : ps.length ≤ N.length := by
    have := congrArg List.length Sc.pre
    rw [List.length_take] at this
    omega
  refine Fu.okX Sc (fun vs H Q E h => ?_) (fun cdv A outer s H vs Q E hr h => ?_)
  · obtain ⟨S, a, dx, fsV, fs, us, ds, rfl, _, _, _, _, _, _, hd, r, _⟩ := h
    rw [List.length_cons, ← hd.len]
    exact hl fs ds r
  · obtain ⟨S, a, dx, fsV, fs, us, ds, rfl, same, e1, e2, e3, e4, hf, hd, r, hk, hx⟩ := h
    obtain ⟨t, ht, hrun⟩ := hbody cdv A outer s H E hr (takes_of rfl rfl rfl rfl)
    have hlen : us.length + 1 ≤ N.length := by
      rw [← hd.len, hl fs ds r]
      exact hps
    have st0 := st_iniO (N := N) same e1 e2 e3 e4 hf hd hlen
    have st1 := st0.put (i := N.length - 1) (s := .xc (WOf E) (RX ds) (List.replicate N.length Option.none)) (fun y => show XcOk Option.none S H (prot H a dx) _ _ _ from
      ⟨fun x o e => ⟨o, (prot_some e).2.2⟩, fun S2 H2 c d f σ g p a2 _ _ => hx c f d S2 H2 p ⟨g.s, g.h, g.n, fun x o nf e => g.k x o o nf e (prot_some e).2.2, g.m, fun _ _ e => nomatch e⟩ a2⟩) (fun _ z => by cases z)
    refine ⟨t, ht, hrun a dx fs ds r S (prot H a dx) S S H _ _ ⟨same, fun _ _ e => nomatch e⟩ ⟨prot_gr same, Same.refl _⟩ st1 ⟨?_, ?_, fun _ _ _ _ z => z.elim, fun _ _ _ _ z => z.elim⟩⟩
    · rintro Δ S2 H2 σ ⟨efr, fs2, q, r2⟩ w2 g2 t2
      obtain ⟨x, _, vs2, _, z1, z2, z3, z4, _, _, z5⟩ := t2.ok 0 _ q
      exact hk .none .non fs2 vs2 S2 H2 r2 ⟨g2.g, fun _ => by simp only [Dt], fun e => by rw [efr] at e; cases e⟩ z1 z2 z3 z4 z5
    · rintro d v Δ S2 H2 σ _ ⟨fs2, q, r2⟩ w2 t2 gv
      obtain ⟨x, _, vs2, _, z1, z2, z3, z4, _, _, z5⟩ := t2.ok 0 _ q
      exact hk d v fs2 vs2 S2 H2 r2 gv z1 z2 z3 z4 z5
structure MkTX (P : Program) (w : World) (K : PySem.W.Frag) (mg : Str → Option Value) (base : Heap) (k : Nat) (x : Str) (C : Addr) (ps : List Str) (sp : Sp) : Prop where
  ex : ∃ f fd, Mk K C f ∧ Binds K fd ps [] ∧ FnOk P w K mg base (L2.CX P w) k f fd ps sp
  gl : mg x = some (.ref C)
/-- where no exception may come -/
theorem MkTX.safe {k : Nat} {x : Str} {C : Addr} {ps : List Str} {fr : Bool} {R R' : FS → List D → D → FS → Prop} {RX : RX1} (G : MkTX P w K mg base k x C ps (SpOX C fr R RX)) (hR : ∀ fs ds, (∃ d fs', R' fs ds d fs') → (∃ d fs', R fs ds d fs') ∧ (∀ c f, ¬ RX ds c f) ∧ ∀ d fs', R fs ds d fs' → R' fs ds d fs') : MkT P w K mg base k x C ps (SpO C fr R') := by
  obtain ⟨f, fd, h1, h2, h4⟩ := G.ex
  have to : ∀ vs H Q E, SpO C fr R' vs H Q E → SpOX C fr R RX vs H Q (fun _ _ _ => False) := fun vs H Q E h => by
    obtain ⟨S, a, dx, fsV, fs, us, ds, z1, z2, z3, z4, z5, z6, z7, z8, r, hk⟩ := h
    obtain ⟨q1, q2, q3⟩ := hR fs ds r
    exact ⟨S, a, dx, fsV, fs, us, ds, z1, z2, z3, z4, z5, z6, z7, z8, .inl q1, fun d v fs' vs' S' H' rd => hk d v fs' vs' S' H' (q3 d fs' rd), fun c f d S' H' z _ _ => q2 c f z⟩
  refine ⟨⟨f, fd, h1, h2, ⟨fun vs H Q E h => h4.len _ _ _ _ (to vs H Q E h), fun A outer s H args us vs Q E hr env hb hv h => ?_⟩⟩, G.gl⟩
  refine codeAny_mono (h4.run A outer s H args us vs Q (fun _ _ _ => False) hr env hb hv (to vs H Q E h)) fun r s' z => ?_
  match r, z with
  | .ok (.ret u), z => exact z
  | .error e, z =>
    obtain ⟨_, _, _, _, _, _, _, _, _, _, _, _, z⟩ := z
    exact z.elim
end
def tMakeS (C : Addr) (sp : Sp) (E : L2.St → XK) (t : TA) : TE := fun σ H Q => tMake C sp [] (E σ) t σ H Q
section
variable {X : Cx} {k : Nat} {C : Addr} {x : Str} {ps : List Str} {sp : Sp} {e : Expr} {es : List Expr} {t : TA} {p pos : Pos} {W : WX}
theorem pe_makeTX (tk : Takes X W) (G : MkTX X.prog X.w X.K X.mg X.base k x C ps sp) (hr : Room (k + 1) X.A) (ha : PA X (e :: es) t) (hg : Gl X x := by rfl)
    (hdb : (x == ("__debug__" : Str)) = false := by decide) (he : starEach (e :: es) X.env = (false, eval e X.env) :: starEach es X.env := by rfl) (hpl : (backTo pos (starEach es X.env)).any (·.1) = false := by rfl) :
    PE X (.Call (.Name x p) (e :: es) [] pos) (tMakeS C sp (WE W) t) := by
  obtain ⟨f, fd, M, hb, F⟩ := G.ex
  refine ⟨fun pins s σ H Q I h => ?_⟩
  refine wpAny_Call_Name_kw (ld_glob I hg G.gl ?_ hdb)
  refine PySem.W.callWith_K (h₀ := X.base) I.ok.mod.kin M.kp (thn (ha.run pos pins s σ H _ I h) fun us s1 ⟨vs, H1, I1, r, q⟩ => ⟨I1.kIn, ?_⟩) he hpl
  have hq := q (s1.heap.objs.size + 1) s1.heap.objs.size (I1.hok.fresh (Nat.le_succ _)) (I1.hok.fresh (Nat.le_refl _)) (Nat.ne_of_lt (Nat.lt_succ_self _))
  rw [List.append_nil] at hq
  have I2 := Inv.made (C := C) I1
  have r2 : Vals (V.ref (s1.heap.objs.size + 1) :: vs) (Value.ref (s1.heap.objs.size + 1) :: us) := .cons rfl r
  have hl : (Value.ref (s1.heap.objs.size + 1) :: us).length = ps.length := by
    have e := r2.length
    rw [F.len _ _ _ _ hq] at e
    exact e.symm
  refine wpAny_call (make_map (f := f) I1.kIn M.makes M.init (beq_iff_eq.mp M.fn) (codeAny_mono (F.run _ X.stack _ _ ⟨Value.ref (s1.heap.objs.size + 1) :: us, []⟩ (Value.ref (s1.heap.objs.size + 1) :: us) _ _ (WE W σ) (hr.make C us [])
    (I2.env0.make C us []) (by have := hb _ (Value.ref (s1.heap.objs.size + 1) :: us) I2.kIn (by simpa using hl); simpa using this) r2 hq) fun r s' hq' => ?_))
  cases r with
  | error e => exact passAt tk σ pins _ _ e s' I2 hq'
  | ok fl =>
    cases fl with
    | ret u =>
      obtain ⟨v, H', I3, rv, ev, q3⟩ := I2.after hq'
      subst ev
      exact ⟨rv, ⟨V.ref (s1.heap.objs.size + 1), H', I3, rfl, q3⟩⟩
    | next => exact False.elim hq'
    | brk => exact False.elim hq'
    | cont => exact False.elim hq'
end
section
variable {F : Fp} {tr : TA} {Δ : List Sl} {C : Addr} {R : FS → List D → D → FS → Prop} {RX : RX1} {W : WX} {PX : Value → FX → Prop} {l : List (Option D)} {ix : Nat}
theorem ev_mkX {Pa : List D → Prop} (hx : Δ[ix]? = some (.xc W PX l)) (hm : Hm l Δ) (h : EvA F tr Δ Pa) (hR : ∀ ds, Pa ds → (∃ d fs', R [] ds d fs') ∨ ∃ c f, RX ds c f) (hn : ∀ ds d fs', R [] ds d fs' → d = .none) (hp : ∀ ds c f, Pa ds → RX ds c f → PX c f) :
    EvR F (tMakeS C (SpOX C false R RX) (WE W) tr) Δ fun d => ∃ ds fs', Pa ds ∧ R [] ds .none fs' ∧ d = .obj C fs' := fun H0 S H σ w t Q k =>
  h H0 S H σ w t _ fun ds us S1 H1 p g1 hd x dx hx1 hdx hne => by
    rw [List.append_nil]
    have ep : prot (upd (upd H1 dx (.own x)) x (.ins C dx [])) x dx = H1 := by
      funext b
      unfold prot
      by_cases h1 : b = x
      · rw [if_pos (.inl h1), h1, hx1]
      · by_cases h2 : b = dx
        · rw [if_pos (.inr h2), h2, hdx]
        · rw [if_neg (fun z => z.elim h1 h2), upd_ne h1, upd_ne h2]
    refine ⟨S1, x, dx, [], [], us, ds, rfl, fun b o e => ?_, upd_same, by rw [upd_ne hne, upd_same], Same.free g1.h hx1, Same.free g1.h hdx, by simp only [DtF], hd, hR ds p, fun d v fs' vs' S' H' r gv ea ed sa sd hf => ?_, fun c f d S' H' r g a => ?_⟩
    · have e' := g1.h b o e
      rw [upd_ne (ne_of_none e' hx1), upd_ne (ne_of_none e' hdx)]
      exact e'
    · have e := hn ds d fs' r
      subst e
      have hv := gv.vl rfl
      simp only [Dt] at hv
      have g := gv.g
      rw [ep] at g
      have hx0 : H x = Option.none := by
        cases e : H x with
        | none => rfl
        | some o =>
          obtain ⟨o', e'⟩ := g1.m x o e
          rw [hx1] at e'
          cases e'
      have g2 : Gr F S H S' H' := g1.trans g.up
      refine ⟨hv, k (.obj C fs') (.ref x) (upd S' x (.ins C dx vs')) H' ⟨ds, fs', p, r, rfl⟩ (g2.freeze hx0 ea) ?_⟩
      simp only [Dt]
      exact ⟨x, dx, vs', rfl, upd_same, hf.mono (fun y u e => by rw [upd_ne (ne_of_none e sa)]; exact e)⟩
    · rw [ep] at g
      exact xc_go t hx hm (hp ds c f p r) (g1.trans g.up) a
end
end Bc

/-! Core W: a def that grows its own table of code objects; new lists in a list that are looked at and then changed; own dicts; for over d.values(). -/
namespace Bc
open PySem L2 PySem.Spec PyProof.Rows
def noP (H : Hp) (P : Addr) : Hp := fun b => if b = P then Option.none else H b
theorem noP_ne {H : Hp} {P b : Addr} (h : b ≠ P) : noP H P b = H b := if_neg h
theorem noP_some {H : Hp} {P b : Addr} {o : HO} (h : noP H P b = some o) : b ≠ P ∧ H b = some o := by
  unfold noP at h
  split at h
  · cases h
  · rename_i n
    exact ⟨n, h⟩
/-- a def (it may make lambdas: the table P of its code object grows) -/
def SpTb (P : Addr) (q : Str) (R : List D → D → Prop) : Sp := fun vs H Q _ => ∃ S ds, Same S H ∧ DtL S ds vs ∧ LamX.TabS H P q ∧ S P = Option.none ∧ (∃ d, R ds d) ∧
  ∀ d v S' H', R ds d → Gr Option.none S (noP H P) S' H' → LamX.TabS H' P q → S' P = Option.none → Dt S' d v → Q v H'
theorem StD.h0 {F : Fp} {S H H0 H1 : Hp} {σ : L2.St} {Δ : List Sl} (t : StD F S H H0 σ Δ) (fh : ∀ x, fp F x → ∃ o, H1 x = some o) (h : ∀ s ∈ Δ, s = .un ∨ ∃ d, s = .v d) : StD F S H H1 σ Δ := by
  refine ⟨t.len, fun i s e => ?_, t.nd, fh⟩
  obtain ⟨x, e1, h1⟩ := t.ok i s e
  refine ⟨x, e1, ?_⟩
  rcases h s (List.mem_of_getElem? e) with rfl | ⟨d, rfl⟩
  · trivial
  · exact h1
section
variable {P : Program} {w : World} {K : PySem.W.Frag} {mg : Str → Option Value} {base : Heap}
theorem ini_uv {n : Nat} {ds : List D} : ∀ s ∈ ini false n ds, s = .un ∨ ∃ d, s = .v d := fun s hs => by
  simp only [ini, if_neg (show ¬ (false = true) by decide), List.nil_append, List.mem_append, List.mem_map, List.mem_replicate] at hs
  rcases hs with ⟨d, _, rfl⟩ | ⟨_, rfl⟩
  · exact .inr ⟨d, rfl⟩
  · exact .inl rfl
theorem ok_Tb {x qual : Str} {st : Stmt} {f T : Addr} {N ps : List Str} {k it : Nat} {q : Str} {R : List D → D → Prop} {oc kV doc pm cdv ct : Value} {od an : Option Addr} {osl : Array (Option Value)} (lk : K.lookup f = some ⟨oc, od, .func (PySem.W.fnOf x qual (defArgs st) (defBody st) (defScope st) .none kV doc pm an cdv ct), osl⟩) (hcd : PySem.W.codeIn K cdv qual = true)
    (Sc : FnScope N ps (defScope st)) (hl : ∀ ds d, R ds d → ds.length = ps.length) (hit : it < N.length)
    (hbody : ∀ (A : Around) (outer : List Env) (s : Shared) (H : Hp) (E : XK), Room k (A.deeper (envOfC qual (defScope st) s.heap.objs.size f cdv)) →
      ∃ t, PSs (cxOf CX0 P w K mg base N qual (defScope st) f cdv A outer s H E).nox (defBody st) t ∧ ∀ ds, (∃ d, R ds d) → Run Option.none false t ((ini false N.length ds).set it (.tb T q)) { nx := fun _ => False, rt := R ds, ro := fun _ Δ => Δ[it]? = some (.tb T q) }) :
    FnOk P w K mg base CX0 (k + 1) f (PySem.W.fnOf x qual (defArgs st) (defBody st) (defScope st) .none kV doc pm an cdv ct) ps (SpTb T q R) := by
  have hps : ps.length ≤ N.length := by
    have := congrArg List.length Sc.pre
    rw [List.length_take] at this
    omega
  have len : ∀ vs H Q E, SpTb T q R vs H Q E → vs.length = ps.length := fun vs H Q E h => by
    obtain ⟨S, ds, _, hd, _, _, ⟨d, r⟩, _⟩ := h
    rw [← hd.len]
    exact hl ds d r
  refine ⟨len, fun A outer s0 H args us vs Q E rm env0 hb rel hsp => ?_⟩
  refine LamX.run_ofS lk hcd Sc rm env0 hb rel (len _ _ _ _ hsp) fun hr' => ?_
  obtain ⟨S, ds, sm, hd, tb, sP, r, hk⟩ := hsp
  obtain ⟨t, tk, hrun⟩ := hbody A outer s0 H E0 hr'
  have w0 : Okw Option.none S H := ⟨sm, fun _ _ e => nomatch e⟩
  have a : ArgOk false Option.none S vs ds := ⟨rfl, hd⟩
  have st0 := st_ini (N := N) w0 a (by rw [arg_len a]; obtain ⟨d, r⟩ := r; simpa using Nat.le_trans (Nat.le_of_eq (hl ds d r)) hps)
  have st1 : StD Option.none S H (noP H T) (L2.start N vs) ((ini false N.length ds).set it (.tb T q)) := (st0.h0 (fun x ⟨_, _, e, _⟩ => nomatch e) ini_uv).put (fun y => show TbOk _ _ _ _ _ _ from ⟨tb, sP, if_pos rfl, fun _ _ e => nomatch e⟩) fun _ z => by cases z
  have g0 : Gr Option.none S (noP H T) S H := ⟨fun _ _ e => e, sm, fun _ _ _ => rfl, fun x o _ e => (noP_some e).2, fun x o e => ⟨o, (noP_some e).2⟩, fun _ _ e => nomatch e⟩
  refine ⟨t, tk.nox, hrun ds r S (noP H T) S S H _ _ w0 ⟨g0, Same.refl _⟩ st1 ⟨fun _ _ _ _ n => n.elim, fun d v Δ S2 H2 σ2 rd ro w2 t2 gv => ?_, fun _ _ _ _ n => n.elim, fun _ _ _ _ n => n.elim⟩⟩
  obtain ⟨_, _, tb2⟩ := t2.ok it _ ro
  have tb2 : TbOk Option.none S2 H2 (noP H T) T q := tb2
  exact hk d v S2 H2 rd gv.g tb2.t tb2.s (gv.vl rfl)
end
section
variable {F : Fp} {fr : Bool} {tr : TA} {Δ : List Sl} {it : Nat} {P : Addr} {q : Str} {R : List D → D → Prop} {E : XK}
theorem std_noP {S H H0 : Hp} {σ : L2.St} (st : StD F S H H0 σ Δ) (hT : TbOk F S H H0 P q) (h1 : ∀ (j : Nat) P' q', Δ[j]? ≠ some (.tb P' q')) : StD F S (noP H P) H0 σ Δ := by
  obtain ⟨ps, hP, _⟩ := id hT.t
  have ne : ∀ {x o}, H x = some o → (∀ ps, o ≠ .tbl ps) → x ≠ P := fun {x o} e n z => n ps (by rw [z, hP] at e; exact (Option.some.inj e).symm)
  have nH : ∀ {x o}, H x = some o → (∀ ps, o ≠ .tbl ps) → noP H P x = some o := fun {x o} e n => (noP_ne (ne e n)).trans e
  have n0 : ∀ x o, H0 x = some o → x ≠ P := fun x o e z => by rw [z, hT.h0] at e; cases e
  refine ⟨st.len, fun j s e => ?_, st.nd, st.fh⟩
  obtain ⟨x, e1, h⟩ := st.ok j s e
  refine ⟨x, e1, ?_⟩
  cases s with
  | un => trivial
  | v d => exact h
  | src => exact h
  | own l =>
    obtain ⟨p, xs, q1, q2, q3⟩ := h
    exact ⟨p, xs, q1, nH q2 (by simp), q3⟩
  | od p kvs =>
    obtain ⟨ks, q1, q2, q3⟩ := h
    exact ⟨ks, q1, nH q2 (by simp), q3⟩
  | ob a dx C fs =>
    obtain ⟨vs, q1, q2, q3, r⟩ := h
    exact ⟨vs, q1, nH q2 (by simp), nH q3 (by simp), r⟩
  | xc W PX l =>
    have h : XcOk F S H H0 W PX l := h
    refine ⟨fun x o e => ?_, fun S' H' c d fs σ' g => h.go S' H' c d fs σ' ⟨g.s, g.h, g.n, fun x o u nf e e' => g.k x o u nf e (by rw [noP_ne (n0 x o e)]; exact e'), g.m, fun a c e z => g.src a c e ?_⟩⟩
    · obtain ⟨o', e'⟩ := h.hd x o e
      exact ⟨o', by rw [noP_ne (n0 x o e)]; exact e'⟩
    · obtain ⟨ns, l, m, t, z1, z2, z3⟩ := z
      exact ⟨ns, l, m, t, nH z1 (by simp), nH z2 (by simp), z3⟩
  | fz a fs => exact h
  | tb P' q' => exact absurd e (h1 j P' q')
theorem evm_callTb {Pa : List D → Prop} (hT : Δ[it]? = some (.tb P q)) (h1 : tb1 it Δ = true) (h : EvA F tr Δ Pa) (hR : ∀ ds, Pa ds → ∃ d, R ds d) : EvM F (tCall (SpTb P q R) [] E tr) Δ fun d Δ' => (∃ ds, Pa ds ∧ R ds d) ∧ Δ' = Δ := fun H0 S H σ w t dm Q k =>
  h H0 S H σ w t _ fun ds vs S1 H1 pa g1 hd => by
    have w1 := g1.ok w
    have t1 := t.mono g1
    have dm1 : Dm H0 H1 := fun x o e => (dm x o e).elim fun o' e' => g1.m x o' e'
    obtain ⟨_, _, tb⟩ := t1.ok it _ hT
    have tb : TbOk F S1 H1 H0 P q := tb
    obtain ⟨ps, hP, _⟩ := id tb.t
    have hlt : it < Δ.length := (List.getElem?_eq_some_iff.mp hT).1
    have n0 : ∀ x o, H0 x = some o → x ≠ P := fun x o e z => by rw [z, tb.h0] at e; cases e
    have nH : ∀ {x o}, H1 x = some o → (∀ ps, o ≠ .tbl ps) → noP H1 P x = some o := fun {x o} e n => (noP_ne (fun z => n ps (by rw [z, hP] at e; exact (Option.some.inj e).symm))).trans e
    have un : StD F S1 H1 H0 σ (Δ.set it .un) := t1.put (fun _ => trivial) fun _ z => by cases z
    have np : StD F S1 (noP H1 P) H0 σ (Δ.set it .un) := std_noP un tb fun j P' q' e => by
      have := List.all_eq_true.mp h1 _ (List.mem_of_getElem? e)
      cases this
    have wn : Okw F S1 (noP H1 P) := ⟨fun x o e => by
      rw [noP_ne (fun z => by rw [z, tb.s] at e; cases e)]
      exact w1.s _ _ e, fun a c e => by
      obtain ⟨z1, z2, ns, l, m, tt, z3, z4, z5⟩ := w1.src a c e
      exact ⟨z1, z2, ns, l, m, tt, nH z3 (by simp), nH z4 (by simp), z5⟩⟩
    refine ⟨S1, ds, w1.s, by rw [List.append_nil]; exact hd, tb.t, tb.s, hR ds pa, fun d v S' H' rd g tb' sP hv => ?_⟩
    have gu : Gr F S1 (noP H1 P) S' H' := g.up
    have w2 : Okw F S' H' := gu.ok wn
    have gw : Gw F H0 S1 H1 S' H' := ⟨gu.s, gu.h, fun x o e => by
      obtain ⟨o', e'⟩ := dm1 x o e
      exact gu.n x o' (by rw [noP_ne (n0 x o e)]; exact e'), fun x o u nf e e' => gu.k x u nf (by rw [noP_ne (n0 x o e)]; exact e'), fun x o e => by
      obtain ⟨o', e'⟩ := dm1 x o e
      exact gu.m x o' (by rw [noP_ne (n0 x o e)]; exact e'), fun a c e z => (w2.src a c e).2.2⟩
    have back : (Δ.set it .un).set it (.tb P q) = Δ := by
      rw [List.set_set]
      apply List.ext_getElem?
      intro j
      by_cases hj : it = j
      · subst hj
        rw [List.getElem?_set_self hlt, hT]
      · rw [List.getElem?_set_ne hj]
    have t2 : StD F S' H' H0 σ Δ := by
      have := (np.mono gu).put (i := it) (s := .tb P q) (fun y => show TbOk F S' H' H0 P q from ⟨tb', sP, tb.h0, fun a c e => (w2.src a c e).2.2⟩) fun _ z => by cases z
      rw [back] at this
      exact this
    exact k d v S' H' Δ ⟨⟨ds, pa, rd⟩, rfl⟩ w2 ((g1.w dm).trans gw) t2 hv
end
/-! ### new lists, looked at and then changed -/
structure Fresh (H S' H' : Hp) (dss : List (List D)) (ps : List Addr) (xss : List (List V)) : Prop where
  l1 : ps.length = dss.length
  l2 : xss.length = dss.length
  at_ : ∀ (i : Nat) p xs ds, ps[i]? = some p → xss[i]? = some xs → dss[i]? = some ds → H p = Option.none ∧ H' p = some (.lst xs) ∧ S' p = Option.none ∧ DtL S' ds xs
  nd : ps.Nodup
def EvAF (F : Fp) (ta : TA) (Δ : List Sl) (dss : List (List D)) : Prop := ∀ (H0 S H : Hp) (σ : L2.St), Okw F S H → StD F S H H0 σ Δ → ∀ Q : List V → Hp → Prop, (∀ ps xss S' H', Gr F S H S' H' → Fresh H S' H' dss ps xss → Q (ps.map V.ref) H') → ta σ H Q
section
variable {F : Fp} {fr : Bool} {Δ : List Sl} {te tX : TE} {ta : TA} {tt : TT} {u tb : TS} {po : Po} {K : PySem.W.Frag} {i j : Nat} {dss : List (List D)} {ds : List D}
theorem eaf_nil : EvAF F tNil Δ [] := fun H0 S H σ w t Q k => k [] [] S H (Gr.refl w.s) ⟨rfl, rfl, fun i p xs ds e => by simp at e, List.nodup_nil⟩
theorem eaf_cons (h : EvF F te Δ fun r => r = ds) (hr : EvAF F ta Δ dss) : EvAF F (tCons te ta) Δ (ds :: dss) := fun H0 S H σ w t Q k =>
  h H0 S H σ w t _ fun ds' p xs S1 H1 e g1 hp h1 hs hd => by
    subst e
    refine hr H0 S1 H1 σ (g1.ok w) (t.mono g1) _ fun ps xss S2 H2 g2 f => ?_
    have nf : ¬ fp F p := fun z => by
      obtain ⟨a, c, ef, z⟩ := z
      obtain ⟨_, _, ns, l, m, tt, e1, e2, _⟩ := w.src a c ef
      rcases z with rfl | rfl
      · rw [hp] at e1; cases e1
      · rw [hp] at e2; cases e2
    refine k (p :: ps) (xs :: xss) S2 H2 (g1.trans g2) ⟨by rw [List.length_cons, List.length_cons, f.l1], by rw [List.length_cons, List.length_cons, f.l2], fun i q ys es e1 e2 e3 => ?_, List.nodup_cons.mpr ⟨fun z => ?_, f.nd⟩⟩
    · cases i with
      | zero =>
        simp only [List.getElem?_cons_zero, Option.some.injEq] at e1 e2 e3
        subst e1 e2 e3
        exact ⟨hp, g2.k _ _ nf h1, by rw [g2.n _ _ h1]; exact hs, hd.mono g2.s⟩
      | succ i =>
        simp only [List.getElem?_cons_succ] at e1 e2 e3
        obtain ⟨z1, z2, z3, z4⟩ := f.at_ i q ys es e1 e2 e3
        refine ⟨?_, z2, z3, z4⟩
        cases e : H q with
        | none => rfl
        | some o =>
          obtain ⟨o', e'⟩ := g1.m q o e
          rw [z1] at e'
          cases e'
    · obtain ⟨i, hi, e⟩ := List.getElem_of_mem z
      have hx : i < xss.length := by rw [f.l2, ← f.l1]; exact hi
      have hy : i < dss.length := by rw [← f.l1]; exact hi
      obtain ⟨z1, _⟩ := f.at_ i p xss[i] dss[i] (by rw [List.getElem?_eq_getElem hi, e]) (List.getElem?_eq_getElem hx) (List.getElem?_eq_getElem hy)
      rw [z1] at h1
      cases h1
theorem Fresh.mem {H S' H' : Hp} {ps : List Addr} {xss : List (List V)} (f : Fresh H S' H' dss ps xss) {p : Addr} (h : p ∈ ps) : ∃ (i : Nat) (xs : List V) (ds : List D), ps[i]? = some p ∧ xss[i]? = some xs ∧ dss[i]? = some ds ∧ H p = Option.none ∧ H' p = some (.lst xs) ∧ S' p = Option.none ∧ DtL S' ds xs := by
  obtain ⟨i, hi, e⟩ := List.getElem_of_mem h
  have hx : i < xss.length := by rw [f.l2, ← f.l1]; exact hi
  have hy : i < dss.length := by rw [← f.l1]; exact hi
  have e1 : ps[i]? = some p := by rw [List.getElem?_eq_getElem hi, e]
  obtain ⟨z1, z2, z3, z4⟩ := f.at_ i p xss[i] dss[i] e1 (List.getElem?_eq_getElem hx) (List.getElem?_eq_getElem hy)
  exact ⟨i, xss[i], dss[i], e1, List.getElem?_eq_getElem hx, List.getElem?_eq_getElem hy, z1, z2, z3, z4⟩
theorem dtl_refs {S : Hp} : ∀ {dss : List (List D)} {ps : List Addr}, ps.length = dss.length → (∀ (i : Nat) p ds, ps[i]? = some p → dss[i]? = some ds → ∃ xs, S p = some (.lst xs) ∧ DtL S ds xs) → DtL S (dss.map D.list) (ps.map V.ref)
  | [], [], _, _ => dtl_nil
  | [], _ :: _, h, _ => by cases h
  | _ :: _, [], h, _ => by cases h
  | ds :: dss, p :: ps, h, k => by
    rw [List.map_cons, List.map_cons]
    refine dtl_cons ?_ (dtl_refs (by simpa using h) fun i q es e1 e2 => k (i + 1) q es (by simpa using e1) (by simpa using e2))
    obtain ⟨xs, e1, e2⟩ := k 0 p ds rfl rfl
    simp only [Dt]
    exact ⟨p, xs, rfl, e1, e2⟩
/-- l = [f(), g(), ..]; if test of l: ..; for x in l: x.append(None) -/
theorem run_told (hij : i ≠ j) (hi : i < Δ.length) (hj : j < Δ.length) (h : EvAF F ta Δ dss) (hz : dss.length ≤ sizeLine) (hl : ∀ ds ∈ dss, ds.length < sizeLine) (ht : EvT F tt (Δ.set i (.v (.list (dss.map D.list)))) fun b => b = false) (k : Run F fr u ((Δ.set i .un).set j .un) po) :
    Run F fr (tSeq (tAsg (tLst ta) (gName i)) (tSeq (tIfS tt tb tNext) (tSeq (tFor (iAny K (tVar i)) (gName j) (tDrop (tBM K "list" rAppend (tVar j) (tCons (tC .non) tNil)))) u))) Δ po := fun S0 H0 B S H σ E w gb st r =>
  h H0 S H σ w st _ fun ps xss S1 H1 g1 f => by
    have hlen : (ps.map V.ref).length ≤ sizeLine := by rw [List.length_map, f.l1]; exact hz
    refine ⟨hlen, fun p hp => ?_⟩
    have nfs : ∀ q ∈ ps, ¬ fp F q := fun q hq ⟨a, c, ef, z⟩ => by
      obtain ⟨_, _, _, _, _, _, z1, _⟩ := f.mem hq
      obtain ⟨_, _, ns, l, m, tt, e1, e2, _⟩ := w.src a c ef
      rcases z with rfl | rfl
      · rw [z1] at e1; cases e1
      · rw [z1] at e2; cases e2
    have pn : p ∉ ps := fun hq => by
      obtain ⟨_, _, _, _, _, _, _, z2, _⟩ := f.mem hq
      rw [hp] at z2
      cases z2
    have hpH : H p = Option.none := by
      cases e : H p with
      | none => rfl
      | some o =>
        obtain ⟨o', e'⟩ := g1.m p o e
        rw [hp] at e'
        cases e'
    let H2 : Hp := upd H1 p (.lst (ps.map V.ref))
    let S2 : Hp := fun x => if x = p then some (.lst (ps.map V.ref)) else if x ∈ ps then H1 x else S1 x
    have S2p : S2 p = some (.lst (ps.map V.ref)) := if_pos rfl
    have S2q : ∀ q ∈ ps, S2 q = H1 q := fun q hq => (if_neg (fun z : q = p => pn (z ▸ hq))).trans (if_pos hq)
    have S2o : ∀ x, x ≠ p → x ∉ ps → S2 x = S1 x := fun x n1 n2 => (if_neg n1).trans (if_neg n2)
    have s12 : Same S1 S2 := fun x o e => by
      have n1 : x ≠ p := fun z => by rw [z] at e; rw [Same.free g1.h hp] at e; cases e
      have n2 : x ∉ ps := fun hq => by
        obtain ⟨_, _, _, _, _, _, _, _, z3, _⟩ := f.mem hq
        rw [e] at z3
        cases z3
      rw [S2o x n1 n2]
      exact e
    have s2h : Same S2 H2 := fun x o e => by
      by_cases h1 : x = p
      · subst h1
        rw [S2p] at e
        cases e
        exact upd_same
      · show upd H1 p _ x = some o
        rw [upd_ne h1]
        by_cases h2 : x ∈ ps
        · rw [S2q x h2] at e
          exact e
        · rw [S2o x h1 h2] at e
          exact g1.h _ _ e
    have old : ∀ x o, H x = some o → x ≠ p ∧ x ∉ ps := fun x o e => by
      refine ⟨fun z => ?_, fun hq => ?_⟩
      · rw [z, hpH] at e
        cases e
      · obtain ⟨_, _, _, _, _, _, z1, _⟩ := f.mem hq
        rw [z1] at e
        cases e
    have g02 : Gr F S H S2 H2 := ⟨g1.s.trans s12, s2h, fun x o e => (S2o x (old x o e).1 (old x o e).2).trans (g1.n x o e), fun x o nf e => (upd_ne (old x o e).1).trans (g1.k x o nf e), fun x o e => by
      obtain ⟨o', e'⟩ := g1.m x o e
      exact ⟨o', (upd_ne (fun z => by rw [z, hp] at e'; cases e')).trans e'⟩, fun a c e z => by
      obtain ⟨ns, l, m, t, z1, z2, z3⟩ := id z
      obtain ⟨ns', l', m', t', y1, y2, y3⟩ := g1.src a c e z
      exact ⟨ns', l', m', t', (upd_ne (old _ _ z1).1).trans y1, (upd_ne (old _ _ z2).1).trans y2, y3⟩⟩
    have dl : Dt S2 (.list (dss.map D.list)) (.ref p) := by
      simp only [Dt]
      refine ⟨p, _, rfl, S2p, dtl_refs f.l1 fun i q es e1 e2 => ?_⟩
      have hx : i < xss.length := by rw [f.l2]; exact (List.getElem?_eq_some_iff.mp e2).1
      obtain ⟨_, z2, _, z4⟩ := f.at_ i q xss[i] es e1 (List.getElem?_eq_getElem hx) e2
      exact ⟨xss[i], by rw [S2q q (List.mem_of_getElem? e1)]; exact z2, z4.mono s12⟩
    have st2 : StD F S2 H2 H0 (σ.set i (some (.ref p))) (Δ.set i (.v (.list (dss.map D.list)))) := (st.mono g02).setV dl
    refine ht H0 S2 H2 _ (g02.ok w) st2 _ fun b S3 H3 eb g23 => ?_
    subst eb
    show (tSeq (tFor (iAny K (tVar i)) (gName j) (tDrop (tBM K "list" rAppend (tVar j) (tCons (tC .non) tNil)))) u) E (σ.set i (some (.ref p))) H3
    -- what H3 holds
    have h3p : H3 p = some (.lst (ps.map V.ref)) := g23.h _ _ (g23.s _ _ S2p)
    have h3q : ∀ (k : Nat) q, ps[k]? = some q → ∃ xs, H3 q = some (.lst xs) ∧ xs.length < sizeLine := fun k q e => by
      have hx : k < xss.length := by rw [f.l2, ← f.l1]; exact (List.getElem?_eq_some_iff.mp e).1
      have hy : k < dss.length := by rw [← f.l1]; exact (List.getElem?_eq_some_iff.mp e).1
      obtain ⟨_, z2, _, z4⟩ := f.at_ k q xss[k] dss[k] e (List.getElem?_eq_getElem hx) (List.getElem?_eq_getElem hy)
      exact ⟨xss[k], g23.h _ _ (g23.s _ _ (by rw [S2q q (List.mem_of_getElem? e)]; exact z2)), by rw [← z4.len]; exact hl _ (List.getElem_mem hy)⟩
    have gg : ∀ H4 : Hp, (∀ x o, x ∉ ps → H3 x = some o → H4 x = some o) → (∀ x o, H3 x = some o → ∃ o', H4 x = some o') → Gr F S H S1 H4 := fun H4 k1 k2 => by
      have kk : ∀ x o, ¬ fp F x → H x = some o → H4 x = some o := fun x o nf e => k1 x o (old x o e).2 (g23.k x o nf (g02.k x o nf e))
      refine ⟨g1.s, fun x o e => ?_, g1.n, kk, fun x o e => ?_, fun a c e z => ?_⟩
      · have n2 : x ∉ ps := fun hq => by
          obtain ⟨_, _, _, _, _, _, _, _, z3, _⟩ := f.mem hq
          rw [e] at z3
          cases z3
        exact k1 x o n2 (g23.h _ _ (g23.s _ _ (s12 _ _ e)))
      · obtain ⟨o', e'⟩ := g02.m x o e
        obtain ⟨o2, e2⟩ := g23.m x o' e'
        exact k2 x o2 e2
      · obtain ⟨ns, l, m, t, z1, z2, z3⟩ := id z
        obtain ⟨ns', l', m', t', y1, y2, y3⟩ := g23.src a c e (g02.src a c e z)
        exact ⟨ns', l', m', t', k1 _ _ (old _ _ z1).2 y1, k1 _ _ (old _ _ z2).2 y2, y3⟩
    have hlσ : σ.length = Δ.length := st.len
    refine ⟨.ref p, List.getElem?_set_self (by rw [hlσ]; exact hi), .inl ⟨p, rfl, ⟨_, SqL.of h3p⟩, ?_⟩⟩
    refine ⟨fun n m σ' H4 => m = ps.length - n ∧ n ≤ ps.length ∧ (∃ y, σ' = (σ.set i (some (.ref p))).set j y) ∧ (∀ x o, x ∉ ps → H3 x = some o → H4 x = some o) ∧ (∀ x o, H3 x = some o → ∃ o', H4 x = some o') ∧ ∀ (k : Nat) q, n ≤ k → ps[k]? = some q → H4 q = H3 q, ⟨ps.length, rfl, Nat.zero_le _, ⟨(σ.set i (some (.ref p)))[j]'(by rw [List.length_set, hlσ]; exact hj), by rw [List.set_getElem_self]⟩, fun _ _ _ e => e, fun x o e => ⟨o, e⟩, fun _ _ _ _ => rfl⟩, ?_⟩
    rintro n m σ' H4 ⟨rfl, hn, ⟨y, rfl⟩, k1, k2, k3⟩
    have h4p : H4 p = some (.lst (ps.map V.ref)) := k1 _ _ pn h3p
    by_cases hlt : n < ps.length
    · refine .inr ⟨⟨_, .ref ps[n], SqL.of h4p, by rw [List.getElem?_map, List.getElem?_eq_getElem hlt]; rfl⟩, fun σ2 H5 => (∃ y, σ2 = (σ.set i (some (.ref p))).set j y) ∧ (∀ x o, x ∉ ps → H3 x = some o → H5 x = some o) ∧ (∀ x o, H3 x = some o → ∃ o', H5 x = some o') ∧ ∀ (k : Nat) q, n + 1 ≤ k → ps[k]? = some q → H5 q = H3 q, fun σ2 H5 z => ⟨ps.length - (n + 1), by omega, rfl, hlt, z⟩, fun x H5 y' => ?_⟩
      obtain ⟨e1, y'⟩ := y'
      subst e1
      have q := y' _ (SqL.of h4p)
      rw [List.getElem?_map, List.getElem?_eq_getElem hlt] at q
      cases q
      have en : ps[n]? = some ps[n] := List.getElem?_eq_getElem hlt
      obtain ⟨xs, z1, z2⟩ := h3q n _ en
      have z1 : H5 ps[n] = some (.lst xs) := (k3 n _ (Nat.le_refl _) en).trans z1
      refine ⟨.ref ps[n], List.getElem?_set_self (by simp only [List.length_set]; rw [hlσ]; exact hj), Or.inl ⟨rfl, xs, SqL.of z1⟩, ps[n], xs, .non, rfl, rfl, z1, z2, ?_⟩
      refine ⟨⟨some (.ref ps[n]), by rw [List.set_set]⟩, fun x o nx e => ?_, fun x o e => ?_, fun k q hk e => ?_⟩
      · rw [upd_ne (fun z : x = ps[n] => nx (by rw [z]; exact List.getElem_mem hlt))]
        exact k1 x o nx e
      · by_cases hx : x = ps[n]
        · exact ⟨_, by rw [hx]; exact upd_same⟩
        · rw [upd_ne hx]
          exact k2 x o e
      · rw [upd_ne (fun z => ?_)]
        · exact k3 k q (by omega) e
        · have := (List.getElem?_inj hlt f.nd).mp (en.trans ((congrArg some z.symm).trans e.symm))
          omega
    · refine .inl ⟨⟨_, SqL.of h4p, by rw [List.length_map]; omega⟩, ?_⟩
      have g := gg H4 k1 k2
      have st4 := st.mono g
      have s5 : StD F S1 H4 H0 (σ.set i (some (.ref p))) (Δ.set i .un) := st4.set trivial fun _ z => by cases z
      have s6 : StD F S1 H4 H0 ((σ.set i (some (.ref p))).set j y) ((Δ.set i .un).set j .un) := by
        cases y with
        | none => exact s5.gone j
        | some y => exact s5.set trivial fun _ z => by cases z
      exact k S0 H0 B S1 H4 _ E (g.ok w) (gb.step g) s6 r
end
end Bc

/-! Core T: own dicts; for over d.values(), the dict locked. -/
namespace Bc
open PySem L2 PySem.Spec PyProof.Rows
mutual
def D.nd : D → Bool
  | .none => true
  | .bool _ => true
  | .int _ => true
  | .str _ => true
  | .list l => ndL l
  | .tuple l => ndL l
  | .dict _ => false
  | .obj _ _ => false
  | .exc _ _ => false
  | .ref _ => true
def ndL : List D → Bool
  | [] => true
  | d :: ds => d.nd && ndL ds
end
section
variable {S S' : Hp}
mutual
theorem dt_nd (e : ∀ a o, S a = some o → (∀ ks, o ≠ .dK ks) → S' a = some o) : ∀ (d : D) (v : V), d.nd = true → Dt S d v → Dt S' d v
  | .none, v, _, h => by simpa only [Dt] using h
  | .bool b, v, _, h => by simpa only [Dt] using h
  | .int i, v, _, h => by simpa only [Dt] using h
  | .str s, v, _, h => by simpa only [Dt] using h
  | .ref a, v, _, h => by simpa only [Dt] using h
  | .list ds, v, q, h => by
    simp only [Dt] at h ⊢
    simp only [D.nd] at q
    obtain ⟨a, xs, e1, e2, h⟩ := h
    exact ⟨a, xs, e1, e _ _ e2 (by simp), dtl_nd e ds xs q h⟩
  | .tuple ds, v, q, h => by
    simp only [Dt] at h ⊢
    simp only [D.nd] at q
    obtain ⟨a, xs, e1, e2, h⟩ := h
    exact ⟨a, xs, e1, e _ _ e2 (by simp), dtl_nd e ds xs q h⟩
  | .dict ds, v, q, h => by simp [D.nd] at q
  | .obj C ds, v, q, h => by simp [D.nd] at q
  | .exc C fs, v, q, h => by simp [D.nd] at q
theorem dtl_nd (e : ∀ a o, S a = some o → (∀ ks, o ≠ .dK ks) → S' a = some o) : ∀ (d : List D) (v : List V), ndL d = true → DtL S d v → DtL S' d v
  | [], v, _, h => by simpa only [DtL] using h
  | d :: ds, v, q, h => by
    simp only [DtL] at h ⊢
    simp only [ndL, Bool.and_eq_true] at q
    obtain ⟨x, ys, e1, h1, h2⟩ := h
    exact ⟨x, ys, e1, dt_nd e d x q.1 h1, dtl_nd e ds ys q.2 h2⟩
end
theorem dtk_nd (e : ∀ a o, S a = some o → (∀ ks, o ≠ .dK ks) → S' a = some o) : ∀ (d : List (Key × D)) (v : List (Key × V)), ndL (d.map (·.2)) = true → DtK S d v → DtK S' d v
  | [], v, _, h => by simpa only [DtK] using h
  | (k, d) :: ds, v, q, h => by
    simp only [DtK] at h ⊢
    simp only [List.map_cons, ndL, Bool.and_eq_true] at q
    obtain ⟨x, ys, e1, h1, h2⟩ := h
    exact ⟨x, ys, e1, dt_nd e d x q.1 h1, dtk_nd e ds ys q.2 h2⟩
mutual
theorem dt_un (e : ∀ a o, S a = some o → (∀ ob ks, o ≠ .frz ob (.dK ks)) → S' a = some o) : ∀ (d : D) (v : V), Dt S d v → Dt S' d v
  | .none, v, h => by simpa only [Dt] using h
  | .bool b, v, h => by simpa only [Dt] using h
  | .int i, v, h => by simpa only [Dt] using h
  | .str s, v, h => by simpa only [Dt] using h
  | .ref a, v, h => by simpa only [Dt] using h
  | .list ds, v, h => by
    simp only [Dt] at h ⊢
    obtain ⟨a, xs, e1, e2, h⟩ := h
    exact ⟨a, xs, e1, e _ _ e2 (by simp), dtl_un e ds xs h⟩
  | .tuple ds, v, h => by
    simp only [Dt] at h ⊢
    obtain ⟨a, xs, e1, e2, h⟩ := h
    exact ⟨a, xs, e1, e _ _ e2 (by simp), dtl_un e ds xs h⟩
  | .dict ds, v, h => by
    simp only [Dt] at h ⊢
    obtain ⟨a, xs, e1, e2, h⟩ := h
    exact ⟨a, xs, e1, e _ _ e2 (by simp), dtk_un e ds xs h⟩
  | .obj C ds, v, h => by
    simp only [Dt] at h ⊢
    obtain ⟨a, dx, xs, e1, e2, h⟩ := h
    exact ⟨a, dx, xs, e1, e _ _ e2 (by simp), dtf_un e ds xs h⟩
  | .exc C fs, v, h => by
    simp only [Dt] at h ⊢
    obtain ⟨a, t1, e1, ⟨e2, e3⟩ | ⟨d, vs, e2, e3, e4, h⟩⟩ := h
    · exact ⟨a, t1, e1, .inl ⟨e2, e _ _ e3 (by simp)⟩⟩
    · exact ⟨a, t1, e1, .inr ⟨d, vs, e2, e _ _ e3 (by simp), e _ _ e4 (by simp), dtf_un e fs vs h⟩⟩
theorem dtl_un (e : ∀ a o, S a = some o → (∀ ob ks, o ≠ .frz ob (.dK ks)) → S' a = some o) : ∀ (d : List D) (v : List V), DtL S d v → DtL S' d v
  | [], v, h => by simpa only [DtL] using h
  | d :: ds, v, h => by
    simp only [DtL] at h ⊢
    obtain ⟨x, ys, e1, h1, h2⟩ := h
    exact ⟨x, ys, e1, dt_un e d x h1, dtl_un e ds ys h2⟩
theorem dtk_un (e : ∀ a o, S a = some o → (∀ ob ks, o ≠ .frz ob (.dK ks)) → S' a = some o) : ∀ (d : List (Key × D)) (v : List (Key × V)), DtK S d v → DtK S' d v
  | [], v, h => by simpa only [DtK] using h
  | (k, d) :: ds, v, h => by
    simp only [DtK] at h ⊢
    obtain ⟨x, ys, e1, h1, h2⟩ := h
    exact ⟨x, ys, e1, dt_un e d x h1, dtk_un e ds ys h2⟩
theorem dtf_un (e : ∀ a o, S a = some o → (∀ ob ks, o ≠ .frz ob (.dK ks)) → S' a = some o) : ∀ (d : List (Str × D)) (v : List (Str × V)), DtF S d v → DtF S' d v
  | [], v, h => by simpa only [DtF] using h
  | (k, d) :: ds, v, h => by
    simp only [DtF] at h ⊢
    obtain ⟨x, ys, e1, h1, h2⟩ := h
    exact ⟨x, ys, e1, dt_un e d x h1, dtf_un e ds ys h2⟩
end
end
/-- what is still told where a dict is locked -/
def lkS : Sl → Sl
  | .v d => if d.nd then .v d else .un
  | .own l => if ndL l then .own l else .un
  | .od p kvs => if ndL (kvs.map (·.2)) then .od p kvs else .un
  | .src => .src
  | _ => .un
def okLk (Δ : List Sl) : Bool := Δ.all fun s => match s with | .un => true | .v _ => true | .own _ => true | .od _ _ => true | .src => true | _ => false
theorem dtk_at {S : Hp} : ∀ {kvs : List (Key × D)} {ks : List (Key × V)} {i : Nat} {k : Key} {x : V}, DtK S kvs ks → ks[i]? = some (k, x) → ∃ d, (kvs.map (·.2))[i]? = some d ∧ Dt S d x
  | [], ks, i, k, x, h, e => by
    simp only [DtK] at h
    subst h
    simp at e
  | (k', d) :: r, ks, i, k, x, h, e => by
    simp only [DtK] at h
    obtain ⟨y, ys, rfl, h1, h2⟩ := h
    cases i with
    | zero =>
      simp only [List.getElem?_cons_zero, Option.some.injEq, Prod.mk.injEq] at e
      exact ⟨d, rfl, e.2 ▸ h1⟩
    | succ i =>
      simp only [List.getElem?_cons_succ] at e
      obtain ⟨d', e1, e2⟩ := dtk_at h2 e
      exact ⟨d', by simpa using e1, e2⟩
theorem dtk_len {S : Hp} {kvs : List (Key × D)} {ks : List (Key × V)} (h : DtK S kvs ks) : ks.length = kvs.length := by
  have := congrArg List.length (dtk_keys h)
  simpa using this
section
variable {F : Fp} {fr : Bool} {Δ : List Sl} {po : Po} {K : PySem.W.Frag} {i : Nat} {C : Addr} {fs : FS} {f : Str} {kvs : List (Key × D)} {g : TG} {tb : TS}
theorem lk_std {S H H0 : Hp} {σ : L2.St} {d : Addr} {od : Obj} {ks : List (Key × V)} (st : StD F S H H0 σ Δ) (hS : S d = some (.dK ks)) : StD F (upd S d (.frz od (.dK ks))) (upd H d (.frz od (.dK ks))) (upd H0 d (.frz od (.dK ks))) σ (Δ.map lkS) := by
  have e : ∀ a o, S a = some o → (∀ ks, o ≠ .dK ks) → upd S d (.frz od (.dK ks)) a = some o := fun a o e n => by
    rw [upd_ne (fun z => n ks (by rw [z, hS] at e; exact (Option.some.inj e).symm))]
    exact e
  refine ⟨by simp [st.len], fun j s q => ?_, fun j k ds es p e1 e2 f1 f2 => ?_, fun x z => ?_⟩
  · rw [List.getElem?_map, Option.map_eq_some_iff] at q
    obtain ⟨s0, q, rfl⟩ := q
    obtain ⟨x, e1, h⟩ := st.ok j s0 q
    refine ⟨x, e1, ?_⟩
    cases s0 with
    | v d =>
      simp only [lkS]
      split
      · rename_i hn
        obtain ⟨y, z1, z2⟩ := h
        exact ⟨y, z1, dt_nd e _ _ hn z2⟩
      · trivial
    | own l =>
      simp only [lkS]
      split
      · rename_i hn
        obtain ⟨p, xs, z1, z2, z3, z4, z5⟩ := h
        have n1 : p ≠ d := fun z => by rw [z, hS] at z3; cases z3
        exact ⟨p, xs, z1, by rw [upd_ne n1]; exact z2, by rw [upd_ne n1]; exact z3, by rw [upd_ne n1]; exact z4, dtl_nd e _ _ hn z5⟩
      · trivial
    | od p kvs =>
      simp only [lkS]
      split
      · rename_i hn
        obtain ⟨xs, z1, z2, z3, z4, z5⟩ := h
        have n1 : p ≠ d := fun z => by rw [z, hS] at z3; cases z3
        exact ⟨xs, z1, by rw [upd_ne n1]; exact z2, by rw [upd_ne n1]; exact z3, by rw [upd_ne n1]; exact z4, dtk_nd e _ _ hn z5⟩
      · trivial
    | src => exact h
    | _ => trivial
  · have ow : ∀ {j : Nat} {l : List D}, (Δ.map lkS)[j]? = some (.own l) → Δ[j]? = some (.own l) := fun {j l} q => by
      rw [List.getElem?_map, Option.map_eq_some_iff] at q
      obtain ⟨s0, q, q2⟩ := q
      rw [q]
      cases s0 <;> simp only [lkS] at q2 <;> first | cases q2 | skip
      all_goals (split at q2 <;> first | cases q2 | skip)
      rfl
    exact st.nd j k ds es p (ow e1) (ow e2) f1 f2
  · obtain ⟨o, e⟩ := st.fh x z
    by_cases hx : x = d
    · exact ⟨_, by rw [hx]; exact upd_same⟩
    · exact ⟨o, by rw [upd_ne hx]; exact e⟩
theorem unlk_std {S H H0 : Hp} {σ : L2.St} {d : Addr} {od : Obj} {ks : List (Key × V)} (st : StD F S H (upd H0 d (.frz od (.dK ks))) σ Δ) (hS : S d = some (.frz od (.dK ks))) (ok : okLk Δ = true) (fh : ∀ x, fp F x → ∃ o, H0 x = some o) : StD F (upd S d (.dK ks)) (upd H d (.dK ks)) H0 σ Δ := by
  have e : ∀ a o, S a = some o → (∀ ob ks, o ≠ .frz ob (.dK ks)) → upd S d (.dK ks) a = some o := fun a o e n => by
    rw [upd_ne (fun z => n od ks (by rw [z, hS] at e; exact (Option.some.inj e).symm))]
    exact e
  have ne : ∀ {x}, upd H0 d (.frz od (.dK ks)) x = Option.none → x ≠ d ∧ H0 x = Option.none := fun {x} e => by
    have hx : x ≠ d := fun z => by rw [z, upd_same] at e; cases e
    rw [upd_ne hx] at e
    exact ⟨hx, e⟩
  refine ⟨st.len, fun j s q => ?_, st.nd, fh⟩
  obtain ⟨x, e1, h⟩ := st.ok j s q
  have os := List.all_eq_true.mp ok s (List.mem_of_getElem? q)
  refine ⟨x, e1, ?_⟩
  cases s with
  | un => trivial
  | v d =>
    obtain ⟨y, z1, z2⟩ := h
    exact ⟨y, z1, dt_un e _ _ z2⟩
  | own l =>
    obtain ⟨p, xs, z1, z2, z3, z4, z5⟩ := h
    obtain ⟨n1, z4⟩ := ne z4
    exact ⟨p, xs, z1, by rw [upd_ne n1]; exact z2, by rw [upd_ne n1]; exact z3, z4, dtl_un e _ _ z5⟩
  | od p kvs =>
    obtain ⟨xs, z1, z2, z3, z4, z5⟩ := h
    obtain ⟨n1, z4⟩ := ne z4
    exact ⟨xs, z1, by rw [upd_ne n1]; exact z2, by rw [upd_ne n1]; exact z3, z4, dtk_un e _ _ z5⟩
  | src => exact h
  | _ => cases os
/-- for x in o.f.values(): .. (without break and return) -/
theorem run_forVals (hi : Δ[i]? = some (.v (.obj C fs))) (c : Cls K C) (n : NoAttr K C f) (hf : fs.lookup f = some (.dict kvs)) (hnd : ndL (kvs.map (·.2)) = true) (I : Nat → List Sl → Prop) (h0 : I 0 (Δ.map lkS))
    (hs : ∀ m d Δ', (kvs.map (·.2))[m]? = some d → I m Δ' → ∃ js Δ'', EvG F g d Δ' js Δ'' ∧ Run F fr tb Δ'' { nx := I (m + 1), ct := I (m + 1), bk := fun _ => False, rt := fun _ => False }) (hd : ∀ Δ', I kvs.length Δ' → okLk Δ' = true ∧ po.nx Δ') :
    Run F fr (tLock (tFor (iVals (tFld K (tVar i) f)) g tb)) Δ po := fun S0 H0 B S H σ E w gb st r => by
  obtain ⟨y, ey, hy⟩ := st.get hi
  simp only [Dt] at hy
  obtain ⟨a, dx, vs, rfl, ea, hfs⟩ := hy
  obtain ⟨u, eu, hu⟩ := (dtf_lookup hfs).1 _ hf
  simp only [Dt] at hu
  obtain ⟨d, ks, rfl, ed, hk⟩ := hu
  have hHd := w.s _ _ ed
  refine ⟨d, .dK ks, hHd, trivial, fun od => ?_⟩
  have had : a ≠ d := fun z => by rw [z, ed] at ea; cases ea
  have sl : ∀ {x}, x ≠ d → upd S d (.frz od (.dK ks)) x = S x := fun h => upd_ne h
  have wl : Okw F (upd S d (.frz od (.dK ks))) (upd H d (.frz od (.dK ks))) := ⟨fun x o e => by
    by_cases hx : x = d
    · rw [hx, upd_same] at e ⊢
      exact e
    · rw [upd_ne hx] at e ⊢
      exact w.s _ _ e, fun p q e => by
    obtain ⟨z1, z2, ns, l, m, t, z3, z4, z5⟩ := w.src p q e
    have n1 : p ≠ d := fun z => by rw [z, ed] at z1; cases z1
    have n2 : q ≠ d := fun z => by rw [z, ed] at z2; cases z2
    exact ⟨by rw [upd_ne n1]; exact z1, by rw [upd_ne n2]; exact z2, ns, l, m, t, by rw [upd_ne n1]; exact z3, by rw [upd_ne n2]; exact z4, z5⟩⟩
  have stl := lk_std (od := od) st ed
  have g0 : Gr F (upd S d (.frz od (.dK ks))) (upd H0 d (.frz od (.dK ks))) (upd S d (.frz od (.dK ks))) (upd H d (.frz od (.dK ks))) := by
    refine ⟨fun _ _ e => e, wl.s, fun _ _ _ => rfl, fun x o nf e => ?_, fun x o e => ?_, fun p q e z => (wl.src p q e).2.2⟩
    · by_cases hx : x = d
      · rw [hx, upd_same] at e ⊢
        exact e
      · rw [upd_ne hx] at e ⊢
        exact gb.g.k x o nf e
    · by_cases hx : x = d
      · exact ⟨_, by rw [hx]; exact upd_same⟩
      · rw [upd_ne hx] at e ⊢
        exact gb.g.m x o e
  have hkl := dtk_len hk
  refine ⟨.ref a, ey, a, C, dx, vs, .ref d, rfl, by rw [upd_ne had]; exact w.s _ _ ea, c, n, eu, d, od, ks, rfl, upd_same, ?_⟩
  refine ⟨fun m k σ' H' => k = kvs.length - m ∧ m ≤ kvs.length ∧ ∃ Δ' S', I m Δ' ∧ Okw F S' H' ∧ Gb F (upd S d (.frz od (.dK ks))) (upd H0 d (.frz od (.dK ks))) (upd S d (.frz od (.dK ks))) S' H' ∧ StD F S' H' (upd H0 d (.frz od (.dK ks))) σ' Δ', ⟨kvs.length, rfl, Nat.zero_le _, Δ.map lkS, _, h0, wl, ⟨g0, Same.refl _⟩, stl⟩, ?_⟩
  rintro m k σ' H' ⟨rfl, hm, Δ', S', hI, w', gb', st'⟩
  have hSd : S' d = some (.frz od (.dK ks)) := gb'.b _ _ upd_same
  by_cases hlt : m < kvs.length
  · refine .inr ⟨⟨w'.s _ _ hSd, by rw [hkl]; exact hlt⟩, fun σ2 H2 => ∃ Δ2 S2, I (m + 1) Δ2 ∧ Okw F S2 H2 ∧ Gb F (upd S d (.frz od (.dK ks))) (upd H0 d (.frz od (.dK ks))) (upd S d (.frz od (.dK ks))) S2 H2 ∧ StD F S2 H2 (upd H0 d (.frz od (.dK ks))) σ2 Δ2, fun σ2 H2 z => ⟨kvs.length - (m + 1), by omega, rfl, hlt, z⟩, fun x H2 y => ?_⟩
    obtain ⟨e1, ky, e2⟩ := y
    subst e1
    obtain ⟨dd, e3, hx⟩ := dtk_at hk e2
    have hnx : dd.nd = true := by
      have : ∀ {l : List D} {d : D}, ndL l = true → d ∈ l → d.nd = true := fun {l} => by
        induction l with
        | nil => intro d _ h; cases h
        | cons x l ih =>
          intro d h hd
          simp only [ndL, Bool.and_eq_true] at h
          rcases List.mem_cons.mp hd with rfl | hd
          · exact h.1
          · exact ih h.2 hd
      exact this hnd (List.mem_of_getElem? e3)
    have hx2 : Dt S' dd x := (dt_nd (S' := upd S d (.frz od (.dK ks))) (fun a o e n => by
      rw [upd_ne (fun z => n ks (by rw [z, ed] at e; exact (Option.some.inj e).symm))]
      exact e) dd x hnx hx).mono gb'.b
    obtain ⟨js, Δ2, hg, hr⟩ := hs m dd Δ' e3 hI
    refine hg _ S' H2 σ' x w' st' hx2 _ fun σ2 st2 _ => ?_
    exact hr _ _ _ S' H2 σ2 _ w' gb' st2 ⟨fun Δ3 S3 H3 σ3 n w3 gb3 st3 => ⟨Δ3, S3, n, w3, gb3, st3⟩, fun _ _ _ _ _ _ z => z.elim, fun _ _ _ _ z => z.elim, fun Δ3 S3 H3 σ3 n w3 gb3 st3 => ⟨Δ3, S3, n, w3, gb3, st3⟩⟩
  · have e : m = kvs.length := by omega
    subst e
    obtain ⟨ok, hn⟩ := hd Δ' hI
    refine .inl ⟨⟨w'.s _ _ hSd, by omega⟩, w'.s _ _ hSd, ?_⟩
    have sU : ∀ {x}, x ≠ d → upd S' d (.dK ks) x = S' x := fun h => upd_ne h
    have sSu : Same S (upd S' d (.dK ks)) := fun x o e => by
      by_cases hx : x = d
      · rw [hx, ed] at e
        rw [hx, upd_same]
        exact e
      · rw [upd_ne hx]
        exact gb'.b _ _ (by rw [upd_ne hx]; exact e)
    have wu : Okw F (upd S' d (.dK ks)) (upd H' d (.dK ks)) := ⟨fun x o e => by
      by_cases hx : x = d
      · rw [hx, upd_same] at e ⊢
        exact e
      · rw [upd_ne hx] at e ⊢
        exact w'.s _ _ e, fun p q e => by
      obtain ⟨z1, z2, ns, l, m, t, z3, z4, z5⟩ := w'.src p q e
      have n1 : p ≠ d := fun z => by rw [z, hSd] at z1; cases z1
      have n2 : q ≠ d := fun z => by rw [z, hSd] at z2; cases z2
      exact ⟨by rw [upd_ne n1]; exact z1, by rw [upd_ne n2]; exact z2, ns, l, m, t, by rw [upd_ne n1]; exact z3, by rw [upd_ne n2]; exact z4, z5⟩⟩
    have gw : Gw F H0 S H (upd S' d (.dK ks)) (upd H' d (.dK ks)) := by
      refine ⟨sSu, wu.s, fun x o e => ?_, fun x o v nf e e' => ?_, fun x o e => ?_, fun p q e z => (wu.src p q e).2.2⟩
      · by_cases hx : x = d
        · rw [hx, upd_same, ed]
        · rw [upd_ne hx, gb'.g.n x o (by rw [upd_ne hx]; exact e), upd_ne hx]
      · by_cases hx : x = d
        · rw [hx, hHd] at e'
          rw [hx, upd_same]
          exact e'
        · have ev := gb.g.k x o nf e
          rw [e'] at ev
          cases ev
          rw [upd_ne hx]
          exact gb'.g.k x _ nf (by rw [upd_ne hx]; exact e)
      · by_cases hx : x = d
        · exact ⟨_, by rw [hx]; exact upd_same⟩
        · rw [upd_ne hx]
          exact gb'.g.m x o (by rw [upd_ne hx]; exact e)
    exact r.nx Δ' _ _ σ' hn wu ⟨gw.gr gb.g, gb.b.trans sSu⟩ (unlk_std st' hSd ok st.fh)
end
end Bc

/-! Core A: own dicts. -/
namespace Bc
open PySem L2 PySem.Spec PyProof.Rows
/-- kvs behind d[k] = v -/
def putKD (kvs : List (Key × D)) (k : Key) (v : D) : List (Key × D) := if kvs.any (fun p => decide (p.1 = k)) then kvs.map (fun p => if p.1 = k then (p.1, v) else p) else kvs ++ [(k, v)]
theorem dtk_put {S : Hp} {k : Key} {d : D} {x : V} (hx : Dt S d x) {kvs : List (Key × D)} {ks : List (Key × V)} (h : DtK S kvs ks) : DtK S (putKD kvs k d) (putK ks k x) := by
  have any : (kvs.any fun p => decide (p.1 = k)) = ks.any fun p => decide (p.1 = k) := by
    have e := dtk_keys h
    have f : ∀ {α : Type} (l : List (Key × α)), (l.any fun p => decide (p.1 = k)) = (l.map (·.1)).any fun z => decide (z = k) := fun l => by
      rw [List.any_map]
      rfl
    rw [f, f, e]
  have mp : ∀ {kvs : List (Key × D)} {ks : List (Key × V)}, DtK S kvs ks → DtK S (kvs.map fun p => if p.1 = k then (p.1, d) else p) (ks.map fun p => if p.1 = k then (p.1, x) else p) := fun {kvs} => by
    induction kvs with
    | nil =>
      intro ks h
      simp only [DtK] at h
      subst h
      simp only [List.map_nil, DtK]
    | cons p r ih =>
      intro ks h
      obtain ⟨k', d'⟩ := p
      simp only [DtK] at h
      obtain ⟨y, ys, rfl, h1, h2⟩ := h
      simp only [List.map_cons]
      by_cases e : k' = k
      · rw [if_pos e, if_pos e]
        simp only [DtK]
        exact ⟨x, _, rfl, hx, ih h2⟩
      · rw [if_neg e, if_neg e]
        simp only [DtK]
        exact ⟨y, _, rfl, h1, ih h2⟩
  unfold putKD
  rw [any]
  unfold putK
  split
  · exact mp h
  · exact dtk_app hx h
def Sl.isOd : Sl → Bool
  | .od _ _ => true
  | _ => false
/-- no other own dict in the slots -/
def od1 (i : Nat) (Δ : List Sl) : Bool := (Δ.set i .un).all fun s => !s.isOd
section
variable {F : Fp} {fr : Bool} {Δ : List Sl} {te tv ty : TE} {u : TS} {po : Po} {K : PySem.W.Frag} {i : Nat} {p : Addr} {kvs : List (Key × D)} {S H H0 : Hp} {σ : L2.St}
/-- x = {} -/
theorem run_setOD (k : ∀ p, Run F fr u (Δ.set i (.od p [])) po) : Run F fr (tSeq (tAsg tDNewK (gName i)) u) Δ po := fun S0 H0 B S H σ E w gb st r => fun p hp => by
  have g : Gr F S H S (upd H p (.dK [])) := Gr.new w.s hp
  have h0 : H0 p = Option.none := by
    cases e : H0 p with
    | none => rfl
    | some o =>
      obtain ⟨o', e'⟩ := gb.g.m p o e
      rw [hp] at e'
      cases e'
  exact k p S0 H0 B S _ _ E (g.ok w) (gb.step g) ((st.mono g).set (s := .od p []) ⟨[], rfl, upd_same, Same.free w.s hp, h0, by simp only [DtK]⟩ fun _ z => by cases z) r
theorem od_mut (st : StD F S H H0 σ Δ) (w : Okw F S H) (dm : Dm H0 H) (hi : Δ[i]? = some (.od p kvs)) (h1 : od1 i Δ = true) : ∃ ks, σ[i]? = some (some (.ref p)) ∧ H p = some (.dK ks) ∧ DtK S kvs ks ∧
    ∀ kvs' ks', DtK S kvs' ks' → Okw F S (upd H p (.dK ks')) ∧ Gw F H0 S H S (upd H p (.dK ks')) ∧ StD F S (upd H p (.dK ks')) H0 σ (Δ.set i (.od p kvs')) := by
  obtain ⟨x, e1, ks, rfl, q1, q2, q3, q4⟩ := st.ok i _ hi
  have nf : ¬ fp F p := fun z => by
    obtain ⟨o, q⟩ := st.fh p z
    rw [q3] at q
    cases q
  refine ⟨ks, e1, q1, q4, fun kvs' ks' hd => ?_⟩
  have gw : Gw F H0 S H S (upd H p (.dK ks')) := Gw.mut w.s q1 q2 q3 nf dm
  have hlt : i < Δ.length := (List.getElem?_eq_some_iff.mp hi).1
  refine ⟨gw.ok w st.fh, gw, by simp [st.len], fun j s' ej => ?_, fun j l es fs q f1 f2 f3 f4 => ?_, st.fh⟩
  · by_cases hj : j = i
    · subst hj
      rw [List.getElem?_set_self hlt] at ej
      cases ej
      exact ⟨_, e1, ks', rfl, upd_same, q2, q3, hd⟩
    · have nod := List.all_eq_true.mp h1 s' (List.mem_of_getElem? (i := j) (by rw [List.getElem?_set_ne (Ne.symm hj)]; rw [List.getElem?_set_ne (Ne.symm hj)] at ej; exact ej))
      rw [List.getElem?_set_ne (Ne.symm hj)] at ej
      obtain ⟨y, f1, f2⟩ := st.ok j s' ej
      refine ⟨y, f1, ?_⟩
      cases s' with
      | un => trivial
      | v d => exact f2
      | src => exact f2
      | ob a dx C fs =>
        obtain ⟨vs, z1, z2, z3, z4, z5, z6, z7, z8⟩ := f2
        have n1 : a ≠ p := fun z => by rw [z, q1] at z2; cases z2
        have n2 : dx ≠ p := fun z => by rw [z, q1] at z3; cases z3
        exact ⟨vs, z1, by rw [upd_ne n1]; exact z2, by rw [upd_ne n2]; exact z3, z4, z5, z6, z7, z8⟩
      | xc W PX l => exact XcOk.mono f2 gw
      | fz a fs => exact f2
      | tb P q => exact TbOk.odk f2 q1 nf
      | od b kvs => cases nod
      | own es =>
        obtain ⟨q, ys, rfl, y1, y2, y3, y4⟩ := f2
        refine ⟨q, ys, rfl, ?_, y2, y3, y4⟩
        rw [upd_ne (fun z => by rw [z, q1] at y1; cases y1)]
        exact y1
  · have n1 : j ≠ i := fun z => by
      subst z
      rw [List.getElem?_set_self hlt] at f1
      cases f1
    have n2 : l ≠ i := fun z => by
      subst z
      rw [List.getElem?_set_self hlt] at f2
      cases f2
    rw [List.getElem?_set_ne (Ne.symm n1)] at f1
    rw [List.getElem?_set_ne (Ne.symm n2)] at f2
    exact st.nd j l es fs q f1 f2 f3 f4
/-- d[y] = v, d the def's own -/
theorem run_dputO {d y : D} {k : Key} (hi : Δ[i]? = some (.od p kvs)) (h1 : od1 i Δ = true) (hv : Ev1 F tv Δ d) (hy : Ev1 F ty Δ y) (hk : keyD y = some k) (hl : kvs.length < sizeLine) (kn : po.nx (Δ.set i (.od p (putKD kvs k d)))) :
    Run F fr (sDPut (tVar i) ty tv) Δ po := fun S0 H0 B S H σ E w gb st r => by
  refine hv H0 S H σ w st _ fun d' v S1 H1 e1 g1 hd => ?_
  subst e1
  obtain ⟨x, ex, ks, rfl, _⟩ := (st.mono g1).ok i _ hi
  refine ⟨_, ex, ?_⟩
  refine hy H0 S1 H1 σ (g1.ok w) (st.mono g1) _ fun y' z S2 H2 e2 g2 hz => ?_
  subst e2
  have st2 := (st.mono g1).mono g2
  have w2 := g2.ok (g1.ok w)
  have gb2 := (gb.step g1).step g2
  obtain ⟨ks2, f1, f2, f3, hm⟩ := od_mut st2 w2 gb2.g.m hi h1
  rw [ex] at f1
  obtain ⟨w3, gw, st3⟩ := hm (putKD kvs k d') (putK ks2 k v) (dtk_put (hd.mono g2.s) f3)
  refine ⟨p, _, rfl, ?_, r.nx _ S2 _ σ kn w3 (gb2.stepM gw) st3⟩
  rw [dt_key hz hk]
  exact DPut.k f2 (by rw [dtk_len f3]; exact hl)
/-- list(d) -/
theorem ef_listOD (hi : Δ[i]? = some (.od p kvs)) : EvF F (tCB rListD (tCons (tVar i) tNil)) Δ fun r => r = kvs.map fun q => keyT q.1 := fun H0 S H σ w t Q k => by
  obtain ⟨x, ex, ks, rfl, q1, q2, q3, q4⟩ := t.ok i _ hi
  refine ⟨_, ex, p, ks, rfl, q1, fun q hq => ?_⟩
  exact k _ q _ S _ rfl (Gr.new w.s hq) hq upd_same (Same.free w.s hq) (dtk_keysL q4)
end
end Bc

/-! Core M: methods that raise; x(lambda: ..) as an expression. -/
namespace Bc
open PySem L2 PySem.Spec PyProof.Rows
structure MethTX (P : Program) (w : World) (K : PySem.W.Frag) (mg : Str → Option Value) (base : Heap) (k : Nat) (C : Addr) (m : Str) (ps : List Str) (sp : Sp) : Prop where
  ex : ∃ f fd, Meth K C m f ∧ Binds K fd ps [] ∧ FnOk P w K mg base (L2.CX P w) k f fd ps sp
  cls : Cls K C
def tMethS (C : Addr) (m : Str) (sp : Sp) (E : L2.St → XK) (to : TE) (t : TA) : TE := fun σ H Q => tMeth C m sp [] (E σ) to t σ H Q
section
variable {X : Cx} {k : Nat} {C : Addr} {m : Str} {ps : List Str} {sp : Sp} {o e : Expr} {es : List Expr} {to : TE} {t : TA} {pos apos : Pos} {W : WX}
theorem pe_methTX {pl : Sem Bool} (tk : Takes X W) (G : MethTX X.prog X.w X.K X.mg X.base k C m ps sp) (hr : Room k X.A) (he : PE X o to) (ha : PA X (e :: es) t)
    (hst : starEach (e :: es) X.env = (false, eval e X.env) :: starEach es X.env := by rfl) (hpl : (backTo pos (starEach es X.env)).any (·.1) = false := by rfl)
    (ht : eval (.Call (.Attribute o m apos) (e :: es) [] pos) X.env = (do
      let ov ← eval o X.env
      standAt apos.atName
      let (f, first) ← holding [ov] (getMethod ov m pl)
      callWith pos f first (backTo pos (starEach (e :: es) X.env)) (backToKw pos (keywordEach [] X.env))) := by rfl) :
    PE X (.Call (.Attribute o m apos) (e :: es) [] pos) (tMethS C m sp (WE W) to t) := by
  obtain ⟨f, fd, hm, hb, F⟩ := G.ex
  refine ⟨fun pins s σ H Q I h => ?_⟩
  refine PySem.W.methodCall_KW (pl := pl) (thn (he.run pins s σ H _ I h) fun u s1 ⟨x, H1, I1, rx, a, dx, fs, ex, ea, l, q⟩ => ?_) ht
  subst ex
  obtain rfl : u = Value.ref a := rx
  refine getmeth_ok I1 ea G.cls hm l ?_
  refine PySem.W.callWith_K (first := [.ref a]) (h₀ := X.base) I.ok.mod.kin hm.kp (thn (ha.run pos pins s1 σ H1 _ I1 q) fun us s2 ⟨vs, H2, I2, r, q2⟩ => ⟨I2.kIn, ?_⟩) hst hpl
  have q2 : sp (V.ref a :: (vs ++ [])) H2 Q (WE W σ) := q2
  rw [List.append_nil] at q2
  exact run_fnS (E := WE W) (us := .ref a :: us) (vs := .ref a :: vs) F hr hb (passAt tk σ) I2 (.cons rfl r) q2
end
/-- where no exception may come -/
theorem MethTX.safe {P : Program} {w : World} {K : PySem.W.Frag} {mg : Str → Option Value} {base : Heap} {k : Nat} {C : Addr} {m : Str} {ps : List Str} {src fr : Bool} {R R' : List D → D → Prop} {RX : RX1} (G : MethTX P w K mg base k C m ps (SpX src fr R RX)) (hR : ∀ ds, (∃ d, R' ds d) → (∃ d, R ds d) ∧ (∀ c f, ¬ RX ds c f) ∧ ∀ d, R ds d → R' ds d) : MethT P w K mg base k C m ps (SpD src fr R') := by
  obtain ⟨f, fd, h2, h3, h4⟩ := G.ex
  have to : ∀ vs H Q E, SpD src fr R' vs H Q E → SpX src fr R RX vs H Q (fun _ _ _ => False) := fun vs H Q E h => by
    obtain ⟨F, S, ds, w', a, r, hk⟩ := h
    obtain ⟨q1, q2, q3⟩ := hR ds r
    exact ⟨F, S, ds, w', a, .inl q1, fun d v S' H' rd gv => hk d v S' H' (q3 d rd) gv, fun c f d S' H' z _ _ => q2 c f z⟩
  refine ⟨⟨f, fd, h2, h3, ⟨fun vs H Q E h => h4.len _ _ _ _ (to vs H Q E h), fun A outer s H args us vs Q E hr env hb hv h => ?_⟩⟩, G.cls⟩
  refine codeAny_mono (h4.run A outer s H args us vs Q (fun _ _ _ => False) hr env hb hv (to vs H Q E h)) fun r s' z => ?_
  match r, z with
  | .ok (.ret u), z => exact z
  | .error e, z =>
    obtain ⟨_, _, _, _, _, _, _, _, _, _, _, _, z⟩ := z
    exact z.elim
section
variable {F : Fp} {fr : Bool} {Δ : List Sl} {te : TE} {tr : TA} {C : Addr} {fs : FS} {R : List D → D → Prop} {RX : RX1} {W : WX} {PX : Value → FX → Prop} {l : List (Option D)} {ix : Nat}
theorem ev_methX {m : Str} {Pa : List D → Prop} (hx : Δ[ix]? = some (.xc W PX l)) (hm : Hm l Δ) (h : Ev1 F te Δ (.obj C fs)) (ha : EvA F tr Δ Pa) (hR : ∀ ds, Pa ds → (∃ d, R (.obj C fs :: ds) d) ∨ ∃ c f, RX (.obj C fs :: ds) c f) (hp : ∀ ds c f, Pa ds → RX (.obj C fs :: ds) c f → PX c f) (hn : fs.lookup m = Option.none := by rfl) :
    EvR F (tMethS C m (SpX false false R RX) (WE W) te tr) Δ fun d => ∃ ds, Pa ds ∧ R (.obj C fs :: ds) d := fun H0 S H σ w t Q k => by
  refine h H0 S H σ w t _ fun y u S1 H1 e1 g1 hu => ?_
  subst e1
  have hu' := hu
  simp only [Dt] at hu
  obtain ⟨a, dx, vs, rfl, z1, z2⟩ := hu
  refine ⟨a, dx, vs, rfl, g1.h _ _ z1, (dtf_lookup z2).2 hn, ?_⟩
  refine ha H0 S1 H1 σ (g1.ok w) (t.mono g1) _ fun ds us S2 H2 p g2 hds => ?_
  rw [List.append_nil]
  have gg := g1.trans g2
  refine ⟨Option.none, S2, .obj C fs :: ds, (gg.ok w).base, ⟨rfl, dtl_cons (hu'.mono g2.s) hds⟩, hR ds p, fun d v S3 H3 r gv => ?_, fun c f d S3 H3 r g3 a => xc_go t hx hm (hp ds c f p r) (gg.trans g3.up) a⟩
  exact k d v S3 H3 ⟨ds, p, r⟩ (gg.trans gv.g.up) (gv.vl rfl)
end
section
variable {F : Fp} {fr : Bool} {Δ : List Sl} {it ix : Nat} {P : Addr} {q : Str} {C : Addr} {t : XK → TE} {PX : Value → FX → Prop} {Pv : D → Prop}
/-- x(lambda: ..), x as TTm says: a new list -/
theorem evm_missing (hT : Δ[it]? = some (.tb P q)) (h1 : tb1 it Δ = true)
    (h : ∀ E : XK, EvR F (t E) ((dat Δ).set ix (.xc (WOf E) PX (List.replicate Δ.length Option.none))) Pv) (hx : ∀ c f, PX c f → ∃ d, c = .ref C ∧ f = some [(("name" : Str), d)]) :
    EvM F (tLamS P q (TTm C) t) Δ fun d Δ' => Δ' = Δ ∧ ((∃ x, Pv x ∧ d = .list []) ∨ ∃ x, PX (.ref C) (some [(("name" : Str), x)]) ∧ d = .list [x]) := fun H0 S H σ w st dm Q k => by
  obtain ⟨_, _, tb⟩ := st.ok it _ hT
  have tb : TbOk F S H H0 P q := tb
  refine ⟨tb.t, fun H1 up E1 Q1 hE hQ => ?_⟩
  obtain ⟨ps0, hP, _⟩ := id tb.t
  have ne : ∀ {x o}, H x = some o → (∀ ps, o ≠ .tbl ps) → x ≠ P := fun {x o} e n z => n ps0 (by rw [z, hP] at e; exact (Option.some.inj e).symm)
  -- behind the lambda's making
  have kS : Same S H1 := fun x o e => up.k x o (fun z => by rw [z, tb.s] at e; cases e) (w.s x o e)
  have k0 : ∀ x o u, H0 x = some o → H x = some u → H1 x = some u := fun x o u e1 e2 => up.k x u (fun z => by rw [z, tb.h0] at e1; cases e1) e2
  have ksrc : ∀ a c, SrcAt H a c → SrcAt H1 a c := fun a c ⟨ns, l, m, t, e1, e2, e3⟩ => ⟨ns, l, m, t, up.k _ _ (ne e1 (by simp)) e1, up.k _ _ (ne e2 (by simp)) e2, e3⟩
  have gw : Gw F H0 S H S H1 := ⟨fun _ _ e => e, kS, fun _ _ _ => rfl, fun x o u _ e1 e2 => k0 x o u e1 e2, fun x o e => (dm x o e).elim fun o' e' => ⟨o', k0 x o o' e e'⟩, fun a c _ z => ksrc a c z⟩
  have st1 : StD F S H1 H0 σ Δ := by
    refine ⟨st.len, fun j s e => ?_, st.nd, st.fh⟩
    obtain ⟨x, e1, h⟩ := st.ok j s e
    refine ⟨x, e1, ?_⟩
    cases s with
    | un => trivial
    | v d => exact h
    | src => exact h
    | own l =>
      obtain ⟨p, xs, q1, q2, q3, q4, q5⟩ := h
      exact ⟨p, xs, q1, up.k _ _ (ne q2 (by simp)) q2, q3, q4, q5⟩
    | ob a dx C fs =>
      obtain ⟨vs, q1, q2, q3, r⟩ := h
      exact ⟨vs, q1, up.k _ _ (ne q2 (by simp)) q2, up.k _ _ (ne q3 (by simp)) q3, r⟩
    | xc W PX l => exact XcOk.mono h gw
    | fz a fs => exact h
    | od b kvs =>
      obtain ⟨ks, q1, q2, q3, q4, q5⟩ := h
      exact ⟨ks, q1, up.k _ _ (ne q2 (by simp)) q2, q3, q4, q5⟩
    | tb P' q' =>
      by_cases hj : j = it
      · subst hj
        rw [hT] at e
        cases e
        exact ⟨up.t, tb.s, tb.h0, fun a c e => ksrc a c (tb.src a c e)⟩
      · exact absurd rfl (tb1_ne h1 e hj _ _)
  have w1 : Okw F S H1 := ⟨kS, fun a c e => ⟨(w.src a c e).1, (w.src a c e).2.1, ksrc a c (w.src a c e).2.2⟩⟩
  have dm1 : Dm H0 H1 := fun x o e => (dm x o e).elim fun o' e' => ⟨o', k0 x o o' e e'⟩
  have fin : ∀ {S' H' : Hp} {p : Addr} {ds : List D} {vs : List V}, Gr F S H1 S' H' → H' p = Option.none → DtL S' ds vs → (Δ = Δ ∧ ((∃ x, Pv x ∧ D.list ds = .list []) ∨ ∃ x, PX (.ref C) (some [(("name" : Str), x)]) ∧ D.list ds = .list [x])) → Q (.ref p) (upd H' p (.lst vs)) := fun {S' H' p ds vs} g hp hd pd => by
    have hp1 : H1 p = Option.none := by
      cases e : H1 p with
      | none => rfl
      | some o =>
        obtain ⟨o', e'⟩ := g.m p o e
        rw [hp] at e'
        cases e'
    have g2 : Gr F S H1 (upd S' p (.lst vs)) (upd H' p (.lst vs)) := g.trans (Gr.newD g.h hp)
    refine k (.list ds) (.ref p) _ _ Δ pd (g2.ok w1) (gw.trans (g2.w dm1)) (st1.mono g2) ?_
    simp only [Dt]
    exact ⟨p, vs, rfl, upd_same, hd.mono (fun x u e => by rw [upd_ne (ne_of_none e (Same.free g.h hp))]; exact e)⟩
  have stx : StD F S H1 H1 σ ((dat Δ).set ix (.xc (WOf E1) PX (List.replicate Δ.length Option.none))) := (dat_std st1 dm1).put (fun y => show XcOk F S H1 H1 _ _ _ from ⟨fun x o e => ⟨o, e⟩, fun S' H' c d fs σ' gw px xd _ _ => ?_⟩) (fun _ z => by cases z)
  · refine h E1 H1 S H1 σ w1 stx Q1 fun d v S' H' pd g hd => hQ v H' fun p hp => fin (ds := []) g hp dtl_nil ⟨rfl, .inl ⟨d, pd, rfl⟩⟩
  · obtain ⟨dv, rfl, rfl⟩ := hx c fs px
    obtain ⟨a, vs, rfl, e1, e2⟩ := xd
    simp only [DtF] at e2
    obtain ⟨v, _, rfl, hv, rfl⟩ := e2
    exact hE H' a _ v (gw.h _ _ e1) rfl fun p hp => fin (ds := [dv]) ⟨gw.s, gw.h, gw.n, fun x o nf e => gw.k x o o nf e e, gw.m, gw.src⟩ hp (dtl_cons hv dtl_nil) ⟨rfl, .inr ⟨dv, px, rfl⟩⟩
/-- l = [e], e changing own objects -/
theorem run_setL1M {te : TE} {u : TS} {po : Po} {i : Nat} {P2 : D → List Sl → Prop} (h : EvM F te Δ P2) (k : ∀ d Δ', P2 d Δ' → Run F fr u (Δ'.set i (.own [d])) po) : Run F fr (tSeq (tAsg (tLst (tCons te tNil)) (gName i)) u) Δ po := fun S0 H0 B S H σ E w gb st r => by
  refine h H0 S H σ w st gb.g.m _ fun d v S1 H1 Δ1 pd w1 g1 st1 hv => ?_
  refine ⟨show 1 ≤ sizeLine by decide, fun p hp => ?_⟩
  have h0 : H0 p = Option.none := by
    cases e : H0 p with
    | none => rfl
    | some o =>
      obtain ⟨o', e'⟩ := g1.m p o e
      rw [hp] at e'
      cases e'
  have g2 : Gr F S1 H1 S1 (upd H1 p (.lst [v])) := Gr.new w1.s hp
  exact k d Δ1 pd S0 H0 B S1 _ _ E (g2.ok w1) ((gb.stepM g1).step g2) (st1.setOwn g2 hp h0 upd_same (Same.free w1.s hp) (dtl_cons hv dtl_nil)) r
end
end Bc

/-! Core F: not in beside any data; list.count; own == beside an object of another class; comprehensions over o.f.values(). -/
namespace Bc
open PySem L2 PySem.Spec PyProof.Rows
/-! ### not in -/
end Bc
namespace PySem.SeqAt
open AutoSeq1 (wpAny_loadPart')
open MeetsSeq
section
variable {A : Around} {s : Shared}
theorem str_any {z : Str} {db : PyData} {a b : Value} {as bs : List Addr} (ra : Reads s.heap a (.str z) as) (rb : Reads s.heap b db bs) (hz : (PyData.str z).canLay0 = true) (hd : ∀ z', db = .str z' → db.canLay0 = true) (hu : A.units < cLine) : EqAt A s a b (PyData.eqv (.str z) db) := by
  have plain : db.canLay0 = true → EqAt A s a b (PyData.eqv (.str z) db) := fun h => eqAt_reads _ _ A s a b as bs ra rb hz h (Nat.lt_of_le_of_lt (Nat.add_le_add_left (Nat.min_le_left _ _) _) hu)
  cases ra with
  | str _ t =>
    cases db with
    | none => exact plain rfl
    | bool _ => exact plain rfl
    | int _ => exact plain rfl
    | str _ => exact plain (hd _ rfl)
    | list xs =>
      cases rb with
      | list h1 h2 h3 h4 => exact EqAt.str_list z t ⟨_, h1, h2, _, h3⟩ hu
    | tuple xs =>
      cases rb with
      | tuple h1 h2 h3 h4 => exact EqAt.str_tuple z t ⟨_, h1, h2, _, h3⟩ hu
    | dict kvs =>
      cases rb with
      | dict h1 h2 h3 h4 h5 => exact EqAt.str_dict z t ⟨_, _, _, h1, h2, h3⟩ hu
end
end PySem.SeqAt
namespace Bc
open PySem L2 PySem.Spec PyProof.Rows
theorem notin_strs {A : Around} {s : Shared} {prog : Program} {w : World} {E : Value → Shared → Prop} {c x : Value} {zs : List Str} {d : PyData} {as bs : List Addr} {Q : Value → Shared → Prop} (rc : Reads s.heap c (.list (zs.map PyData.str)) as) (rx : Reads s.heap x d bs)
    (hzs : PyData.canLayAll0 (zs.map PyData.str) = true) (hd : ∀ z', d = .str z' → d.canLay0 = true) (hu : A.units + 1 < cLine) (h : Q (.bool (!(zs.map PyData.str).any fun y => PyData.eqv y d)) s) : wpAny (model prog w) A (compareOp .NotIn x c) Q E s := by
  cases rc with
  | list h1 h2 h3 h4 =>
    refine SeqAt.notIn_listAt (fun y => PyData.eqv (SeqAt.readOf s.heap y) d) ⟨_, h1, h2, _, h3⟩ (fun y hy => ?_) (by rw [SeqAt.any_by_data h4 hzs]; exact h)
    obtain ⟨dy, cs, ry, hcy, hle, hm⟩ := SeqAt.readsAll_mem2 (f := fun y => ∃ z, y = PyData.str z) _ _ _ hzs (fun y hy => by obtain ⟨z, _, e⟩ := List.mem_map.mp hy; exact ⟨z, e.symm⟩) h4 y (by simpa using hy)
    rw [SeqAt.readOf_eq hcy ry]
    obtain ⟨z, rfl⟩ := hm
    exact SeqAt.str_any (A := A.in1) ry rx hcy hd hu
abbrev rNotInS : R2 := fun x y H Q => ∃ (S : Hp) (dx : D) (zs : List Str), Same S H ∧ Dt S dx x ∧ Dt S (.list (zs.map D.str)) y ∧ dx.prOk = true ∧ PyData.canLayAll0 (zs.map PyData.str) = true ∧ (∀ z', dx.pr = .str z' → dx.pr.canLay0 = true) ∧ Q (.bl (!(zs.map PyData.str).any fun z => PyData.eqv z dx.pr)) H
theorem prOk_strs : ∀ zs : List Str, prOkL (zs.map D.str) = true ∧ prL (zs.map D.str) = zs.map PyData.str
  | [] => ⟨rfl, rfl⟩
  | z :: zs => by
    obtain ⟨a, b⟩ := prOk_strs zs
    simp only [List.map_cons, prOkL, prL, D.prOk, D.pr, a, b, Bool.and_self, and_self]
theorem qNotInS {X : Cx} (sm : SysB X.base) (hu : X.A.units + 65 < cLine) : OpR X (compareOp .NotIn) rNotInS := by
  intro pins s σ H x y v u Q I rx ry h
  obtain ⟨S, dx, zs, e, hx, hy, px, hzs, hd, q⟩ := h
  obtain ⟨b1, b2⟩ := prOk_strs zs
  obtain ⟨as, r1, _⟩ := dt_reads I e sm dx x v px hx rx
  obtain ⟨bs, r2, _⟩ := dt_reads I e sm (.list (zs.map D.str)) y u (by simpa only [D.prOk] using b1) hy ry
  have r2 : Reads s.heap u (.list (zs.map PyData.str)) bs := by
    have : (D.list (zs.map D.str)).pr = .list (zs.map PyData.str) := by simp only [D.pr, b2]
    rw [← this]
    exact r2
  exact notin_strs r2 r1 hzs hd (by omega) ⟨.bl _, H, I, rfl, q⟩
def inS (zs : List Str) : D → Bool
  | .str z => decide (z ∈ zs)
  | _ => false
theorem any_strs (d : D) : ∀ zs : List Str, ((zs.map PyData.str).any fun z => PyData.eqv z d.pr) = inS zs d := fun zs => by
  induction zs with
  | nil => cases d <;> simp [inS]
  | cons a zs ih =>
    rw [List.map_cons, List.any_cons, ih]
    cases d with
    | str z =>
      simp only [D.pr, PyData.eqv, inS]
      rw [Bool.eq_iff_iff]
      simp only [Bool.or_eq_true, beq_iff_eq, decide_eq_true_eq, List.mem_cons]
      exact ⟨fun h => h.elim (fun e => .inl e.symm) .inr, fun h => h.elim (fun e => .inl e.symm) .inr⟩
    | _ => simp only [D.pr, PyData.eqv, Bool.false_or, inS]
section
variable {F : Fp} {Δ : List Sl} {ta tb te : TE} {K : PySem.W.Frag}
theorem ev_ninS {x : D} {zs : List Str} (ha : Ev1 F ta Δ x) (hb : Ev1 F tb Δ (.list (zs.map D.str))) (px : x.prOk = true) (hzs : PyData.canLayAll0 (zs.map PyData.str) = true) (hd : ∀ z', x.pr = .str z' → x.pr.canLay0 = true) : Ev1 F (tOp rNotInS ta tb) Δ (.bool (!inS zs x)) := fun H0 S H σ w t Q k => by
  refine ha H0 S H σ w t _ fun d v S1 H1 e1 g1 hv => ?_
  subst e1
  refine hb H0 S1 H1 σ (g1.ok w) (t.mono g1) _ fun d' u S2 H2 e2 g2 hu => ?_
  subst e2
  exact ⟨S2, d, zs, g2.h, hv.mono g2.s, hu, px, hzs, hd, k _ _ S2 H2 rfl (g1.trans g2) (by simp only [Dt]; rw [any_strs])⟩
end
/-! ### own == beside anything of another type -/
def rOwnT (K : PySem.W.Frag) (C : Addr) (sp : Sp) : R2 := fun x y H Q => ∃ a dx fs t, x = .ref a ∧ H a = some (.ins C dx fs) ∧ TyX K H y t ∧ PySem.W.notFirst K C t = true ∧ sp [.ref a, y] H (fun v H' => ∃ r, v = .bl r ∧ Q (.bl r) H') E0
section
variable {X : Cx} {n : Nat} {C f : Addr} {fd : FuncData} {ps : List Str} {sp : Sp}
theorem op_ownT (c : EqC X.K C f) (G : FnOk X.prog X.w X.K X.mg X.base CX0 n f fd ps sp) (hb : Binds X.K fd ps []) (hr : Room n X.A) : OpR X (compareOp .Eq) (rOwnT X.K C sp) := by
  intro pins s σ H x y v u Q I rx ry h
  obtain ⟨a, dx, fs, T, rfl, ha, ty, hn, hsp⟩ := h
  cases rx
  obtain ⟨mA, J, _⟩ := ins_get I.hok ha
  obtain ⟨od, J, _⟩ := J.look
  obtain ⟨m, hF⟩ := I.fr
  obtain ⟨P, Z, p, _⟩ := kit_of I ry ty
  show wpAny (model X.prog X.w) X.A (richCompare .Eq (.ref a) u) (EP X pins σ Q) X.xe s
  refine PySem.W.cmp_K (op := .Eq) (tb := T) hr.units0 hF I.ok.mod.kin J (Z.ty _ _ I.kIn p) hn c.fi c.fn ?_
  have e0 : Env0 X.prog X.w X.K X.mg X.base X.A X.stack s H := I.env0
  have hl := G.len _ _ _ _ hsp
  refine wpAny_call (codeAny_mono (G.run X.A X.stack s H ⟨[.ref a, u], []⟩ [.ref a, u] [.ref a, y] _ E0 hr e0 (by
    have := hb s [.ref a, u] I.kIn (by simpa using hl)
    simpa using this) (.cons rfl (.cons ry .nil)) hsp) fun r s' hq' => ?_)
  cases r with
  | error e => exact pass0 pins σ H s e s' I hq'
  | ok fl =>
    cases fl with
    | ret w =>
      obtain ⟨z, H', I', rz, q⟩ := I.after hq'
      obtain ⟨r, rfl, q⟩ := q
      cases rz
      exact ⟨.bl r, H', I', rfl, q⟩
    | next => exact False.elim hq'
    | brk => exact False.elim hq'
    | cont => exact False.elim hq'
theorem qOwnT {k : Nat} {K : PySem.W.Frag} (G : EqT X.prog X.w X.K X.mg X.base k C sp) (hr : Room k X.A) (hK : X.K = K := by rfl) : OpR X (compareOp .Eq) (rOwnT K C sp) := by
  subst hK
  obtain ⟨f, fd, ps, c, b, o⟩ := G.ex
  exact op_ownT c o b hr
end
/-- the type of data -/
def TyD (K : PySem.W.Frag) (y : D) (t : Value) : Prop := ∀ (S H : Hp) (v : V), Same S H → Dt S y v → TyX K H v t
theorem tyd_bt {K : PySem.W.Frag} {y : D} (h : y.ty ≠ "?") : TyD K y (.type y.ty) := fun S H v e hv => dt_ty e hv h
theorem tyd_obj {K : PySem.W.Frag} {B : Addr} {gs : FS} (c : C8.InsC K B) : TyD K (.obj B gs) (.ref B) := fun S H v e hv => by
  simp only [Dt] at hv
  obtain ⟨a, dx, vs, rfl, ea, _⟩ := hv
  exact .base (TyOf.ins (e _ _ ea) c.cl c.ha c.hn c.htk c.hm)
section
variable {F : Fp} {Δ : List Sl} {ta tb te : TE} {K : PySem.W.Frag} {C : Addr} {fs : FS} {R : List D → D → Prop} {y : D} {r : Bool} {t : Value}
theorem ev_ownT (ha : Ev1 F ta Δ (.obj C fs)) (hb : Ev1 F tb Δ y) (hy : TyD K y t) (hn : PySem.W.notFirst K C t = true) (hR : R [.obj C fs, y] (.bool r)) (hu : ∀ d, R [.obj C fs, y] d → d = .bool r) : Ev1 F (tOp (rOwnT K C (SpD false false R)) ta tb) Δ (.bool r) := fun H0 S H σ w st Q k => by
  refine ha H0 S H σ w st _ fun d v S1 H1 e1 g1 hv => ?_
  subst e1
  refine hb H0 S1 H1 σ (g1.ok w) (st.mono g1) _ fun d u S2 H2 e2 g2 hu2 => ?_
  subst e2
  have hv2 := hv.mono g2.s
  have hv3 := hv2
  simp only [Dt] at hv3
  obtain ⟨a, dx, vs, rfl, z1, z2⟩ := hv3
  have w2 := g2.ok (g1.ok w)
  refine ⟨a, dx, vs, _, rfl, w2.s _ _ z1, hy _ _ _ w2.s hu2, hn, Option.none, S2, _, w2.base, ⟨rfl, dtl_cons hv2 (dtl_cons hu2 dtl_nil)⟩, ⟨_, hR⟩, fun d v S' H' rd gv => ?_⟩
  have e := hu d rd
  subst e
  have := gv.vl rfl
  simp only [Dt] at this
  exact ⟨r, this, k _ _ S' H' rfl ((g1.trans g2).trans gv.g.up) (by simp only [Dt])⟩
theorem ev_isiT2 {c : V} {u : Value} {b : Bool} (h : Ev1 F te Δ y) (hy : TyD K y t) (hc : ClsV c u) (hb : PySem.W.kitOne K t u = some b) : Ev1 F (tCB (rIsi K) (tCons te (tCons (tC c) tNil))) Δ (.bool b) := fun H0 S H σ w st Q k => by
  refine h H0 S H σ w st _ fun d v S1 H1 e g1 hv => ?_
  subst e
  exact ⟨v, c, t, u, b, rfl, hc, hy _ _ _ (g1.ok w).s hv, hb, k _ _ S1 H1 rfl g1 (by simp only [Dt])⟩
end
/-! ### list.count -/
def rCountD (K : PySem.W.Frag) : V → List V → Hp → VK → Prop := fun x xs H Q => ∃ (a : Addr) (y : V) (d : PyData) (ds : List PyData), x = V.ref a ∧ xs = [y] ∧ Dp K H (V.ref a) (.list ds) ∧ Dp K H y d ∧
  SeqAt.shaped (.list ds) = true ∧ SeqAt.shaped d = true ∧ Q (.int ((ds.countP fun z => PyData.eqv z d : Nat) : Int)) H
section
variable {X : Cx}
theorem mt_countD (hu : X.A.units + 65 < cLine) : MtR X "list.count" (rCountD X.K) := by
  intro pins s σ H x xs v us Q I rx rxs h
  obtain ⟨a, y, d, ds, rfl, rfl, hl, hy, sl, sd, q⟩ := h
  cases rx
  obtain ⟨uy, rfl, ry⟩ := rxs.one
  obtain ⟨bs, r1⟩ := Dp.reads I d y uy hy ry
  have hxs : PyData.canLayAll0 ds = true := SeqAt.canLay_of_shaped sl
  have hroom : X.A.units + 1 + min (PyData.depthAll ds) d.depth < cLine := room_in_shaped sd hu
  cases hl with
  | lst hs ha =>
    obtain ⟨its, rv, ⟨⟨cls, dd, data, sls⟩, n, ho, hc, hdn, hdt⟩, hlen⟩ := I.list hs
    simp only at hc hdt
    subst hc hdt
    obtain ⟨as, h4⟩ := Dp.readsAll I ds _ its ha rv
    have hmap : its.map (SeqAt.readOf s.heap) = ds := SeqAt.readsAll_map ds its as hxs h4
    refine call_meets PySem.F.slot_list_count ⟨_, ho, rfl⟩ PySem.F.entry_list_count (PySem.F.args_list_count_2 _ _)
      (SeqAt.list_countAt a its.toArray n dd sls uy (fun u => PyData.eqv (SeqAt.readOf s.heap u) d)) ⟨ho, SeqAt.items_eqAt (vs := its.toArray) (show ReadsAll s.heap its.toArray.toList ds as from h4) r1 hxs (SeqAt.canLay_of_shaped sd) hroom, ?_⟩
    have ec : its.toArray.toList.countP (fun u => PyData.eqv (SeqAt.readOf s.heap u) d) = ds.countP fun z => PyData.eqv z d := by
      rw [← hmap, List.countP_map]
      rfl
    refine ⟨.int ((ds.countP fun z => PyData.eqv z d : Nat) : Int), H, I.tok _, ⟨s.toks, ?_⟩, q⟩
    show Value.int ((its.toArray.toList.countP (fun u => PyData.eqv (SeqAt.readOf s.heap u) d) : Nat) : Int) s.toks = Value.int ((ds.countP fun z => PyData.eqv z d : Nat) : Int) s.toks
    rw [ec]
theorem qCount {K : PySem.W.Frag} (hu : X.A.units + 65 < cLine) (hK : X.K = K := by rfl) : MtR X "list.count" (rCountD K) := by subst hK; exact mt_countD hu
end
section
variable {F : Fp} {Δ : List Sl} {ta te : TE} {K : PySem.W.Frag}
theorem ev_count {x : D} {ds : List D} (h : Ev1 F te Δ (.list ds)) (ha : Ev1 F ta Δ x) (h1 : (D.list ds).eqOk) (h2 : x.eqOk) : Ev1 F (tBM K "list" (rCountD K) te (tCons ta tNil)) Δ (.int (((pyL ds).countP fun z => PyData.eqv z x.py : Nat) : Int)) := fun H0 S H σ w st Q k => by
  refine h H0 S H σ w st _ fun d v S1 H1 e1 g1 hv => ?_
  subst e1
  have hv' := hv
  simp only [Dt] at hv'
  obtain ⟨a, xs, rfl, ea, _⟩ := hv'
  refine ⟨Or.inl ⟨rfl, xs, SqL.of (g1.h _ _ ea)⟩, ?_⟩
  refine ha H0 S1 H1 σ (g1.ok w) (st.mono g1) _ fun d u S2 H2 e2 g2 hu => ?_
  subst e2
  have w2 := g2.ok (g1.ok w)
  exact ⟨a, u, d.py, pyL ds, rfl, rfl, by have := Dt.dp (K := K) w2.s (.list ds) (.ref a) h1.1 (hv.mono g2.s); simpa only [D.py] using this, Dt.dp w2.s d u h2.1 hu, by have := h1.2; simpa only [D.py] using this, h2.2, k _ _ S2 H2 rfl (g1.trans g2) (by simp only [Dt])⟩
end
/-! ### comprehensions over o.f.values() -/
section
variable {F : Fp} {Δ : List Sl} {te : TE} {g : TG} {vs : List Nat} {ds : List D} {J : It} {S : Hp}
/-- a comprehension's loop, at one state, the iterator given -/
theorem ef_lcAt (W : WalkD F J S ds) (hz : ds.length ≤ sizeLine) (fe : D → D)
    (hs : ∀ (i : Nat) (d : D), ds[i]? = some d → ∃ js Δ', EvG F g d (wipeD Δ vs) js Δ' ∧ (∀ j ∈ js, j ∈ vs) ∧ Ev1 F te Δ' (fe d))
    (H0 H : Hp) (σ : L2.St) (w : Okw F S H) (st : StD F S H H0 σ Δ) (Q : VK) (k : ∀ p xs S' H', Gr F S H S' H' → H p = Option.none → H' p = some (.lst xs) → S' p = Option.none → DtL S' (ds.map fe) xs → Q (.ref p) H') :
    ∀ D, H D = none → ∃ W : Nat → Nat → Hp → Prop, (∃ m, W 0 m (upd H D (.lst []))) ∧ ∀ i m H, W i m H →
      (J.stop i H ∧ Q (.ref D) H) ∨ (J.go i H ∧ ∃ Nx : Hp → Prop, (∀ H', Nx H' → ∃ m', m' < m ∧ W (i + 1) m' H') ∧ ∀ x H', J.yld i H x H' → g x (wipe σ vs) H' fun σ2 H2 => wipe σ2 vs = wipe σ vs ∧ tYes σ2 H2 fun b H3 =>
        if b = true then te σ2 H3 fun y H4 => ∃ acc, H4 D = some (.lst acc) ∧ acc.length < sizeLine ∧ Nx (upd H4 D (.lst (acc ++ [y]))) else Nx H3) := by
  intro L hL
  have nfL : ¬ fp F L := fun z => by
    obtain ⟨a, c, ef, z⟩ := z
    obtain ⟨_, _, ns, l, m, t, e1, e2, _⟩ := w.src a c ef
    rcases z with rfl | rfl
    · rw [hL] at e1; cases e1
    · rw [hL] at e2; cases e2
  refine ⟨fun i m H' => m = ds.length - i ∧ i ≤ ds.length ∧ ∃ xs S', Okw F S' H' ∧ Gr F S H S' H' ∧ H' L = some (.lst xs) ∧ S' L = Option.none ∧ DtL S' ((ds.take i).map fe) xs,
    ⟨ds.length, rfl, Nat.zero_le _, [], S, (Gr.new (F := F) w.s hL).ok w, Gr.new w.s hL, upd_same, Same.free w.s hL, by simpa using dtl_nil⟩, ?_⟩
  rintro i m H' ⟨rfl, hi, xs, S', w', g', hx, hsx, hdl⟩
  by_cases hlt : i < ds.length
  · refine .inr ⟨W.go i S' H' g'.s w' hlt, fun H2 => ∃ xs S', Okw F S' H2 ∧ Gr F S H S' H2 ∧ H2 L = some (.lst xs) ∧ S' L = Option.none ∧ DtL S' ((ds.take (i + 1)).map fe) xs, fun H2 z => ⟨ds.length - (i + 1), by omega, rfl, hlt, z⟩, fun x H2 y => ?_⟩
    obtain ⟨d, S2, e, g2, hxd⟩ := W.yld i S' H' x H2 g'.s w' hlt y
    obtain ⟨js, Δ2, hg, hjs, hE⟩ := hs i d e
    have stw : StD F S2 H2 H0 (wipe σ vs) (wipeD Δ vs) := ((st.mono g').mono g2).wipes vs
    refine hg H0 S2 H2 (wipe σ vs) x (g2.ok w') stw hxd _ fun σ2 st2 off => ?_
    refine ⟨by rw [wipe_off off hjs, wipe_wipe], ?_⟩
    have gg := g'.trans g2
    have h3 : H2 L = some (.lst xs) := g2.k _ _ nfL hx
    have s3 : S2 L = Option.none := by rw [g2.n _ _ hx]; exact hsx
    show te σ2 H2 _
    refine hE H0 S2 H2 σ2 (g2.ok w') st2 _ fun ed v S4 H4 pe g4 hv => ?_
    have h4 : H4 L = some (.lst xs) := g4.k _ _ nfL h3
    have s4 : S4 L = Option.none := by rw [g4.n _ _ h3]; exact s3
    have hlen := hdl.len
    rw [List.length_map, List.length_take] at hlen
    have tk : ds.take (i + 1) = ds.take i ++ [d] := by rw [List.take_succ, e]; rfl
    refine ⟨xs, h4, by omega, xs ++ [v], S4, ?_, (gg.trans g4).mut hL s4 h4, upd_same, s4, ?_⟩
    · exact ((gg.trans g4).mut hL s4 h4).ok w
    · rw [tk, List.map_append]
      exact ((hdl.mono g2.s).mono g4.s).append (dtl_cons (by rw [← pe]; exact hv) dtl_nil)
  · have e : i = ds.length := by omega
    subst e
    rw [List.take_length] at hdl
    exact .inl ⟨W.stop _ S' H' g'.s w' (Nat.le_refl _), k L xs S' H' g' hL hx hsx hdl⟩
end
section
variable {F : Fp} {Δ : List Sl} {te : TE} {g : TG} {K : PySem.W.Frag} {C : Addr} {fs : FS} {f : Str} {kvs : List (Key × D)} {i : Nat} {vs : List Nat}
theorem ndL_mem : ∀ {l : List D} {d : D}, ndL l = true → d ∈ l → d.nd = true
  | [], d, _, h => by cases h
  | x :: l, d, h, hd => by
    simp only [ndL, Bool.and_eq_true] at h
    rcases List.mem_cons.mp hd with rfl | hd
    · exact h.1
    · exact ndL_mem h.2 hd
/-- [e for x in o.f.values()] -/
theorem ef_lcVals (hi : Δ[i]? = some (.v (.obj C fs))) (c : Cls K C) (n : NoAttr K C f) (hf : fs.lookup f = some (.dict kvs)) (hnd : ndL (kvs.map (·.2)) = true) (hz : kvs.length ≤ sizeLine) (fe : D → D)
    (hs : ∀ (m : Nat) (d : D), (kvs.map (·.2))[m]? = some d → ∃ js Δ', EvG F g d (wipeD (Δ.map lkS) vs) js Δ' ∧ (∀ j ∈ js, j ∈ vs) ∧ Ev1 F te Δ' (fe d)) :
    EvF F (tLockE (tLc (iVals (tFld K (tVar i) f)) g tYes te vs)) Δ fun r => r = (kvs.map (·.2)).map fe := fun H0 S H σ w st Q k => by
  obtain ⟨y, ey, hy⟩ := st.get hi
  simp only [Dt] at hy
  obtain ⟨a, dx, vs', rfl, ea, hfs⟩ := hy
  obtain ⟨u, eu, hu⟩ := (dtf_lookup hfs).1 _ hf
  simp only [Dt] at hu
  obtain ⟨d, ks, rfl, ed, hk⟩ := hu
  have hHd := w.s _ _ ed
  refine ⟨d, .dK ks, hHd, trivial, fun od => ?_⟩
  have had : a ≠ d := fun z => by rw [z, ed] at ea; cases ea
  have wl : Okw F (upd S d (.frz od (.dK ks))) (upd H d (.frz od (.dK ks))) := ⟨fun x o e => by
    by_cases hx : x = d
    · rw [hx, upd_same] at e ⊢
      exact e
    · rw [upd_ne hx] at e ⊢
      exact w.s _ _ e, fun p q e => by
    obtain ⟨z1, z2, ns, l, m, t, z3, z4, z5⟩ := w.src p q e
    have n1 : p ≠ d := fun z => by rw [z, ed] at z1; cases z1
    have n2 : q ≠ d := fun z => by rw [z, ed] at z2; cases z2
    exact ⟨by rw [upd_ne n1]; exact z1, by rw [upd_ne n2]; exact z2, ns, l, m, t, by rw [upd_ne n1]; exact z3, by rw [upd_ne n2]; exact z4, z5⟩⟩
  have stl := lk_std (od := od) st ed
  have hkl := dtk_len hk
  have same0 : ∀ {S' : Hp} {dd : D} {x : V}, Same (upd S d (.frz od (.dK ks))) S' → dd.nd = true → Dt S dd x → Dt S' dd x := fun {S' dd x} sm hn hx => (dt_nd (S' := upd S d (.frz od (.dK ks))) (fun a o e n => by
      rw [upd_ne (fun z => n ks (by rw [z, ed] at e; exact (Option.some.inj e).symm))]
      exact e) dd x hn hx).mono sm
  have W : WalkD F (Itd d od ks) (upd S d (.frz od (.dK ks))) (kvs.map (·.2)) := {
    go := fun m S' H' sm w' hm => ⟨w'.s _ _ (sm _ _ upd_same), by rw [List.length_map] at hm; rw [hkl]; exact hm⟩
    yld := fun m S' H' x H2 sm w' hm y => by
      obtain ⟨e1, ky, e2⟩ := y
      subst e1
      obtain ⟨dd, e3, hx⟩ := dtk_at hk e2
      exact ⟨dd, S', e3, Gr.refl w'.s, same0 sm (ndL_mem hnd (List.mem_of_getElem? e3)) hx⟩
    stop := fun m S' H' sm w' hm => ⟨w'.s _ _ (sm _ _ upd_same), by rw [List.length_map] at hm; rw [hkl]; exact hm⟩ }
  have core := ef_lcAt (F := F) (Δ := Δ.map lkS) (g := g) (te := te) (vs := vs) (ds := kvs.map (·.2)) W (by rw [List.length_map]; exact hz) fe hs (upd H0 d (.frz od (.dK ks))) (upd H d (.frz od (.dK ks))) σ wl stl
  refine ⟨.ref a, ey, a, C, dx, vs', .ref d, rfl, by rw [upd_ne had]; exact w.s _ _ ea, c, n, eu, d, od, ks, rfl, upd_same, ?_⟩
  refine core (fun v H' => H' d = some (.frz od (.dK ks)) ∧ Q v (upd H' d (.dK ks))) fun p xs S' H' gr hp h1 h2 h3 => ?_
  have hSd : S' d = some (.frz od (.dK ks)) := gr.s _ _ upd_same
  have pd : p ≠ d := fun z => by rw [z, hSd] at h2; cases h2
  refine ⟨gr.h _ _ hSd, ?_⟩
  have sSu : Same S (upd S' d (.dK ks)) := fun x o e => by
    by_cases hx : x = d
    · rw [hx, ed] at e
      rw [hx, upd_same]
      exact e
    · rw [upd_ne hx]
      exact gr.s _ _ (by rw [upd_ne hx]; exact e)
  have hu' : Same (upd S' d (.dK ks)) (upd H' d (.dK ks)) := fun x o e => by
    by_cases hx : x = d
    · rw [hx, upd_same] at e ⊢
      exact e
    · rw [upd_ne hx] at e ⊢
      exact gr.h _ _ e
  refine k _ p xs (upd S' d (.dK ks)) (upd H' d (.dK ks)) rfl ⟨sSu, hu', fun x o e => ?_, fun x o nf e => ?_, fun x o e => ?_, fun p q e z => ?_⟩ ?_ (by rw [upd_ne pd]; exact h1) (by rw [upd_ne pd]; exact h2) (dtl_un (fun b o e n => ?_) _ _ h3)
  · by_cases hx : x = d
    · rw [hx, upd_same, ed]
    · rw [upd_ne hx, gr.n x o (by rw [upd_ne hx]; exact e), upd_ne hx]
  · by_cases hx : x = d
    · rw [hx, hHd] at e
      rw [hx, upd_same]
      exact e
    · rw [upd_ne hx]
      exact gr.k x o nf (by rw [upd_ne hx]; exact e)
  · by_cases hx : x = d
    · exact ⟨_, by rw [hx]; exact upd_same⟩
    · rw [upd_ne hx]
      exact gr.m x o (by rw [upd_ne hx]; exact e)
  · obtain ⟨z1, z2, z3⟩ := w.src p q e
    have n1 : p ≠ d := fun z => by rw [z, ed] at z1; cases z1
    have n2 : q ≠ d := fun z => by rw [z, ed] at z2; cases z2
    have key := gr.src p q e (wl.src p q e).2.2
    obtain ⟨ns, l, m, t, k1, k2, k3⟩ := key
    exact ⟨ns, l, m, t, by rw [upd_ne n1]; exact k1, by rw [upd_ne n2]; exact k2, k3⟩
  · have : upd H d (.frz od (.dK ks)) p = Option.none := hp
    rwa [upd_ne pd] at this
  · by_cases hx : b = d
    · rw [hx, hSd] at e
      exact absurd (Option.some.inj e).symm (n od ks)
    · rw [upd_ne hx]
      exact e
end
end Bc

/-! The mathematics of lexemes, over lists of code points. -/
namespace Lex
/-- how many of the first signs are in z -/
def run (z : List Nat) (l : List Nat) : Nat := (l.takeWhile fun c => decide (c ∈ z)).length
def endOf (t : List Nat) (p : Nat) (z : List Nat) : Nat := p + run z (t.drop p)
theorem run_le (z l : List Nat) : run z l ≤ l.length := by
  unfold run
  exact (List.takeWhile_sublist _).length_le
theorem endOf_le {t z : List Nat} {p : Nat} (h : p ≤ t.length) : endOf t p z ≤ t.length := by
  have := run_le z (t.drop p)
  rw [List.length_drop] at this
  unfold endOf
  omega
theorem le_endOf (t z : List Nat) (p : Nat) : p ≤ endOf t p z := Nat.le_add_right _ _
theorem endOf_step {t z : List Nat} {p : Nat} {c : Nat} (h : t[p]? = some c) (hc : c ∈ z) : endOf t (p + 1) z = endOf t p z := by
  have hp := (List.getElem?_eq_some_iff.mp h)
  obtain ⟨hl, e⟩ := hp
  unfold endOf run
  rw [List.drop_eq_getElem_cons hl, e, List.takeWhile_cons, if_pos (by simpa using hc)]
  simp only [List.length_cons]
  omega
theorem endOf_stop {t z : List Nat} {p : Nat} (h : ∀ c, t[p]? = some c → c ∉ z) : endOf t p z = p := by
  unfold endOf run
  cases e : t.drop p with
  | nil => rfl
  | cons c r =>
    have hc : t[p]? = some c := by rw [← List.head?_drop, e]; rfl
    rw [List.takeWhile_cons, if_neg (by simpa using h c hc)]
    rfl
theorem takeWhile_take {α : Type} (f : α → Bool) : ∀ l : List α, l.take (l.takeWhile f).length = l.takeWhile f
  | [] => rfl
  | a :: l => by
    by_cases h : f a = true
    · rw [List.takeWhile_cons, if_pos h, List.length_cons, List.take_succ_cons, takeWhile_take f l]
    · rw [List.takeWhile_cons, if_neg h]; rfl
def blanks : List Nat := [32, 10]
def signs : List Nat := [40, 41, 123, 125, 44, 59]
def digits : List Nat := [48, 49, 50, 51, 52, 53, 54, 55, 56, 57]
def letters : List Nat := [97, 98, 99, 100, 101, 102, 103, 104, 105, 106, 107, 108, 109, 110, 111, 112, 113, 114, 115, 116, 117, 118, 119, 120, 121, 122]
inductive Lk where
  | fin | sign | num | word | bad
  deriving DecidableEq
/-- the lexeme at the beginning of l (no blank stands there) -/
def lexL : List Nat → Lk × List Nat
  | [] => (.fin, [])
  | c :: r =>
    if c ∈ signs then (.sign, [c])
    else if c ∈ digits then (.num, if c = 48 then [48] else (c :: r).takeWhile fun c => decide (c ∈ digits))
    else
      let w := (c :: r).takeWhile fun c => decide (c ∈ letters ++ digits)
      if 1 ≤ w.length ∧ w.length ≤ 12 then (.word, w) else (.bad, [])
structure Lm where
  k : Lk
  w : List Nat
  p : Nat
  deriving DecidableEq
def lexAt (t : List Nat) (p : Nat) : Lm :=
  let q := endOf t p blanks
  ⟨(lexL (t.drop q)).1, (lexL (t.drop q)).2, q⟩
theorem lexL_sign {c : Nat} {r : List Nat} (h : c ∈ signs) : lexL (c :: r) = (.sign, [c]) := if_pos h
theorem lexL_zero {c : Nat} {r : List Nat} (h : c = 48) : lexL (c :: r) = (.num, [48]) := by
  subst h
  rfl
theorem lexL_num {c : Nat} {r : List Nat} (h1 : c ∉ signs) (h2 : c ∈ digits) (h3 : c ≠ 48) : lexL (c :: r) = (.num, (c :: r).takeWhile fun c => decide (c ∈ digits)) := by
  show (if c ∈ signs then _ else if c ∈ digits then (Lk.num, if c = 48 then [48] else _) else _) = _
  rw [if_neg h1, if_pos h2, if_neg h3]
theorem lexL_else {c : Nat} {r : List Nat} (h1 : c ∉ signs) (h2 : c ∉ digits) : lexL (c :: r) = if 1 ≤ ((c :: r).takeWhile fun c => decide (c ∈ letters ++ digits)).length ∧ ((c :: r).takeWhile fun c => decide (c ∈ letters ++ digits)).length ≤ 12 then (.word, (c :: r).takeWhile fun c => decide (c ∈ letters ++ digits)) else (.bad, []) := by
  show (if c ∈ signs then _ else if c ∈ digits then _ else _) = _
  rw [if_neg h1, if_neg h2]
theorem lexL_len : ∀ l : List Nat, (lexL l).2.length ≤ l.length ∧ ((lexL l).1 ≠ .fin → (lexL l).1 ≠ .bad → 1 ≤ (lexL l).2.length) := by
  intro l
  cases l with
  | nil => exact ⟨Nat.le_refl _, fun h _ => absurd rfl h⟩
  | cons c r =>
    by_cases h1 : c ∈ signs
    · rw [lexL_sign h1]; exact ⟨by simp, fun _ _ => Nat.le_refl _⟩
    · by_cases h2 : c ∈ digits
      · by_cases h3 : c = 48
        · rw [lexL_zero h3]; exact ⟨by simp, fun _ _ => Nat.le_refl _⟩
        · rw [lexL_num h1 h2 h3]
          refine ⟨(List.takeWhile_sublist _).length_le, fun _ _ => ?_⟩
          rw [List.takeWhile_cons, if_pos (by simpa using h2)]
          simp
      · rw [lexL_else h1 h2]
        split
        · rename_i h
          exact ⟨(List.takeWhile_sublist _).length_le, fun _ _ => h.1⟩
        · exact ⟨Nat.zero_le _, fun _ h => absurd rfl h⟩
theorem lexL_fin {l : List Nat} (h : (lexL l).1 = .fin) : l = [] := by
  cases l with
  | nil => rfl
  | cons c r =>
    by_cases h1 : c ∈ signs
    · rw [lexL_sign h1] at h; cases h
    · by_cases h2 : c ∈ digits
      · by_cases h3 : c = 48
        · rw [lexL_zero h3] at h; cases h
        · rw [lexL_num h1 h2 h3] at h; cases h
      · rw [lexL_else h1 h2] at h
        split at h <;> cases h
/-- all lexemes from place p on, or the place of the first that is none -/
def lexN : Nat → List Nat → Nat → Except Nat (List Lm)
  | 0, _, _ => .ok []
  | f + 1, t, p =>
    let m := lexAt t p
    match m.k with
    | .fin => .ok []
    | .bad => .error m.p
    | _ => match lexN f t (m.p + m.w.length) with
      | .ok l => .ok (m :: l)
      | .error e => .error e
def lexT (t : List Nat) : Except Nat (List Lm) := lexN (t.length + 1) t 0
theorem lexN_succ (f : Nat) (t : List Nat) (p : Nat) : lexN (f + 1) t p = match (lexAt t p).k with
    | .fin => .ok []
    | .bad => .error (lexAt t p).p
    | _ => match lexN f t ((lexAt t p).p + (lexAt t p).w.length) with
      | .ok l => .ok (lexAt t p :: l)
      | .error e => .error e := rfl
theorem lexAt_len (t : List Nat) {p : Nat} (hp : p ≤ t.length) : p ≤ (lexAt t p).p ∧ (lexAt t p).p + (lexAt t p).w.length ≤ t.length := by
  have h1 := endOf_le (z := blanks) hp
  have h2 := (lexL_len (t.drop (endOf t p blanks))).1
  rw [List.length_drop] at h2
  refine ⟨le_endOf _ _ _, ?_⟩
  show endOf t p blanks + (lexL (t.drop (endOf t p blanks))).2.length ≤ t.length
  omega
theorem lexAt_pos {t : List Nat} {p : Nat} (h1 : (lexAt t p).k ≠ .fin) (h2 : (lexAt t p).k ≠ .bad) : 1 ≤ (lexAt t p).w.length := (lexL_len (t.drop (endOf t p blanks))).2 h1 h2
/-- enough is enough -/
theorem lexN_more : ∀ (f : Nat) (t : List Nat) (p : Nat), p ≤ t.length → t.length - p < f → lexN (f + 1) t p = lexN f t p := by
  intro f
  induction f with
  | zero => intro t p _ h; omega
  | succ f ih =>
    intro t p hp hf
    rw [lexN_succ (f + 1) t p, lexN_succ f t p]
    cases hk : (lexAt t p).k with
    | fin => rfl
    | bad => rfl
    | _ =>
      have h1 := lexAt_len t hp
      have h2 := lexAt_pos (t := t) (p := p) (by rw [hk]; decide) (by rw [hk]; decide)
      show (match lexN (f + 1) t _ with | .ok l => _ | .error e => _) = (match lexN f t _ with | .ok l => _ | .error e => _)
      rw [ih t _ h1.2 (by omega)]
theorem lexN_eq {t : List Nat} {p : Nat} (hp : p ≤ t.length) : ∀ f : Nat, t.length - p < f → lexN f t p = lexN (t.length - p + 1) t p := by
  intro f hf
  obtain ⟨d, rfl⟩ : ∃ d, f = t.length - p + 1 + d := ⟨f - (t.length - p + 1), by omega⟩
  induction d with
  | zero => rfl
  | succ d ih =>
    rw [show t.length - p + 1 + (d + 1) = (t.length - p + 1 + d) + 1 from rfl, lexN_more _ t p hp (by omega)]
    exact ih (by omega)
def lexF (t : List Nat) (p : Nat) : Except Nat (List Lm) := lexN (t.length - p + 1) t p
theorem lexF_step {t : List Nat} {p : Nat} (hp : p ≤ t.length) (h1 : (lexAt t p).k ≠ .fin) (h2 : (lexAt t p).k ≠ .bad) : lexF t p = match lexF t ((lexAt t p).p + (lexAt t p).w.length) with
      | .ok l => .ok (lexAt t p :: l)
      | .error e => .error e := by
  have h3 := lexAt_len t hp
  have h4 := lexAt_pos h1 h2
  conv => lhs; unfold lexF; rw [lexN_succ]
  have e : lexN (t.length - p) t ((lexAt t p).p + (lexAt t p).w.length) = lexF t ((lexAt t p).p + (lexAt t p).w.length) := lexN_eq h3.2 _ (by omega)
  cases hk : (lexAt t p).k with
  | fin => exact absurd hk h1
  | bad => exact absurd hk h2
  | _ => rw [e]
theorem lexF_fin {t : List Nat} {p : Nat} (h1 : (lexAt t p).k = .fin) : lexF t p = .ok [] := by
  unfold lexF
  rw [lexN_succ, h1]
theorem lexF_bad {t : List Nat} {p : Nat} (h1 : (lexAt t p).k = .bad) : lexF t p = .error (lexAt t p).p := by
  unfold lexF
  rw [lexN_succ, h1]
theorem lexT_eq (t : List Nat) : lexT t = lexF t 0 := rfl
end Lex

namespace K02
open PySem L2 PySem.Spec PyProof.Rows Bc
def top (i : Nat) : Stmt := PySem.Challenge.pw_bushcoins_k02_bags.main.body.getD i (.Pass ⟨0, 0, 0, 0⟩)
structure Tx (K : PySem.W.Frag) (mg : Str → Option Value) : Prop where
  n_LookupError : mg "LookupError" = none
  n_ValueError : mg "ValueError" = none
  n_abs : mg "abs" = none
  n_all : mg "all" = none
  n_enumerate : mg "enumerate" = none
  n_int : mg "int" = none
  n_isinstance : mg "isinstance" = none
  n_len : mg "len" = none
  n_list : mg "list" = none
  n_max : mg "max" = none
  n_range : mg "range" = none
  n_repr : mg "repr" = none
  n_str : mg "str" = none
  n_super : mg "super" = none
  n_tuple : mg "tuple" = none
  g_LETTERS : ∃ t, mg "LETTERS" = some (.str "abcdefghijklmnopqrstuvwxyz" t)
  g_DIGITS : ∃ t, mg "DIGITS" = some (.str "0123456789" t)
section
variable {P : Program} {w : World} {K : PySem.W.Frag} {mg : Str → Option Value} {base : Heap}
abbrev s__law_source : Stmt := top 23
theorem sc__law_source : FnScope ["_law_script", "_law_mixed_here", "_law_cell"] ["_law_script"] (defScope s__law_source) := ⟨rfl, rfl, rfl, by decide +kernel, rfl, by decide +kernel, by decide +kernel⟩
/-- the source's promise -/
def spSource (K : PySem.W.Frag) : Sp := fun vs H Q _ => ∃ (a : Addr) (ns : List Int), vs = [.ref a] ∧ SqL K H a (ns.map V.int) ∧ ns.length ≤ 63 ∧ ∀ p c H', H p = Option.none → H c = Option.none → SrcAt H' p c → Same H H' → Q (.ref p) H'
theorem key_ne {x y : Str} (h : ¬ x = y) : ¬ (Sum.inr x : Key) = Sum.inr y := fun e => h (Sum.inr.inj e)
theorem ok__law_source {k : Nat} {f : Addr} {fd : FuncData} (T : Tx K mg) (Fu : Fun K "_law_source" "_law_source" s__law_source f fd) : FnOk P w K mg base CX0 (k + 1) f fd ["_law_script"] (spSource K) := by
  refine Fu.ok sc__law_source (fun vs H Q E h => ?_) (fun cdv A outer s H vs Q E hr h => ?_)
  · obtain ⟨a, ns, rfl, _⟩ := h
    rfl
  · obtain ⟨a, ns, rfl, hS, hl, hk⟩ := h
    have hu := hr.units
    refine ⟨_, (pss_cons (ps_set (i := 1) sc__law_source.nd rfl (Or.inl rfl) pe_int)
    (pss_cons (ps_for PassesOwn.never rfl (pi_list (pv 0)) (pg_name (i := 2) sc__law_source.nd rfl (Or.inl rfl))
      (pss_one (ps_set (i := 1) sc__law_source.nd rfl (Or.inl rfl) (pe_op op_modN (pe_callTy pInt (by rfl) T.n_int (by decide +kernel) (pa_cons (pe_op pAdd (pe_op pAdd (pe_op pMul (pv 1) pe_int) (pe_op pMul (pv 2) pe_int)) pe_int) pa_nil)) pe_int))))
    (pss_one (ps_ret (pe_disp (pps_cons pe_str (pe_revL (pe_lc (own := [("_law_cell", 2)]) rfl sc__law_source.nd (pi_list (pv 0)) (blkOk_by (own := [("_law_cell", 2)]) (N := ["_law_script", "_law_mixed_here", "_law_cell"]) (sc := defScope s__law_source) (by decide +kernel)) (fun _ _ _ _ _ => (pg_name (i := 2) sc__law_source.nd rfl (by first | exact Or.inl rfl | exact Or.inr rfl))) (fun _ _ _ _ _ => pts_nil) (fun _ _ _ _ _ => (pe_callB call_abs (by rfl) T.n_abs (by decide +kernel) (pa_cons (pv 2) pa_nil))))) (pps_cons pe_str pe_int (pps_cons pe_str (pv 1) (pps_cons pe_str pe_int pps_nil)))) (by rfl) (by rfl) (fun z => by cases z) (by decide)))))), ?_⟩
    have item : ∀ {i : Nat} {x : V}, (ns.map V.int)[i]? = some x → ∃ z, x = V.int z := fun {i x} e => by
      rw [List.getElem?_map] at e
      cases q : ns[i]? with
      | none => rw [q] at e; cases e
      | some z => rw [q] at e; cases e; exact ⟨z, rfl⟩
    refine ⟨_, rfl, a, rfl, ⟨_, hS⟩, for_list (K := K) (a := a) (xs := ns.map V.int) (fun i σ H2 => ∃ (m : Int) (v : Option V), σ = [some (.ref a), some (.int m), v] ∧ H2 = H) ⟨11, none, rfl, rfl⟩ (fun i σ H2 _ ⟨_, _, _, e⟩ => e ▸ hS) ?_ ?_⟩
    · rintro i x σ H2 hi ⟨m, v, rfl, rfl⟩
      obtain ⟨z, rfl⟩ := item hi
      exact ⟨_, rfl, Or.inl ⟨_, _, rfl, rfl, Or.inr (by decide), _, rfl, Or.inl ⟨_, _, rfl, rfl, Or.inr (by decide), Or.inl ⟨_, _, rfl, rfl, Or.inl ⟨_, _, rfl, rfl, Or.inl (Or.inl ⟨_, rfl, _, _, rfl, rfl, (show (2147483629 : Int) ≠ 0 by decide), _, _, rfl, rfl⟩)⟩⟩⟩⟩⟩
    · rintro σ H2 ⟨m, v, rfl, rfl⟩
      intro p hp
      have sS : SqL K (upd H2 p (.dK [])) a (ns.map V.int) := Same.seq (H := H2) (fun b o e => by rw [upd_ne (ne_of_none e hp)]; exact e) hS
      refine ⟨_, rfl, a, rfl, ⟨_, sS⟩, fun L hL => ?_⟩
      have hpL : L ≠ p := fun z => by rw [z, upd_same] at hL; cases hL
      have nL : H2 L = Option.none := by rw [upd_ne hpL] at hL; exact hL
      have keep : ∀ (o : HO), Same H2 (upd (upd H2 p (.dK [])) L o) := fun o b u e => by
        rw [upd_ne (ne_of_none e nL), upd_ne (ne_of_none e hp)]
        exact e
      refine lc_list (K := K) (a := a) (xs := ns.map V.int) (fun i H3 => ∃ l : List Int, H3 = upd (upd H2 p (.dK [])) L (.lst (l.map V.int)) ∧ l.length = i) ⟨[], rfl, rfl⟩ (fun i H3 _ ⟨l, e, _⟩ => e ▸ (keep _).seq hS) ?_ ?_
      · rintro i x H3 hi ⟨l, rfl, rfl⟩
        obtain ⟨z, rfl⟩ := item hi
        have hlt : l.length < 63 := by
          have := (List.getElem?_eq_some_iff.mp hi).1
          rw [List.length_map] at this
          omega
        refine ⟨rfl, ?_⟩
        unfold tYes
        dsimp only
        rw [if_pos rfl]
        refine ⟨_, rfl, _, rfl, l.map V.int, upd_same, by rw [List.length_map]; exact Nat.lt_trans hlt (by decide), l ++ [if z < 0 then -z else z], ?_, by simp⟩
        rw [upd_upd, List.map_append]
        rfl
      · rintro H3 ⟨l, rfl, e⟩
        refine ⟨L, _, rfl, SqL.of upd_same, fun c hc => ?_⟩
        have ll : l.length ≤ 63 := by rw [List.length_map] at e; omega
        have hcL : c ≠ L := fun z => by rw [z, upd_same] at hc; cases hc
        have hcp : c ≠ p := fun z => by rw [z, upd_ne (Ne.symm hpL), upd_same] at hc; cases hc
        have nc : H2 c = Option.none := by rw [upd_ne hcL, upd_ne hcp] at hc; exact hc
        refine ⟨_, rfl, ?_⟩
        refine ⟨by rw [upd_ne (Ne.symm hcp), upd_ne (Ne.symm hpL), upd_same], [(Sum.inr "cells", .ref c), (Sum.inr "left", .int 1), (Sum.inr "mixed", .int m), (Sum.inr "turn", .int 0)], rfl, by show 4 ≤ 15; decide, ?_⟩
        have me : mergeK [] [((Sum.inr "cells" : Key), V.ref c), (Sum.inr "left", .int 1), (Sum.inr "mixed", .int m), (Sum.inr "turn", .int 0)] = [((Sum.inr "cells" : Key), V.ref c), (Sum.inr "left", .int 1), (Sum.inr "mixed", .int m), (Sum.inr "turn", .int 0)] := rfl
        rw [me]
        refine hk p c _ hp nc ⟨l.reverse, 1, m, 0, upd_same, ?_, by rw [List.length_reverse]; exact ll⟩ fun b o e => ?_
        · rw [upd_ne hcp, upd_same, List.map_reverse]
        · rw [upd_ne (ne_of_none e hp), upd_ne (ne_of_none e nc)]
          exact keep _ b o e
abbrev s__law_pick : Stmt := top 24
theorem sc__law_pick : FnScope ["_law_source_here", "_law_many", "_law_left", "_law_mixed_here"] ["_law_source_here", "_law_many"] (defScope s__law_pick) := ⟨rfl, rfl, rfl, by decide +kernel, rfl, by decide +kernel, by decide +kernel⟩
/-- a number from 0 to many - 1 -/
def RPick (ds : List D) (d : D) : Prop := ∃ n r : Int, ds = [.int n] ∧ n < 2 ^ 30 ∧ 0 ≤ r ∧ r < max 1 n ∧ d = .int r
abbrev srcD (c : Addr) (l m t : Int) : List (Key × V) := [(Sum.inr "cells", .ref c), (Sum.inr "left", .int l), (Sum.inr "mixed", .int m), (Sum.inr "turn", .int t)]
theorem src_cells (c : Addr) (l m t : Int) : valV (srcD c l m t) (Sum.inr "cells") = some (.ref c) := rfl
theorem src_left (c : Addr) (l m t : Int) : valV (srcD c l m t) (Sum.inr "left") = some (.int l) := rfl
theorem src_mixed (c : Addr) (l m t : Int) : valV (srcD c l m t) (Sum.inr "mixed") = some (.int m) := rfl
theorem src_turn (c : Addr) (l m t : Int) : valV (srcD c l m t) (Sum.inr "turn") = some (.int t) := rfl
theorem put_left (c : Addr) (l m t x : Int) : putK (srcD c l m t) (Sum.inr "left") (.int x) = srcD c x m t := rfl
theorem put_turn (c : Addr) (l m t x : Int) : putK (srcD c l m t) (Sum.inr "turn") (.int x) = srcD c l m x := rfl
theorem ans_or2 {t u : TT} {σ : L2.St} {H : Hp} {b1 b2 : Bool} (h1 : Ans t σ H b1) (h2 : Ans u σ H b2) : Ans (tOr t u) σ H (b1 || b2) := by
  cases b1 with
  | true => exact ans_or1 h1
  | false => exact ans_or h1 h2
theorem max_eq (n : Int) : (if n > 1 then n else 1) = max 1 n := by
  by_cases h : n > 1
  · rw [if_pos h]; omega
  · rw [if_neg h]; omega
theorem ok__law_pick {k : Nat} {f : Addr} {fd : FuncData} (T : Tx K mg) (Fu : Fun K "_law_pick" "_law_pick" s__law_pick f fd) : FnOk P w K mg base CX0 (k + 1) f fd ["_law_source_here", "_law_many"] (SpD true false RPick) := by
  refine Fu.ok sc__law_pick (fun vs H Q E h => ?_) (fun cdv A outer s H vs Q E hr h => ?_)
  · obtain ⟨F, S, ds, _, a, ⟨d, n, r, rfl, _⟩, _⟩ := h
    rw [arg_len a]
    rfl
  · obtain ⟨F, S, ds, w', ⟨a, c, us, rfl, rfl, hd⟩, ⟨d, n, r0, rfl, hn, _⟩, hk⟩ := h
    simp only [DtL, Dt] at hd
    obtain ⟨_, _, rfl, rfl, rfl⟩ := hd
    have hu := hr.units
    have hu1 : (A.deeper (envOfC "_law_pick" (defScope s__law_pick) s.heap.objs.size f cdv)).units + 1 < cLine := by omega
    obtain ⟨sa, sc, ns, l, m, t, ea, ec, hl⟩ := w'.src a c rfl
    have hac : a ≠ c := ne_of ea ec (by intro z; cases z)
    -- what the heap is like behind each step
    have fin : ∀ (l' m' t' : Int) (ns' : List Int) (H' : Hp) (r : Int), H' a = some (.dK (srcD c l' m' t')) → H' c = some (.lst (ns'.map V.int)) → ns'.length ≤ 63 → (∀ b, b ≠ a → b ≠ c → H' b = H b) → 0 ≤ r → r < max 1 n → Q (.int r) H' := fun l' m' t' ns' H' r h1 h2 h3 h4 h5 h6 => by
      refine hk (.int r) (.int r) S H' ⟨n, r, rfl, hn, h5, h6, rfl⟩ ⟨⟨fun _ _ e => e, fun b o e => ?_, fun _ _ _ => rfl, fun b o hb e => ?_, fun b o e => ?_, fun p q e _ => ?_⟩, fun _ => by simp only [Dt], fun e => (nomatch e)⟩
      · have z := w'.s b o e
        rw [h4 b (fun q => by rw [q, sa] at e; cases e) (fun q => by rw [q, sc] at e; cases e)]
        exact z
      · rw [h4 b (fun q => hb ⟨a, c, rfl, .inl q⟩) (fun q => hb ⟨a, c, rfl, .inr q⟩)]
        exact e
      · by_cases q1 : b = a
        · subst q1; exact ⟨_, h1⟩
        · by_cases q2 : b = c
          · subst q2; exact ⟨_, h2⟩
          · exact ⟨o, by rw [h4 b q1 q2]; exact e⟩
      · cases e
        exact ⟨ns', l', m', t', h1, h2, h3⟩
    refine ⟨_, (pss_cons (ps_while PassesOwn.never (PW.pt (pw_and (pt_cmpR op_gt (pv 1) pe_int (nomark _)) (pw_and (pt_cmpR pLt (pe_dget hu1 (pv 0) pe_str (fun _ _ => rfl)) pe_int (nomark _)) (pw_and1 (pt_cmpR op_gt (pe_callB pLen (by rfl) T.n_len (by decide +kernel) (pa_cons (pe_dget hu1 (pv 0) pe_str (fun _ _ => rfl)) pa_nil)) pe_int (nomark _))))))
      (pss_one (ps_dput hu1 (pv 0) pe_str (pe_bm0 PySem.F.plainAttrs_list PySem.F.slot_list_pop PySem.F.type_list_pop mt_pop (pe_dget hu1 (pv 0) pe_str (fun _ _ => rfl))) rfl)))
    (pss_cons (ps_set (i := 2) sc__law_pick.nd rfl (Or.inl rfl) (pe_dget hu1 (pv 0) pe_str (fun _ _ => rfl)))
    (pss_cons (ps_if (PW.pt (pw_or (pt_cmpR pLt (pv 1) pe_int (nomark _)) (pw_or1 (pt_cmpR op_gt (pv 2) pe_int (nomark _)))))
      (pss_cons (ps_dput hu1 (pv 0) pe_str (pe_op op_fdivN (pv 2) (pe_callB (call_max2 rfl) (by rfl) T.n_max (by decide +kernel) (pa_cons pe_int (pa_cons (pv 1) pa_nil)))) rfl)
      (pss_one (ps_ret (pe_op op_modN (pe_callTy pInt (by rfl) T.n_int (by decide +kernel) (pa_cons (pv 2) pa_nil)) (pe_callB (call_max2 rfl) (by rfl) T.n_max (by decide +kernel) (pa_cons pe_int (pa_cons (pv 1) pa_nil)))))))
      pss_nil)
    (pss_cons (ps_dput hu1 (pv 0) pe_str (pe_op pAdd (pe_dget hu1 (pv 0) pe_str (fun _ _ => rfl)) pe_int) rfl)
    (pss_cons (ps_set (i := 3) sc__law_pick.nd rfl (Or.inl rfl) (pe_op op_modN (pe_callTy pInt (by rfl) T.n_int (by decide +kernel) (pa_cons (pe_op pAdd (pe_dget hu1 (pv 0) pe_str (fun _ _ => rfl)) (pe_op pMul (pe_dget hu1 (pv 0) pe_str (fun _ _ => rfl)) pe_int)) pa_nil)) pe_int))
    (pss_cons (ps_set (i := 3) sc__law_pick.nd rfl (Or.inl rfl) (pe_op op_modN (pe_callTy pInt (by rfl) T.n_int (by decide +kernel) (pa_cons (pe_op pAdd (pe_op pMul (pv 3) (pv 3)) (pe_op pMul (pe_dget hu1 (pv 0) pe_str (fun _ _ => rfl)) pe_int)) pa_nil)) pe_int))
    (pss_one (ps_ret (pe_op op_modN (pe_callTy pInt (by rfl) T.n_int (by decide +kernel) (pa_cons (pe_op op_fdivN (pv 3) pe_int) pa_nil)) (pv 1)))))))))), ?_⟩
    -- the while
    refine ⟨fun j σ H2 => ∃ (l' : Int) (ns' : List Int), σ = [some (.ref a), some (.int n), none, none] ∧ H2 a = some (.dK (srcD c l' m t)) ∧ H2 c = some (.lst (ns'.map V.int)) ∧ ns'.length = j ∧ j ≤ 63 ∧ ∀ b, b ≠ a → b ≠ c → H2 b = H b,
      ⟨ns.length, l, ns, rfl, ea, ec, rfl, hl, fun _ _ _ => rfl⟩, ?_⟩
    rintro j σ H2 ⟨l', ns', rfl, fa, fc, rfl, hj, fo⟩
    have dg : ∀ {H3 : Hp} {l' m' t' : Int} {x : Str} {v : V}, H3 a = some (.dK (srcD c l' m' t')) → valV (srcD c l' m' t') (Sum.inr x) = some v → DGet H3 a (.str x) (some v) := fun {H3 l' m' t' x v} e1 e2 => e2 ▸ DGet.k (k := Sum.inr x) e1
    have dp : ∀ {H3 : Hp} {l' m' t' : Int} {x : Str} {v : V}, H3 a = some (.dK (srcD c l' m' t')) → DPut H3 a (.str x) v (upd H3 a (.dK (putK (srcD c l' m' t') (Sum.inr x) v))) := fun {H3 l' m' t' x v} e1 => DPut.k (k := Sum.inr x) e1 (by show 4 < sizeLine; decide)
    refine L2.ans_and2 (b1 := decide (1 < n)) (b2 := decide (l' < 2) && decide ((0 : Int) < (ns'.map V.int).length)) (fun Q q => ⟨_, rfl, _, _, rfl, rfl, _, rfl, q⟩) (L2.ans_and2 (fun Q q => ⟨_, rfl, a, _, rfl, dg fa (src_left ..), Or.inl ⟨_, _, rfl, rfl, _, rfl, q⟩⟩)
      (fun Q q => ⟨_, rfl, a, _, rfl, dg fa (src_cells ..), _, _, rfl, Or.inl ⟨_, SqL.of fc, rfl⟩, _, _, rfl, rfl, _, rfl, q⟩)) _ ?_
    cases hb : (decide (1 < n) && (decide (l' < 2) && decide ((0 : Int) < (ns'.map V.int).length))) with
    | true =>
      refine iteT ?_
      have hb2 : 0 < ns'.length := by
        simp only [Bool.and_eq_true, decide_eq_true_eq, List.length_map] at hb
        omega
      obtain ⟨z, hz⟩ : ∃ z, (ns'.map V.int)[(ns'.map V.int).length - 1]? = some (V.int z) := ⟨ns'[ns'.length - 1], by simp⟩
      have he : (ns'.map V.int).dropLast = ns'.dropLast.map V.int := by rw [List.map_dropLast]
      refine ⟨fun σ3 H3 => ∃ (l3 : Int) (ns3 : List Int), σ3 = [some (.ref a), some (.int n), none, none] ∧ H3 a = some (.dK (srcD c l3 m t)) ∧ H3 c = some (.lst (ns3.map V.int)) ∧ ns3.length + 1 = ns'.length ∧ ∀ b, b ≠ a → b ≠ c → H3 b = H b, fun σ3 H3 ⟨l3, ns3, e1, e2, e3, e4, e5⟩ => ⟨ns3.length, by omega, l3, ns3, e1, e2, e3, rfl, by omega, e5⟩, ?_⟩
      refine ⟨_, rfl, a, _, rfl, dg fa (src_cells ..), Or.inl ⟨rfl, _, SqL.of fc⟩, c, _, _, rfl, rfl, fc, hz, _, rfl, a, _, rfl, dp (by rw [upd_ne hac]; exact fa), z, ns'.dropLast, rfl, by rw [upd_same, put_left], ?_, by simp; omega, fun b h1 h2 => ?_⟩
      · rw [upd_ne (Ne.symm hac), upd_same, he]
      · rw [upd_ne h1, upd_ne h2]
        exact fo b h1 h2
    | false =>
      refine iteF ?_
      refine ⟨_, rfl, a, _, rfl, dg fa (src_left ..), ?_⟩
      have hm := max_eq n
      have h1 : 0 < max 1 n := by omega
      dsimp only [gName, List.set]
      refine ans_or2 (b1 := decide (n < 2)) (b2 := decide (1 < l')) (fun Q q => ⟨_, rfl, Or.inl ⟨_, _, rfl, rfl, _, rfl, q⟩⟩) (fun Q q => ⟨_, rfl, _, _, rfl, rfl, _, rfl, q⟩) _ ?_
      cases hc : (decide (n < 2) || decide (1 < l')) with
      | true =>
        refine iteT ⟨_, rfl, _, rfl, _, _, rfl, ⟨l', max 1 n, rfl, congrArg V.int hm, ⟨by omega, by omega⟩, _, rfl, a, _, rfl, dp fa, ?_⟩⟩
        refine ⟨_, rfl, Or.inl (Or.inl ⟨_, rfl, _, rfl, _, _, rfl, ⟨l', max 1 n, rfl, congrArg V.int hm, by omega, ?_⟩⟩)⟩
        refine fin (l'.fdiv (max 1 n)) m t ns' _ _ (by rw [upd_same, put_left]) (by rw [upd_ne (Ne.symm hac)]; exact fc) (by omega) (fun b h1 h2 => by rw [upd_ne h1]; exact fo b h1 h2) (Int.fmod_nonneg_of_pos _ h1) (Int.fmod_lt_of_pos _ h1)
      | false =>
        have hn2 : 0 < n := by
          simp only [Bool.or_eq_false_iff, decide_eq_false_iff_not] at hc
          omega
        refine iteF ?_
        refine ⟨_, rfl, a, _, rfl, dg fa (src_turn ..), Or.inl ⟨_, _, rfl, rfl, _, rfl, a, _, rfl, dp fa, ?_⟩⟩
        have fa2 : (upd H2 a (.dK (putK (srcD c l' m t) (Sum.inr "turn") (.int (t + 1))))) a = some (.dK (srcD c l' m (t + 1))) := by rw [upd_same, put_turn]
        refine ⟨_, rfl, a, _, rfl, dg fa2 (src_mixed ..), _, rfl, a, _, rfl, dg fa2 (src_turn ..), Or.inl ⟨_, _, rfl, rfl, Or.inr (by decide), Or.inl ⟨_, _, rfl, rfl, Or.inl (Or.inl ⟨_, rfl, _, _, rfl, rfl, (show (998244353 : Int) ≠ 0 by decide), ?_⟩)⟩⟩⟩
        have b1 := Int.fmod_nonneg_of_pos (m + (t + 1) * 104729) (show (0 : Int) < 998244353 by decide)
        have b2 := Int.fmod_lt_of_pos (m + (t + 1) * 104729) (show (0 : Int) < 998244353 by decide)
        refine ⟨_, rfl, _, rfl, Or.inl ⟨_, _, rfl, rfl, Or.inl ⟨by omega, by omega⟩, _, rfl, a, _, rfl, dg fa2 (src_turn ..), Or.inl ⟨_, _, rfl, rfl, Or.inr (by decide), Or.inl ⟨_, _, rfl, rfl, Or.inl (Or.inl ⟨_, rfl, _, _, rfl, rfl, (show (2147483647 : Int) ≠ 0 by decide), ?_⟩)⟩⟩⟩⟩
        refine ⟨_, rfl, _, _, rfl, rfl, ⟨by decide, by decide⟩, Or.inl (Or.inl ⟨_, rfl, _, rfl, _, _, rfl, rfl, (show n ≠ 0 by omega), ?_⟩)⟩
        refine fin l' m (t + 1) ns' _ _ fa2 (by rw [upd_ne (Ne.symm hac)]; exact fc) (by omega) (fun b h1 h2 => by rw [upd_ne h1]; exact fo b h1 h2) (Int.fmod_nonneg_of_pos _ hn2) (Int.lt_of_lt_of_le (Int.fmod_lt_of_pos _ hn2) (by omega))
end
end K02

namespace K02
open PySem L2 PySem.Spec PyProof.Rows Bc
open Lex (endOf run lexAt Lm Lk lexL)
section
variable {P : Program} {w : World} {K : PySem.W.Frag} {mg : Str → Option Value} {base : Heap}
theorem txt_iff {a b : List Nat} : txt a = txt b ↔ a = b := ⟨txt_inj, fun e => by rw [e]⟩
theorem nat_iff {a b : Nat} : D.int (a : Int) = D.int (b : Int) ↔ a = b := ⟨fun e => by injection e with e; omega, fun e => by rw [e]⟩
abbrev Short (t : List Nat) : Prop := t.length ≤ 100000
theorem Run.rt {F : Fp} {fr : Bool} {ts : TS} {Δ : List Sl} {p q : Po} (h : Run F fr ts Δ p) (h1 : ∀ Δ, p.nx Δ → q.nx Δ) (h2 : ∀ d, p.rt d → q.rt d) (h3 : ∀ Δ, p.bk Δ → q.bk Δ) (h4 : ∀ Δ, p.ct Δ → q.ct Δ) (h5 : ∀ d Δ, p.ro d Δ → q.ro d Δ := by intros; exact True.intro) : Run F fr ts Δ q := fun S0 H0 B S H σ E w g st r =>
  h S0 H0 B S H σ E w g st ⟨fun D S H σ n => r.nx D S H σ (h1 D n), fun d v D S H σ n m => r.rt d v D S H σ (h2 d n) (h5 d D m), fun D S H σ n => r.bk D S H σ (h3 D n), fun D S H σ n => r.ct D S H σ (h4 D n)⟩
abbrev s__law_of : Stmt := top 25
theorem sc__law_of : FnScope ["_law_source_here", "_law_some"] ["_law_source_here", "_law_some"] (defScope s__law_of) := ⟨rfl, rfl, rfl, by decide +kernel, rfl, by decide +kernel, by decide +kernel⟩
/-- an item of a list that is not empty -/
def ROf (ds : List D) (d : D) : Prop := ∃ l : List D, ds = [.list l] ∧ 0 < l.length ∧ l.length ≤ 100000 ∧ d ∈ l
theorem ok__law_of {k : Nat} {f : Addr} {fd : FuncData} (T : Tx K mg) (G__law_pick : FnT P w K mg base k "_law_pick" ["_law_source_here", "_law_many"] (SpD true false RPick)) (Fu : Fun K "_law_of" "_law_of" s__law_of f fd) : FnOk P w K mg base CX0 (k + 1) f fd ["_law_source_here", "_law_some"] (SpD true false ROf) := by
  refine ok_D Fu sc__law_of (fun ds d ⟨l, e, _⟩ => by rw [e]; rfl) fun cdv A outer s H E hr => ?_
  refine ⟨_, (pss_one (ps_ret (pe_ix ix_seq (pv 1) (pe_callT G__law_pick hr (pa_cons (pv 0) (pa_cons (pe_callB pLen (by rfl) T.n_len (by decide +kernel) (pa_cons (pv 1) pa_nil)) pa_nil))) (fun _ _ => rfl)))), fun F ds hF hR => ?_⟩
  obtain ⟨_, l, rfl, h0, h1, _⟩ := hR
  refine run_ret (P := fun d => d ∈ l) (ev_op sIx (P1 := fun d => d = .list l) (ev_var rfl) (ev_callS (i := 0) (Pa := fun ds => ds = [.int (l.length : Nat)]) rfl (ea_cons1 (ev_lenL (ev_var rfl)) ea_nil) fun ds e => ⟨.int 0, l.length, 0, e, by omega, by omega, by omega, rfl⟩) ?_) fun d hd => ⟨l, rfl, h0, h1, hd⟩
  rintro x y rfl ⟨ds, rfl, n, r, e, _, h2, h3, rfl⟩
  simp only [List.cons.injEq, and_true, D.int.injEq] at e
  subst e
  have hr : r.toNat < l.length := by omega
  refine ⟨l[r.toNat], ?_, List.getElem_mem hr⟩
  have z : atI l ((r.toNat : Nat) : Int) = some l[r.toNat] := atI_nat (by simp [hr])
  rw [show ((r.toNat : Nat) : Int) = r by omega] at z
  exact z
end
def cBook : List Nat := [98, 111, 111, 107]
def cBag : List Nat := [98, 97, 103]
def cShape : List Nat := [115, 104, 97, 112, 101]
def cRoot : List Nat := [114, 111, 111, 116]
def cJoint : List Nat := [106, 111, 105, 110, 116]
abbrev txts (ws : List (List Nat)) : List D := ws.map fun w => .str (txt w)
theorem txts_inj : ∀ {a b : List (List Nat)}, txts a = txts b → a = b
  | [], [], _ => rfl
  | [], _ :: _, h => by cases h
  | _ :: _, [], h => by cases h
  | x :: a, y :: b, h => by
    simp only [txts, List.map_cons, List.cons.injEq, D.str.injEq, txt_iff] at h
    rw [h.1, txts_inj h.2]
section
variable {F : Fp} {Δ : List Sl} {ta tb te : TE} {K : PySem.W.Frag}
theorem ev_addSS {Pa Pb : List Nat → Prop} (ha : EvR F ta Δ fun d => ∃ a, d = .str (txt a) ∧ Pa a) (hb : EvR F tb Δ fun d => ∃ b, d = .str (txt b) ∧ Pb b) (hl : ∀ a b, Pa a → Pb b → a.length + b.length ≤ sizeLine) : EvR F (tOp (rAddP K) ta tb) Δ fun d => ∃ a b, d = .str (txt (a ++ b)) ∧ Pa a ∧ Pb b :=
  ev_op sAdd ha hb fun x y ⟨a, e1, p1⟩ ⟨b, e2, p2⟩ => by
    subst e1 e2
    exact ⟨_, ⟨by rw [txt_len, txt_len]; exact hl a b p1 p2, by rw [txt_app]⟩, a, b, rfl, p1, p2⟩
/-- _law_of of the source -/
theorem ev_of {i : Nat} {E : XK} {l : List D} (hi : Δ[i]? = some .src) (h : Ev1 F ta Δ (.list l)) (h0 : 0 < l.length) (h1 : l.length ≤ 100000) : EvR F (tCall (SpD true false ROf) [] E (tCons (tVar i) (tCons ta tNil))) Δ fun d => d ∈ l :=
  (ev_callS hi (ea_cons1 h ea_nil) fun ds e => by
    cases l with
    | nil => cases h0
    | cons x l => exact ⟨x, x :: l, e, h0, h1, List.mem_cons_self ..⟩).imp fun d ⟨ds, e, l', e', _, _, hd⟩ => by
    rw [e] at e'
    simp only [List.cons.injEq, D.list.injEq, and_true] at e'
    rw [e']
    exact hd
end
def clsOf (mg : Str → Option Value) (x : Str) : Addr := match mg x with
  | some (.ref C) => C
  | _ => 0
/-! ### words, shapes, joints as data -/
def Wd (w : List Nat) : Prop := ∃ c r, w = c :: r ∧ c ∈ Lex.letters ∧ (∀ x ∈ r, x ∈ Lex.letters ++ Lex.digits) ∧ r.length ≤ 11
theorem Wd.len {w : List Nat} (h : Wd w) : 1 ≤ w.length ∧ w.length ≤ 12 := by
  obtain ⟨c, r, rfl, _, _, h⟩ := h
  simp
  omega
structure Sh where
  w : List Nat
  c : List Nat
  bs : List (List Nat)
def Sh.d (s : Sh) : D := .tuple [.str (txt s.w), .str (txt s.c), .tuple (txts s.bs)]
/-- no book of the law's has this word -/
def cZq : List Nat := [122, 113, 55]
def cZ9 : List Nat := [122, 122, 57]
def Wq (w : List Nat) : Prop := Wd w ∧ (w ≠ cZq ∧ w ≠ cZ9)
structure Sh.ok (s : Sh) : Prop where
  w : Wd s.w
  c : Wd s.c
  bs : ∀ b ∈ s.bs, Wd b
  n : s.bs.length ≤ 30
  q : s.w ≠ cZq ∧ s.c ≠ cZq ∧ ∀ b ∈ s.bs, b ≠ cZq
theorem Sh.mk_ok {s : Sh} (h1 : Wq s.w) (h2 : Wq s.c) (h3 : ∀ b ∈ s.bs, Wq b) (hn : s.bs.length ≤ 30) : s.ok := ⟨h1.1, h2.1, fun b hb => (h3 b hb).1, hn, h1.2.1, h2.2.1, fun b hb => (h3 b hb).2.1⟩
def okz (s : Sh) : Prop := s.ok ∧ s.w ≠ cZ9
theorem Sh.mk_okz {s : Sh} (h1 : Wq s.w) (h2 : Wq s.c) (h3 : ∀ b ∈ s.bs, Wq b) (hn : s.bs.length ≤ 30) : okz s := ⟨Sh.mk_ok h1 h2 h3 hn, h1.2.2⟩
theorem sh_inj {s t : Sh} (h : s.d = t.d) : s = t := by
  obtain ⟨a, b, c⟩ := s
  obtain ⟨a', b', c'⟩ := t
  simp only [Sh.d, D.tuple.injEq, List.cons.injEq, D.str.injEq, txt_iff, and_true] at h
  rw [h.1, h.2.1, txts_inj h.2.2]
theorem shs_inj : ∀ {l m : List Sh}, l.map Sh.d = m.map Sh.d → l = m
  | [], [], _ => rfl
  | [], _ :: _, h => by cases h
  | _ :: _, [], h => by cases h
  | p :: l, q :: m, h => by
    rw [List.map_cons, List.map_cons, List.cons.injEq] at h
    rw [sh_inj h.1, shs_inj h.2]
abbrev Jt := List Nat × List Nat
def jd (j : Jt) : D := .tuple [.str (txt j.1), .str (txt j.2)]
theorem jd_inj {s t : Jt} (h : jd s = jd t) : s = t := by
  obtain ⟨a, b⟩ := s
  obtain ⟨a', b'⟩ := t
  simp only [jd, D.tuple.injEq, List.cons.injEq, D.str.injEq, txt_iff, and_true] at h
  rw [h.1, h.2]
theorem jds_inj : ∀ {l m : List Jt}, l.map jd = m.map jd → l = m
  | [], [], _ => rfl
  | [], _ :: _, h => by cases h
  | _ :: _, [], h => by cases h
  | p :: l, q :: m, h => by
    rw [List.map_cons, List.map_cons, List.cons.injEq] at h
    rw [jd_inj h.1, jds_inj h.2]
/-- shapes of a book -/
structure Shs (l : List Sh) : Prop where
  ok : ∀ s ∈ l, s.ok
  nd : (l.map Sh.w).Nodup
  n : l.length ≤ 30
/-- drawn shapes -/
structure Shz (l : List Sh) : Prop where
  ok : ∀ s ∈ l, okz s
  nd : (l.map Sh.w).Nodup
  n : l.length ≤ 20
theorem Shz.shs {l : List Sh} (h : Shz l) : Shs l := ⟨fun s hs => (h.ok s hs).1, h.nd, Nat.le_trans h.n (by decide)⟩
theorem txt_eta (z : Str) : z = txt z.cps.toList := by
  cases z
  simp [txt]
def wdB : List Nat → Bool
  | [] => false
  | c :: r => decide (c ∈ Lex.letters) && (r.all (fun x => decide (x ∈ Lex.letters ++ Lex.digits)) && decide (r.length ≤ 11))
theorem wd_b {w : List Nat} (h : wdB w = true) : Wd w := by
  cases w with
  | nil => cases h
  | cons c r =>
    simp only [wdB, Bool.and_eq_true, decide_eq_true_eq, List.all_eq_true] at h
    exact ⟨c, r, rfl, h.1, h.2.1, h.2.2⟩
theorem b_wd {w : List Nat} (h : Wd w) : wdB w = true := by
  obtain ⟨c, r, rfl, h1, h2, h3⟩ := h
  simp only [wdB, Bool.and_eq_true, decide_eq_true_eq, List.all_eq_true]
  exact ⟨h1, h2, h3⟩
/-- whether anything is a word -/
def wordB : D → Bool
  | .str z => wdB z.cps.toList
  | _ => false
theorem wordB_txt (w : List Nat) : wordB (.str (txt w)) = wdB w := by
  show wdB (txt w).cps.toList = _
  rw [txt_list]
theorem wordB_wd {x : D} (h : wordB x = true) : ∃ w, Wd w ∧ x = .str (txt w) := by
  cases x with
  | str z => exact ⟨_, wd_b h, congrArg D.str (txt_eta z)⟩
  | _ => cases h
end K02

theorem Bc.EvI.imp {F : Bc.Fp} {wi : L2.TI} {Δ : List Bc.Sl} {P P' : List Bc.D → Prop} (h : Bc.EvI F wi Δ P) (i : ∀ r, P r → P' r) : Bc.EvI F wi Δ P' := fun H0 S H σ w t R k => h H0 S H σ w t R fun ds J S' H' p => k ds J S' H' (i ds p)
namespace K02
open PySem L2 PySem.Spec PyProof.Rows Bc
open Lex (endOf run lexAt Lm Lk lexL lexF blanks)
def shortD (x : D) : Prop := ∀ z, x = .str z → z.length ≤ 1000
theorem ty_str {d : D} (h : (d.ty == "str") = true) : ∃ i, d = .str i := by
  cases d <;> first | exact ⟨_, rfl⟩ | (simp only [D.ty] at h; exact absurd h (by decide))
theorem ty_tup {d : D} (h : (d.ty == "tuple") = true) : ∃ i, d = .tuple i := by
  cases d <;> first | exact ⟨_, rfl⟩ | (simp only [D.ty] at h; exact absurd h (by decide))
theorem ty_lst {d : D} (h : (d.ty == "list") = true) : ∃ i, d = .list i := by
  cases d <;> first | exact ⟨_, rfl⟩ | (simp only [D.ty] at h; exact absurd h (by decide))
theorem kit_S {d : D} (hd : d.ty ≠ "?") : kitB d.ty "str" = some (d.ty == "str") := by
  cases d <;> simp only [D.ty] at hd ⊢ <;> first | exact absurd rfl hd | decide +kernel
theorem nostr {x : D} (h : (x.ty == "str") = false) : wordB x = false := by
  cases x <;> first | rfl | (simp only [D.ty] at h; exact absurd h (by decide))
theorem wd_long {l : List Nat} (h : ¬ (1 ≤ l.length ∧ l.length ≤ 12)) : wdB l = false := by
  cases hb : wdB l
  · rfl
  · exact absurd (wd_b hb).len h
theorem wd_cons {c : Nat} {r : List Nat} (h : (c :: r).length ≤ 12) : wdB (c :: r) = (decide (c ∈ Lex.letters) && (c :: r).all fun x => decide (x ∈ Lex.letters) || decide (x ∈ Lex.digits)) := by
  rw [List.length_cons] at h
  have hr : r.length ≤ 11 := by omega
  have e : (fun x => decide (x ∈ Lex.letters) || decide (x ∈ Lex.digits)) = fun x => decide (x ∈ Lex.letters ++ Lex.digits) := by
    funext x
    rw [Bool.eq_iff_iff, Bool.or_eq_true, decide_eq_true_eq, decide_eq_true_eq, decide_eq_true_eq, List.mem_append]
  simp only [wdB, List.all_cons, decide_eq_true hr, Bool.and_true]
  rw [e]
  by_cases hc : c ∈ Lex.letters
  · rw [decide_eq_true hc]
    simp [hc]
  · rw [decide_eq_false hc]
    simp
theorem okn_ints {l : List D} (h : ∀ d ∈ l, d.okn 63 = true) : (D.list l).okn 64 = true := by
  show oknL 63 l = true
  exact oknL_of h
theorem le_sign {a : Str} {c n : Nat} (h : a.cps.toList = [n]) : (!decide ((⟨#[c]⟩ : Str).cps.toList < a.cps.toList)) = decide (n ≤ c) := by
  rw [h]
  show (!decide ([c] < [n])) = _
  rw [Bool.eq_iff_iff, Bool.not_eq_true', decide_eq_false_iff_not, decide_eq_true_eq]
  constructor
  · intro z
    exact Nat.le_of_not_lt fun y => z (List.Lex.rel y)
  · intro z y
    cases y with
    | rel y => omega
    | cons y => cases y
theorem sign_le {a : Str} {c n : Nat} (h : a.cps.toList = [n]) : (!decide (a.cps.toList < (⟨#[c]⟩ : Str).cps.toList)) = decide (c ≤ n) := by
  rw [h]
  show (!decide ([n] < [c])) = _
  rw [Bool.eq_iff_iff, Bool.not_eq_true', decide_eq_false_iff_not, decide_eq_true_eq]
  constructor
  · intro z
    exact Nat.le_of_not_lt fun y => z (List.Lex.rel y)
  · intro z y
    cases y with
    | rel y => omega
    | cons y => cases y
section
variable {P : Program} {w : World} {K : PySem.W.Frag} {mg : Str → Option Value} {base : Heap}
theorem lets_txt : ("abcdefghijklmnopqrstuvwxyz" : Str) = txt Lex.letters := by decide +kernel
theorem digs_txt : ("0123456789" : Str) = txt Lex.digits := by decide +kernel
theorem all_txt : ("abcdefghijklmnopqrstuvwxyz0123456789" : Str) = txt (Lex.letters ++ Lex.digits) := by decide +kernel
def RIsWord (ds : List D) (d : D) : Prop := ∃ x, x.ty ≠ "?" ∧ shortD x ∧ ds = [x] ∧ d = .bool (wordB x)
abbrev s_is_word : Stmt := top 10
theorem sc_is_word : FnScope ["value", "sign"] ["value"] (defScope s_is_word) := ⟨rfl, rfl, rfl, by decide +kernel, rfl, by decide +kernel, by decide +kernel⟩
theorem ok_is_word {k : Nat} {f : Addr} {fd : FuncData} (T : Tx K mg) (Fu : Fun K "is_word" "is_word" s_is_word f fd) : FnOk P w K mg base CX0 (k + 1) f fd ["value"] (SpD false false RIsWord) := by
  refine ok_D Fu sc_is_word (fun ds d ⟨_, _, _, e, _⟩ => by rw [e]; rfl) fun cdv A outer s H E hr => ?_
  have hu2 : (A.deeper (envOfC "is_word" (defScope s_is_word) s.heap.objs.size f cdv)).units + 65 < cLine := by have := hr.un; omega
  refine ⟨_, (pss_cons (ps_if (PW.pt (pw_or (pt_not (pt_val (pe_callB (qIsi (K := K)) (by rfl) T.n_isinstance (by decide +kernel) (pa_cons (pv 0) (pa_cons (pe_bltn (by rfl) T.n_str (by decide +kernel) (show RelV (.ty "str") _ from rfl)) pa_nil))))) (pw_or1 (pt_cmpR pNotInRng (pe_callB (qLen (K := K)) (by rfl) T.n_len (by decide +kernel) (pa_cons (pv 0) pa_nil)) (pe_callTy cr_range2 (by rfl) T.n_range (by decide +kernel) (pa_cons pe_int (pa_cons pe_int pa_nil))) rfl))))
      (pss_one (ps_ret pe_bl))
      pss_nil)
    (pss_one (ps_ret (pe_and (pe_cmpR (qIn (K := K) hu2) (pe_ix (qIx (K := K)) (pv 0) pe_int (fun _ _ => rfl)) (pe_gs T.g_LETTERS) rfl) (pe_one (pe_callB (qAll (K := K) rfl) (by rfl) T.n_all (by decide +kernel) (pa_cons (pe_lc (own := [("sign", 1)]) rfl sc_is_word.nd (qi_any (K := K) (pv 0)) (blkOk_by (own := [("sign", 1)]) (N := ["value", "sign"]) (sc := defScope s_is_word) (by decide +kernel)) (fun _ _ _ _ _ => (pg_name (i := 1) sc_is_word.nd rfl (by first | exact Or.inl rfl | exact Or.inr rfl))) (fun _ _ _ _ _ => pts_nil) (fun _ _ _ _ _ => (pe_or (pe_cmpR (qIn (K := K) hu2) (pv 1) (pe_gs T.g_LETTERS) rfl) (pe_one (pe_cmpR (qIn (K := K) hu2) (pv 1) (pe_gs T.g_DIGITS) rfl))))) pa_nil))))))), fun F ds hF hR => ?_⟩
  obtain ⟨_, x, hx, hsh, rfl, rfl⟩ := hR
  have z : ∀ n ≤ 100000, n ≤ sizeLine := fun n hn => Nat.le_trans hn (by decide)
  cases hs : x.ty == "str"
  · refine run_if1S (b := true) ((et_or1 (a := true) (b := true) ((et_not1 (et_B1 (ev_isi (T := "str") (ev_var rfl) hx (kit_S hx)))).eq (by rw [hs]; rfl)) fun h => nomatch h).eq rfl) (fun _ => run_ret1S (d := .bool false) ev_bl ⟨x, hx, hsh, rfl, by rw [nostr hs]⟩) fun h => nomatch h
  · obtain ⟨zz, rfl⟩ := ty_str hs
    obtain ⟨l, rfl⟩ : ∃ l, zz = txt l := ⟨_, txt_eta zz⟩
    have hl : l.length ≤ 1000 := by have := hsh _ rfl; rwa [txt_len] at this
    have tst := et_or1 (F := F) (Δ := [.v (.str (txt l)), .un]) (a := false) (b := !decide ((1 : Int) ≤ ((l.length : Nat) : Int) ∧ ((l.length : Nat) : Int) < 13)) ((et_not1 (et_B1 (ev_isi (K := K) (T := "str") (ev_var (i := 0) rfl) hx (kit_S hx)))).eq rfl) fun _ => et_test1 (ev_rng (neg := true) (ev_lenT (K := K) (ev_var (i := 0) rfl) (by omega)) (ev_int (i := 1)) (ev_int (i := 13)))
    by_cases hln : 1 ≤ l.length ∧ l.length ≤ 12
    · refine run_if1S (b := false) (tst.eq (by rw [decide_eq_true (show (1 : Int) ≤ ((l.length : Nat) : Int) ∧ ((l.length : Nat) : Int) < 13 by omega)]; rfl)) (fun h => nomatch h) fun _ => run_nextS ?_
      cases l with
      | nil => exact absurd hln.1 (by decide)
      | cons c r =>
        refine run_ret1 (d := .bool (decide (c ∈ Lex.letters) && (c :: r).all fun x => decide (x ∈ Lex.letters) || decide (x ∈ Lex.digits))) (ev_andV (ev_inT (ev_ixT (q := 0) (c := c) (ev_var rfl) ev_int (by omega) rfl) (ev_str.eq (congrArg D.str lets_txt))) fun _ => ?_) ⟨_, hx, hsh, rfl, by rw [wordB_txt, wd_cons hln.2]⟩
        refine (ev_all (bs := (c :: r).map fun a => decide (a ∈ Lex.letters) || decide (a ∈ Lex.digits)) ((ef_mapL (c :: r) (fun c => D.str ⟨#[c]⟩) (fun a => .bool (decide (a ∈ Lex.letters) || decide (a ∈ Lex.digits))) ((ei_str (z := txt (c :: r)) (ev_var rfl)).imp ?_) (z _ (by omega)) fun i a hi => ⟨[1], [.v _, .v (.str ⟨#[a]⟩)], eg_name, by simp, ev_orV (ev_inT (ev_var rfl) (ev_str.eq (congrArg D.str lets_txt))) fun _ => (ev_inT (ev_var rfl) (ev_str.eq (congrArg D.str digs_txt)))⟩).imp ?_)).eq ?_
        · intro r e
          rw [e]
          simp [Bc.signs, txt_list]
        · intro l e
          rw [e, List.map_map]
          rfl
        · rw [List.all_map]
          rfl
    · refine run_if1S (b := true) (tst.eq (by rw [decide_eq_false (show ¬ ((1 : Int) ≤ ((l.length : Nat) : Int) ∧ ((l.length : Nat) : Int) < 13) by omega)]; rfl)) (fun _ => run_ret1S (d := .bool false) ev_bl ⟨_, hx, hsh, rfl, by rw [wordB_txt, wd_long hln]⟩) fun h => nomatch h
theorem low_let (c : Nat) : decide (c ∈ Lex.letters) = (decide (97 ≤ c) && decide (c ≤ 122)) := by
  rw [Bool.eq_iff_iff, Bool.and_eq_true, decide_eq_true_eq, decide_eq_true_eq, decide_eq_true_eq]
  have : Lex.letters = (List.range 26).map (· + 97) := by decide
  rw [this, List.mem_map]
  exact ⟨fun ⟨i, hi, e⟩ => by rw [List.mem_range] at hi; omega, fun h => ⟨c - 97, List.mem_range.mpr (by omega), by omega⟩⟩
abbrev s__law_is_word : Stmt := top 29
theorem sc__law_is_word : FnScope ["_law_value", "_law_sign"] ["_law_value"] (defScope s__law_is_word) := ⟨rfl, rfl, rfl, by decide +kernel, rfl, by decide +kernel, by decide +kernel⟩
theorem ok__law_is_word {k : Nat} {f : Addr} {fd : FuncData} (T : Tx K mg) (Fu : Fun K "_law_is_word" "_law_is_word" s__law_is_word f fd) : FnOk P w K mg base CX0 (k + 1) f fd ["_law_value"] (SpD false false RIsWord) := by
  refine ok_D Fu sc__law_is_word (fun ds d ⟨_, _, _, e, _⟩ => by rw [e]; rfl) fun cdv A outer s H E hr => ?_
  have hu2 : (A.deeper (envOfC "_law_is_word" (defScope s__law_is_word) s.heap.objs.size f cdv)).units + 65 < cLine := by have := hr.un; omega
  refine ⟨_, (pss_cons (ps_if (PW.pt (pw_or (pt_not (pt_val (pe_callB (qIsi (K := K)) (by rfl) T.n_isinstance (by decide +kernel) (pa_cons (pv 0) (pa_cons (pe_bltn (by rfl) T.n_str (by decide +kernel) (show RelV (.ty "str") _ from rfl)) pa_nil))))) (pw_or (pt_not (pt_chain pLe pLe pe_int (pe_callB (qLen (K := K)) (by rfl) T.n_len (by decide +kernel) (pa_cons (pv 0) pa_nil)) pe_int)) (pw_or1 (pt_not (pt_chain pLe pLe pe_str (pe_ix (qIx (K := K)) (pv 0) pe_int (fun _ _ => rfl)) pe_str))))))
      (pss_one (ps_ret pe_bl))
      pss_nil)
    (pss_one (ps_ret (pe_cmpR (qEq (K := K) hu2) (pe_lc (own := [("_law_sign", 1)]) rfl sc__law_is_word.nd (qi_any (K := K) (pv 0)) (blkOk_by (own := [("_law_sign", 1)]) (N := ["_law_value", "_law_sign"]) (sc := defScope s__law_is_word) (by decide +kernel)) (fun _ _ _ _ _ => (pg_name (i := 1) sc__law_is_word.nd rfl (by first | exact Or.inl rfl | exact Or.inr rfl))) (fun _ _ _ _ _ => (pts_one (pt_cmpR (qNotIn (K := K) hu2) (pv 1) pe_str rfl))) (fun _ _ _ _ _ => pe_int)) (pe_lst pa_nil) (nomark _))))), fun F ds hF hR => ?_⟩
  obtain ⟨_, x, hx, hsh, rfl, rfl⟩ := hR
  have z : ∀ n ≤ 100000, n ≤ sizeLine := fun n hn => Nat.le_trans hn (by decide)
  cases hs : x.ty == "str"
  · refine run_if1S (b := true) ((et_or1 (a := true) (b := true) ((et_not1 (et_B1 (ev_isi (T := "str") (ev_var rfl) hx (kit_S hx)))).eq (by rw [hs]; rfl)) fun h => nomatch h).eq rfl) (fun _ => run_ret1S (d := .bool false) ev_bl ⟨x, hx, hsh, rfl, by rw [nostr hs]⟩) fun h => nomatch h
  · obtain ⟨zz, rfl⟩ := ty_str hs
    obtain ⟨l, rfl⟩ : ∃ l, zz = txt l := ⟨_, txt_eta zz⟩
    have hl : l.length ≤ 1000 := by have := hsh _ rfl; rwa [txt_len] at this
    have t1 := (et_not1 (et_B1 (ev_isi (F := F) (Δ := [.v (.str (txt l)), .un]) (K := K) (T := "str") (ev_var (i := 0) rfl) hx (kit_S hx)))).eq (show (!((D.str (txt l)).ty == "str")) = false from rfl)
    have t2 := et_not1 (et_test1 (ev_chain (F := F) (Δ := [.v (.str (txt l)), .un]) (k := decide ((1 : Int) ≤ ((l.length : Nat) : Int))) (k' := decide (((l.length : Nat) : Int) ≤ 12)) sLe sLe (ev_int (i := 1)) (ev_lenT (K := K) (ev_var (i := 0) rfl) (by omega)) (ev_int (i := 12)) rfl rfl))
    by_cases hln : 1 ≤ l.length ∧ l.length ≤ 12
    · cases l with
      | nil => exact absurd hln.1 (by decide)
      | cons c r =>
        have t3 := et_not1 (et_test1 (ev_chain (F := F) (Δ := [.v (.str (txt (c :: r))), .un]) (k := decide (97 ≤ c)) (k' := decide (c ≤ 122)) sLe sLe (ev_str (i := "a")) (ev_ixT (K := K) (q := 0) (c := c) (ev_var (i := 0) rfl) ev_int (by omega) rfl) (ev_str (i := "z")) (congrArg D.bool (le_sign (a := "a") (n := 97) (c := c) (by decide +kernel)).symm) (congrArg D.bool (sign_le (a := "z") (n := 122) (c := c) (by decide +kernel)).symm)))
        have tst := et_or1 t1 fun _ => et_or1 (t2.eq (show _ = false by rw [decide_eq_true (show (1 : Int) ≤ (((c :: r).length : Nat) : Int) by omega), decide_eq_true (show (((c :: r).length : Nat) : Int) ≤ 12 by omega)]; rfl)) fun _ => t3
        by_cases hc : c ∈ Lex.letters
        · have hc' := low_let c
          rw [decide_eq_true hc] at hc'
          refine run_if1S (b := false) (tst.eq (by rw [← hc']; rfl)) (fun h => nomatch h) fun _ => run_nextS ?_
          refine run_ret1 (d := .bool ((((c :: r).filterMap fun a => if a ∈ Lex.letters ++ Lex.digits then none else some (D.int 1))).isEmpty)) ((ev_eqD (x := .list ((c :: r).filterMap fun a => if a ∈ Lex.letters ++ Lex.digits then none else some (D.int 1))) (y := .list []) (EvF.val1 ((ef_lcM (ds := (c :: r).map fun c => D.str ⟨#[c]⟩) ((ei_str (z := txt (c :: r)) (ev_var rfl)).imp ?_) (z _ (by simp at hln ⊢; omega)) (fun d => match d with | .str y => (match y.cps.toList with | [a] => if a ∈ Lex.letters ++ Lex.digits then none else some (D.int 1) | _ => none) | _ => none) fun i d hd => ?_).imp ?_)) (EvF.val1 (ef_lst ea_nil)) ?_ ?_).eq (congrArg D.bool (eqb_nil _))) ⟨_, hx, hsh, rfl, ?_⟩
          · intro r e
            rw [e]
            simp [Bc.signs, txt_list]
          · rw [List.getElem?_map, Option.map_eq_some_iff] at hd
            obtain ⟨a, _, rfl⟩ := hd
            refine ⟨[1], [.v _, .v (.str ⟨#[a]⟩)], eg_name, by simp, !decide (a ∈ Lex.letters ++ Lex.digits), et_test1 (ev_ninT (ev_var rfl) (ev_str.eq (congrArg D.str all_txt))), fun h => ?_, fun h => ⟨.int 1, ?_, ev_int⟩⟩
            · simp only [Bool.not_eq_false', decide_eq_true_eq] at h
              show (if a ∈ Lex.letters ++ Lex.digits then none else some (D.int 1)) = none
              rw [if_pos h]
            · simp only [Bool.not_eq_true', decide_eq_false_iff_not] at h
              show (if a ∈ Lex.letters ++ Lex.digits then none else some (D.int 1)) = _
              rw [if_neg h]
          · intro l e
            rw [e, List.filterMap_map]
            rfl
          · refine D.okn_ok ?_
            refine okn_ints (fun d hd => ?_)
            obtain ⟨a, _, e⟩ := List.mem_filterMap.mp hd
            by_cases h : a ∈ Lex.letters ++ Lex.digits
            · rw [if_pos h] at e; cases e
            · rw [if_neg h] at e; cases e; rfl
          · exact D.okn_ok rfl
          · rw [wordB_txt, wd_cons hln.2, decide_eq_true hc, Bool.true_and]
            congr 1
            generalize (c :: r) = m
            induction m with
            | nil => rfl
            | cons a m ih =>
              rw [List.filterMap_cons, List.all_cons]
              by_cases h : a ∈ Lex.letters ++ Lex.digits
              · rw [if_pos h, ← ih]
                have : (decide (a ∈ Lex.letters) || decide (a ∈ Lex.digits)) = true := by
                  rw [Bool.or_eq_true, decide_eq_true_eq, decide_eq_true_eq]
                  exact List.mem_append.mp h
                rw [this]
                rfl
              · rw [if_neg h]
                have : (decide (a ∈ Lex.letters) || decide (a ∈ Lex.digits)) = false := by
                  rw [Bool.or_eq_false_iff, decide_eq_false_iff_not, decide_eq_false_iff_not]
                  exact ⟨fun z => h (List.mem_append.mpr (.inl z)), fun z => h (List.mem_append.mpr (.inr z))⟩
                rw [this]
                rfl
        · have hc' := low_let c
          rw [decide_eq_false hc] at hc'
          refine run_if1S (b := true) (tst.eq (by rw [← hc']; rfl)) (fun _ => run_ret1S (d := .bool false) ev_bl ⟨_, hx, hsh, rfl, by rw [wordB_txt, wd_cons hln.2, decide_eq_false hc]; rfl⟩) fun h => nomatch h
    · refine run_if1S (b := true) ((et_or1 t1 fun _ => et_or1 (a := true) (b := true) (t2.eq (show _ = true by
        rw [Bool.not_eq_true', Bool.and_eq_false_iff, decide_eq_false_iff_not, decide_eq_false_iff_not]
        omega)) fun h => nomatch h).eq rfl) (fun _ => run_ret1S (d := .bool false) ev_bl ⟨_, hx, hsh, rfl, by rw [wordB_txt, wd_long hln]⟩) fun h => nomatch h
def listB (x : D) : Bool := x.ty == "list" || x.ty == "tuple"
def RIsList (ds : List D) (d : D) : Prop := ∃ x, x.ty ≠ "?" ∧ ds = [x] ∧ d = .bool (listB x)
abbrev s_is_list : Stmt := top 11
theorem sc_is_list : FnScope ["value"] ["value"] (defScope s_is_list) := ⟨rfl, rfl, rfl, by decide +kernel, rfl, by decide +kernel, by decide +kernel⟩
theorem ok_is_list {k : Nat} {f : Addr} {fd : FuncData} (T : Tx K mg) (Fu : Fun K "is_list" "is_list" s_is_list f fd) : FnOk P w K mg base CX0 (k + 1) f fd ["value"] (SpD false false RIsList) := by
  refine ok_D Fu sc_is_list (fun ds d ⟨_, _, e, _⟩ => by rw [e]; rfl) fun cdv A outer s H E hr => ?_
  refine ⟨_, (pss_one (ps_ret (pe_callB (qIsiT (K := K)) (by rfl) T.n_isinstance (by decide +kernel) (pa_cons (pv 0) (pa_cons (pe_tup (pa_cons (pe_bltn (by rfl) T.n_list (by decide +kernel) (show RelV (.ty "list") _ from rfl)) (pa_cons (pe_bltn (by rfl) T.n_tuple (by decide +kernel) (show RelV (.ty "tuple") _ from rfl)) pa_nil))) pa_nil))))), fun F ds hF hR => ?_⟩
  obtain ⟨_, x, hx, rfl, rfl⟩ := hR
  exact run_ret1 (ev_isLT (ev_var rfl) hx) ⟨x, hx, rfl, rfl⟩
abbrev s__law_is_listing : Stmt := top 30
theorem sc__law_is_listing : FnScope ["_law_value"] ["_law_value"] (defScope s__law_is_listing) := ⟨rfl, rfl, rfl, by decide +kernel, rfl, by decide +kernel, by decide +kernel⟩
theorem ok__law_is_listing {k : Nat} {f : Addr} {fd : FuncData} (T : Tx K mg) (Fu : Fun K "_law_is_listing" "_law_is_listing" s__law_is_listing f fd) : FnOk P w K mg base CX0 (k + 1) f fd ["_law_value"] (SpD false false RIsList) := by
  refine ok_D Fu sc__law_is_listing (fun ds d ⟨_, _, e, _⟩ => by rw [e]; rfl) fun cdv A outer s H E hr => ?_
  refine ⟨_, (pss_one (ps_ret (pe_callB (qIsiT (K := K)) (by rfl) T.n_isinstance (by decide +kernel) (pa_cons (pv 0) (pa_cons (pe_tup (pa_cons (pe_bltn (by rfl) T.n_list (by decide +kernel) (show RelV (.ty "list") _ from rfl)) (pa_cons (pe_bltn (by rfl) T.n_tuple (by decide +kernel) (show RelV (.ty "tuple") _ from rfl)) pa_nil))) pa_nil))))), fun F ds hF hR => ?_⟩
  obtain ⟨_, x, hx, rfl, rfl⟩ := hR
  exact run_ret1 (ev_isLT (ev_var rfl) hx) ⟨x, hx, rfl, rfl⟩
def rowB (x : D) (n : Nat) : Bool := match x with | .tuple l => decide (l.length = n) | _ => false
def RIsRow (ds : List D) (d : D) : Prop := ∃ (x : D) (n : Nat), x.ty ≠ "?" ∧ ds = [x, .int (n : Nat)] ∧ d = .bool (rowB x n)
theorem run_row {F : Fp} {tm : TE} {x : D} {n : Nat} {po : Po} (hx : x.ty ≠ "?") (k : po.rt (.bool (rowB x n))) (ko : po.ro (.bool (rowB x n)) [.v x, .v (.int (n : Nat))]) : Bc.Run F false (tRet (tAndV (tCB (rIsi K) (tCons (tVar 0) (tCons (tC (.ty "tuple")) tNil))) (tOp (rEqP K) (tCB (rLenP K) (tCons (tVar 0) tNil)) (tVar 1)))) [.v x, .v (.int (n : Nat))] po := by
  refine run_ret1 ((ev_andV (a := x.ty == "tuple") (b := rowB x n) (ev_isi (T := "tuple") (ev_var rfl) hx (kit_LT hx).2) fun h => ?_).eq ?_) k ko
  · obtain ⟨l, rfl⟩ := ty_tup h
    refine (ev_eqI (ev_lenU (l := l) (ev_var rfl)) (ev_var rfl)).eq ?_
    congr 1
    show _ = decide (l.length = n)
    rw [Bool.eq_iff_iff, decide_eq_true_eq, decide_eq_true_eq]
    omega
  · congr 1
    cases x <;> simp only [D.ty, rowB] <;> first | rfl | (rw [Bool.and_false]) | (rw [show (("tuple" : String) == "tuple") = true from rfl, Bool.true_and])
abbrev s_is_row : Stmt := top 12
theorem sc_is_row : FnScope ["value", "many"] ["value", "many"] (defScope s_is_row) := ⟨rfl, rfl, rfl, by decide +kernel, rfl, by decide +kernel, by decide +kernel⟩
theorem ok_is_row {k : Nat} {f : Addr} {fd : FuncData} (T : Tx K mg) (Fu : Fun K "is_row" "is_row" s_is_row f fd) : FnOk P w K mg base CX0 (k + 1) f fd ["value", "many"] (SpD false false RIsRow) := by
  refine ok_D Fu sc_is_row (fun ds d ⟨_, _, _, e, _⟩ => by rw [e]; rfl) fun cdv A outer s H E hr => ?_
  have hu2 : (A.deeper (envOfC "is_row" (defScope s_is_row) s.heap.objs.size f cdv)).units + 65 < cLine := by have := hr.un; omega
  refine ⟨_, (pss_one (ps_ret (pe_and (pe_callB (qIsi (K := K)) (by rfl) T.n_isinstance (by decide +kernel) (pa_cons (pv 0) (pa_cons (pe_bltn (by rfl) T.n_tuple (by decide +kernel) (show RelV (.ty "tuple") _ from rfl)) pa_nil))) (pe_one (pe_cmpR (qEq (K := K) hu2) (pe_callB (qLen (K := K)) (by rfl) T.n_len (by decide +kernel) (pa_cons (pv 0) pa_nil)) (pv 1) (nomark _)))))), fun F ds hF hR => ?_⟩
  obtain ⟨_, x, n, hx, rfl, rfl⟩ := hR
  exact run_row (tm := tVar 0) hx ⟨x, n, hx, rfl, rfl⟩ trivial
abbrev s__law_is_row : Stmt := top 31
theorem sc__law_is_row : FnScope ["_law_value", "_law_many"] ["_law_value", "_law_many"] (defScope s__law_is_row) := ⟨rfl, rfl, rfl, by decide +kernel, rfl, by decide +kernel, by decide +kernel⟩
theorem ok__law_is_row {k : Nat} {f : Addr} {fd : FuncData} (T : Tx K mg) (Fu : Fun K "_law_is_row" "_law_is_row" s__law_is_row f fd) : FnOk P w K mg base CX0 (k + 1) f fd ["_law_value", "_law_many"] (SpD false false RIsRow) := by
  refine ok_D Fu sc__law_is_row (fun ds d ⟨_, _, _, e, _⟩ => by rw [e]; rfl) fun cdv A outer s H E hr => ?_
  have hu2 : (A.deeper (envOfC "_law_is_row" (defScope s__law_is_row) s.heap.objs.size f cdv)).units + 65 < cLine := by have := hr.un; omega
  refine ⟨_, (pss_one (ps_ret (pe_and (pe_callB (qIsi (K := K)) (by rfl) T.n_isinstance (by decide +kernel) (pa_cons (pv 0) (pa_cons (pe_bltn (by rfl) T.n_tuple (by decide +kernel) (show RelV (.ty "tuple") _ from rfl)) pa_nil))) (pe_one (pe_cmpR (qEq (K := K) hu2) (pe_callB (qLen (K := K)) (by rfl) T.n_len (by decide +kernel) (pa_cons (pv 0) pa_nil)) (pv 1) (nomark _)))))), fun F ds hF hR => ?_⟩
  obtain ⟨_, x, n, hx, rfl, rfl⟩ := hR
  exact run_row (tm := tVar 0) hx ⟨x, n, hx, rfl, rfl⟩ trivial
end
end K02

namespace K02
open PySem L2 PySem.Spec PyProof.Rows Bc
open Lex (endOf run lexAt Lm Lk lexL lexF blanks)
/-! ### the values of this law -/
mutual
def gv : D → Bool
  | .none => true
  | .bool _ => true
  | .int i => decide (-1 ≤ i ∧ i ≤ 30)
  | .str z => z.cps.toList.all (fun c => decide (c < 128)) && decide (z.length ≤ 20)
  | .tuple l => gvL l
  | .list l => gvL l
  | .dict kvs => kvs.isEmpty
  | _ => false
def gvL : List D → Bool
  | [] => true
  | d :: l => gv d && gvL l
end
mutual
def dsz : D → Nat
  | .tuple l => 1 + dszL l
  | .list l => 1 + dszL l
  | _ => 1
def dszL : List D → Nat
  | [] => 0
  | d :: l => dsz d + dszL l
end
theorem gvL_iff : ∀ {l : List D}, gvL l = true ↔ ∀ d ∈ l, gv d = true
  | [] => by simp [gvL]
  | d :: l => by
    simp only [gvL, Bool.and_eq_true, gvL_iff (l := l), List.mem_cons]
    exact ⟨fun h x hx => hx.elim (fun e => e ▸ h.1) (h.2 x), fun h => ⟨h d (.inl rfl), fun x hx => h x (.inr hx)⟩⟩
theorem gv_tup {l : List D} : gv (.tuple l) = true ↔ ∀ d ∈ l, gv d = true := by rw [show gv (.tuple l) = gvL l from by simp only [gv]]; exact gvL_iff
theorem gv_lst {l : List D} : gv (.list l) = true ↔ ∀ d ∈ l, gv d = true := by rw [show gv (.list l) = gvL l from by simp only [gv]]; exact gvL_iff
theorem dsz_pos (d : D) : 1 ≤ dsz d := by cases d <;> simp only [dsz] <;> omega
theorem dszL_len : ∀ l : List D, l.length ≤ dszL l
  | [] => by simp [dszL]
  | d :: l => by
    have := dsz_pos d
    have := dszL_len l
    simp only [dszL, List.length_cons]
    omega
theorem dszL_app : ∀ a b : List D, dszL (a ++ b) = dszL a + dszL b
  | [], b => by simp [dszL]
  | d :: a, b => by simp only [List.cons_append, dszL, dszL_app a b]; omega
theorem dszL_mem : ∀ {l : List D} {d : D}, d ∈ l → dsz d ≤ dszL l
  | [], _, h => by cases h
  | x :: l, d, h => by
    simp only [dszL]
    rcases List.mem_cons.mp h with rfl | h
    · omega
    · have := dszL_mem h; omega
theorem gv_ty {x : D} (h : gv x = true) : x.ty ≠ "?" := by
  cases x <;> simp only [gv] at h <;> first | (simp only [D.ty]; decide) | exact absurd h (by decide)
theorem gv_short {x : D} (h : gv x = true) : shortD x := fun z e => by
  subst e
  simp only [gv, Bool.and_eq_true, decide_eq_true_eq] at h
  omega
def wOf : D → List Nat
  | .str z => z.cps.toList
  | _ => []
theorem wOf_txt (w : List Nat) : wOf (.str (txt w)) = w := by
  show (txt w).cps.toList = w
  rw [txt_list]
def wrongC : Nat → List D → Option (List D)
  | _, [] => none
  | j, a :: l => if wordB a then wrongC (j + 1) l else some [.int 2, .int (j : Nat)]
def wrongT : D → Option (List D)
  | .tuple l => wrongC 0 l
  | _ => some [.int 2]
/-- where a shape is wrong -/
def wrongS (x : D) (ws : List (List Nat)) : Option (List D) := match x with
  | .tuple [a, b, c] => if !wordB a || decide (wOf a ∈ ws) then some [.int 0] else if !wordB b then some [.int 1] else wrongT c
  | _ => some []
def hd0 : D → D
  | .tuple (a :: _) => a
  | _ => .none
def wrongL : Nat → List (List Nat) → List D → Option (List D)
  | _, _, [] => none
  | k, ws, x :: l => match wrongS x ws with
    | some q => some (.int (k : Nat) :: q)
    | none => wrongL (k + 1) (ws ++ [wOf (hd0 x)]) l
/-- where a book is wrong -/
def wrongP : D → Option (List D)
  | .list l => wrongL 0 [] l
  | .tuple l => wrongL 0 [] l
  | _ => some []
theorem row3 {x : D} (h : rowB x 3 = true) : ∃ a b c, x = .tuple [a, b, c] := by
  cases x with
  | tuple l =>
    simp only [rowB, decide_eq_true_eq] at h
    match l, h with
    | [a, b, c], _ => exact ⟨a, b, c, rfl⟩
  | _ => cases h
theorem wrongS_row {x : D} {ws : List (List Nat)} (h : rowB x 3 = false) : wrongS x ws = some [] := by
  unfold wrongS
  split
  · simp [rowB] at h
  · rfl
theorem wrongS_word {x : D} {ws : List (List Nat)} (h : wrongS x ws = none) : ∃ w b c, Wd w ∧ w ∉ ws ∧ x = .tuple [.str (txt w), b, c] := by
  unfold wrongS at h
  split at h
  · rename_i a b c
    cases ha : wordB a
    · rw [ha] at h
      simp at h
    · obtain ⟨w, hw, rfl⟩ := wordB_wd ha
      rw [ha, wOf_txt] at h
      by_cases hm : w ∈ ws
      · rw [decide_eq_true hm] at h
        simp at h
      · exact ⟨w, b, c, hw, hm, rfl⟩
  · cases h
theorem wrongC_none : ∀ {l : List D} {j : Nat}, wrongC j l = none → ∃ bs, l = txts bs ∧ ∀ b ∈ bs, Wd b
  | [], _, _ => ⟨[], rfl, by simp⟩
  | a :: l, j, h => by
    simp only [wrongC] at h
    cases ha : wordB a
    · rw [ha] at h; cases h
    · rw [ha, if_pos rfl] at h
      obtain ⟨w, hw, rfl⟩ := wordB_wd ha
      obtain ⟨bs, rfl, hb⟩ := wrongC_none h
      exact ⟨w :: bs, rfl, fun b hm => by
        rcases List.mem_cons.mp hm with rfl | hm
        · exact hw
        · exact hb b hm⟩
theorem wordB_of {w : List Nat} (h : Wd w) : wordB (.str (txt w)) = true := by rw [wordB_txt]; exact b_wd h
theorem wrongC_ok : ∀ {bs : List (List Nat)} {j : Nat}, (∀ b ∈ bs, Wd b) → wrongC j (txts bs) = none
  | [], _, _ => rfl
  | b :: bs, j, h => by
    simp only [txts, List.map_cons, wrongC]
    rw [wordB_of (h b (List.mem_cons_self ..)), if_pos rfl]
    exact wrongC_ok fun x hx => h x (List.mem_cons_of_mem _ hx)
/-- a shape without the bound -/
structure Sh.okW (s : Sh) : Prop where
  w : Wd s.w
  c : Wd s.c
  bs : ∀ b ∈ s.bs, Wd b
theorem wrongS_none {x : D} {ws : List (List Nat)} (h : wrongS x ws = none) : ∃ s : Sh, s.okW ∧ s.w ∉ ws ∧ x = s.d := by
  obtain ⟨w, b, c, hw, hm, rfl⟩ := wrongS_word h
  unfold wrongS at h
  simp only [wordB_of hw, wOf_txt, decide_eq_false hm, Bool.not_true, Bool.or_self] at h
  rw [if_neg (by decide)] at h
  cases hb : wordB b
  · rw [hb] at h; simp at h
  · obtain ⟨v, hv, rfl⟩ := wordB_wd hb
    rw [hb, Bool.not_true, if_neg (by decide)] at h
    cases c with
    | tuple l =>
      obtain ⟨bs, rfl, hbs⟩ := wrongC_none h
      exact ⟨⟨w, v, bs⟩, ⟨hw, hv, hbs⟩, hm, rfl⟩
    | _ => cases h
theorem wrongS_ok {s : Sh} {ws : List (List Nat)} (h : s.okW) (hm : s.w ∉ ws) : wrongS s.d ws = none := by
  unfold wrongS Sh.d
  simp only [wordB_of h.w, wordB_of h.c, wOf_txt, decide_eq_false hm, Bool.not_true, Bool.or_self]
  rw [if_neg (by decide), if_neg (by decide)]
  exact wrongC_ok h.bs
theorem hd_d (s : Sh) : wOf (hd0 s.d) = s.w := wOf_txt s.w
theorem wrongL_none : ∀ {l : List D} {k : Nat} {ws : List (List Nat)}, wrongL k ws l = none → ∃ m : List Sh, l = m.map Sh.d ∧ (∀ s ∈ m, s.okW) ∧ (m.map Sh.w).Nodup ∧ ∀ s ∈ m, s.w ∉ ws
  | [], _, _, _ => ⟨[], rfl, by simp, by simp, by simp⟩
  | x :: l, k, ws, h => by
    unfold wrongL at h
    cases e : wrongS x ws with
    | some q => rw [e] at h; cases h
    | none =>
      rw [e] at h
      obtain ⟨s, ho, hm, rfl⟩ := wrongS_none e
      simp only [hd_d] at h
      obtain ⟨m, rfl, h1, h2, h3⟩ := wrongL_none h
      refine ⟨s :: m, rfl, fun t ht => ?_, ?_, fun t ht => ?_⟩
      · rcases List.mem_cons.mp ht with rfl | ht
        · exact ho
        · exact h1 t ht
      · rw [List.map_cons, List.nodup_cons]
        refine ⟨fun z => ?_, h2⟩
        obtain ⟨t, ht, e⟩ := List.mem_map.mp z
        exact h3 t ht (by rw [e]; simp)
      · rcases List.mem_cons.mp ht with rfl | ht
        · exact hm
        · exact fun z => h3 t ht (List.mem_append.mpr (.inl z))
theorem wrongL_ok : ∀ {m : List Sh} {k : Nat} {ws : List (List Nat)}, (∀ s ∈ m, s.okW) → (m.map Sh.w).Nodup → (∀ s ∈ m, s.w ∉ ws) → wrongL k ws (m.map Sh.d) = none
  | [], _, _, _, _, _ => rfl
  | s :: m, k, ws, h1, h2, h3 => by
    rw [List.map_cons, List.nodup_cons] at h2
    rw [List.map_cons]
    unfold wrongL
    rw [wrongS_ok (h1 s (List.mem_cons_self ..)) (h3 s (List.mem_cons_self ..)), hd_d]
    refine wrongL_ok (fun t ht => h1 t (List.mem_cons_of_mem _ ht)) h2.2 fun t ht z => ?_
    rcases List.mem_append.mp z with z | z
    · exact h3 t (List.mem_cons_of_mem _ ht) z
    · rw [List.mem_singleton] at z
      exact h2.1 (z ▸ List.mem_map_of_mem ht)
/-- a value that is a book's listing -/
def isL (x : D) (l : List Sh) : Prop := x = .list (l.map Sh.d) ∨ x = .tuple (l.map Sh.d)
theorem wrongP_none {x : D} (h : wrongP x = none) : ∃ m : List Sh, isL x m ∧ (∀ s ∈ m, s.okW) ∧ (m.map Sh.w).Nodup := by
  cases x with
  | list l => obtain ⟨m, rfl, h1, h2, _⟩ := wrongL_none h; exact ⟨m, .inl rfl, h1, h2⟩
  | tuple l => obtain ⟨m, rfl, h1, h2, _⟩ := wrongL_none h; exact ⟨m, .inr rfl, h1, h2⟩
  | _ => cases h
theorem Shs.okw {l : List Sh} (h : Shs l) : ∀ s ∈ l, s.okW := fun s hs => ⟨(h.ok s hs).w, (h.ok s hs).c, (h.ok s hs).bs⟩
theorem wrongP_ok {x : D} {l : List Sh} (h : Shs l) (hx : isL x l) : wrongP x = none := by
  rcases hx with rfl | rfl
  · exact wrongL_ok h.okw h.nd (by simp)
  · exact wrongL_ok h.okw h.nd (by simp)
theorem wd_128 {w : List Nat} (h : Wd w) : ∀ c ∈ w, c < 128 := by
  have key : ∀ c : Nat, c ∈ Lex.letters ++ Lex.digits → c < 128 := by
    have : ((Lex.letters ++ Lex.digits).all fun c => decide (c < 128)) = true := by decide
    intro c hc
    exact of_decide_eq_true (List.all_eq_true.mp this c hc)
  obtain ⟨d, r, rfl, h1, h2, _⟩ := h
  intro c hc
  rcases List.mem_cons.mp hc with rfl | hc
  · exact key _ (List.mem_append.mpr (.inl h1))
  · exact key _ (h2 c hc)
theorem gv_wd {w : List Nat} (h : Wd w) : gv (.str (txt w)) = true := by
  simp only [gv, Bool.and_eq_true, decide_eq_true_eq, List.all_eq_true, txt_list]
  exact ⟨wd_128 h, by rw [txt_len]; have := h.len; omega⟩
theorem gv_txts {ws : List (List Nat)} (h : ∀ w ∈ ws, Wd w) : ∀ d ∈ txts ws, gv d = true := fun d hd => by
  obtain ⟨w, hw, rfl⟩ := List.mem_map.mp hd
  exact gv_wd (h w hw)
theorem gv_sh {s : Sh} (h : s.okW) : gv s.d = true := gv_tup.mpr fun d hd => by
  simp only [List.mem_cons, List.not_mem_nil, or_false] at hd
  rcases hd with rfl | rfl | rfl
  · exact gv_wd h.w
  · exact gv_wd h.c
  · exact gv_tup.mpr (gv_txts h.bs)
theorem gv_shs {x : D} {l : List Sh} (h : ∀ s ∈ l, s.okW) (hx : isL x l) : gv x = true := by
  have : ∀ d ∈ l.map Sh.d, gv d = true := fun d hd => by
    obtain ⟨s, hs, rfl⟩ := List.mem_map.mp hd
    exact gv_sh (h s hs)
  rcases hx with rfl | rfl
  · exact gv_lst.mpr this
  · exact gv_tup.mpr this
theorem dsz_txts : ∀ ws : List (List Nat), dszL (txts ws) = ws.length
  | [] => rfl
  | w :: ws => by simp only [txts, List.map_cons, dszL, dsz, List.length_cons]; have := dsz_txts ws; simp only [txts] at this; omega
theorem dsz_sh (s : Sh) : dsz s.d = 4 + s.bs.length := by
  simp only [Sh.d, dsz, dszL]
  rw [dsz_txts]
  omega
theorem dsz_shs {b : Nat} : ∀ {l : List Sh}, (∀ s ∈ l, s.bs.length ≤ b) → dszL (l.map Sh.d) ≤ (4 + b) * l.length
  | [], _ => by simp [dszL]
  | s :: l, h => by
    have h1 := h s (List.mem_cons_self ..)
    have h2 := dsz_shs (b := b) fun t ht => h t (List.mem_cons_of_mem _ ht)
    simp only [List.map_cons, dszL, dsz_sh, List.length_cons, Nat.mul_add]
    omega
theorem isL_dsz {x : D} {l : List Sh} (hx : isL x l) : dsz x = 1 + dszL (l.map Sh.d) := by rcases hx with rfl | rfl <;> simp only [dsz]
theorem Shs.sz {x : D} {l : List Sh} (h : Shs l) (hx : isL x l) : dsz x ≤ 2000 := by
  rw [isL_dsz hx]
  have := dsz_shs (b := 30) fun s hs => (h.ok s hs).n
  have := h.n
  have : (4 + 30) * l.length ≤ 34 * 30 := Nat.mul_le_mul_left 34 h.n
  omega
section
variable {F : Fp} {Δ : List Sl} {ta tb te : TE} {K : PySem.W.Frag} {E : XK}
theorem pairs_at : ∀ {i j : Nat} {ds : List D} {d : D}, (pairsD i ds)[j]? = some d → ∃ x, ds[j]? = some x ∧ d = .tuple [.int ((i + j : Nat) : Int), x]
  | i, 0, e :: ds, d, h => by
    simp only [pairsD, List.getElem?_cons_zero, Option.some.injEq] at h
    exact ⟨e, rfl, h.symm⟩
  | i, j + 1, e :: ds, d, h => by
    simp only [pairsD, List.getElem?_cons_succ] at h ⊢
    obtain ⟨x, h1, h2⟩ := pairs_at h
    exact ⟨x, h1, by rw [h2, show i + 1 + j = i + (j + 1) by omega]⟩
  | _, _, [], _, h => by simp [pairsD] at h
theorem ev_isword {x : D} (hx : gv x = true) (h : Ev1 F te Δ x) : Ev1 F (tCall (SpD false false RIsWord) [] E (tCons te tNil)) Δ (.bool (wordB x)) :=
  ev_call1 (ea_cons1 h ea_nil) ⟨x, gv_ty hx, gv_short hx, rfl, rfl⟩ fun e ⟨y, _, _, h1, h2⟩ => by
    simp only [List.cons.injEq, and_true] at h1
    rw [h2, h1]
theorem ev_isrow {x : D} {n : Nat} (hx : gv x = true) (h : Ev1 F te Δ x) (hb : Ev1 F tb Δ (.int (n : Nat))) : Ev1 F (tCall (SpD false false RIsRow) [] E (tCons te (tCons tb tNil))) Δ (.bool (rowB x n)) :=
  ev_call1 (ea_cons1 h (ea_cons1 hb ea_nil)) ⟨x, n, gv_ty hx, rfl, rfl⟩ fun e ⟨x', n', _, h1, h2⟩ => by
    simp only [List.cons.injEq, nat_iff, and_true] at h1
    rw [h2, ← h1.1, ← h1.2]
theorem ev_islist {x : D} (hx : gv x = true) (h : Ev1 F te Δ x) : Ev1 F (tCall (SpD false false RIsList) [] E (tCons te tNil)) Δ (.bool (listB x)) :=
  ev_call1 (ea_cons1 h ea_nil) ⟨x, gv_ty hx, rfl, rfl⟩ fun e ⟨y, _, h1, h2⟩ => by
    simp only [List.cons.injEq, and_true] at h1
    rw [h2, h1]
theorem kit_T {d : D} (hd : d.ty ≠ "?") : kitB d.ty "tuple" = some (d.ty == "tuple") := (kit_LT hd).2
theorem wd_ok {w : List Nat} (h : Wd w) : (D.str (txt w)).eqOk := D.okn_ok (okn_txt (wd_128 h))
theorem wds_ok {ws : List (List Nat)} (h : ∀ w ∈ ws, Wd w) : (D.list (txts ws)).eqOk := D.okn_ok (by
  show oknL 63 (txts ws) = true
  refine oknL_of fun d hd => ?_
  obtain ⟨w, hw, rfl⟩ := List.mem_map.mp hd
  exact okn_txt (wd_128 (h w hw)))
theorem pyL_any (z : Str) : ∀ zs : List Str, (pyL (zs.map D.str)).any (fun y => PyData.eqv y (D.str z).py) = decide (z ∈ zs)
  | [] => rfl
  | a :: zs => by
    have ih := pyL_any z zs
    simp only [D.py] at ih
    simp only [List.map_cons, pyL, List.any_cons, D.py, PyData.eqv]
    rw [ih, Bool.eq_iff_iff]
    simp only [Bool.or_eq_true, beq_iff_eq, decide_eq_true_eq, List.mem_cons]
    exact ⟨fun h => h.elim (fun e => .inl e.symm) .inr, fun h => h.elim (fun e => .inl e.symm) .inr⟩
theorem isPy_strs : ∀ zs : List Str, isPyL (zs.map D.str) = true
  | [] => rfl
  | a :: zs => by simp only [List.map_cons, isPyL, isPy_strs zs, D.isPy, Bool.and_self]
theorem mem_txt {w : List Nat} {ws : List (List Nat)} : decide (txt w ∈ ws.map txt) = decide (w ∈ ws) := by
  rw [Bool.eq_iff_iff, decide_eq_true_eq, decide_eq_true_eq, List.mem_map]
  exact ⟨fun ⟨x, h, e⟩ => txt_inj e ▸ h, fun h => ⟨w, h, rfl⟩⟩
theorem inF_txts {neg : Bool} {w : List Nat} {ws : List (List Nat)} (h1 : Wd w) (h2 : ∀ w ∈ ws, Wd w) : inF neg (.str (txt w)) (.list (txts ws)) (.bool (if neg then !decide (w ∈ ws) else decide (w ∈ ws))) := by
  have e : txts ws = (ws.map txt).map D.str := by rw [List.map_map]; rfl
  have a1 := wd_ok h1
  have a2 := wds_ok h2
  rw [e] at a2 ⊢
  refine ⟨a1.1, isPy_strs _, a1.2, a2.2, ?_⟩
  rw [pyL_any, mem_txt]
/-- x in a list of words -/
theorem ev_inW {neg : Bool} {w : List Nat} {ws : List (List Nat)} (h1 : Wd w) (h2 : ∀ w ∈ ws, Wd w) (ha : Ev1 F ta Δ (.str (txt w))) (hb : Ev1 F tb Δ (.list (txts ws))) : Ev1 F (tOp (rInP K neg) ta tb) Δ (.bool (if neg then !decide (w ∈ ws) else decide (w ∈ ws))) := ev_op1 sIn ha hb (inF_txts h1 h2)
end
section
variable {P : Program} {w : World} {K : PySem.W.Frag} {mg : Str → Option Value} {base : Heap}
def RWrong (ds : List D) (o : Option D) : Prop := ∃ (x : D) (p : List D) (ws : List (List Nat)), gv x = true ∧ dsz x ≤ 2000 ∧ (∀ y ∈ ws, Wd y) ∧ p.length ≤ 3 ∧ ds = [x, .tuple p, .list (txts ws)] ∧ o = (wrongS x ws).map fun q => .tuple (p ++ q)
abbrev s_wrong_shape : Stmt := top 18
theorem sc_wrong_shape : GScope ["shape", "path", "words", "j", "colour"] ["shape", "path", "words"] (defScope s_wrong_shape) := ⟨rfl, rfl, rfl, by decide +kernel, rfl, by decide +kernel, by decide +kernel⟩
theorem ok_wrong_shape {k : Nat} {f : Addr} {fd : FuncData} (T : Tx K mg) (G_is_row : FnT P w K mg base k "is_row" ["value", "many"] (SpD false false RIsRow)) (G_is_word : FnT P w K mg base k "is_word" ["value"] (SpD false false RIsWord)) (Fu : Fun K "wrong_shape" "wrong_shape" s_wrong_shape f fd) : FFn P w K mg base (k + 1) f fd ["shape", "path", "words"] (SpFD RWrong) := by
  refine ok_F Fu sc_wrong_shape (fun ds o ⟨_, _, _, _, _, _, _, e, _⟩ => by rw [e]; rfl) fun cdv A outer s H hr => ?_
  have hu2 : (A.deeper (envOfC "wrong_shape" (defScope s_wrong_shape) s.heap.objs.size f cdv)).units + 65 < cLine := by have := hr.un; omega
  have hx : ∀ (e : Value) (s' : Shared), ¬ (fcx P w K mg base ["shape", "path", "words", "j", "colour"] "wrong_shape" (defScope s_wrong_shape) f cdv A outer s H).xe e s' := fun _ _ z => z
  refine ⟨_, (og_one (og_if' hx (pt_not (pt_val (pe_callT G_is_row hr (pa_cons (pv 0) (pa_cons pe_int pa_nil)))))
      (og_one (og_yield hx (pv 1)))
      (og_cons (og_if' hx (PW.pt (pw_or (pt_not (pt_val (pe_callT G_is_word hr (pa_cons (pe_ix (qIx (K := K)) (pv 0) pe_int (fun _ _ => rfl)) pa_nil)))) (pw_or1 (pt_cmpR (qIn (K := K) hu2) (pe_ix (qIx (K := K)) (pv 0) pe_int (fun _ _ => rfl)) (pv 2) rfl))))
        (og_one (og_yield hx (pe_op (qAdd (K := K)) (pv 1) (pe_tup (pa_cons pe_int pa_nil)))))
        og_nil)
      (og_cons (og_if' hx (pt_not (pt_val (pe_callT G_is_word hr (pa_cons (pe_ix (qIx (K := K)) (pv 0) pe_int (fun _ _ => rfl)) pa_nil))))
        (og_one (og_yield hx (pe_op (qAdd (K := K)) (pv 1) (pe_tup (pa_cons pe_int pa_nil)))))
        og_nil)
      (og_one (og_if' hx (pt_not (pt_val (pe_callB (qIsi (K := K)) (by rfl) T.n_isinstance (by decide +kernel) (pa_cons (pe_ix (qIx (K := K)) (pv 0) pe_int (fun _ _ => rfl)) (pa_cons (pe_bltn (by rfl) T.n_tuple (by decide +kernel) (show RelV (.ty "tuple") _ from rfl)) pa_nil)))))
        (og_one (og_yield hx (pe_op (qAdd (K := K)) (pv 1) (pe_tup (pa_cons pe_int pa_nil)))))
        (og_one (og_for hx rfl (pi_enumX (K := K) (by rfl) T.n_enumerate (pa_cons (pe_ix (qIx (K := K)) (pv 0) pe_int (fun _ _ => rfl)) pa_nil)) (qg_tup (K := K) rfl (pgs_cons (pg_name (i := 3) sc_wrong_shape.nd rfl (Or.inl rfl)) (pgs_cons (pg_name (i := 4) sc_wrong_shape.nd rfl (Or.inl rfl)) pgs_nil)))
          (og_one (og_if' hx (pt_not (pt_val (pe_callT G_is_word hr (pa_cons (pv 4) pa_nil))))
            (og_one (og_yield hx (pe_op (qAdd (K := K)) (pv 1) (pe_tup (pa_cons pe_int (pa_cons (pv 3) pa_nil))))))
            og_nil)))))))))), fun ds hR => ?_⟩
  obtain ⟨_, x, p, ws, gx, sx, hw, hp, rfl, rfl⟩ := hR
  have zp : ∀ {n : Nat}, n ≤ 2 → p.length + n ≤ sizeLine := fun {n} h => Nat.le_trans (show p.length + n ≤ 5 by omega) (by decide)
  have got : ∀ {q : List D}, wrongS x ws = some q → RWrong [x, .tuple p, .list (txts ws)] (some (.tuple (p ++ q))) := fun {q} e => ⟨x, p, ws, gx, sx, hw, hp, rfl, by rw [e]; rfl⟩
  have non : wrongS x ws = none → RWrong [x, .tuple p, .list (txts ws)] none := fun e => ⟨x, p, ws, gx, sx, hw, hp, rfl, by rw [e]; rfl⟩
  cases hrow : rowB x 3
  · refine run_if1 (b := true) ((et_not1 (et_B1 (ev_isrow (n := 3) gx (ev_var rfl) ev_int))).eq (by rw [hrow]; rfl)) (fun _ => run_ret1 (ev_var rfl) ?_) fun h => nomatch h
    have := got (wrongS_row hrow)
    rwa [List.append_nil] at this
  obtain ⟨a, b, c, rfl⟩ := row3 hrow
  have ga := gv_tup.mp gx a (by simp)
  have gb := gv_tup.mp gx b (by simp)
  have gc := gv_tup.mp gx c (by simp)
  refine run_if1 (b := false) ((et_not1 (et_B1 (ev_isrow (n := 3) gx (ev_var rfl) ev_int))).eq rfl) (fun h => nomatch h) fun _ => ?_
  have add : ∀ {t : TA} {q : List D} {Δ : List Sl}, Δ[1]? = some (.v (.tuple p)) → EvA Option.none t Δ (fun r => r = q) → q.length ≤ 2 → Ev1 Option.none (tOp (rAddP K) (tVar 1) (tTup t)) Δ (.tuple (p ++ q)) := fun h1 h2 h3 => ev_addT (ev_var h1) (ev_tup h2 (Nat.le_trans h3 (by decide))) (zp h3)
  cases ha : wordB a
  · exact run_if1S (b := true) ((et_or1 (a := true) (b := true) ((et_not1 (et_B1 (ev_isword ga (ev_ixU (q := 0) (ev_var rfl) ev_int rfl)))).eq (by rw [ha]; rfl)) fun h => nomatch h).eq rfl) (fun _ => run_ret1S (add (q := [.int 0]) rfl (ea_cons1 ev_int ea_nil) (by decide)) (got (by simp only [wrongS]; rw [ha]; rfl))) fun h => nomatch h
  obtain ⟨v, hv, rfl⟩ := wordB_wd ha
  have tst := et_or1 (F := Option.none) (Δ := [.v (.tuple [.str (txt v), b, c]), .v (.tuple p), .v (.list (txts ws)), .un, .un]) (a := false) (b := decide (v ∈ ws)) ((et_not1 (et_B1 (ev_isword (E := E0) ga (ev_ixU (K := K) (q := 0) (ev_var (i := 0) rfl) ev_int rfl)))).eq (by rw [ha]; rfl)) fun _ => et_test1 (ev_inW (K := K) (neg := false) hv hw (ev_ixU (K := K) (q := 0) (ev_var (i := 0) rfl) ev_int rfl) (ev_var (i := 2) rfl))
  by_cases hm : v ∈ ws
  · refine run_if1S (b := true) (tst.eq (by rw [decide_eq_true hm]; rfl)) (fun _ => run_ret1S (add (q := [.int 0]) rfl (ea_cons1 ev_int ea_nil) (by decide)) (got ?_)) fun h => nomatch h
    simp only [wrongS]
    rw [wOf_txt, decide_eq_true hm, Bool.or_true, if_pos rfl]
  refine run_if1S (b := false) (tst.eq (by rw [decide_eq_false hm]; rfl)) (fun h => nomatch h) fun _ => run_nextS ?_
  have e1 : (!wordB (.str (txt v)) || decide (wOf (.str (txt v)) ∈ ws)) = false := by rw [ha, wOf_txt, decide_eq_false hm]; rfl
  cases hb : wordB b
  · refine run_if1S (b := true) ((et_not1 (et_B1 (ev_isword gb (ev_ixU (q := 1) (ev_var rfl) ev_int rfl)))).eq (by rw [hb]; rfl)) (fun _ => run_ret1S (add (q := [.int 1]) rfl (ea_cons1 ev_int ea_nil) (by decide)) (got ?_)) fun h => nomatch h
    simp only [wrongS]
    rw [e1, hb, if_neg (by decide), Bool.not_false, if_pos rfl]
  refine run_if1S (b := false) ((et_not1 (et_B1 (ev_isword gb (ev_ixU (q := 1) (ev_var rfl) ev_int rfl)))).eq (by rw [hb]; rfl)) (fun h => nomatch h) fun _ => run_nextS ?_
  have e2 : wrongS (.tuple [.str (txt v), b, c]) ws = wrongT c := by
    simp only [wrongS]
    rw [e1, hb, if_neg (by decide), Bool.not_true, if_neg (by decide)]
  cases hc : c.ty == "tuple"
  · refine run_if1 (b := true) ((et_not1 (et_B1 (ev_isi (T := "tuple") (ev_ixU (q := 2) (ev_var rfl) ev_int rfl) (gv_ty gc) (kit_T (gv_ty gc))))).eq (by rw [hc]; rfl)) (fun _ => run_ret1 (add (q := [.int 2]) rfl (ea_cons1 ev_int ea_nil) (by decide)) (got ?_)) fun h => nomatch h
    rw [e2]
    cases c <;> first | rfl | (simp only [D.ty] at hc; exact absurd hc (by decide))
  obtain ⟨l, rfl⟩ := ty_tup hc
  refine run_if1 (b := false) ((et_not1 (et_B1 (ev_isi (T := "tuple") (ev_ixU (q := 2) (ev_var rfl) ev_int rfl) (gv_ty gc) (kit_T (gv_ty gc))))).eq (by rw [hc]; rfl)) (fun h => nomatch h) fun _ => ?_
  have gl := gv_tup.mp gc
  refine run_for (ds := pairsD 0 l) (ei_enum (x := .tuple l) (ea_cons1 (ev_ixU (q := 2) (ev_var rfl) ev_int rfl) ea_nil) (.inr rfl)) (fun i Δ => wrongC 0 l = wrongC i (l.drop i) ∧ ∃ s3 s4, Δ = [.v (.tuple [.str (txt v), b, .tuple l]), .v (.tuple p), .v (.list (txts ws)), s3, s4]) ⟨rfl, _, _, rfl⟩ ?_ ?_
  · rintro i d Δ hd ⟨he, s3, s4, rfl⟩
    obtain ⟨x, hx, rfl⟩ := pairs_at hd
    have gx' := gl x (List.mem_of_getElem? hx)
    obtain ⟨hlt, hxe⟩ := List.getElem?_eq_some_iff.mp hx
    have dr : l.drop i = x :: l.drop (i + 1) := by rw [← hxe]; exact List.drop_eq_getElem_cons hlt
    rw [dr] at he
    simp only [wrongC] at he
    refine ⟨_, _, eg_tup rfl (egs_cons eg_name (egs_cons eg_name egs_nil)), ?_⟩
    refine run_if1 ((et_not1 (et_B1 (ev_isword gx' (ev_var rfl)))).eq rfl) (fun h => ?_) fun h => run_next ⟨?_, _, _, rfl⟩
    · rw [Bool.not_eq_true'] at h
      rw [h] at he
      refine run_ret1 (add (q := [.int 2, .int ((0 + i : Nat) : Int)]) rfl (ea_cons1 ev_int (ea_cons1 (ev_var rfl) ea_nil)) (Nat.le_refl 2)) (got ?_)
      rw [e2, Nat.zero_add]
      exact he
    · rw [Bool.not_eq_false'] at h
      rw [h, if_pos rfl] at he
      exact he
  · rintro Δ ⟨he, _⟩
    refine non ?_
    rw [e2]
    have : (pairsD 0 l).length = l.length := pairs_len 0 l
    rw [this, List.drop_length] at he
    exact he
/-- where a listing is first wrong -/
def firstD (x : D) : D := match wrongP x with
  | some q => .tuple q
  | none => .none
def RFirst (ds : List D) (d : D) : Prop := ∃ x, gv x = true ∧ dsz x ≤ 2000 ∧ ds = [x] ∧ d = firstD x
theorem lst_or {x : D} (h : listB x = true) : ∃ l, x = .list l ∨ x = .tuple l := by
  cases x <;> first | exact ⟨_, .inl rfl⟩ | exact ⟨_, .inr rfl⟩ | (simp only [listB, D.ty] at h; exact absurd h (by decide))
theorem wrongP_l {x : D} {l : List D} (h : x = .list l ∨ x = .tuple l) : wrongP x = wrongL 0 [] l := by rcases h with rfl | rfl <;> rfl
theorem wrongP_no {x : D} (h : listB x = false) : wrongP x = some [] := by
  cases x <;> first | rfl | (simp only [listB, D.ty] at h; exact absurd h (by decide))
theorem gv_l {x : D} {l : List D} (g : gv x = true) (h : x = .list l ∨ x = .tuple l) : ∀ d ∈ l, gv d = true := by
  rcases h with rfl | rfl
  · exact gv_lst.mp g
  · exact gv_tup.mp g
theorem dsz_l {x : D} {l : List D} (h : x = .list l ∨ x = .tuple l) : dsz x = 1 + dszL l := by rcases h with rfl | rfl <;> simp only [dsz]
abbrev s_first_wrong_books : Stmt := top 19
theorem sc_first_wrong_books : FnScope ["shapes", "words", "k", "shape", "path"] ["shapes"] (defScope s_first_wrong_books) := ⟨rfl, rfl, rfl, by decide +kernel, rfl, by decide +kernel, by decide +kernel⟩
theorem ok_first_wrong_books {k : Nat} {f : Addr} {fd : FuncData} (T : Tx K mg) (G_is_list : FnT P w K mg base k "is_list" ["value"] (SpD false false RIsList)) (F_wrong_shape : FnTF P w K mg base k "wrong_shape" ["shape", "path", "words"] (SpFD RWrong)) (Fu : Fun K "first_wrong" "first_wrong" s_first_wrong_books f fd) : FnOk P w K mg base CX0 (k + 2) f fd ["shapes"] (SpD false false RFirst) := by
  refine ok_D Fu sc_first_wrong_books (fun ds d ⟨_, _, _, e, _⟩ => by rw [e]; rfl) fun cdv A outer s H E hrm => ?_
  have hr : Room k _ := hrm.mono (Nat.le_succ k)
  refine ⟨_, (pss_cons (ps_if (pt_not (pt_val (pe_callT G_is_list hr (pa_cons (pv 0) pa_nil))))
      (pss_one (ps_ret (pe_tup pa_nil)))
      pss_nil)
    (pss_cons (ps_set (i := 1) sc_first_wrong_books.nd rfl (Or.inl rfl) (pe_lst pa_nil))
    (pss_cons (ps_for PassesOwn.never rfl (pi_enumX (K := K) (by rfl) T.n_enumerate (pa_cons (pv 0) pa_nil)) (qg_tup (K := K) rfl (pgs_cons (pg_name (i := 2) sc_first_wrong_books.nd rfl (Or.inl rfl)) (pgs_cons (pg_name (i := 3) sc_first_wrong_books.nd rfl (Or.inl rfl)) pgs_nil)))
      (pss_cons (ps_forF F_wrong_shape hrm PassesOwn.never (pa_cons (pv 3) (pa_cons (pe_tup (pa_cons (pv 2) pa_nil)) (pa_cons (pv 1) pa_nil))) (pg_name (i := 4) sc_first_wrong_books.nd rfl (Or.inl rfl))
        (pss_one (ps_ret (pv 4))))
      (pss_one (ps_expr (qBm (K := K) PySem.F.plainAttrs_list PySem.F.slot_list_append PySem.F.type_list_append mt_append (pv 1) (pa_cons (pe_ix (qIx (K := K)) (pv 3) pe_int (fun _ _ => rfl)) pa_nil))))))
    (pss_one (ps_ret pe_non))))), fun F ds hF hR => ?_⟩
  obtain ⟨_, x, gx, sx, rfl, _⟩ := hR
  cases hlb : listB x
  · exact run_if1S (b := true) ((et_not1 (et_B1 (ev_islist gx (ev_var rfl)))).eq (by rw [hlb]; rfl)) (fun _ => run_ret1S (ev_tup ea_nil) ⟨x, gx, sx, rfl, by rw [firstD, wrongP_no hlb]⟩) fun h => nomatch h
  obtain ⟨l, hx⟩ := lst_or hlb
  have gl := gv_l gx hx
  have sl : dszL l ≤ 2000 := by have := dsz_l hx; omega
  refine run_if1S (b := false) ((et_not1 (et_B1 (ev_islist gx (ev_var rfl)))).eq (by rw [hlb]; rfl)) (fun h => nomatch h) fun _ => run_nextS ?_
  refine run_setF (ds := []) (ef_lst ea_nil) ?_
  refine run_seqM (N := fun _ => wrongP x = none) ?_ fun Δ e => run_ret1 ev_non ⟨x, gx, sx, rfl, by rw [firstD, e]⟩
  refine run_for (ds := pairsD 0 l) (ei_enum (x := x) (ea_cons1 (ev_var rfl) ea_nil) hx) (fun i Δ => ∃ (ws : List (List Nat)) (s2 s3 s4 : Sl), wrongP x = wrongL i ws (l.drop i) ∧ (∀ y ∈ ws, Wd y) ∧ ws.length = i ∧ Δ = [.v x, .own (txts ws), s2, s3, s4]) ⟨[], _, _, _, wrongP_l hx, by simp, rfl, rfl⟩ ?_ ?_
  · rintro i d Δ hd ⟨ws, s2, s3, s4, he, hw, hl, rfl⟩
    obtain ⟨y, hy, rfl⟩ := pairs_at hd
    have hmy := List.mem_of_getElem? hy
    have gy := gl y hmy
    have sy : dsz y ≤ 2000 := Nat.le_trans (dszL_mem hmy) sl
    obtain ⟨hlt, hye⟩ := List.getElem?_eq_some_iff.mp hy
    have dr : l.drop i = y :: l.drop (i + 1) := by rw [← hye]; exact List.drop_eq_getElem_cons hlt
    rw [dr, wrongL] at he
    refine ⟨_, _, eg_tup rfl (egs_cons eg_name (egs_cons eg_name egs_nil)), ?_⟩
    have args : ∀ {t : Sl}, EvA F (tCons (tVar 3) (tCons (tTup (tCons (tVar 2) tNil)) (tCons (tVar 1) tNil))) [.v x, .v (.list (txts ws)), .v (.int ((0 + i : Nat) : Int)), .v y, t] fun r => r = [y, .tuple [.int ((0 + i : Nat) : Int)], .list (txts ws)] := ea_cons1 (ev_var rfl) (ea_cons1 (ev_tup (ea_cons1 (ev_var rfl) ea_nil)) (ea_cons1 (ev_var rfl) ea_nil))
    cases e : wrongS y ws with
    | some q =>
      rw [e] at he
      refine run_frz (i := 1) rfl ?_
      refine run_seqM (N := fun _ => False) ?_ fun _ z => z.elim
      refine run_forF args (fun ds er => ⟨_, y, _, ws, gy, sy, hw, by simp, er, rfl⟩) (fun ds d er r => ?_) fun ds er r => ?_
      · obtain ⟨y', p', ws', _, _, _, _, er', r⟩ := r
        rw [er] at er'
        simp only [List.cons.injEq, D.tuple.injEq, D.list.injEq, and_true] at er'
        obtain ⟨rfl, rfl, e4⟩ := er'
        rw [← txts_inj e4, e] at r
        simp only [Option.map_some, Option.some.injEq] at r
        subst r
        refine run_ret1 (ev_var rfl) ⟨x, gx, sx, rfl, ?_⟩
        rw [firstD, he, Nat.zero_add]
        rfl
      · obtain ⟨y', p', ws', _, _, _, _, er', r⟩ := r
        rw [er] at er'
        simp only [List.cons.injEq, D.tuple.injEq, D.list.injEq, and_true] at er'
        obtain ⟨rfl, rfl, e4⟩ := er'
        rw [← txts_inj e4, e] at r
        cases r
    | none =>
      rw [e] at he
      obtain ⟨v, b, c, hv, hm, rfl⟩ := wrongS_word e
      refine run_seqM (N := fun Δ => Δ = [.v x, .own (txts ws), .v (.int ((0 + i : Nat) : Int)), .v (.tuple [.str (txt v), b, c]), s4]) ?_ ?_
      · refine run_forF0 (i := 1) (ds := txts ws) rfl args (fun as er => ?_) rfl
        refine ⟨⟨_, _, ws, gy, sy, hw, by simp, er, by rw [e]; rfl⟩, fun d r => ?_⟩
        obtain ⟨y', p', ws', _, _, _, _, er', r⟩ := r
        rw [er] at er'
        simp only [List.cons.injEq, D.list.injEq, and_true] at er'
        obtain ⟨e2, e3, e4⟩ := er'
        rw [← txts_inj e4, ← e2, e] at r
        cases r
      · rintro Δ rfl
        refine run_app (i := 1) rfl (ev_ixU (q := 0) (ev_var rfl) ev_int rfl) ?_ fun d ed => ⟨ws ++ [v], .v (.int ((0 + i : Nat) : Int)), .v (.tuple [.str (txt v), b, c]), s4, ?_, ?_, ?_, ?_⟩
        · have : (100000 : Nat) < sizeLine := by decide
          have := dszL_len l
          simp only [List.length_map]
          omega
        · rw [he]
          show wrongL (i + 1) (ws ++ [wOf (.str (txt v))]) _ = _
          rw [wOf_txt]
        · intro z hz
          rcases List.mem_append.mp hz with hz | hz
          · exact hw z hz
          · rw [List.mem_singleton] at hz
            exact hz ▸ hv
        · simp [hl]
        · rw [ed]
          simp [txts, List.map_append]
  · rintro Δ ⟨ws, _, _, _, he, _⟩
    show wrongP x = none
    rw [he, Bc.pairs_len, List.drop_length]
    rfl
end
end K02

namespace Bc
open PySem L2 PySem.Spec PyProof.Rows
section
variable {F : Fp} {fr : Bool} {te : TE} {tr : TA} {Δ : List Sl} {C : Addr} {K : PySem.W.Frag} {W : WX} {PX : Value → FX → Prop} {l : List (Option D)} {ix : Nat}
/-- raise C(path), path a tuple that is data -/
theorem run_raiseP {po : Po} {q : List D} (hx : Δ[ix]? = some (.xc W PX l)) (hm : Hm l Δ) (h : Ev1 F te Δ (.tuple q)) (hp : PX (.ref C) (some [(("path" : Str), .tuple q)])) :
    Run F fr (fun _ σ H => tMkP K C (tCons te tNil) σ H fun cls d H' => W cls d σ H') Δ po := fun S0 H0 B S H σ E w g st r =>
  h H0 S H σ w st _ fun y v S' H' e g' hd => by
    subst e
    simp only [Dt] at hd
    obtain ⟨a, xs, rfl, e1, h1⟩ := hd
    refine ⟨a, xs, rfl, .inl ⟨SqT.of (g'.h _ _ e1), fun d hn => ?_⟩⟩
    have hs : S' d = Option.none := Same.free g'.h hn
    have g2 := Gr.newD (F := F) (o := .xd [(("path" : Str), .ref a)]) g'.h hn
    refine xc_go st hx hm hp (g'.trans g2) ⟨d, _, rfl, upd_same, ?_⟩
    simp only [DtF, Dt]
    exact ⟨_, _, rfl, ⟨a, xs, rfl, g2.s _ _ e1, h1.mono g2.s⟩, rfl⟩
theorem ev_isN2 {d : D} {te : TE} (h : Ev1 F te Δ d) (hd : d.ty ≠ "?") (hb : PySem.W.kitOne K (.type d.ty) (.ref C) = some false) : Ev1 F (tCB (fun xs H Q => rIsC C xs H Q ∨ rIsi K xs H Q) (tCons te (tCons (tC (.ref C)) tNil))) Δ (.bool false) := fun H0 S H σ w t Q k => by
  refine h H0 S H σ w t _ fun y v S1 H1 e g1 hv => ?_
  subst e
  exact .inr ⟨v, .ref C, .type y.ty, .ref C, false, rfl, .own C, dt_ty (g1.ok w).s hv hd, hb, k _ _ S1 H1 rfl g1 (by simp only [Dt])⟩
theorem ev_isC2 {fs : FS} {te : TE} (h : Ev1 F te Δ (.obj C fs)) : Ev1 F (tCB (fun xs H Q => rIsC C xs H Q ∨ rIsi K xs H Q) (tCons te (tCons (tC (.ref C)) tNil))) Δ (.bool true) := fun H0 S H σ w t Q k => by
  refine h H0 S H σ w t _ fun y u S1 H1 e1 g1 hu => ?_
  subst e1
  simp only [Dt] at hu
  obtain ⟨a, dx, vs, rfl, z1, z2⟩ := hu
  exact .inl ⟨a, dx, vs, rfl, g1.h _ _ z1, k _ _ S1 H1 rfl g1 (by simp only [Dt])⟩
/-- a starred tuple within arguments -/
theorem ea_starU {q ds : List D} (h : Ev1 F te Δ (.tuple q)) (hr : EvA F tr Δ fun r => r = ds) : EvA F (StX.tStar K te tr) Δ fun r => r = q ++ ds := fun H0 S H σ w t Q k => by
  refine h H0 S H σ w t _ fun y v S1 H1 e g1 hd => ?_
  subst e
  simp only [Dt] at hd
  obtain ⟨a, xs, rfl, e1, h1⟩ := hd
  refine ⟨a, xs, rfl, .inl (SqT.of (g1.h _ _ e1)), ?_⟩
  refine hr H0 S1 H1 σ (g1.ok w) (t.mono g1) _ fun es vs S2 H2 p2 g2 hds => ?_
  exact k _ _ S2 H2 (by rw [p2]) (g1.trans g2) ((h1.mono g2.s).append hds)
end
end Bc
namespace K02
open PySem L2 PySem.Spec PyProof.Rows Bc
open Lex (endOf run lexAt Lm Lk lexL lexF blanks)
/-! ### books -/
def others : List String := ["NoneType", "int", "list", "tuple"]
def othersG (B : Addr) : List Value := [.type "NoneType", .type "int", .type "list", .type "tuple", .ref B]
structure Tb (P : Program) (K : PySem.W.Frag) (mg : Str → Option Value) : Prop where
  c_Book : Cls K (clsOf mg "Book")
  a_rows : NoAttr K (clsOf mg "Book") "rows"
  i_Book : C8.InsC K (clsOf mg "Book")
  g_Book : mg "Book" = some (.ref (clsOf mg "Book"))
  o_Book : ∀ T ∈ others, PySem.W.kitOne K (.type T) (.ref (clsOf mg "Book")) = some false
  nf_Book : ∀ T ∈ others, PySem.W.notFirst K (clsOf mg "Book") (.type T) = true
  x_BadBook : XCP P K mg "BadBook" (clsOf mg "BadBook")
  x_UnknownName : XC P K mg "UnknownName" (clsOf mg "UnknownName") ["name"]
  f_BadBook : XfC K (clsOf mg "BadBook")
  no_BadBook_path : PySem.W.findIn K (.ref (clsOf mg "BadBook")) "path" = some none
  c_BadBook : PySem.W.exmOne K (.ref (clsOf mg "BadBook")) (.ref (clsOf mg "BadBook")) = some true
  f_UnknownName : XfC K (clsOf mg "UnknownName")
  no_UnknownName_name : PySem.W.findIn K (.ref (clsOf mg "UnknownName")) "name" = some none
  c_UnknownName : PySem.W.exmOne K (.ref (clsOf mg "UnknownName")) (.ref (clsOf mg "UnknownName")) = some true
  x_BadBag : XCP P K mg "BadBag" (clsOf mg "BadBag")
  f_BadBag : XfC K (clsOf mg "BadBag")
  no_BadBag_path : PySem.W.findIn K (.ref (clsOf mg "BadBag")) "path" = some none
  c_BadBag : PySem.W.exmOne K (.ref (clsOf mg "BadBag")) (.ref (clsOf mg "BadBag")) = some true
  c_Bag : Cls K (clsOf mg "Bag")
  a_own_book : NoAttr K (clsOf mg "Bag") "own_book"
  a_own_joints : NoAttr K (clsOf mg "Bag") "own_joints"
  a_own_shapes : NoAttr K (clsOf mg "Bag") "own_shapes"
  i_Bag : C8.InsC K (clsOf mg "Bag")
  g_Bag : mg "Bag" = some (.ref (clsOf mg "Bag"))
  o_Bag : ∀ t ∈ othersG (clsOf mg "Book"), PySem.W.kitOne K t (.ref (clsOf mg "Bag")) = some false
  nf_Bag : ∀ t ∈ othersG (clsOf mg "Book"), PySem.W.notFirst K (clsOf mg "Bag") t = true

abbrev rowsD (l : List Sh) : List (Key × D) := l.map fun s => (.inr (txt s.w), s.d)
abbrev bookF (l : List Sh) : FS := [("rows", .dict (rowsD l))]
def bookD (C : Addr) (l : List Sh) : D := .obj C (bookF l)
theorem rowsD_inj : ∀ {l m : List Sh}, rowsD l = rowsD m → l = m
  | [], [], _ => rfl
  | [], _ :: _, h => by cases h
  | _ :: _, [], h => by cases h
  | p :: l, q :: m, h => by
    simp only [rowsD, List.map_cons, List.cons.injEq, Prod.mk.injEq] at h
    rw [sh_inj h.1.2, rowsD_inj h.2]
theorem book_inj {C : Addr} {l m : List Sh} (h : bookD C l = bookD C m) : l = m := by
  simp only [bookD, D.obj.injEq, List.cons.injEq, Prod.mk.injEq, D.dict.injEq, and_true, true_and] at h
  exact rowsD_inj h
section
variable {F : Fp} {Δ : List Sl} {ta tb te : TE} {K : PySem.W.Frag} {E : XK}
theorem ev_inD {neg : Bool} {x : D} {k : Key} {kvs : List (Key × D)} (hk : keyD x = some k) (ha : Ev1 F ta Δ x) (hb : Ev1 F tb Δ (.dict kvs)) : Ev1 F (tOp (rInP K neg) ta tb) Δ (.bool (if neg then !(kvs.any fun q => decide (q.1 = k)) else kvs.any fun q => decide (q.1 = k))) :=
  ev_op1 sIn ha hb (by cases x <;> first | exact ⟨k, hk, rfl⟩ | cases hk)
theorem rows_find : ∀ {l : List Sh} {s : Sh}, (l.map Sh.w).Nodup → s ∈ l → ((rowsD l).find? fun q => decide (q.1 = .inr (txt s.w))).map (·.2) = some s.d
  | p :: l, s, nd, h => by
    simp only [rowsD, List.map_cons, List.find?_cons]
    simp only [List.map_cons, List.nodup_cons] at nd
    by_cases e : p.w = s.w
    · rw [decide_eq_true (by rw [e])]
      rcases List.mem_cons.mp h with rfl | h
      · rfl
      · exact absurd (e ▸ List.mem_map_of_mem h) nd.1
    · rw [decide_eq_false (fun z => e (txt_inj (Sum.inr.inj z)))]
      rcases List.mem_cons.mp h with rfl | h
      · exact absurd rfl e
      · exact rows_find nd.2 h
theorem rows_any {l : List Sh} {s : Sh} (h : s ∈ l) : ((rowsD l).any fun q => decide (q.1 = .inr (txt s.w))) = true := by
  rw [List.any_eq_true]
  exact ⟨_, List.mem_map_of_mem h, decide_eq_true rfl⟩
theorem rows_no {l : List Sh} {z : Str} (h : ∀ s ∈ l, D.str z ≠ .str (txt s.w)) : ((rowsD l).any fun q => decide (q.1 = .inr z)) = false := by
  rw [List.any_eq_false]
  intro q hq
  obtain ⟨s, hs, rfl⟩ := List.mem_map.mp hq
  simp only [decide_eq_true_eq]
  intro e
  exact h s hs (by rw [Sum.inr.inj e])
end
section
variable {P : Program} {w : World} {K : PySem.W.Frag} {mg : Str → Option Value} {base : Heap}
/-- a book's making -/
def RBook (fs : FS) (ds : List D) (d : D) (fs' : FS) : Prop := ∃ x l, isL x l ∧ Shs l ∧ fs = [] ∧ ds = [x] ∧ d = .none ∧ fs' = bookF l
def XBook (C : Addr) : RX1 := fun ds c f => ∃ x q, gv x = true ∧ dsz x ≤ 2000 ∧ wrongP x = some q ∧ ds = [x] ∧ c = .ref C ∧ f = some [(("path" : Str), .tuple q)]
theorem ev_first {F : Fp} {Δ : List Sl} {te : TE} {E : XK} {x : D} (gx : gv x = true) (sx : dsz x ≤ 2000) (h : Ev1 F te Δ x) : Ev1 F (tCall (SpD false false RFirst) [] E (tCons te tNil)) Δ (firstD x) :=
  ev_call1 (ea_cons1 h ea_nil) ⟨x, gx, sx, rfl, rfl⟩ fun e ⟨y, _, _, h1, h2⟩ => by
    simp only [List.cons.injEq, and_true] at h1
    rw [h2, h1]
abbrev s_Book___init__ : Stmt := inClass (top 21) 0
theorem sc_Book___init__ : FnScope ["self", "shapes", "path", "shape", "!x"] ["self", "shapes"] (defScope s_Book___init__) := ⟨rfl, rfl, rfl, by decide +kernel, rfl, by decide +kernel, by decide +kernel⟩
theorem ok_Book_init {k : Nat} {f : Addr} {fd : FuncData} (T : Tx K mg) (U : Tb P K mg) (G_first_wrong_books : FnT P w K mg base k "first_wrong_books" ["shapes"] (SpD false false RFirst)) (Fu : Fun K "__init__" "Book.__init__" s_Book___init__ f fd) : FnOk P w K mg base (L2.CX P w) (k + 1) f fd ["self", "shapes"] (SpOX (clsOf mg "Book") false RBook (XBook (clsOf mg "BadBook"))) := by
  refine ok_OX Fu sc_Book___init__ (fun fs ds h => by rcases h with ⟨_, _, _, _, _, _, _, e, _⟩ | ⟨_, _, _, _, _, _, _, e, _⟩ <;> rw [e] <;> rfl) (by decide) fun cdv A outer s H E hr tk => ?_
  refine ⟨_, (pss_cons (ps_set (i := 2) sc_Book___init__.nd rfl (Or.inl rfl) (pe_callT G_first_wrong_books hr (pa_cons (pv 1) pa_nil)))
    (pss_cons (ps_if (pt_cmpR op_notN (pv 2) pe_non (nomark _))
      (pss_one (ps_raise rfl tk (pmk_XP U.x_BadBook hr (pa_cons (pv 2) pa_nil))))
      pss_nil)
    (pss_one (ps_fld (pv 0) (pe_dc (own := [("shape", 3)]) rfl sc_Book___init__.nd (qi_any (K := K) (pv 1)) (blkOk_by (own := [("shape", 3)]) (N := ["self", "shapes", "path", "shape", "!x"]) (sc := defScope s_Book___init__) (by decide +kernel)) (fun _ _ _ _ _ => (pg_name (i := 3) sc_Book___init__.nd rfl (by first | exact Or.inl rfl | exact Or.inr rfl))) (fun _ _ _ _ _ => pts_nil) (fun _ _ _ _ _ => (pe_ix (qIx (K := K)) (pv 3) pe_int (fun _ _ => rfl))) (fun _ _ _ _ _ => (pv 3))) rfl)))), fun a dx fs ds hR => ?_⟩
  have z : ∀ n ≤ 100000, n ≤ sizeLine := fun n hn => Nat.le_trans hn (by decide)
  rcases hR with ⟨_, _, x, l, hx, hl, rfl, rfl, rfl, rfl⟩ | ⟨c, f', x, q, gx, sx, hq, rfl, rfl, rfl⟩
  · have gx := gv_shs hl.okw hx
    have sx := hl.sz hx
    have hn := hl.n
    have e0 : firstD x = .none := by rw [firstD, wrongP_ok hl hx]
    refine run_set (d := .none) ((ev_first gx sx (ev_var rfl)).eq e0) ?_
    refine run_if1S (b := false) ((et_test1 (ev_notN (ev_var (d := .none) rfl))).eq rfl) (fun h => nomatch h) fun _ => run_nextS ?_
    have ei : ∀ {F : Fp} {Δ : List Sl}, Δ[1]? = some (.v x) → EvI F (iAny K (tVar 1)) Δ fun r => r = l.map Sh.d := fun h => by
      rcases hx with rfl | rfl
      · exact ei_list (ev_var h)
      · exact ei_tup (ev_var h)
    refine run_fldM (P := fun d Δ' => d = .dict (rowsD l) ∧ Δ' = [.ob a dx (clsOf mg "Book") [], .v x, .v .none, .un, .xc (WOf E) (XBook (clsOf mg "BadBook") [x]) (List.replicate 5 Option.none)]) U.c_Book U.a_rows ((ev_dc (ei rfl) (z _ (by simp; omega)) (fun d => match d with | .tuple (.str x :: _) => .inr x | _ => .inl 0) (fun d => d) ?_ fun i d hd => ?_).eq ?_).m fun d Δ' ⟨e1, e2⟩ => ⟨[], by rw [e2]; rfl, by rw [e2]; rfl, by decide, ?_⟩
    · rw [List.map_map]
      have key : (l.map ((fun d => match d with | .tuple (.str x :: _) => (.inr x : Key) | _ => .inl 0) ∘ Sh.d)) = (l.map Sh.w).map fun w => (.inr (txt w) : Key) := by
        rw [List.map_map]
        rfl
      rw [key]
      refine List.Pairwise.map _ (fun a b h e => h (txt_inj (Sum.inr.inj e))) hl.nd
    · rw [List.getElem?_map, Option.map_eq_some_iff] at hd
      obtain ⟨s, hs, rfl⟩ := hd
      exact ⟨[3], _, eg_name, by simp, ⟨.str (txt s.w), ev_ixU (q := 0) (ev_var (d := s.d) rfl) ev_int rfl, rfl⟩, ev_var rfl⟩
    · rw [List.map_map]
      rfl
    · subst e1 e2
      exact ⟨rfl, _, rfl, x, l, hx, hl, rfl, rfl, rfl, rfl⟩
  · have e0 : firstD x = .tuple q := by rw [firstD, hq]
    refine run_set (d := .tuple q) ((ev_first gx sx (ev_var rfl)).eq e0) ?_
    refine run_if1S (b := true) ((et_test1 (ev_notN (ev_var (d := .tuple q) rfl))).eq rfl) (fun _ => ?_) fun h => nomatch h
    exact run_seqM (N := fun _ => False) (run_raiseP (ix := 4) rfl (hm_none rfl) (ev_var rfl) ⟨x, q, gx, sx, hq, rfl, rfl, rfl⟩) fun _ z => z.elim
def RShapes (C : Addr) (ds : List D) (d : D) : Prop := ∃ l, ds = [bookD C l] ∧ d = .list (l.map Sh.d)
abbrev s_Book_shapes : Stmt := inClass (top 21) 2
theorem sc_Book_shapes : FnScope ["self"] ["self"] (defScope s_Book_shapes) := ⟨rfl, rfl, rfl, by decide +kernel, rfl, by decide +kernel, by decide +kernel⟩
theorem ok_Book_shapes {k : Nat} {f : Addr} {fd : FuncData} (T : Tx K mg) (U : Tb P K mg) (Fu : Fun K "shapes" "Book.shapes" s_Book_shapes f fd) : FnOk P w K mg base CX0 (k + 1) f fd ["self"] (SpD false true (RShapes (clsOf mg "Book"))) := by
  refine ok_D Fu sc_Book_shapes (fun ds d ⟨_, e, _⟩ => by rw [e]; rfl) fun cdv A outer s H E hr => ?_
  refine ⟨_, (pss_one (ps_ret (pe_listVals rfl (by rfl) T.n_list (pe_fld (pv 0) rfl)))), fun F ds hF hR => ?_⟩
  obtain ⟨_, l, rfl, rfl⟩ := hR
  refine run_retF (ef_lvals (kvs := rowsD l) (ev_fldD (C := clsOf mg "Book") (fs := bookF l) (ev_var rfl) U.c_Book U.a_rows rfl)) fun ds e => ⟨l, rfl, ?_⟩
  rw [e, List.map_map]
  rfl
def RWords (C : Addr) (ds : List D) (d : D) : Prop := ∃ l, ds = [bookD C l] ∧ d = .list (txts (l.map Sh.w))
abbrev s_Book_words : Stmt := inClass (top 21) 3
theorem sc_Book_words : FnScope ["self"] ["self"] (defScope s_Book_words) := ⟨rfl, rfl, rfl, by decide +kernel, rfl, by decide +kernel, by decide +kernel⟩
theorem ok_Book_words {k : Nat} {f : Addr} {fd : FuncData} (T : Tx K mg) (U : Tb P K mg) (Fu : Fun K "words" "Book.words" s_Book_words f fd) : FnOk P w K mg base CX0 (k + 1) f fd ["self"] (SpD false true (RWords (clsOf mg "Book"))) := by
  refine ok_D Fu sc_Book_words (fun ds d ⟨_, e, _⟩ => by rw [e]; rfl) fun cdv A outer s H E hr => ?_
  refine ⟨_, (pss_one (ps_ret (pe_callTy (qListD rfl) (by rfl) T.n_list (by decide +kernel) (pa_cons (pe_fld (pv 0) rfl) pa_nil)))), fun F ds hF hR => ?_⟩
  obtain ⟨_, l, rfl, rfl⟩ := hR
  refine run_retF (ef_listD (kvs := rowsD l) (ev_fldD (C := clsOf mg "Book") (fs := bookF l) (ev_var rfl) U.c_Book U.a_rows rfl)) fun ds e => ⟨l, rfl, ?_⟩
  rw [e, List.map_map, txts, List.map_map]
  rfl
/-! a shape by its word -/
def RShape (C : Addr) (ds : List D) (d : D) : Prop := ∃ l s, Shs l ∧ s ∈ l ∧ ds = [bookD C l, .str (txt s.w)] ∧ d = s.d
def XName (C N : Addr) : RX1 := fun ds c f => ∃ l x, Shs l ∧ x.ty ≠ "?" ∧ (∀ s ∈ l, x ≠ .str (txt s.w)) ∧ ds = [bookD C l, x] ∧ c = .ref N ∧ f = some [(("name" : Str), x)]
abbrev s_Book_shape : Stmt := inClass (top 21) 5
theorem sc_Book_shape : FnScope ["self", "word", "!x"] ["self", "word"] (defScope s_Book_shape) := ⟨rfl, rfl, rfl, by decide +kernel, rfl, by decide +kernel, by decide +kernel⟩
theorem ok_Book_shape {k : Nat} {f : Addr} {fd : FuncData} (T : Tx K mg) (U : Tb P K mg) (Fu : Fun K "shape" "Book.shape" s_Book_shape f fd) : FnOk P w K mg base (L2.CX P w) (k + 1) f fd ["self", "word"] (SpX false false (RShape (clsOf mg "Book")) (XName (clsOf mg "Book") (clsOf mg "UnknownName"))) := by
  refine ok_X Fu sc_Book_shape (fun ds h => by rcases h with ⟨_, _, _, _, _, e, _⟩ | ⟨_, _, _, _, _, _, _, e, _⟩ <;> rw [e] <;> rfl) fun cdv A outer s H E hr tk => ?_
  have hu2 : (A.deeper (envOfC "Book.shape" (defScope s_Book_shape) s.heap.objs.size f cdv)).units + 65 < cLine := by have := hr.un; omega
  have hu1 : (A.deeper (envOfC "Book.shape" (defScope s_Book_shape) s.heap.objs.size f cdv)).units + 1 < cLine := by have := hr.un; omega
  refine ⟨_, (pss_cons (ps_if (PW.pt (pw_or (pt_not (pt_val (pe_callB (qIsi (K := K)) (by rfl) T.n_isinstance (by decide +kernel) (pa_cons (pv 1) (pa_cons (pe_bltn (by rfl) T.n_str (by decide +kernel) (show RelV (.ty "str") _ from rfl)) pa_nil))))) (pw_or1 (pt_cmpR (qNotIn (K := K) hu2) (pv 1) (pe_fld (pv 0) rfl) rfl))))
      (pss_one (ps_raise rfl tk (pmk_X U.x_UnknownName hr (pa_cons (pv 1) pa_nil))))
      pss_nil)
    (pss_one (ps_ret (pe_dget hu1 (pe_fld (pv 0) rfl) (pv 1) (fun _ _ => rfl))))), fun F ds hF hR => ?_⟩
  have fld : ∀ {l : List Sh} {E : List Sl}, E[0]? = some (.v (bookD (clsOf mg "Book") l)) → Ev1 F (tFld K (tVar 0) "rows") E (.dict (rowsD l)) := fun {l} {_} h => ev_fldD (C := clsOf mg "Book") (fs := bookF l) (ev_var h) U.c_Book U.a_rows rfl
  rcases hR with ⟨_, l, s, hl, hs, rfl, rfl⟩ | ⟨c, f', l, x, hl, hx, hn, rfl, rfl, rfl⟩
  · refine run_if1S (b := false) ((et_or1 (et_not1 (et_B1 (ev_isi (T := "str") (b := true) (ev_var rfl) (by simp only [D.ty]; decide) (by simp only [D.ty]; decide +kernel)))) fun _ => et_test1 (ev_inD (k := .inr (txt s.w)) rfl (ev_var rfl) (fld rfl))).eq (by rw [if_pos rfl, rows_any hs]; rfl)) (fun h => nomatch h) fun _ => run_nextS ?_
    exact run_ret1 (ev_dget (fld rfl) (ev_var rfl) rfl (rows_find hl.nd hs)) ⟨l, s, hl, hs, rfl, rfl⟩
  · cases hc : x.ty == "str"
    · refine run_if1S (b := true) ((et_or1 (a := true) (b := true) ((et_not1 (et_B1 (ev_isi (T := "str") (ev_var rfl) hx (kit_S hx)))).eq (by rw [hc]; rfl)) fun h => nomatch h).eq rfl) (fun _ => ?_) fun h => nomatch h
      exact run_seqM (N := fun _ => False) (run_raise (ix := 2) rfl (hm_none rfl) (ea_cons1 (ev_var rfl) ea_nil) (fun ds e => by rw [e]; rfl) (by decide) fun ds e => ⟨l, x, hl, hx, hn, rfl, rfl, by rw [e]; rfl⟩) fun _ z => z.elim
    · obtain ⟨z, rfl⟩ := ty_str hc
      refine run_if1S (b := true) ((et_or1 (et_not1 (et_B1 (ev_isi (T := "str") (ev_var rfl) hx (kit_S hx)))) fun _ => et_test1 (ev_inD (k := .inr z) rfl (ev_var rfl) (fld rfl))).eq (by rw [if_pos rfl, rows_no hn]; rfl)) (fun _ => ?_) fun h => nomatch h
      exact run_seqM (N := fun _ => False) (run_raise (ix := 2) rfl (hm_none rfl) (ea_cons1 (ev_var rfl) ea_nil) (fun ds e => by rw [e]; rfl) (by decide) fun ds e => ⟨l, .str z, hl, hx, hn, rfl, rfl, by rw [e]; rfl⟩) fun _ z => z.elim
section
variable {F : Fp} {Δ : List Sl} {ta tb te : TE} {C N : Addr} {l : List Sh} {s : Sh} {ix : Nat} {W : WX} {PX : Value → FX → Prop} {lh : List (Option D)}
/-- o.shape(x), x anything -/
theorem ev_shape {x : D} (hx : Δ[ix]? = some (.xc W PX lh)) (hm : Hm lh Δ) (hl : Shs l) (h1 : x.ty ≠ "?") (ha : Ev1 F ta Δ (bookD C l)) (hb : Ev1 F tb Δ x) (hp : (∀ s ∈ l, x ≠ .str (txt s.w)) → PX (.ref N) (some [(("name" : Str), x)])) :
    EvR F (tMethS C "shape" (SpX false false (RShape C) (XName C N)) (WE W) ta (tCons tb tNil)) Δ fun d => ∃ s ∈ l, x = .str (txt s.w) ∧ d = s.d := by
  refine (ev_methX hx hm ha (ea_cons1 hb ea_nil) (fun ds e => ?_) (fun ds c f e h => ?_)).imp fun d ⟨ds, e, l', s, _, hs, h2, h3⟩ => ?_
  · subst e
    by_cases hh : ∃ s ∈ l, x = .str (txt s.w)
    · obtain ⟨s, hs, e⟩ := hh
      exact .inl ⟨_, l, s, hl, hs, by rw [e]; rfl, rfl⟩
    · exact .inr ⟨_, _, l, x, hl, h1, fun s hs e => hh ⟨s, hs, e⟩, rfl, rfl, rfl⟩
  · subst e
    obtain ⟨l', x', _, _, hn, h2, rfl, rfl⟩ := h
    simp only [List.cons.injEq, and_true] at h2
    have := book_inj (C := C) h2.1
    subst this
    obtain ⟨_, rfl⟩ := h2
    exact hp hn
  · subst e
    simp only [List.cons.injEq, and_true] at h2
    have := book_inj (C := C) h2.1
    subst this
    exact ⟨s, hs, h2.2, h3⟩
end
/-! == -/
def RBookEq (C : Addr) (ds : List D) (d : D) : Prop := (∃ l m, Shs l ∧ Shs m ∧ ds = [bookD C l, bookD C m] ∧ d = .bool ((D.list (l.map Sh.d)).eqb (.list (m.map Sh.d)))) ∨ ∃ l y, Shs l ∧ y.ty ∈ others ∧ ds = [bookD C l, y] ∧ d = .bool false
theorem ef_shapes {F : Fp} {Δ : List Sl} {te : TE} {E : XK} {C : Addr} {l : List Sh} (h : Ev1 F te Δ (bookD C l)) : EvF F (tMeth C "shapes" (SpD false true (RShapes C)) [] E te tNil) Δ fun r => r = l.map Sh.d :=
  (ef_methD h ea_nil (fun ds e => by subst e; exact ⟨_, l, rfl, rfl⟩)).imp fun r ⟨ds, e, l', h1, h2⟩ => by
    subst e
    simp only [List.cons.injEq, and_true] at h1
    rw [book_inj h1]
    simpa using h2
theorem shs_ok {l : List Sh} (h : ∀ s ∈ l, s.okW) : (D.list (l.map Sh.d)).eqOk := D.okn_ok (by
  show oknL 63 (l.map Sh.d) = true
  refine oknL_of fun d hd => ?_
  obtain ⟨s, hs, rfl⟩ := List.mem_map.mp hd
  have o := h s hs
  have k1 : (D.str (txt s.w)).okn 62 = true := okn_txt (wd_128 o.w)
  have k2 : (D.str (txt s.c)).okn 62 = true := okn_txt (wd_128 o.c)
  have k3 : (D.tuple (txts s.bs)).okn 62 = true := by
    show oknL 61 (txts s.bs) = true
    refine oknL_of fun d hd => ?_
    obtain ⟨w, hw, rfl⟩ := List.mem_map.mp hd
    exact okn_txt (wd_128 (o.bs w hw))
  show oknL 62 [.str (txt s.w), .str (txt s.c), .tuple (txts s.bs)] = true
  simp only [oknL, k1, k2, k3, Bool.and_self])
theorem oth_ty {y : D} (h : y.ty ∈ others) : y.ty ≠ "?" := fun e => by rw [e] at h; exact absurd h (by decide)
abbrev s_Book___eq__ : Stmt := inClass (top 21) 1
theorem sc_Book___eq__ : FnScope ["self", "other"] ["self", "other"] (defScope s_Book___eq__) := ⟨rfl, rfl, rfl, by decide +kernel, rfl, by decide +kernel, by decide +kernel⟩
theorem ok_Book_eq {k : Nat} {f : Addr} {fd : FuncData} (T : Tx K mg) (U : Tb P K mg) (M_shapes : MethT P w K mg base k (clsOf mg "Book") "shapes" ["self"] (SpD false true (RShapes (clsOf mg "Book")))) (Fu : Fun K "__eq__" "Book.__eq__" s_Book___eq__ f fd) : FnOk P w K mg base CX0 (k + 1) f fd ["self", "other"] (SpD false false (RBookEq (clsOf mg "Book"))) := by
  refine ok_D Fu sc_Book___eq__ (fun ds d h => by rcases h with ⟨_, _, _, _, e, _⟩ | ⟨_, _, _, _, e, _⟩ <;> rw [e] <;> rfl) fun cdv A outer s H E hr => ?_
  have hu2 : (A.deeper (envOfC "Book.__eq__" (defScope s_Book___eq__) s.heap.objs.size f cdv)).units + 65 < cLine := by have := hr.un; omega
  refine ⟨_, (pss_one (ps_ret (pe_and (pe_callB ((qIsC U.i_Book).or (qIsi (K := K))) (by rfl) T.n_isinstance (by decide +kernel) (pa_cons (pv 1) (pa_cons (pe_glob (v := V.ref _) rfl U.g_Book rfl) pa_nil))) (pe_one (pe_cmpR (qEq (K := K) hu2) (pe_methT0 M_shapes hr (pv 0)) (pe_methT0 M_shapes hr (pv 1)) (nomark _)))))), fun F ds hF hR => ?_⟩
  rcases hR with ⟨_, ⟨l, m, hl, hm, rfl, rfl⟩ | ⟨l, y, hl, hy, rfl, rfl⟩⟩
  · refine run_ret1 ((ev_andV (a := true) (b := (D.list (l.map Sh.d)).eqb (.list (m.map Sh.d))) (ev_isC2 (fs := bookF m) (ev_var rfl)) fun _ => ev_eqD (ef_shapes (ev_var rfl)).val1 (ef_shapes (ev_var rfl)).val1 (shs_ok hl.okw) (shs_ok hm.okw)).eq (by rw [Bool.true_and])) (.inl ⟨l, m, hl, hm, rfl, rfl⟩)
  · exact run_ret1 ((ev_andV (a := false) (b := true) (ev_isN2 (ev_var rfl) (oth_ty hy) (U.o_Book _ hy)) fun h => nomatch h).eq rfl) (.inr ⟨l, y, hl, hy, rfl, rfl⟩)
end
end K02

namespace Bc
open PySem L2 PySem.Spec PyProof.Rows
section
variable {F : Fp} {fr : Bool} {Δ : List Sl} {te : TE} {po : Po}
theorem run_parF2 {i j : Nat} {tb : TE} {u : TS} {Pa : List D → Prop} {Pb : D → Prop} (hb : EvR F tb Δ Pb) (h : EvF F te Δ Pa) (hj : j < Δ.length) (hij : i ≠ j) (k : ∀ ds d, Pa ds → Pb d → Bc.Run F fr u ((Δ.set i (.v d)).set j (.own ds)) po) : Bc.Run F fr (tSeq (tPar i j (tCons tb (tCons te tNil))) u) Δ po := fun S0 H0 B S H σ E w gb st r => by
  refine hb H0 S H σ w st _ fun d v S1 H1 pb g1 hv => ?_
  refine h H0 S1 H1 σ (g1.ok w) (st.mono g1) _ fun ds p xs S2 H2 pa g2 hp h2 hs hd => ?_
  have g := g1.trans g2
  have h0 : H0 p = Option.none := by
    cases e : H0 p with
    | none => rfl
    | some o =>
      obtain ⟨o', e'⟩ := gb.g.m p o e
      obtain ⟨o2, e2⟩ := g1.m p o' e'
      rw [hp] at e2
      cases e2
  have st1 : StD F S1 H1 H0 (σ.set i (some v)) (Δ.set i (.v d)) := (st.mono g1).setV hv
  exact ⟨v, .ref p, rfl, k ds d pa pb S0 H0 B S2 H2 _ E (g.ok w) (gb.step g) (st1.setOwn g2 hp h0 h2 hs hd) r⟩
end
end Bc
namespace K02
open PySem L2 PySem.Spec PyProof.Rows Bc
open Lex (endOf run lexAt Lm Lk lexL lexF blanks)
/-! ### bags -/
structure Js (l : List Sh) (js : List Jt) : Prop where
  wd : ∀ j ∈ js, Wd j.1 ∧ Wd j.2
  rt : ∀ j ∈ js, j.1 ≠ cRoot
  mem : ∀ j ∈ js, j.2 ∈ l.map Sh.w
  nd : (js.map Prod.fst).Nodup
  n : js.length ≤ 2000
def isJ (x : D) (js : List Jt) : Prop := x = .list (js.map jd) ∨ x = .tuple (js.map jd)
theorem isJ_inj {x : D} {l m : List Jt} (h1 : isJ x l) (h2 : isJ x m) : l = m := by
  rcases h1 with rfl | rfl <;> rcases h2 with h | h <;> first | cases h | skip
  · injection h with h; exact jds_inj h
  · injection h with h; exact jds_inj h
def isW (l : List Sh) (x : D) : Bool := inS (l.map fun s => txt s.w) x
def wrongJ (l : List Sh) (x : D) (ns : List (List Nat)) : Option (List D) := match x with
  | .tuple [a, b] => if !wordB a || (decide (wOf a = cRoot) || decide (wOf a ∈ ns)) then some [.int 0] else if isW l b then none else some [.int 1]
  | _ => some []
def wrongG (l : List Sh) : Nat → List (List Nat) → List D → Option (List D)
  | _, _, [] => none
  | k, ns, x :: r => match wrongJ l x ns with
    | some q => some (.int (k : Nat) :: q)
    | none => wrongG l (k + 1) (ns ++ [wOf (hd0 x)]) r
/-- where a bag is wrong -/
def wrongB (l : List Sh) : D → Option (List D)
  | .list r => wrongG l 0 [] r
  | .tuple r => wrongG l 0 [] r
  | _ => some []
theorem wrongB_l {l : List Sh} {x : D} {r : List D} (h : x = .list r ∨ x = .tuple r) : wrongB l x = wrongG l 0 [] r := by rcases h with rfl | rfl <;> rfl
theorem wrongB_no {l : List Sh} {x : D} (h : listB x = false) : wrongB l x = some [] := by
  cases x <;> first | rfl | (simp only [listB, D.ty] at h; exact absurd h (by decide))
theorem row2 {x : D} (h : rowB x 2 = true) : ∃ a b, x = .tuple [a, b] := by
  cases x with
  | tuple l =>
    simp only [rowB, decide_eq_true_eq] at h
    match l, h with
    | [a, b], _ => exact ⟨a, b, rfl⟩
  | _ => cases h
theorem wrongJ_row {l : List Sh} {x : D} {ns : List (List Nat)} (h : rowB x 2 = false) : wrongJ l x ns = some [] := by
  unfold wrongJ
  split
  · simp [rowB] at h
  · rfl
theorem isW_mem {l : List Sh} {x : D} (h : isW l x = true) : ∃ s ∈ l, x = .str (txt s.w) := by
  cases x with
  | str z =>
    simp only [isW, inS, decide_eq_true_eq] at h
    obtain ⟨s, hs, e⟩ := List.mem_map.mp h
    exact ⟨s, hs, by rw [e]⟩
  | _ => cases h
theorem isW_of {l : List Sh} {s : Sh} (h : s ∈ l) : isW l (.str (txt s.w)) = true := by
  simp only [isW, inS, decide_eq_true_eq]
  exact List.mem_map_of_mem h
theorem wrongJ_none {l : List Sh} {x : D} {ns : List (List Nat)} (h : wrongJ l x ns = none) : ∃ (j : Jt), Wd j.1 ∧ j.1 ≠ cRoot ∧ j.1 ∉ ns ∧ j.2 ∈ l.map Sh.w ∧ x = jd j := by
  unfold wrongJ at h
  split at h
  · rename_i a b
    cases ha : wordB a
    · rw [ha] at h; simp at h
    · obtain ⟨w, hw, rfl⟩ := wordB_wd ha
      rw [ha, wOf_txt] at h
      by_cases hr : w = cRoot
      · rw [decide_eq_true hr] at h; simp at h
      · by_cases hm : w ∈ ns
        · rw [decide_eq_true hm] at h; simp at h
        · rw [decide_eq_false hr, decide_eq_false hm] at h
          cases hb : isW l b
          · rw [hb] at h; simp at h
          · obtain ⟨s, hs, rfl⟩ := isW_mem hb
            exact ⟨(w, s.w), hw, hr, hm, List.mem_map_of_mem hs, rfl⟩
  · cases h
theorem wrongJ_ok {l : List Sh} {j : Jt} {ns : List (List Nat)} (h1 : Wd j.1) (h2 : j.1 ≠ cRoot) (h3 : j.1 ∉ ns) (h4 : j.2 ∈ l.map Sh.w) : wrongJ l (jd j) ns = none := by
  obtain ⟨s, hs, e⟩ := List.mem_map.mp h4
  unfold wrongJ jd
  simp only [wordB_of h1, wOf_txt, decide_eq_false h2, decide_eq_false h3, Bool.not_true, Bool.or_self]
  rw [if_neg (by decide), ← e, if_pos (isW_of hs)]
theorem hd_j (j : Jt) : wOf (hd0 (jd j)) = j.1 := wOf_txt j.1
theorem wrongG_none {l : List Sh} : ∀ {r : List D} {k : Nat} {ns : List (List Nat)}, wrongG l k ns r = none → ∃ js : List Jt, r = js.map jd ∧ (∀ j ∈ js, Wd j.1 ∧ j.1 ≠ cRoot ∧ j.2 ∈ l.map Sh.w) ∧ (js.map Prod.fst).Nodup ∧ ∀ j ∈ js, j.1 ∉ ns
  | [], _, _, _ => ⟨[], rfl, by simp, by simp, by simp⟩
  | x :: r, k, ns, h => by
    unfold wrongG at h
    cases e : wrongJ l x ns with
    | some q => rw [e] at h; cases h
    | none =>
      rw [e] at h
      obtain ⟨j, h1, h2, h3, h4, rfl⟩ := wrongJ_none e
      simp only [hd_j] at h
      obtain ⟨js, rfl, k1, k2, k3⟩ := wrongG_none h
      refine ⟨j :: js, rfl, fun t ht => ?_, ?_, fun t ht => ?_⟩
      · rcases List.mem_cons.mp ht with rfl | ht
        · exact ⟨h1, h2, h4⟩
        · exact k1 t ht
      · rw [List.map_cons, List.nodup_cons]
        refine ⟨fun z => ?_, k2⟩
        obtain ⟨t, ht, e⟩ := List.mem_map.mp z
        exact k3 t ht (by rw [e]; simp)
      · rcases List.mem_cons.mp ht with rfl | ht
        · exact h3
        · exact fun z => k3 t ht (List.mem_append.mpr (.inl z))
theorem wrongG_ok {l : List Sh} : ∀ {js : List Jt} {k : Nat} {ns : List (List Nat)}, (∀ j ∈ js, Wd j.1 ∧ j.1 ≠ cRoot ∧ j.2 ∈ l.map Sh.w) → (js.map Prod.fst).Nodup → (∀ j ∈ js, j.1 ∉ ns) → wrongG l k ns (js.map jd) = none
  | [], _, _, _, _, _ => rfl
  | j :: js, k, ns, h1, h2, h3 => by
    rw [List.map_cons, List.nodup_cons] at h2
    rw [List.map_cons]
    unfold wrongG
    obtain ⟨a1, a2, a3⟩ := h1 j (List.mem_cons_self ..)
    rw [wrongJ_ok a1 a2 (h3 j (List.mem_cons_self ..)) a3, hd_j]
    refine wrongG_ok (fun t ht => h1 t (List.mem_cons_of_mem _ ht)) h2.2 fun t ht z => ?_
    rcases List.mem_append.mp z with z | z
    · exact h3 t (List.mem_cons_of_mem _ ht) z
    · rw [List.mem_singleton] at z
      exact h2.1 (z ▸ List.mem_map_of_mem ht)
theorem wrongB_ok {l : List Sh} {x : D} {js : List Jt} (h : Js l js) (hx : isJ x js) : wrongB l x = none := by
  have : wrongG l 0 [] (js.map jd) = none := wrongG_ok (fun j hj => ⟨(h.wd j hj).1, h.rt j hj, h.mem j hj⟩) h.nd (by simp)
  rcases hx with rfl | rfl <;> exact this
theorem gv_jd {j : Jt} (h1 : Wd j.1) (h2 : Wd j.2) : gv (jd j) = true := gv_tup.mpr fun d hd => by
  simp only [List.mem_cons, List.not_mem_nil, or_false] at hd
  rcases hd with rfl | rfl
  · exact gv_wd h1
  · exact gv_wd h2
theorem gv_js {l : List Sh} {x : D} {js : List Jt} (h : Js l js) (hx : isJ x js) : gv x = true := by
  have : ∀ d ∈ js.map jd, gv d = true := fun d hd => by
    obtain ⟨j, hj, rfl⟩ := List.mem_map.mp hd
    exact gv_jd (h.wd j hj).1 (h.wd j hj).2
  rcases hx with rfl | rfl
  · exact gv_lst.mpr this
  · exact gv_tup.mpr this
theorem wrongB_none {l : List Sh} {x : D} (hl : Shs l) (sx : dsz x ≤ 2000) (h : wrongB l x = none) : ∃ js, isJ x js ∧ Js l js := by
  have key : ∀ {r : List D}, dszL r ≤ 2000 → wrongG l 0 [] r = none → ∃ js : List Jt, r = js.map jd ∧ Js l js := fun {r} hs h => by
    obtain ⟨js, rfl, h1, h2, _⟩ := wrongG_none h
    refine ⟨js, rfl, ⟨fun j hj => ⟨(h1 j hj).1, ?_⟩, fun j hj => (h1 j hj).2.1, fun j hj => (h1 j hj).2.2, h2, ?_⟩⟩
    · obtain ⟨s, hs, e⟩ := List.mem_map.mp (h1 j hj).2.2
      rw [← e]
      exact (hl.ok s hs).w
    · have := dszL_len (js.map jd)
      rw [List.length_map] at this
      omega
  cases x with
  | list r =>
    simp only [dsz] at sx
    obtain ⟨js, rfl, hj⟩ := key (by omega) h
    exact ⟨js, .inl rfl, hj⟩
  | tuple r =>
    simp only [dsz] at sx
    obtain ⟨js, rfl, hj⟩ := key (by omega) h
    exact ⟨js, .inr rfl, hj⟩
  | _ => cases h
theorem lay_wds {ws : List (List Nat)} (h : ∀ w ∈ ws, Wd w) : PyData.canLayAll0 ((ws.map txt).map PyData.str) = true := by
  have := (oknL_py 8 (txts ws) (oknL_of fun d hd => by
    obtain ⟨w, hw, rfl⟩ := List.mem_map.mp hd
    exact okn_txt (wd_128 (h w hw)))).2.1
  have e : pyL (txts ws) = (ws.map txt).map PyData.str := by
    clear this h
    induction ws with
    | nil => rfl
    | cons w ws ih => simp only [txts, List.map_cons, pyL, D.py] at ih ⊢; rw [ih]
  rwa [e] at this
mutual
theorem gv_pok : ∀ (d : D), gv d = true → d.prOk = true
  | .none, _ => rfl
  | .bool _, _ => rfl
  | .int _, _ => rfl
  | .str _, _ => rfl
  | .dict kvs, h => by
    simp only [gv, List.isEmpty_iff] at h
    subst h
    rfl
  | .list l, h => by simp only [D.prOk]; exact gvL_pok l (by simpa only [gv] using h)
  | .tuple l, h => by simp only [D.prOk]; exact gvL_pok l (by simpa only [gv] using h)
  | .obj _ _, h => by simp [gv] at h
  | .exc _ _, h => by simp [gv] at h
  | .ref _, h => by simp [gv] at h
theorem gvL_pok : ∀ (l : List D), gvL l = true → prOkL l = true
  | [], _ => rfl
  | d :: l, h => by
    simp only [gvL, Bool.and_eq_true] at h
    simp only [prOkL, gv_pok d h.1, gvL_pok l h.2, Bool.and_self]
end
theorem gv_lay {x : D} (h : gv x = true) : x.prOk = true ∧ ∀ z', x.pr = .str z' → x.pr.canLay0 = true := by
  cases x with
  | str z =>
    simp only [gv, Bool.and_eq_true, List.all_eq_true, decide_eq_true_eq] at h
    refine ⟨rfl, fun z' _ => ?_⟩
    have := (okn_py 8 (.str z) (by rw [Bc.txt_eta z |>.symm]; exact okn_txt h.1)).2.1
    simpa only [D.py, D.pr] using this
  | none => exact ⟨rfl, fun z' e => by simp [D.pr] at e⟩
  | bool b => exact ⟨rfl, fun z' e => by simp [D.pr] at e⟩
  | int b => exact ⟨rfl, fun z' e => by simp [D.pr] at e⟩
  | list l => exact ⟨(gv_pok _ h), fun z' e => by simp [D.pr] at e⟩
  | tuple l => exact ⟨(gv_pok _ h), fun z' e => by simp [D.pr] at e⟩
  | dict l => exact ⟨(gv_pok _ h), fun z' e => by simp [D.pr] at e⟩
  | obj _ _ => simp [gv] at h
  | exc _ _ => simp [gv] at h
  | ref _ => simp [gv] at h
end K02

namespace K02
open PySem L2 PySem.Spec PyProof.Rows Bc
open Lex (endOf run lexAt Lm Lk lexL lexF blanks)
def shapeOf (l : List Sh) (w : List Nat) : D := (((rowsD l).find? fun q => decide (q.1 = .inr (txt w))).map (·.2)).getD .none
theorem shapeOf_of {l : List Sh} (hl : Shs l) {w : List Nat} (h : w ∈ l.map Sh.w) : ∃ s ∈ l, s.w = w ∧ shapeOf l w = s.d := by
  obtain ⟨s, hs, rfl⟩ := List.mem_map.mp h
  refine ⟨s, hs, rfl, ?_⟩
  unfold shapeOf
  rw [rows_find hl.nd hs]
  rfl
abbrev bagRows (l : List Sh) (js : List Jt) : List (Key × D) := js.map fun j => (.inr (txt j.1), shapeOf l j.2)
abbrev bagF (B : Addr) (l : List Sh) (js : List Jt) : FS := [("own_book", bookD B l), ("own_joints", .tuple (js.map jd)), ("own_shapes", .dict (bagRows l js))]
def bagD (C B : Addr) (l : List Sh) (js : List Jt) : D := .obj C (bagF B l js)
theorem bag_inj {C B : Addr} {l m : List Sh} {js ks : List Jt} (h : bagD C B l js = bagD C B m ks) : l = m ∧ js = ks := by
  simp only [bagD, D.obj.injEq, bagF, List.cons.injEq, Prod.mk.injEq, D.tuple.injEq, and_true, true_and] at h
  exact ⟨book_inj h.1, jds_inj h.2.1⟩
theorem js_okn {l : List Sh} {js : List Jt} (h : Js l js) : oknL 63 (js.map jd) = true := oknL_of fun d hd => by
    obtain ⟨s, hs, rfl⟩ := List.mem_map.mp hd
    have k1 : (D.str (txt s.1)).okn 62 = true := okn_txt (wd_128 (h.wd s hs).1)
    have k2 : (D.str (txt s.2)).okn 62 = true := okn_txt (wd_128 (h.wd s hs).2)
    show oknL 62 [.str (txt s.1), .str (txt s.2)] = true
    simp only [oknL, k1, k2, Bool.and_self]
theorem js_ok {l : List Sh} {js : List Jt} (h : Js l js) : (D.tuple (js.map jd)).eqOk ∧ (D.list (js.map jd)).eqOk := ⟨D.okn_ok (js_okn h), D.okn_ok (js_okn h)⟩
def firstG (l : List Sh) (x : D) : D := match wrongB l x with
  | some q => .tuple q
  | none => .none
theorem ef_words {F : Fp} {Δ : List Sl} {te : TE} {E : XK} {C : Addr} {l : List Sh} (h : Ev1 F te Δ (bookD C l)) : EvF F (tMeth C "words" (SpD false true (RWords C)) [] E te tNil) Δ fun r => r = txts (l.map Sh.w) :=
  (ef_methD h ea_nil (fun ds e => by subst e; exact ⟨_, l, rfl, rfl⟩)).imp fun r ⟨ds, e, l', h1, h2⟩ => by
    subst e
    simp only [List.cons.injEq, and_true] at h1
    rw [book_inj h1]
    simpa using h2
theorem Shs.wds {l : List Sh} (h : Shs l) : ∀ w ∈ l.map Sh.w, Wd w := fun w hw => by
  obtain ⟨s, hs, rfl⟩ := List.mem_map.mp hw
  exact (h.ok s hs).w
theorem ev_ninW {F : Fp} {Δ : List Sl} {ta tb : TE} {x : D} {l : List Sh} (hl : Shs l) (gx : gv x = true) (ha : Ev1 F ta Δ x) (hb : Ev1 F tb Δ (.list (txts (l.map Sh.w)))) : Ev1 F (tOp Bc.rNotInS ta tb) Δ (.bool (!isW l x)) := by
  have e : txts (l.map Sh.w) = (l.map fun s => txt s.w).map D.str := by simp [txts]
  have e2 : (l.map fun s => txt s.w) = (l.map Sh.w).map txt := by simp
  rw [e] at hb
  exact ev_ninS ha hb (gv_lay gx).1 (by rw [e2]; exact lay_wds hl.wds) (gv_lay gx).2
section
variable {P : Program} {w : World} {K : PySem.W.Frag} {mg : Str → Option Value} {base : Heap}
def RFirstG (B : Addr) (ds : List D) (d : D) : Prop := ∃ l x, Shs l ∧ gv x = true ∧ dsz x ≤ 2000 ∧ ds = [bookD B l, x] ∧ d = firstG l x
abbrev s_first_wrong_bags : Stmt := top 14
theorem sc_first_wrong_bags : FnScope ["book", "joints", "words", "names", "k", "joint"] ["book", "joints"] (defScope s_first_wrong_bags) := ⟨rfl, rfl, rfl, by decide +kernel, rfl, by decide +kernel, by decide +kernel⟩
theorem ok_first_wrong_bags {k : Nat} {f : Addr} {fd : FuncData} (T : Tx K mg) (sb : SysB base) (G_is_list : FnT P w K mg base k "is_list" ["value"] (SpD false false RIsList)) (G_is_row : FnT P w K mg base k "is_row" ["value", "many"] (SpD false false RIsRow)) (G_is_word : FnT P w K mg base k "is_word" ["value"] (SpD false false RIsWord))
    (M_words : MethT P w K mg base k (clsOf mg "Book") "words" ["self"] (SpD false true (RWords (clsOf mg "Book")))) (Fu : Fun K "first_wrong" "first_wrong" s_first_wrong_bags f fd) : FnOk P w K mg base CX0 (k + 1) f fd ["book", "joints"] (SpD false false (RFirstG (clsOf mg "Book"))) := by
  refine ok_D Fu sc_first_wrong_bags (fun ds d ⟨_, _, _, _, _, e, _⟩ => by rw [e]; rfl) fun cdv A outer s H E hr => ?_
  have hu2 : (A.deeper (envOfC "first_wrong" (defScope s_first_wrong_bags) s.heap.objs.size f cdv)).units + 65 < cLine := by have := hr.un; omega
  refine ⟨_, (pss_cons (ps_if (pt_not (pt_val (pe_callT G_is_list hr (pa_cons (pv 1) pa_nil))))
      (pss_one (ps_ret (pe_tup pa_nil)))
      pss_nil)
    (pss_cons (ps_par (i := 2) (j := 3) rfl sc_first_wrong_bags.nd rfl rfl (by decide) rfl rfl (pa_cons (pe_methT0 M_words hr (pv 0)) (pa_cons (pe_lst pa_nil) pa_nil)) (by rfl))
    (pss_cons (ps_for PassesOwn.never rfl (pi_enumX (K := K) (by rfl) T.n_enumerate (pa_cons (pv 1) pa_nil)) (qg_tup (K := K) rfl (pgs_cons (pg_name (i := 4) sc_first_wrong_bags.nd rfl (Or.inl rfl)) (pgs_cons (pg_name (i := 5) sc_first_wrong_bags.nd rfl (Or.inl rfl)) pgs_nil)))
      (pss_cons (ps_if (pt_not (pt_val (pe_callT G_is_row hr (pa_cons (pv 5) (pa_cons pe_int pa_nil)))))
        (pss_one (ps_ret (pe_tup (pa_cons (pv 4) pa_nil))))
        pss_nil)
      (pss_cons (ps_if (PW.pt (pw_or (pt_not (pt_val (pe_callT G_is_word hr (pa_cons (pe_ix (qIx (K := K)) (pv 5) pe_int (fun _ _ => rfl)) pa_nil)))) (pw_or (pt_cmpR (qEq (K := K) hu2) (pe_ix (qIx (K := K)) (pv 5) pe_int (fun _ _ => rfl)) pe_str (nomark _)) (pw_or1 (pt_cmpR (qIn (K := K) hu2) (pe_ix (qIx (K := K)) (pv 5) pe_int (fun _ _ => rfl)) (pv 3) rfl)))))
        (pss_one (ps_ret (pe_tup (pa_cons (pv 4) (pa_cons pe_int pa_nil)))))
        pss_nil)
      (pss_cons (ps_if (pt_cmpR (qNotInS sb hu2) (pe_ix (qIx (K := K)) (pv 5) pe_int (fun _ _ => rfl)) (pv 2) rfl)
        (pss_one (ps_ret (pe_tup (pa_cons (pv 4) (pa_cons pe_int pa_nil)))))
        pss_nil)
      (pss_one (ps_expr (qBm (K := K) PySem.F.plainAttrs_list PySem.F.slot_list_append PySem.F.type_list_append mt_append (pv 3) (pa_cons (pe_ix (qIx (K := K)) (pv 5) pe_int (fun _ _ => rfl)) pa_nil))))))))
    (pss_one (ps_ret pe_non))))), fun F ds hF hR => ?_⟩
  obtain ⟨_, l, x, hl, gx, sx, rfl, _⟩ := hR
  have rt : ("root" : Str) = txt cRoot := by decide +kernel
  have got : ∀ {q : List D}, wrongB l x = some q → RFirstG (clsOf mg "Book") [bookD (clsOf mg "Book") l, x] (.tuple q) := fun e => ⟨l, x, hl, gx, sx, rfl, by rw [firstG, e]⟩
  cases hlb : listB x
  · exact run_if1S (b := true) ((et_not1 (et_B1 (ev_islist gx (ev_var (i := 1) rfl)))).eq (by rw [hlb]; rfl)) (fun _ => run_ret1S (ev_tup ea_nil) (got (wrongB_no hlb))) fun h => nomatch h
  obtain ⟨r, hx⟩ := lst_or hlb
  have gl := gv_l gx hx
  have sl : dszL r ≤ 2000 := by have := dsz_l hx; omega
  have ll := dszL_len r
  refine run_if1S (b := false) ((et_not1 (et_B1 (ev_islist gx (ev_var (i := 1) rfl)))).eq (by rw [hlb]; rfl)) (fun h => nomatch h) fun _ => run_nextS ?_
  refine run_parF2 (Pa := fun r => r = []) (ef_words (ev_var rfl)).val1 (ef_lst ea_nil) (by show 3 < 6; decide) (by decide) fun r0 d e1 e2 => ?_
  subst e1 e2
  refine run_seqM (N := fun _ => wrongB l x = none) ?_ fun Δ e => run_ret1 ev_non ⟨l, x, hl, gx, sx, rfl, by rw [firstG, e]⟩
  refine run_for (ds := pairsD 0 r) (ei_enum (x := x) (ea_cons1 (ev_var rfl) ea_nil) hx) (fun i Δ => ∃ (ns : List (List Nat)) (s4 s5 : Sl), wrongB l x = wrongG l i ns (r.drop i) ∧ (∀ y ∈ ns, Wd y) ∧ ns.length = i ∧ Δ = [.v (bookD (clsOf mg "Book") l), .v x, .v (.list (txts (l.map Sh.w))), .own (txts ns), s4, s5]) ⟨[], _, _, wrongB_l hx, by simp, rfl, rfl⟩ ?_ ?_
  · rintro i d Δ hd ⟨ns, s4, s5, he, hw, hli, rfl⟩
    obtain ⟨y, hy, rfl⟩ := pairs_at hd
    have gy := gl y (List.mem_of_getElem? hy)
    obtain ⟨hlt, hye⟩ := List.getElem?_eq_some_iff.mp hy
    have dr : r.drop i = y :: r.drop (i + 1) := by rw [← hye]; exact List.drop_eq_getElem_cons hlt
    rw [dr, wrongG] at he
    have got2 : ∀ {q : List D}, wrongJ l y ns = some q → RFirstG (clsOf mg "Book") [bookD (clsOf mg "Book") l, x] (.tuple (.int ((0 + i : Nat) : Int) :: q)) := fun e => got (by rw [he, e, Nat.zero_add])
    refine ⟨_, _, eg_tup rfl (egs_cons eg_name (egs_cons eg_name egs_nil)), ?_⟩
    cases hrow : rowB y 2
    · exact run_if1S (b := true) ((et_not1 (et_B1 (ev_isrow (n := 2) gy (ev_var rfl) ev_int))).eq (by rw [hrow]; rfl)) (fun _ => run_ret1S (ev_tup (ea_cons1 (ev_var rfl) ea_nil)) (got2 (wrongJ_row hrow))) fun h => nomatch h
    obtain ⟨a, b, rfl⟩ := row2 hrow
    have ga := gv_tup.mp gy a (by simp)
    have gb := gv_tup.mp gy b (by simp)
    refine run_if1S (b := false) ((et_not1 (et_B1 (ev_isrow (n := 2) gy (ev_var rfl) ev_int))).eq rfl) (fun h => nomatch h) fun _ => run_nextS ?_
    cases ha : wordB a
    · exact run_if1S (b := true) ((et_or1 (a := true) (b := true) ((et_not1 (et_B1 (ev_isword ga (ev_ixU (q := 0) (ev_var rfl) ev_int rfl)))).eq (by rw [ha]; rfl)) fun h => nomatch h).eq rfl) (fun _ => run_ret1S (ev_tup (ea_cons1 (ev_var rfl) (ea_cons1 ev_int ea_nil))) (got2 (q := [.int 0]) (by simp only [wrongJ]; rw [ha]; rfl))) fun h => nomatch h
    obtain ⟨v, hv, rfl⟩ := wordB_wd ha
    have tst := et_thaw (i := 3) (Δ := [.v (bookD (clsOf mg "Book") l), .v x, .v (.list (txts (l.map Sh.w))), .own (txts ns), .v (.int ((0 + i : Nat) : Int)), .v (.tuple [.str (txt v), b])]) rfl (et_or1 (F := F) (a := false) (b := decide (v = cRoot) || decide (v ∈ ns)) ((et_not1 (et_B1 (ev_isword (E := E0) ga (ev_ixU (K := K) (q := 0) (ev_var (i := 5) rfl) ev_int rfl)))).eq (by rw [ha]; rfl)) fun _ => et_or1 (et_test1 ((ev_eqZ (K := K) (ev_ixU (K := K) (q := 0) (ev_var (i := 5) rfl) ev_int rfl) (ev_str (i := "root"))).eq (congrArg D.bool (show decide (txt v = "root") = decide (v = cRoot) by rw [rt]; exact decide_eq_decide.mpr txt_iff)))) fun _ => et_test1 (ev_inW (K := K) (neg := false) hv hw (ev_ixU (K := K) (q := 0) (ev_var (i := 5) rfl) ev_int rfl) (ev_var (i := 3) rfl)))
    have w0 : wrongJ l (.tuple [.str (txt v), b]) ns = if (decide (v = cRoot) || decide (v ∈ ns)) then some [.int 0] else if isW l b then none else some [.int 1] := by
      simp only [wrongJ]
      rw [ha, wOf_txt, Bool.not_true, Bool.false_or]
    cases hm : (decide (v = cRoot) || decide (v ∈ ns))
    · rw [hm, if_neg (by decide)] at w0
      refine run_if1S (b := false) (tst.eq (by rw [hm] <;> rfl)) (fun h => nomatch h) fun _ => run_nextS ?_
      cases hb : isW l b
      · rw [hb, if_neg (by decide)] at w0
        exact run_if1S (b := true) ((et_test1 (ev_ninW hl gb (ev_ixU (q := 1) (ev_var rfl) ev_int rfl) (ev_var rfl))).eq (by rw [hb]; rfl)) (fun _ => run_ret1S (ev_tup (ea_cons1 (ev_var rfl) (ea_cons1 ev_int ea_nil))) (got2 (q := [.int 1]) w0)) fun h => nomatch h
      · rw [hb, if_pos rfl] at w0
        refine run_if1S (b := false) ((et_test1 (ev_ninW hl gb (ev_ixU (q := 1) (ev_var rfl) ev_int rfl) (ev_var rfl))).eq (by rw [hb]; rfl)) (fun h => nomatch h) fun _ => run_nextS ?_
        rw [w0] at he
        refine run_app (i := 3) rfl (ev_ixU (q := 0) (ev_var rfl) ev_int rfl) ?_ fun d ed => ⟨ns ++ [v], .v (.int ((0 + i : Nat) : Int)), .v (.tuple [.str (txt v), b]), ?_, ?_, ?_, ?_⟩
        · have : (100000 : Nat) < sizeLine := by decide
          simp only [List.length_map]
          omega
        · rw [he]
          show wrongG l (i + 1) (ns ++ [wOf (.str (txt v))]) _ = _
          rw [wOf_txt]
        · intro z hz
          rcases List.mem_append.mp hz with hz | hz
          · exact hw z hz
          · rw [List.mem_singleton] at hz
            exact hz ▸ hv
        · simp [hli]
        · rw [ed]
          simp [txts, List.map_append]
    · rw [hm, if_pos rfl] at w0
      exact run_if1S (b := true) (tst.eq (by rw [hm] <;> rfl)) (fun _ => run_ret1S (ev_tup (ea_cons1 (ev_var rfl) (ea_cons1 ev_int ea_nil))) (got2 (q := [.int 0]) w0)) fun h => nomatch h
  · rintro Δ ⟨ns, _, _, he, _⟩
    show wrongB l x = none
    rw [he, Bc.pairs_len, List.drop_length]
    rfl
/-! the class -/
def RBag (B : Addr) (fs : FS) (ds : List D) (d : D) (fs' : FS) : Prop := ∃ l x js, Shs l ∧ Js l js ∧ isJ x js ∧ dsz x ≤ 2000 ∧ fs = [] ∧ ds = [bookD B l, x] ∧ d = .none ∧ fs' = bagF B l js
def XBag (B C : Addr) : RX1 := fun ds c f => ∃ l x q, Shs l ∧ gv x = true ∧ dsz x ≤ 2000 ∧ wrongB l x = some q ∧ ds = [bookD B l, x] ∧ c = .ref C ∧ f = some [(("path" : Str), .tuple q)]
theorem ev_firstG {F : Fp} {Δ : List Sl} {ta te : TE} {E : XK} {B : Addr} {l : List Sh} {x : D} (hl : Shs l) (gx : gv x = true) (sx : dsz x ≤ 2000) (ha : Ev1 F ta Δ (bookD B l)) (h : Ev1 F te Δ x) : Ev1 F (tCall (SpD false false (RFirstG B)) [] E (tCons ta (tCons te tNil))) Δ (firstG l x) :=
  ev_call1 (ea_cons1 ha (ea_cons1 h ea_nil)) ⟨l, x, hl, gx, sx, rfl, rfl⟩ fun e ⟨l', y, _, _, _, h1, h2⟩ => by
    simp only [List.cons.injEq, and_true] at h1
    rw [h2, book_inj h1.1, h1.2]
abbrev s_Bag___init__ : Stmt := inClass (top 16) 0
theorem sc_Bag___init__ : FnScope ["self", "book", "joints", "path", "name", "word", "!x"] ["self", "book", "joints"] (defScope s_Bag___init__) := ⟨rfl, rfl, rfl, by decide +kernel, rfl, by decide +kernel, by decide +kernel⟩
theorem ok_Bag_init {k : Nat} {f : Addr} {fd : FuncData} (T : Tx K mg) (U : Tb P K mg) (G_first_wrong_bags : FnT P w K mg base k "first_wrong_bags" ["book", "joints"] (SpD false false (RFirstG (clsOf mg "Book")))) (M_shape : MethT P w K mg base k (clsOf mg "Book") "shape" ["self", "word"] (SpD false false (RShape (clsOf mg "Book")))) (Fu : Fun K "__init__" "Bag.__init__" s_Bag___init__ f fd) : FnOk P w K mg base (L2.CX P w) (k + 1) f fd ["self", "book", "joints"] (SpOX (clsOf mg "Bag") false (RBag (clsOf mg "Book")) (XBag (clsOf mg "Book") (clsOf mg "BadBag"))) := by
  refine ok_OX Fu sc_Bag___init__ (fun fs ds h => by rcases h with ⟨_, _, _, _, _, _, _, _, _, _, e, _⟩ | ⟨_, _, _, _, _, _, _, _, _, e, _⟩ <;> rw [e] <;> rfl) (by decide) fun cdv A outer s H E hr tk => ?_
  refine ⟨_, (pss_cons (ps_set (i := 3) sc_Bag___init__.nd rfl (Or.inl rfl) (pe_callT G_first_wrong_bags hr (pa_cons (pv 1) (pa_cons (pv 2) pa_nil))))
    (pss_cons (ps_if (pt_cmpR op_notN (pv 3) pe_non (nomark _))
      (pss_one (ps_raise rfl tk (pmk_XP U.x_BadBag hr (pa_cons (pv 3) pa_nil))))
      pss_nil)
    (pss_cons (ps_fld (pv 0) (pv 1) rfl)
    (pss_cons (ps_fld (pv 0) (pe_callTy (qTuple (K := K)) (by rfl) T.n_tuple (by decide +kernel) (pa_cons (pv 2) pa_nil)) rfl)
    (pss_one (ps_fld (pv 0) (pe_dc (own := [("name", 4), ("word", 5)]) rfl sc_Bag___init__.nd (qi_any (K := K) (pv 2)) (blkOk_by (own := [("name", 4), ("word", 5)]) (N := ["self", "book", "joints", "path", "name", "word", "!x"]) (sc := defScope s_Bag___init__) (by decide +kernel)) (fun _ _ _ _ _ => (qg_tup (K := K) (n := 2) rfl (pgs_cons (pg_name (i := 4) sc_Bag___init__.nd rfl (by first | exact Or.inl rfl | exact Or.inr rfl)) (pgs_cons (pg_name (i := 5) sc_Bag___init__.nd rfl (by first | exact Or.inl rfl | exact Or.inr rfl)) pgs_nil)))) (fun _ _ _ _ _ => pts_nil) (fun _ _ _ _ _ => (pv 4)) (fun _ _ _ _ _ => (pe_methT M_shape hr (pv 1) (pa_cons (pv 5) pa_nil)))) rfl)))))), fun a dx fs ds hR => ?_⟩
  have z : ∀ n ≤ 100000, n ≤ sizeLine := fun n hn => Nat.le_trans hn (by decide)
  rcases hR with ⟨_, _, l, x, js, hl, hj, hx, sx, rfl, rfl, rfl, rfl⟩ | ⟨c, f', l, x, q, hl, gx, sx, hq, rfl, rfl, rfl⟩
  · have hn := hj.n
    have gx := gv_js hj hx
    have ei : ∀ {F : Fp} {Δ : List Sl}, Δ[2]? = some (.v x) → EvI F (iAny K (tVar 2)) Δ fun r => r = js.map jd := fun h => by
      rcases hx with rfl | rfl
      · exact ei_list (ev_var h)
      · exact ei_tup (ev_var h)
    have et : ∀ {F : Fp} {Δ : List Sl}, Δ[2]? = some (.v x) → Ev1 F (tCB (rTupP K) (tCons (tVar 2) tNil)) Δ (.tuple (js.map jd)) := fun h => by
      rcases hx with rfl | rfl
      · exact ev_cb1 sTup (ea_cons1 (ev_var h) ea_nil) rfl
      · exact ev_cb1 sTup (ea_cons1 (ev_var h) ea_nil) rfl
    let X7 : Sl := .xc (WOf E) (XBag (clsOf mg "Book") (clsOf mg "BadBag") [bookD (clsOf mg "Book") l, x]) (List.replicate 7 Option.none)
    refine run_set (d := .none) ((ev_firstG hl gx sx (ev_var rfl) (ev_var rfl)).eq (by rw [firstG, wrongB_ok hj hx])) ?_
    refine run_if1S (b := false) ((et_test1 (ev_notN (ev_var (d := .none) rfl))).eq rfl) (fun h => nomatch h) fun _ => run_nextS ?_
    refine run_fldMS (P := fun d Δ' => d = bookD (clsOf mg "Book") l ∧ Δ' = [.ob a dx (clsOf mg "Bag") [], .v (bookD (clsOf mg "Book") l), .v x, .v .none, .un, .un, X7]) U.c_Bag U.a_own_book (ev_var rfl).m fun d Δ' ⟨e1, e2⟩ => ⟨[], by rw [e2]; rfl, by rw [e2]; rfl, by decide, ?_⟩
    subst e1 e2
    refine run_fldMS (P := fun d Δ' => d = .tuple (js.map jd) ∧ Δ' = [.ob a dx (clsOf mg "Bag") [("own_book", bookD (clsOf mg "Book") l)], .v (bookD (clsOf mg "Book") l), .v x, .v .none, .un, .un, X7]) U.c_Bag U.a_own_joints (et rfl).m fun d Δ' ⟨e1, e2⟩ => ⟨[("own_book", bookD (clsOf mg "Book") l)], by rw [e2]; rfl, by rw [e2]; rfl, by show 1 < 1000; decide, ?_⟩
    subst e1 e2
    refine run_fldM (P := fun d Δ' => d = .dict (bagRows l js) ∧ Δ' = [.ob a dx (clsOf mg "Bag") [("own_book", bookD (clsOf mg "Book") l), ("own_joints", .tuple (js.map jd))], .v (bookD (clsOf mg "Book") l), .v x, .v .none, .un, .un, X7]) U.c_Bag U.a_own_shapes ((ev_dc (ei rfl) (z _ (by simp; omega)) (fun d => match d with | .tuple (.str x :: _) => .inr x | _ => .inl 0) (fun d => match d with | .tuple [_, .str x] => (((rowsD l).find? fun q => decide (q.1 = .inr x)).map (·.2)).getD .none | _ => .none) ?_ fun i d hd => ?_).eq ?_).m fun d Δ' ⟨e1, e2⟩ => ⟨[("own_book", bookD (clsOf mg "Book") l), ("own_joints", .tuple (js.map jd))], by rw [e2]; rfl, by rw [e2]; rfl, by show 2 < 1000; decide, ?_⟩
    · rw [List.map_map]
      have key : (js.map ((fun d => match d with | .tuple (.str x :: _) => (.inr x : Key) | _ => .inl 0) ∘ jd)) = (js.map Prod.fst).map fun w => (.inr (txt w) : Key) := by
        rw [List.map_map]
        rfl
      rw [key]
      refine List.Pairwise.map _ (fun a b h e => h (txt_inj (Sum.inr.inj e))) hj.nd
    · rw [List.getElem?_map, Option.map_eq_some_iff] at hd
      obtain ⟨j, hs, rfl⟩ := hd
      obtain ⟨s, hsl, e1, e2⟩ := shapeOf_of hl (hj.mem j (List.mem_of_getElem? hs))
      refine ⟨[4, 5], _, eg_tup (ds := [.str (txt j.1), .str (txt j.2)]) rfl (egs_cons eg_name (egs_cons eg_name egs_nil)), by simp, ⟨.str (txt j.1), ev_var rfl, rfl⟩, ?_⟩
      refine EvR.to1 (ev_methD (fs := bookF l) (ev_var (i := 1) rfl) (ea_cons1 (ev_var (d := .str (txt j.2)) rfl) ea_nil) fun ds e => ⟨s.d, l, s, hl, hsl, by rw [e, e1]; rfl, rfl⟩) ?_
      rintro d ⟨ds, e, l', s', hl', hs', h1, h2⟩
      subst e
      simp only [List.cons.injEq, D.str.injEq, txt_iff, and_true] at h1
      have := book_inj h1.1
      subst this
      rw [h2]
      show s'.d = shapeOf l j.2
      rw [h1.2]
      unfold shapeOf
      rw [rows_find hl.nd hs']
      rfl
    · rw [List.map_map]
      rfl
    · subst e1 e2
      exact ⟨rfl, _, rfl, l, x, js, hl, hj, hx, sx, rfl, rfl, rfl, rfl⟩
  · refine run_set (d := .tuple q) ((ev_firstG hl gx sx (ev_var rfl) (ev_var rfl)).eq (by rw [firstG, hq])) ?_
    refine run_if1S (b := true) ((et_test1 (ev_notN (ev_var (d := .tuple q) rfl))).eq rfl) (fun _ => ?_) fun h => nomatch h
    exact run_seqM (N := fun _ => False) (run_raiseP (ix := 6) rfl (hm_none rfl) (ev_var rfl) ⟨l, x, q, hl, gx, sx, hq, rfl, rfl, rfl⟩) fun _ z => z.elim
end
end K02

namespace Bc
open PySem L2 PySem.Spec PyProof.Rows
theorem ev_isN3 {F : Fp} {Δ : List Sl} {K : PySem.W.Frag} {C : Addr} {d : D} {t : Value} {te : TE} (h : Ev1 F te Δ d) (hd : TyD K d t) (hb : PySem.W.kitOne K t (.ref C) = some false) : Ev1 F (tCB (fun xs H Q => rIsC C xs H Q ∨ rIsi K xs H Q) (tCons te (tCons (tC (.ref C)) tNil))) Δ (.bool false) := fun H0 S H σ w st Q k => by
  refine h H0 S H σ w st _ fun y v S1 H1 e g1 hv => ?_
  subst e
  exact .inr ⟨v, .ref C, t, .ref C, false, rfl, .own C, hd _ _ _ (g1.ok w).s hv, hb, k _ _ S1 H1 rfl g1 (by simp only [Dt])⟩
end Bc
namespace K02
open PySem L2 PySem.Spec PyProof.Rows Bc
open Lex (endOf run lexAt Lm Lk lexL lexF blanks)
section
variable {P : Program} {w : World} {K : PySem.W.Frag} {mg : Str → Option Value} {base : Heap}
def RJoints (C B : Addr) (ds : List D) (d : D) : Prop := ∃ l js, ds = [bagD C B l js] ∧ d = .list (js.map jd)
abbrev s_Bag_joints : Stmt := inClass (top 16) 3
theorem sc_Bag_joints : FnScope ["self"] ["self"] (defScope s_Bag_joints) := ⟨rfl, rfl, rfl, by decide +kernel, rfl, by decide +kernel, by decide +kernel⟩
theorem ok_Bag_joints {k : Nat} {f : Addr} {fd : FuncData} (T : Tx K mg) (U : Tb P K mg) (Fu : Fun K "joints" "Bag.joints" s_Bag_joints f fd) : FnOk P w K mg base CX0 (k + 1) f fd ["self"] (SpD false true (RJoints (clsOf mg "Bag") (clsOf mg "Book"))) := by
  refine ok_D Fu sc_Bag_joints (fun ds d ⟨_, _, e, _⟩ => by rw [e]; rfl) fun cdv A outer s H E hr => ?_
  refine ⟨_, (pss_one (ps_ret (pe_callTy (qList (K := K)) (by rfl) T.n_list (by decide +kernel) (pa_cons (pe_fld (pv 0) rfl) pa_nil)))), fun F ds hF hR => ?_⟩
  obtain ⟨_, l, js, rfl, rfl⟩ := hR
  exact run_retF (ef_list (es_tuple (ds := js.map jd) (ev_fldD (C := clsOf mg "Bag") (fs := bagF (clsOf mg "Book") l js) (ev_var rfl) U.c_Bag U.a_own_joints rfl))) fun ds e => ⟨l, js, rfl, by rw [e]⟩
def RBNames (C B : Addr) (ds : List D) (d : D) : Prop := ∃ l js, ds = [bagD C B l js] ∧ d = .list (txts (js.map Prod.fst))
abbrev s_Bag_names : Stmt := inClass (top 16) 4
theorem sc_Bag_names : FnScope ["self"] ["self"] (defScope s_Bag_names) := ⟨rfl, rfl, rfl, by decide +kernel, rfl, by decide +kernel, by decide +kernel⟩
theorem ok_Bag_names {k : Nat} {f : Addr} {fd : FuncData} (T : Tx K mg) (U : Tb P K mg) (Fu : Fun K "names" "Bag.names" s_Bag_names f fd) : FnOk P w K mg base CX0 (k + 1) f fd ["self"] (SpD false true (RBNames (clsOf mg "Bag") (clsOf mg "Book"))) := by
  refine ok_D Fu sc_Bag_names (fun ds d ⟨_, _, e, _⟩ => by rw [e]; rfl) fun cdv A outer s H E hr => ?_
  refine ⟨_, (pss_one (ps_ret (pe_callTy (qListD rfl) (by rfl) T.n_list (by decide +kernel) (pa_cons (pe_fld (pv 0) rfl) pa_nil)))), fun F ds hF hR => ?_⟩
  obtain ⟨_, l, js, rfl, rfl⟩ := hR
  refine run_retF (ef_listD (kvs := bagRows l js) (ev_fldD (C := clsOf mg "Bag") (fs := bagF (clsOf mg "Book") l js) (ev_var rfl) U.c_Bag U.a_own_shapes rfl)) fun ds e => ⟨l, js, rfl, ?_⟩
  rw [e, List.map_map, txts, List.map_map]
  rfl
def RGBook (C B : Addr) (ds : List D) (d : D) : Prop := ∃ l js, ds = [bagD C B l js] ∧ d = bookD B l
abbrev s_Bag_book : Stmt := inClass (top 16) 2
theorem sc_Bag_book : FnScope ["self"] ["self"] (defScope s_Bag_book) := ⟨rfl, rfl, rfl, by decide +kernel, rfl, by decide +kernel, by decide +kernel⟩
theorem ok_Bag_book {k : Nat} {f : Addr} {fd : FuncData} (T : Tx K mg) (U : Tb P K mg) (Fu : Fun K "book" "Bag.book" s_Bag_book f fd) : FnOk P w K mg base CX0 (k + 1) f fd ["self"] (SpD false false (RGBook (clsOf mg "Bag") (clsOf mg "Book"))) := by
  refine ok_D Fu sc_Bag_book (fun ds d ⟨_, _, e, _⟩ => by rw [e]; rfl) fun cdv A outer s H E hr => ?_
  refine ⟨_, (pss_one (ps_ret (pe_fld (pv 0) rfl))), fun F ds hF hR => ?_⟩
  obtain ⟨_, l, js, rfl, rfl⟩ := hR
  exact run_ret1 (ev_fldD (C := clsOf mg "Bag") (fs := bagF (clsOf mg "Book") l js) (ev_var rfl) U.c_Bag U.a_own_book rfl) ⟨l, js, rfl, rfl⟩
def hasB (js : List Jt) : D → Bool
  | .str z => js.any fun j => decide (txt j.1 = z)
  | _ => false
theorem rows_has (l : List Sh) (js : List Jt) (z : Str) : ((bagRows l js).any fun q => decide (q.1 = .inr z)) = hasB js (.str z) := by
  rw [List.any_map]
  simp only [hasB]
  congr 1
  funext j
  show decide ((Sum.inr (txt j.1) : Key) = Sum.inr z) = _
  exact decide_eq_decide.mpr ⟨fun e => Sum.inr.inj e, fun e => by rw [e]⟩
def RHas (C B : Addr) (ds : List D) (d : D) : Prop := ∃ l js x, x.ty ≠ "?" ∧ ds = [bagD C B l js, x] ∧ d = .bool (hasB js x)
abbrev s_Bag_has_name : Stmt := inClass (top 16) 5
theorem sc_Bag_has_name : FnScope ["self", "name"] ["self", "name"] (defScope s_Bag_has_name) := ⟨rfl, rfl, rfl, by decide +kernel, rfl, by decide +kernel, by decide +kernel⟩
theorem ok_Bag_has_name {k : Nat} {f : Addr} {fd : FuncData} (T : Tx K mg) (U : Tb P K mg) (Fu : Fun K "has_name" "Bag.has_name" s_Bag_has_name f fd) : FnOk P w K mg base CX0 (k + 1) f fd ["self", "name"] (SpD false false (RHas (clsOf mg "Bag") (clsOf mg "Book"))) := by
  refine ok_D Fu sc_Bag_has_name (fun ds d ⟨_, _, _, _, e, _⟩ => by rw [e]; rfl) fun cdv A outer s H E hr => ?_
  have hu2 : (A.deeper (envOfC "Bag.has_name" (defScope s_Bag_has_name) s.heap.objs.size f cdv)).units + 65 < cLine := by have := hr.un; omega
  refine ⟨_, (pss_one (ps_ret (pe_and (pe_callB (qIsi (K := K)) (by rfl) T.n_isinstance (by decide +kernel) (pa_cons (pv 1) (pa_cons (pe_bltn (by rfl) T.n_str (by decide +kernel) (show RelV (.ty "str") _ from rfl)) pa_nil))) (pe_one (pe_cmpR (qIn (K := K) hu2) (pv 1) (pe_fld (pv 0) rfl) rfl))))), fun F ds hF hR => ?_⟩
  obtain ⟨_, l, js, x, hx, rfl, rfl⟩ := hR
  refine run_ret1 ((ev_andV (a := x.ty == "str") (b := hasB js x) (ev_isi (T := "str") (ev_var rfl) hx (kit_S hx)) fun h => ?_).eq ?_) ⟨l, js, x, hx, rfl, rfl⟩
  · obtain ⟨z, rfl⟩ := ty_str h
    exact (ev_inD (neg := false) (k := .inr z) (x := .str z) rfl (ev_var rfl) (ev_fldD (C := clsOf mg "Bag") (fs := bagF (clsOf mg "Book") l js) (ev_var rfl) U.c_Bag U.a_own_shapes rfl)).eq (by rw [if_neg (by decide), rows_has])
  · congr 1
    cases x <;> simp only [D.ty, hasB] <;> first | rfl | (rw [Bool.and_false]) | (rw [show (("str" : String) == "str") = true from rfl, Bool.true_and])
end
section
variable {F : Fp} {Δ : List Sl} {te ta : TE} {K : PySem.W.Frag} {E : XK} {C B : Addr} {l : List Sh} {js : List Jt}
theorem ev_hasB {x : D} (hx : x.ty ≠ "?") (h : Ev1 F te Δ (bagD C B l js)) (ha : Ev1 F ta Δ x) : Ev1 F (tMeth C "has_name" (SpD false false (RHas C B)) [] E te (tCons ta tNil)) Δ (.bool (hasB js x)) :=
  EvR.to1 (ev_methD (fs := bagF B l js) h (ea_cons1 ha ea_nil) fun ds e => ⟨_, l, js, x, hx, by rw [e]; rfl, rfl⟩) fun d ⟨ds, e, l', js', x', _, h1, h2⟩ => by
    subst e
    simp only [List.cons.injEq, and_true] at h1
    rw [h2, ← (bag_inj h1.1).2, ← h1.2]
theorem hasB_mem {x : D} (h : hasB js x = true) : ∃ j ∈ js, x = .str (txt j.1) := by
  cases x with
  | str z =>
    simp only [hasB, List.any_eq_true, decide_eq_true_eq] at h
    obtain ⟨j, hj, e⟩ := h
    exact ⟨j, hj, by rw [e]⟩
  | _ => cases h
theorem has_mem {j : Jt} (h : j ∈ js) : hasB js (.str (txt j.1)) = true := by
  simp only [hasB]
  rw [List.any_eq_true]
  exact ⟨j, h, decide_eq_true rfl⟩
theorem bag_find : ∀ {l : List Sh} {js : List Jt} {j : Jt}, (js.map Prod.fst).Nodup → j ∈ js → ((bagRows l js).find? fun q => decide (q.1 = .inr (txt j.1))).map (·.2) = some (shapeOf l j.2)
  | l, p :: js, j, nd, h => by
    simp only [bagRows, List.map_cons, List.find?_cons]
    simp only [List.map_cons, List.nodup_cons] at nd
    by_cases e : p.1 = j.1
    · rw [decide_eq_true (by rw [e])]
      rcases List.mem_cons.mp h with rfl | h
      · rfl
      · exact absurd (e ▸ List.mem_map_of_mem h) nd.1
    · rw [decide_eq_false (fun z => e (txt_inj (Sum.inr.inj z)))]
      rcases List.mem_cons.mp h with rfl | h
      · exact absurd rfl e
      · exact bag_find nd.2 h
end
/-- a part of the shape of a name -/
def RPart (g : Sh → D) (C B : Addr) (ds : List D) (d : D) : Prop := ∃ l js j s, Shs l ∧ Js l js ∧ j ∈ js ∧ s ∈ l ∧ s.w = j.2 ∧ ds = [bagD C B l js, .str (txt j.1)] ∧ d = g s
def XNm (C B N : Addr) : RX1 := fun ds c f => ∃ l js x, Shs l ∧ Js l js ∧ x.ty ≠ "?" ∧ (∀ j ∈ js, x ≠ .str (txt j.1)) ∧ ds = [bagD C B l js, x] ∧ c = .ref N ∧ f = some [(("name" : Str), x)]
section
variable {P : Program} {w : World} {K : PySem.W.Frag} {mg : Str → Option Value} {base : Heap}
abbrev s_Bag_shape : Stmt := inClass (top 16) 6
theorem sc_Bag_shape : FnScope ["self", "name", "!x"] ["self", "name"] (defScope s_Bag_shape) := ⟨rfl, rfl, rfl, by decide +kernel, rfl, by decide +kernel, by decide +kernel⟩
theorem ok_Bag_shape {k : Nat} {f : Addr} {fd : FuncData} (T : Tx K mg) (U : Tb P K mg) (M_has_name : MethT P w K mg base k (clsOf mg "Bag") "has_name" ["self", "name"] (SpD false false (RHas (clsOf mg "Bag") (clsOf mg "Book")))) (Fu : Fun K "shape" "Bag.shape" s_Bag_shape f fd) : FnOk P w K mg base (L2.CX P w) (k + 1) f fd ["self", "name"] (SpX false false (RPart Sh.d (clsOf mg "Bag") (clsOf mg "Book")) (XNm (clsOf mg "Bag") (clsOf mg "Book") (clsOf mg "UnknownName"))) := by
  refine ok_X Fu sc_Bag_shape (fun ds h => by rcases h with ⟨_, _, _, _, _, _, _, _, _, _, e, _⟩ | ⟨_, _, _, _, _, _, _, _, _, e, _⟩ <;> rw [e] <;> rfl) fun cdv A outer s H E hr tk => ?_
  have hu1 : (A.deeper (envOfC "Bag.shape" (defScope s_Bag_shape) s.heap.objs.size f cdv)).units + 1 < cLine := by have := hr.un; omega
  refine ⟨_, (pss_cons (ps_if (pt_not (pt_val (pe_methT M_has_name hr (pv 0) (pa_cons (pv 1) pa_nil))))
      (pss_one (ps_raise rfl tk (pmk_X U.x_UnknownName hr (pa_cons (pv 1) pa_nil))))
      pss_nil)
    (pss_one (ps_ret (pe_dget hu1 (pe_fld (pv 0) rfl) (pv 1) (fun _ _ => rfl))))), fun F ds hF hR => ?_⟩
  rcases hR with ⟨_, l, js, j, s, hl, hj, hm, hs, e, rfl, rfl⟩ | ⟨c, f', l, js, x, hl, hj, hx, hn, rfl, rfl, rfl⟩
  · refine run_if1S (b := false) ((et_not1 (et_B1 (ev_hasB (x := .str (txt j.1)) (by simp only [D.ty]; decide) (ev_var rfl) (ev_var rfl)))).eq (by rw [has_mem hm]; rfl)) (fun h => nomatch h) fun _ => run_nextS ?_
    refine run_ret1 ((ev_dget (ev_fldD (C := clsOf mg "Bag") (fs := bagF (clsOf mg "Book") l js) (ev_var rfl) U.c_Bag U.a_own_shapes rfl) (ev_var rfl) rfl (bag_find hj.nd hm)).eq ?_) ⟨l, js, j, s, hl, hj, hm, hs, e, rfl, rfl⟩
    unfold shapeOf
    rw [← e, rows_find hl.nd hs]
    rfl
  · have hb : hasB js x = false := by
      cases q : hasB js x
      · rfl
      · obtain ⟨j, hj, e⟩ := hasB_mem q
        exact absurd e (hn j hj)
    refine run_if1S (b := true) ((et_not1 (et_B1 (ev_hasB hx (ev_var rfl) (ev_var rfl)))).eq (by rw [hb]; rfl)) (fun _ => ?_) fun h => nomatch h
    exact run_seqM (N := fun _ => False) (run_raise (ix := 2) rfl (hm_none rfl) (ea_cons1 (ev_var rfl) ea_nil) (fun ds e => by rw [e]; rfl) (by decide) fun ds e => ⟨l, js, x, hl, hj, hx, hn, rfl, rfl, by rw [e]; rfl⟩) fun _ z => z.elim
end
theorem fst_inj {js : List Jt} (nd : (js.map Prod.fst).Nodup) {i j : Jt} (hi : i ∈ js) (hj : j ∈ js) (e : i.1 = j.1) : i = j := by
  induction js with
  | nil => cases hi
  | cons p js ih =>
    simp only [List.map_cons, List.nodup_cons] at nd
    rcases List.mem_cons.mp hi with e1 | h1
    · rcases List.mem_cons.mp hj with e2 | h2
      · rw [e1, e2]
      · exact absurd (by rw [← e1, e]; exact List.mem_map_of_mem h2) nd.1
    · rcases List.mem_cons.mp hj with e2 | h2
      · exact absurd (by rw [← e2, ← e]; exact List.mem_map_of_mem h1) nd.1
      · exact ih nd.2 h1 h2
theorem sh_uni {l : List Sh} (hl : Shs l) {s t : Sh} (hs : s ∈ l) (ht : t ∈ l) (e : s.w = t.w) : s = t := by
  have nd := hl.nd
  induction l with
  | nil => cases hs
  | cons p l ih =>
    rw [List.map_cons, List.nodup_cons] at nd
    have hl' : Shs l := ⟨fun s hs => hl.ok s (List.mem_cons_of_mem _ hs), nd.2, by have := hl.n; rw [List.length_cons] at this; omega⟩
    rcases List.mem_cons.mp hs with h1 | h1 <;> rcases List.mem_cons.mp ht with h2 | h2
    · rw [h1, h2]
    · exact absurd (by rw [← h1, e]; exact List.mem_map_of_mem h2) nd.1
    · exact absurd (by rw [← h2, ← e]; exact List.mem_map_of_mem h1) nd.1
    · exact ih hl' h1 h2 nd.2
section
variable {F : Fp} {Δ : List Sl} {ta tb te : TE} {C B N : Addr} {l : List Sh} {js : List Jt} {ix : Nat} {W : WX} {PX : Value → FX → Prop} {lh : List (Option D)}
/-- o.shape(x), x anything -/
theorem ev_shpX {x : D} (hx : Δ[ix]? = some (.xc W PX lh)) (hm : Hm lh Δ) (hl : Shs l) (hj : Js l js) (h1 : x.ty ≠ "?") (ha : Ev1 F ta Δ (bagD C B l js)) (hb : Ev1 F tb Δ x) (hp : (∀ j ∈ js, x ≠ .str (txt j.1)) → PX (.ref N) (some [(("name" : Str), x)])) :
    EvR F (tMethS C "shape" (SpX false false (RPart Sh.d C B) (XNm C B N)) (WE W) ta (tCons tb tNil)) Δ fun d => ∃ j s, j ∈ js ∧ s ∈ l ∧ s.w = j.2 ∧ x = .str (txt j.1) ∧ d = s.d := by
  refine (ev_methX hx hm ha (ea_cons1 hb ea_nil) (fun ds e => ?_) (fun ds c f e h => ?_)).imp fun d ⟨ds, e, l', js', j, s, _, _, hj', hs, e2, h2, h3⟩ => ?_
  · subst e
    by_cases hh : ∃ j ∈ js, x = .str (txt j.1)
    · obtain ⟨j, hjm, e⟩ := hh
      obtain ⟨s, hs, e2, _⟩ := shapeOf_of hl (hj.mem j hjm)
      exact .inl ⟨_, l, js, j, s, hl, hj, hjm, hs, e2, by rw [e]; rfl, rfl⟩
    · exact .inr ⟨_, _, l, js, x, hl, hj, h1, fun j hjm e => hh ⟨j, hjm, e⟩, rfl, rfl, rfl⟩
  · subst e
    obtain ⟨l', js', x', _, _, _, hn, h2, rfl, rfl⟩ := h
    simp only [List.cons.injEq, and_true] at h2
    obtain ⟨rfl, rfl⟩ := bag_inj (C := C) (B := B) h2.1
    obtain ⟨_, rfl⟩ := h2
    exact hp hn
  · subst e
    simp only [List.cons.injEq, and_true] at h2
    obtain ⟨rfl, rfl⟩ := bag_inj (C := C) (B := B) h2.1
    exact ⟨j, s, hj', hs, e2, h2.2, h3⟩
end
section
variable {P : Program} {w : World} {K : PySem.W.Frag} {mg : Str → Option Value} {base : Heap}
abbrev s_Bag_word : Stmt := inClass (top 16) 7
theorem sc_Bag_word : FnScope ["self", "name", "!x"] ["self", "name"] (defScope s_Bag_word) := ⟨rfl, rfl, rfl, by decide +kernel, rfl, by decide +kernel, by decide +kernel⟩
theorem ok_Bag_word {k : Nat} {f : Addr} {fd : FuncData} (T : Tx K mg) (U : Tb P K mg) (MX_shape : MethTX P w K mg base k (clsOf mg "Bag") "shape" ["self", "name"] (SpX false false (RPart Sh.d (clsOf mg "Bag") (clsOf mg "Book")) (XNm (clsOf mg "Bag") (clsOf mg "Book") (clsOf mg "UnknownName")))) (Fu : Fun K "word" "Bag.word" s_Bag_word f fd) : FnOk P w K mg base (L2.CX P w) (k + 1) f fd ["self", "name"] (SpX false false (RPart (fun s => .str (txt s.w)) (clsOf mg "Bag") (clsOf mg "Book")) (XNm (clsOf mg "Bag") (clsOf mg "Book") (clsOf mg "UnknownName"))) := by
  refine ok_X Fu sc_Bag_word (fun ds h => by rcases h with ⟨_, _, _, _, _, _, _, _, _, _, e, _⟩ | ⟨_, _, _, _, _, _, _, _, _, e, _⟩ <;> rw [e] <;> rfl) fun cdv A outer s H E hr tk => ?_
  refine ⟨_, (pss_one (ps_ret (pe_ix (qIx (K := K)) (pe_methTX tk MX_shape hr (pv 0) (pa_cons (pv 1) pa_nil)) pe_int (fun _ _ => rfl)))), fun F ds hF hR => ?_⟩
  obtain ⟨l, js, x, hl, hj, hx, rfl⟩ : ∃ l js x, Shs l ∧ Js l js ∧ x.ty ≠ "?" ∧ ds = [bagD (clsOf mg "Bag") (clsOf mg "Book") l js, x] := by
    rcases hR with ⟨_, l, js, j, s, hl, hj, _, _, _, rfl, _⟩ | ⟨_, _, l, js, x, hl, hj, hx, _, rfl, _⟩
    · exact ⟨l, js, _, hl, hj, by simp only [D.ty]; decide, rfl⟩
    · exact ⟨l, js, x, hl, hj, hx, rfl⟩
  refine run_ret (ev_op sIx (ev_shpX (ix := 2) rfl (hm_none rfl) hl hj hx (ev_var rfl) (ev_var rfl) fun hn => ⟨l, js, x, hl, hj, hx, hn, rfl, rfl, rfl⟩) ev_int (P := fun d => ∃ j s, j ∈ js ∧ s ∈ l ∧ s.w = j.2 ∧ x = .str (txt j.1) ∧ d = (fun s => .str (txt s.w)) s) ?_) ?_
  · rintro _ _ ⟨j, s, h1, h2, h3, h4, rfl⟩ rfl
    exact ⟨_, rfl, j, s, h1, h2, h3, h4, rfl⟩
  · rintro d ⟨j, s, h1, h2, h3, rfl, rfl⟩
    exact ⟨l, js, j, s, hl, hj, h1, h2, h3, rfl, rfl⟩
abbrev s_Bag_stem : Stmt := inClass (top 16) 8
theorem sc_Bag_stem : FnScope ["self", "name", "!x"] ["self", "name"] (defScope s_Bag_stem) := ⟨rfl, rfl, rfl, by decide +kernel, rfl, by decide +kernel, by decide +kernel⟩
theorem ok_Bag_stem {k : Nat} {f : Addr} {fd : FuncData} (T : Tx K mg) (U : Tb P K mg) (MX_shape : MethTX P w K mg base k (clsOf mg "Bag") "shape" ["self", "name"] (SpX false false (RPart Sh.d (clsOf mg "Bag") (clsOf mg "Book")) (XNm (clsOf mg "Bag") (clsOf mg "Book") (clsOf mg "UnknownName")))) (Fu : Fun K "stem" "Bag.stem" s_Bag_stem f fd) : FnOk P w K mg base (L2.CX P w) (k + 1) f fd ["self", "name"] (SpX false false (RPart (fun s => .str (txt s.c)) (clsOf mg "Bag") (clsOf mg "Book")) (XNm (clsOf mg "Bag") (clsOf mg "Book") (clsOf mg "UnknownName"))) := by
  refine ok_X Fu sc_Bag_stem (fun ds h => by rcases h with ⟨_, _, _, _, _, _, _, _, _, _, e, _⟩ | ⟨_, _, _, _, _, _, _, _, _, e, _⟩ <;> rw [e] <;> rfl) fun cdv A outer s H E hr tk => ?_
  refine ⟨_, (pss_one (ps_ret (pe_ix (qIx (K := K)) (pe_methTX tk MX_shape hr (pv 0) (pa_cons (pv 1) pa_nil)) pe_int (fun _ _ => rfl)))), fun F ds hF hR => ?_⟩
  obtain ⟨l, js, x, hl, hj, hx, rfl⟩ : ∃ l js x, Shs l ∧ Js l js ∧ x.ty ≠ "?" ∧ ds = [bagD (clsOf mg "Bag") (clsOf mg "Book") l js, x] := by
    rcases hR with ⟨_, l, js, j, s, hl, hj, _, _, _, rfl, _⟩ | ⟨_, _, l, js, x, hl, hj, hx, _, rfl, _⟩
    · exact ⟨l, js, _, hl, hj, by simp only [D.ty]; decide, rfl⟩
    · exact ⟨l, js, x, hl, hj, hx, rfl⟩
  refine run_ret (ev_op sIx (ev_shpX (ix := 2) rfl (hm_none rfl) hl hj hx (ev_var rfl) (ev_var rfl) fun hn => ⟨l, js, x, hl, hj, hx, hn, rfl, rfl, rfl⟩) ev_int (P := fun d => ∃ j s, j ∈ js ∧ s ∈ l ∧ s.w = j.2 ∧ x = .str (txt j.1) ∧ d = (fun s => .str (txt s.c)) s) ?_) ?_
  · rintro _ _ ⟨j, s, h1, h2, h3, h4, rfl⟩ rfl
    exact ⟨_, rfl, j, s, h1, h2, h3, h4, rfl⟩
  · rintro d ⟨j, s, h1, h2, h3, rfl, rfl⟩
    exact ⟨l, js, j, s, hl, hj, h1, h2, h3, rfl, rfl⟩
abbrev s_Bag_branches : Stmt := inClass (top 16) 9
theorem sc_Bag_branches : FnScope ["self", "name", "!x"] ["self", "name"] (defScope s_Bag_branches) := ⟨rfl, rfl, rfl, by decide +kernel, rfl, by decide +kernel, by decide +kernel⟩
theorem ok_Bag_branches {k : Nat} {f : Addr} {fd : FuncData} (T : Tx K mg) (U : Tb P K mg) (MX_shape : MethTX P w K mg base k (clsOf mg "Bag") "shape" ["self", "name"] (SpX false false (RPart Sh.d (clsOf mg "Bag") (clsOf mg "Book")) (XNm (clsOf mg "Bag") (clsOf mg "Book") (clsOf mg "UnknownName")))) (Fu : Fun K "branches" "Bag.branches" s_Bag_branches f fd) : FnOk P w K mg base (L2.CX P w) (k + 1) f fd ["self", "name"] (SpX false false (RPart (fun s => .tuple (txts s.bs)) (clsOf mg "Bag") (clsOf mg "Book")) (XNm (clsOf mg "Bag") (clsOf mg "Book") (clsOf mg "UnknownName"))) := by
  refine ok_X Fu sc_Bag_branches (fun ds h => by rcases h with ⟨_, _, _, _, _, _, _, _, _, _, e, _⟩ | ⟨_, _, _, _, _, _, _, _, _, e, _⟩ <;> rw [e] <;> rfl) fun cdv A outer s H E hr tk => ?_
  refine ⟨_, (pss_one (ps_ret (pe_ix (qIx (K := K)) (pe_methTX tk MX_shape hr (pv 0) (pa_cons (pv 1) pa_nil)) pe_int (fun _ _ => rfl)))), fun F ds hF hR => ?_⟩
  obtain ⟨l, js, x, hl, hj, hx, rfl⟩ : ∃ l js x, Shs l ∧ Js l js ∧ x.ty ≠ "?" ∧ ds = [bagD (clsOf mg "Bag") (clsOf mg "Book") l js, x] := by
    rcases hR with ⟨_, l, js, j, s, hl, hj, _, _, _, rfl, _⟩ | ⟨_, _, l, js, x, hl, hj, hx, _, rfl, _⟩
    · exact ⟨l, js, _, hl, hj, by simp only [D.ty]; decide, rfl⟩
    · exact ⟨l, js, x, hl, hj, hx, rfl⟩
  refine run_ret (ev_op sIx (ev_shpX (ix := 2) rfl (hm_none rfl) hl hj hx (ev_var rfl) (ev_var rfl) fun hn => ⟨l, js, x, hl, hj, hx, hn, rfl, rfl, rfl⟩) ev_int (P := fun d => ∃ j s, j ∈ js ∧ s ∈ l ∧ s.w = j.2 ∧ x = .str (txt j.1) ∧ d = (fun s => .tuple (txts s.bs)) s) ?_) ?_
  · rintro _ _ ⟨j, s, h1, h2, h3, h4, rfl⟩ rfl
    exact ⟨_, rfl, j, s, h1, h2, h3, h4, rfl⟩
  · rintro d ⟨j, s, h1, h2, h3, rfl, rfl⟩
    exact ⟨l, js, j, s, hl, hj, h1, h2, h3, rfl, rfl⟩
/-! stock -/
def RStock (C B : Addr) (ds : List D) (d : D) : Prop := ∃ l js, Shs l ∧ Js l js ∧ ds = [bagD C B l js] ∧ d = .tuple (l.map fun s => .int (((js.map Prod.snd).count s.w : Nat) : Int))
theorem count_txts (w : List Nat) : ∀ ws : List (List Nat), ((pyL (txts ws)).countP fun z => PyData.eqv z (D.str (txt w)).py) = ws.count w
  | [] => rfl
  | a :: ws => by
    have ih := count_txts w ws
    simp only [txts, List.map_cons, pyL, D.py] at ih ⊢
    have e : PyData.eqv (.str (txt a)) (.str (txt w)) = (a == w) := by
      show (txt a == txt w) = (a == w)
      rw [Bool.eq_iff_iff, beq_iff_eq, beq_iff_eq]
      exact txt_iff
    rw [List.countP_cons, List.count_cons, ih, e]
def fstD : D → D
  | .tuple (x :: _) => x
  | _ => .none
theorem sh_nd (s : Sh) : s.d.nd = true := by
  have t : ∀ ws : List (List Nat), ndL (txts ws) = true := fun ws => by
    induction ws with
    | nil => rfl
    | cons w ws ih => simp only [txts, List.map_cons, ndL, D.nd, Bool.true_and]; exact ih
  simp only [Sh.d, D.nd, ndL, t, Bool.and_true]
theorem bag_vals {l : List Sh} (hl : Shs l) : ∀ {js : List Jt}, (∀ j ∈ js, j.2 ∈ l.map Sh.w) → ndL ((bagRows l js).map (·.2)) = true ∧ (((bagRows l js).map (·.2)).map fstD) = txts (js.map Prod.snd) ∧ ∀ d ∈ (bagRows l js).map (·.2), ∃ s : Sh, d = s.d
  | [], _ => ⟨rfl, rfl, fun d hd => by cases hd⟩
  | j :: js, h => by
    obtain ⟨h1, h2, h3⟩ := bag_vals hl fun t ht => h t (List.mem_cons_of_mem _ ht)
    obtain ⟨s, hs, e1, e2⟩ := shapeOf_of hl (h j (List.mem_cons_self ..))
    refine ⟨?_, ?_, fun d hd => ?_⟩
    · simp only [bagRows, List.map_cons, ndL, e2, sh_nd, Bool.true_and]
      exact h1
    · simp only [bagRows, List.map_cons, txts, e2] at h2 ⊢
      rw [h2]
      simp only [fstD, Sh.d, e1]
    · rcases List.mem_cons.mp hd with rfl | hd
      · exact ⟨s, e2⟩
      · exact h3 d hd
abbrev s_Bag_stock : Stmt := inClass (top 16) 10
theorem sc_Bag_stock : FnScope ["self", "words", "shape", "word"] ["self"] (defScope s_Bag_stock) := ⟨rfl, rfl, rfl, by decide +kernel, rfl, by decide +kernel, by decide +kernel⟩
theorem ok_Bag_stock {k : Nat} {f : Addr} {fd : FuncData} (T : Tx K mg) (U : Tb P K mg) (M_words : MethT P w K mg base k (clsOf mg "Book") "words" ["self"] (SpD false true (RWords (clsOf mg "Book")))) (Fu : Fun K "stock" "Bag.stock" s_Bag_stock f fd) : FnOk P w K mg base CX0 (k + 1) f fd ["self"] (SpD false false (RStock (clsOf mg "Bag") (clsOf mg "Book"))) := by
  refine ok_D Fu sc_Bag_stock (fun ds d ⟨_, _, _, _, e, _⟩ => by rw [e]; rfl) fun cdv A outer s H E hr => ?_
  have hu2 : (A.deeper (envOfC "Bag.stock" (defScope s_Bag_stock) s.heap.objs.size f cdv)).units + 65 < cLine := by have := hr.un; omega
  refine ⟨_, (pss_cons (ps_set (i := 1) sc_Bag_stock.nd rfl (Or.inr rfl) (pe_lock (pe_lc (own := [("shape", 2)]) rfl sc_Bag_stock.nd (pi_values (pe_fld (pv 0) rfl)) (blkOk_by (own := [("shape", 2)]) (N := ["self", "words", "shape", "word"]) (sc := defScope s_Bag_stock) (by decide +kernel)) (fun _ _ _ _ _ => (pg_name (i := 2) sc_Bag_stock.nd rfl (by first | exact Or.inl rfl | exact Or.inr rfl))) (fun _ _ _ _ _ => pts_nil) (fun _ _ _ _ _ => (pe_ix (qIx (K := K)) (pv 2) pe_int (fun _ _ => rfl))))))
    (pss_one (ps_ret (pe_callTy (qTuple (K := K)) (by rfl) T.n_tuple (by decide +kernel) (pa_cons (pe_lc (own := [("word", 3)]) rfl sc_Bag_stock.nd (qi_any (K := K) (pe_methT0 M_words hr (pe_fld (pv 0) rfl))) (blkOk_by (own := [("word", 3)]) (N := ["self", "words", "shape", "word"]) (sc := defScope s_Bag_stock) (by decide +kernel)) (fun _ _ _ _ _ => (pg_name (i := 3) sc_Bag_stock.nd rfl (by first | exact Or.inl rfl | exact Or.inr rfl))) (fun _ _ _ _ _ => pts_nil) (fun _ _ _ _ _ => (qBm (K := K) PySem.F.plainAttrs_list PySem.F.slot_list_count PySem.F.type_list_count (qCount (K := K) hu2) (pv 1) (pa_cons (pv 3) pa_nil)))) pa_nil))))), fun F ds hF hR => ?_⟩
  obtain ⟨_, l, js, hl, hj, rfl, rfl⟩ := hR
  have z : ∀ {n : Nat}, n ≤ 100000 → n ≤ sizeLine := fun hn => Nat.le_trans hn (by decide)
  have hn := hl.n
  have hjn := hj.n
  obtain ⟨v1, v2, v3⟩ := bag_vals hl hj.mem
  have wds : ∀ w ∈ js.map Prod.snd, Wd w := fun w hw => by
    obtain ⟨j, hj', rfl⟩ := List.mem_map.mp hw
    exact (hj.wd j hj').2
  refine run_set (d := .list (txts (js.map Prod.snd))) ((EvF.val1 (ef_lcVals (i := 0) (fs := bagF (clsOf mg "Book") l js) (kvs := bagRows l js) rfl U.c_Bag U.a_own_shapes rfl v1 (z (by rw [List.length_map]; omega)) fstD fun m d hd => ?_)).eq (by rw [v2])) ?_
  · obtain ⟨s, rfl⟩ := v3 d (List.mem_of_getElem? hd)
    exact ⟨[2], _, eg_name, by simp, ev_ixU (q := 0) (ev_var (d := s.d) rfl) ev_int rfl⟩
  refine run_ret1 (ev_cb1 sTup (ea_cons1 (EvF.val1 (ef_mapL l (fun s => .str (txt s.w)) (fun s => .int (((js.map Prod.snd).count s.w : Nat) : Int)) ((ei_list (ef_words (ev_fldD (C := clsOf mg "Bag") (fs := bagF (clsOf mg "Book") l js) (ev_var rfl) U.c_Bag U.a_own_book rfl)).val1).imp fun r e => by rw [e]; simp [txts]) (z (by omega)) fun i s hs => ⟨[3], _, eg_name, by simp, (ev_count (ev_var (d := .list (txts (js.map Prod.snd))) rfl) (ev_var rfl) (wds_ok wds) (wd_ok (hl.ok s (List.mem_of_getElem? hs)).w)).eq (by rw [count_txts])⟩)) ea_nil) rfl) ⟨l, js, hl, hj, rfl, rfl⟩
/-! == -/
def othY (B : Addr) (y : D) : Prop := y.ty ∈ others ∨ ∃ m, y = bookD B m
def RBagEq (C B : Addr) (ds : List D) (d : D) : Prop := (∃ l m js ks, Shs l ∧ Shs m ∧ Js l js ∧ Js m ks ∧ ds = [bagD C B l js, bagD C B m ks] ∧ d = .bool ((D.tuple (js.map jd)).eqb (.tuple (ks.map jd)) && (D.list (l.map Sh.d)).eqb (.list (m.map Sh.d)))) ∨ ∃ l js y, Shs l ∧ Js l js ∧ othY B y ∧ ds = [bagD C B l js, y] ∧ d = .bool false
theorem othY_ty (U : Tb P K mg) {y : D} (h : othY (clsOf mg "Book") y) : ∃ t, TyD K y t ∧ t ∈ othersG (clsOf mg "Book") := by
  rcases h with h | ⟨m, rfl⟩
  · refine ⟨_, tyd_bt (oth_ty h), ?_⟩
    simp only [others, List.mem_cons, List.not_mem_nil, or_false] at h
    rcases h with h | h | h | h <;> rw [h] <;> simp [othersG]
  · exact ⟨_, tyd_obj U.i_Book, by simp [othersG]⟩
theorem bookEq_uni {B : Addr} {l m : List Sh} {d : D} (h : RBookEq B [bookD B l, bookD B m] d) : d = .bool ((D.list (l.map Sh.d)).eqb (.list (m.map Sh.d))) := by
  rcases h with ⟨l', m', _, _, e, h⟩ | ⟨l', y, _, hy, e, h⟩
  · simp only [List.cons.injEq, and_true] at e
    rw [h, book_inj e.1, book_inj e.2]
  · simp only [List.cons.injEq, and_true] at e
    rw [← e.2] at hy
    exact absurd hy (by simp only [bookD, D.ty]; decide)
abbrev s_Bag___eq__ : Stmt := inClass (top 16) 1
theorem sc_Bag___eq__ : FnScope ["self", "other"] ["self", "other"] (defScope s_Bag___eq__) := ⟨rfl, rfl, rfl, by decide +kernel, rfl, by decide +kernel, by decide +kernel⟩
theorem ok_Bag_eq {k : Nat} {f : Addr} {fd : FuncData} (T : Tx K mg) (U : Tb P K mg) (Q_Book : EqT P w K mg base k (clsOf mg "Book") (SpD false false (RBookEq (clsOf mg "Book")))) (Fu : Fun K "__eq__" "Bag.__eq__" s_Bag___eq__ f fd) : FnOk P w K mg base CX0 (k + 1) f fd ["self", "other"] (SpD false false (RBagEq (clsOf mg "Bag") (clsOf mg "Book"))) := by
  refine ok_D Fu sc_Bag___eq__ (fun ds d h => by rcases h with ⟨_, _, _, _, _, _, _, _, e, _⟩ | ⟨_, _, _, _, _, _, e, _⟩ <;> rw [e] <;> rfl) fun cdv A outer s H E hr => ?_
  have hu2 : (A.deeper (envOfC "Bag.__eq__" (defScope s_Bag___eq__) s.heap.objs.size f cdv)).units + 65 < cLine := by have := hr.un; omega
  refine ⟨_, (pss_cons (ps_if (PW.pt (pw_or (pt_not (pt_val (pe_callB ((qIsC U.i_Bag).or (qIsi (K := K))) (by rfl) T.n_isinstance (by decide +kernel) (pa_cons (pv 1) (pa_cons (pe_glob (v := V.ref _) rfl U.g_Bag rfl) pa_nil))))) (pw_or1 (pt_cmpR (qNe (K := K) hu2) (pe_fld (pv 0) rfl) (pe_fld (pv 1) rfl) (nomark _)))))
      (pss_one (ps_ret pe_bl))
      pss_nil)
    (pss_one (ps_ret (pe_cmpR (qOwn Q_Book hr) (pe_fld (pv 0) rfl) (pe_fld (pv 1) rfl) (nomark _))))), fun F ds hF hR => ?_⟩
  have fj : ∀ {l : List Sh} {js : List Jt} {E : List Sl} {i : Nat}, E[i]? = some (.v (bagD (clsOf mg "Bag") (clsOf mg "Book") l js)) → Ev1 F (tFld K (tVar i) "own_joints") E (.tuple (js.map jd)) := fun {l js} {_ _} h => ev_fldD (C := clsOf mg "Bag") (fs := bagF (clsOf mg "Book") l js) (ev_var h) U.c_Bag U.a_own_joints rfl
  have fb : ∀ {l : List Sh} {js : List Jt} {E : List Sl} {i : Nat}, E[i]? = some (.v (bagD (clsOf mg "Bag") (clsOf mg "Book") l js)) → Ev1 F (tFld K (tVar i) "own_book") E (bookD (clsOf mg "Book") l) := fun {l js} {_ _} h => ev_fldD (C := clsOf mg "Bag") (fs := bagF (clsOf mg "Book") l js) (ev_var h) U.c_Bag U.a_own_book rfl
  rcases hR with ⟨_, ⟨l, m, js, ks, hl, hm, hj, hk, rfl, rfl⟩ | ⟨l, js, y, hl, hj, hy, rfl, rfl⟩⟩
  · have ft := et_or1 (F := F) (Δ := [.v (bagD (clsOf mg "Bag") (clsOf mg "Book") l js), .v (bagD (clsOf mg "Bag") (clsOf mg "Book") m ks)]) (a := false) (b := !(D.tuple (js.map jd)).eqb (.tuple (ks.map jd))) (et_not1 (et_B1 (ev_isC2 (K := K) (fs := bagF (clsOf mg "Book") m ks) (ev_var (i := 1) rfl)))) fun _ => et_test1 (ev_neD (K := K) (fj (i := 0) rfl) (fj (i := 1) rfl) (js_ok hj).1 (js_ok hk).1)
    have fin : RBagEq (clsOf mg "Bag") (clsOf mg "Book") [bagD (clsOf mg "Bag") (clsOf mg "Book") l js, bagD (clsOf mg "Bag") (clsOf mg "Book") m ks] (.bool ((D.tuple (js.map jd)).eqb (.tuple (ks.map jd)) && (D.list (l.map Sh.d)).eqb (.list (m.map Sh.d)))) := .inl ⟨l, m, js, ks, hl, hm, hj, hk, rfl, rfl⟩
    cases hb : (D.tuple (js.map jd)).eqb (.tuple (ks.map jd))
    · rw [hb, Bool.false_and] at fin
      exact run_if1S (b := true) (ft.eq (by rw [hb]; rfl)) (fun _ => run_ret1S ev_bl fin) fun h => nomatch h
    · rw [hb, Bool.true_and] at fin
      refine run_if1S (b := false) (ft.eq (by rw [hb]; rfl)) (fun h => nomatch h) fun _ => run_nextS ?_
      exact run_ret1 (ev_op1 sOwn (fb rfl) (fb rfl) ⟨_, _, _, rfl, rfl, .inl ⟨l, m, hl, hm, rfl, rfl⟩, fun d' h => bookEq_uni h, by simp⟩) fin
  · obtain ⟨t, ht, htm⟩ := othY_ty U hy
    exact run_if1S (b := true) ((et_or1 (a := true) (b := true) (et_not1 (et_B1 (ev_isN3 (ev_var rfl) ht (U.o_Bag t htm)))) fun h => nomatch h).eq rfl) (fun _ => run_ret1S ev_bl (.inr ⟨l, js, y, hl, hj, hy, rfl, rfl⟩)) fun h => nomatch h
end
end K02

namespace K02
open PySem L2 PySem.Spec PyProof.Rows Bc
open Lex (endOf run lexAt Lm Lk lexL lexF blanks)
/-! ### what is drawn -/
section
variable {F : Fp} {Δ : List Sl} {te : TE} {E : XK}
theorem ev_pick {i n : Nat} (hi : Δ[i]? = some .src) (h : Ev1 F te Δ (.int (n : Nat))) (hn : n < 2 ^ 30) (h0 : 0 < n) : EvR F (tCall (SpD true false RPick) [] E (tCons (tVar i) (tCons te tNil))) Δ fun d => ∃ r : Nat, r < n ∧ d = .int (r : Nat) :=
  (ev_callS hi (ea_cons1 h ea_nil) fun ds e => ⟨.int 0, (n : Nat), 0, e, by omega, by omega, by omega, rfl⟩).imp fun d ⟨ds, e, m, r, e2, _, h1, h2, h3⟩ => by
    rw [e] at e2
    simp only [List.cons.injEq, D.int.injEq, and_true] at e2
    subst e2
    refine ⟨r.toNat, by omega, ?_⟩
    rw [h3, Int.toNat_of_nonneg h1]
theorem ev_pickR {i : Nat} {P : Nat → Prop} (hi : Δ[i]? = some .src) (h : EvR F te Δ fun d => ∃ n : Nat, P n ∧ d = .int (n : Nat)) (hn : ∀ n, P n → n < 2 ^ 30 ∧ 0 < n) : EvR F (tCall (SpD true false RPick) [] E (tCons (tVar i) (tCons te tNil))) Δ fun d => ∃ n r : Nat, P n ∧ r < n ∧ d = .int (r : Nat) :=
  (ev_callS hi (ea_cons h ea_nil) fun ds ⟨d, r, e, ⟨n, hp, e1⟩, e2⟩ => ⟨.int 0, (n : Nat), 0, by rw [e, e1, e2], by have := (hn n hp).1; omega, by omega, by have := (hn n hp).2; omega, rfl⟩).imp fun d ⟨ds, ⟨d1, r1, e, ⟨n, hp, e1⟩, e2⟩, m, r, e3, _, h1, h2, h3⟩ => by
    rw [e, e1, e2] at e3
    simp only [List.cons.injEq, D.int.injEq, and_true] at e3
    subst e3
    have := (hn n hp).2
    refine ⟨n, r.toNat, hp, by omega, ?_⟩
    rw [h3, Int.toNat_of_nonneg h1]
end
theorem perm_unmap {α β : Type} {f : α → β} : ∀ {a b : List β}, a.Perm b → ∀ {l : List α}, a = l.map f → ∃ l', l.Perm l' ∧ b = l'.map f := fun {a b} h => by
  induction h with
  | nil =>
    intro l e
    refine ⟨l, List.Perm.refl _, e⟩
  | @cons x a b _ ih =>
    intro l e
    cases l with
    | nil => cases e
    | cons y l =>
      rw [List.map_cons, List.cons.injEq] at e
      obtain ⟨l', p, e2⟩ := ih e.2
      exact ⟨y :: l', p.cons y, by rw [List.map_cons, ← e.1, e2]⟩
  | @swap x y a =>
    intro l e
    match l, e with
    | [], e => cases e
    | [_], e => cases e
    | u :: v :: l, e =>
      rw [List.map_cons, List.map_cons, List.cons.injEq, List.cons.injEq] at e
      exact ⟨v :: u :: l, List.Perm.swap v u l, by rw [List.map_cons, List.map_cons, ← e.1, ← e.2.1, ← e.2.2]⟩
  | trans _ _ ih1 ih2 =>
    intro l e
    obtain ⟨l1, p1, e1⟩ := ih1 e
    obtain ⟨l2, p2, e2⟩ := ih2 e1
    exact ⟨l2, p1.trans p2, e2⟩
theorem perm_pick {α : Type} {x : α} : ∀ {l : List α} {r : Nat}, l[r]? = some x → (x :: l.eraseIdx r).Perm l
  | [], r, h => by simp at h
  | y :: l, 0, h => by
    simp only [List.getElem?_cons_zero, Option.some.injEq] at h
    subst h
    exact List.Perm.refl _
  | y :: l, r + 1, h => by
    simp only [List.getElem?_cons_succ] at h
    exact (List.Perm.swap y x _).trans ((perm_pick h).cons y)
section
variable {P : Program} {w : World} {K : PySem.W.Frag} {mg : Str → Option Value} {base : Heap}
def RMixed (ds : List D) (d : D) : Prop := ∃ l m : List D, ds = [.list l] ∧ l.length ≤ 1000 ∧ m.Perm l ∧ d = .list m
abbrev s__law_mixed : Stmt := top 26
theorem sc__law_mixed : FnScope ["_law_source_here", "_law_things", "_law_rest", "_law_lap"] ["_law_source_here", "_law_things"] (defScope s__law_mixed) := ⟨rfl, rfl, rfl, by decide +kernel, rfl, by decide +kernel, by decide +kernel⟩
theorem ok__law_mixed {k : Nat} {f : Addr} {fd : FuncData} (T : Tx K mg) (G__law_pick : FnT P w K mg base k "_law_pick" ["_law_source_here", "_law_many"] (SpD true false RPick)) (Fu : Fun K "_law_mixed" "_law_mixed" s__law_mixed f fd) : FnOk P w K mg base CX0 (k + 1) f fd ["_law_source_here", "_law_things"] (SpD true true RMixed) := by
  refine ok_D Fu sc__law_mixed (fun ds d ⟨_, _, e, _⟩ => by rw [e]; rfl) fun cdv A outer s H E hr => ?_
  refine ⟨_, (pss_cons (ps_set (i := 2) sc__law_mixed.nd rfl (Or.inr rfl) (pe_callTy (qList (K := K)) (by rfl) T.n_list (by decide +kernel) (pa_cons (pv 1) pa_nil)))
    (pss_one (ps_ret (pe_lc (own := [("_law_lap", 3)]) rfl sc__law_mixed.nd (pi_range1 (by rfl) T.n_range (pa_cons (pe_callB (qLen (K := K)) (by rfl) T.n_len (by decide +kernel) (pa_cons (pv 2) pa_nil)) pa_nil)) (blkOk_by (own := [("_law_lap", 3)]) (N := ["_law_source_here", "_law_things", "_law_rest", "_law_lap"]) (sc := defScope s__law_mixed) (by decide +kernel)) (fun _ _ _ _ _ => (pg_name (i := 3) sc__law_mixed.nd rfl (by first | exact Or.inl rfl | exact Or.inr rfl))) (fun _ _ _ _ _ => pts_nil) (fun _ _ _ _ _ => (qBm (K := K) PySem.F.plainAttrs_list PySem.F.slot_list_pop PySem.F.type_list_pop mt_popAt (pv 2) (pa_cons (pe_callT G__law_pick hr (pa_cons (pv 0) (pa_cons (pe_callB (qLen (K := K)) (by rfl) T.n_len (by decide +kernel) (pa_cons (pv 2) pa_nil)) pa_nil))) pa_nil))))))), fun F ds hF hR => ?_⟩
  obtain ⟨_, l, _, rfl, hn, _⟩ := hR
  have z : ∀ n ≤ 100000, n ≤ sizeLine := fun n hn => Nat.le_trans hn (by decide)
  refine run_setF (ds := l) (ef_list (es_list (ev_var rfl))) ?_
  refine run_retFM (Pa := fun m _ => m.Perm l) (efm_lcP ((ei_rng (n := (l.length : Nat)) (ea_cons1 (ev_lenO (i := 2) rfl) ea_nil) (by omega)).imp fun r e => e) (fun ds e => by rw [e]; simp [rngD]; exact z _ (by omega)) (fun ds i acc Δi => ∃ rest, Δi = [.src, .v (.list l), .own rest, .un] ∧ (acc ++ rest).Perm l ∧ acc.length = i) (fun ds e => ⟨l, rfl, List.Perm.refl _, rfl⟩) (fun ds i acc Δi ⟨_, e, _⟩ => by rw [e]; rfl) ?_ ?_) fun m Δ' h => ⟨⟨l, m, rfl, hn, h, rfl⟩, trivial⟩
  · rintro ds i d acc Δi rfl hd ⟨rest, rfl, hp, hai⟩ hla
    have hi : i < l.length := by
      have := (List.getElem?_eq_some_iff.mp hd).1
      simpa [rngD] using this
    have hlr : rest.length = l.length - i := by
      have := hp.length_eq
      rw [List.length_append] at this
      omega
    refine ⟨[3], [.src, .v (.list l), .own rest, .v d], eg_name, by simp, fun b => b = true, et_yes, fun h => absurd h (by decide), fun _ => (evm_popAt (i := 2) (ds := rest) rfl (ev_pick (i := 0) rfl (ev_lenO (i := 2) rfl) (by omega) (by omega)) (by omega)).imp ?_⟩
    rintro e Δ'' ⟨r, hr', rfl⟩
    refine ⟨rest.eraseIdx r, rfl, ?_, by simp [hai]⟩
    rw [List.append_assoc]
    exact ((perm_pick hr').append_left acc).trans hp
  · rintro ds acc Δn rfl ⟨rest, rfl, hp, hai⟩
    have : (rngD 0 ((l.length : Nat) : Int).toNat).length = l.length := by simp [rngD]
    rw [this] at hai
    have hz : rest = [] := by
      have := hp.length_eq
      rw [List.length_append] at this
      exact List.eq_nil_of_length_eq_zero (by omega)
    rw [hz, List.append_nil] at hp
    exact hp
end
end K02

namespace K02
open PySem L2 PySem.Spec PyProof.Rows Bc
open Lex (endOf run lexAt Lm Lk lexL lexF blanks)
theorem num_txt (n : Nat) : (Str.ofString (toString ((n : Nat) : Int))) = txt (TL.numL n) := by
  have := TL.tl_num n
  rw [← this]
  exact (Bc.txt_eta _).symm
theorem log_ok {n : Nat} (h : n < 10 ^ 45) : (n : Int).natAbs.log2 < 1920 := by
  rw [Int.natAbs_natCast]
  by_cases h0 : n = 0
  · subst h0
    decide
  · rw [Nat.log2_lt h0]
    exact Nat.lt_of_lt_of_le (Nat.lt_trans h (show 10 ^ 45 < 2 ^ 150 by decide)) (Nat.pow_le_pow_right (by decide) (by decide))
section
variable {F : Fp} {Δ : List Sl} {ta tb te : TE} {K : PySem.W.Frag} {E : XK}
theorem ev_strN {n : Nat} (h : Ev1 F te Δ (.int (n : Nat))) (hn : n < 10 ^ 45) : Ev1 F (tCB rStrP (tCons te tNil)) Δ (.str (txt (TL.numL n))) :=
  (ev_cb1 sStrC (ea_cons1 h ea_nil) ⟨log_ok hn, rfl⟩).eq (congrArg D.str (num_txt n))
theorem cut_from {a : List Nat} {p : Nat} : cutS (txt a) (some (p : Int)) Option.none = txt (a.drop p) := by
  unfold cutS
  rw [txt_list, txt_len]
  simp only [HT.sIx_none, HT.sIx_nat]
  by_cases h : p ≤ a.length
  · rw [Nat.min_eq_left h, List.take_of_length_le (by simp)]
    rfl
  · rw [Nat.min_eq_right (by omega), List.drop_of_length_le (Nat.le_refl _), List.drop_of_length_le (by omega), List.take_nil]
    rfl
end
theorem num3 {v : Nat} (h : v < 100) : TL.numL (100 + v) = [49, 48 + v / 10, 48 + v % 10] := by
  rw [TL.numL_step (by omega), TL.numL_step (by omega), TL.numL_lt (by omega)]
  have e1 : (100 + v) / 10 / 10 = 1 := by omega
  have e2 : (100 + v) / 10 % 10 = v / 10 := by omega
  have e3 : (100 + v) % 10 = v % 10 := by omega
  rw [e1, e2, e3]
  rfl
def tailsW : List (List Nat) := [[], [], [], [107], List.replicate 9 107]
def IsName (sh j : Nat) (w : List Nat) : Prop := ∃ c t, c ∈ Lex.letters ∧ t ∈ tailsW ∧ w = c :: (48 + (sh + 37 * j) % 100 / 10) :: (48 + (sh + 37 * j) % 100 % 10) :: t
theorem name_wd {sh j : Nat} {w : List Nat} (h : IsName sh j w) : Wq w ∧ w ≠ cRoot := by
  obtain ⟨c, t, hc, ht, rfl⟩ := h
  have tk : ∀ t ∈ tailsW, (∀ x ∈ t, x ∈ Lex.letters ++ Lex.digits) ∧ t.length ≤ 9 := by decide
  obtain ⟨t1, t2⟩ := tk t ht
  have dg : ∀ a : Nat, a < 10 → 48 + a ∈ Lex.letters ++ Lex.digits := by decide
  refine ⟨⟨⟨c, _, rfl, hc, fun x hx => ?_, by simp; omega⟩, fun e => ?_, fun e => ?_⟩, fun e => ?_⟩
  · rcases List.mem_cons.mp hx with rfl | hx
    · exact dg _ (by omega)
    · rcases List.mem_cons.mp hx with rfl | hx
      · exact dg _ (by omega)
      · exact t1 x hx
  · simp only [cZq, List.cons.injEq] at e
    omega
  · simp only [cZ9, List.cons.injEq] at e
    omega
  · simp only [cRoot, List.cons.injEq] at e
    omega
structure Names (ns : List (List Nat)) : Prop where
  wd : ∀ w ∈ ns, Wq w
  rt : ∀ w ∈ ns, w ≠ cRoot
  nd : ns.Nodup
theorem names_of {sh : Nat} {ns : List (List Nat)} (hl : ns.length ≤ 12) (h : ∀ j w, ns[j]? = some w → IsName sh j w) : Names ns := by
  refine ⟨fun w hw => ?_, fun w hw => ?_, ?_⟩
  · obtain ⟨j, hj, e⟩ := List.getElem_of_mem hw
    exact (name_wd (h j w (by rw [List.getElem?_eq_getElem hj, e]))).1
  · obtain ⟨j, hj, e⟩ := List.getElem_of_mem hw
    exact (name_wd (h j w (by rw [List.getElem?_eq_getElem hj, e]))).2
  · refine List.pairwise_iff_getElem.mpr fun i j hi hj hij e => ?_
    obtain ⟨c, t, _, _, e1⟩ := h i _ (List.getElem?_eq_getElem hi)
    obtain ⟨c', t', _, _, e2⟩ := h j _ (List.getElem?_eq_getElem hj)
    rw [e1, e2] at e
    simp only [List.cons.injEq] at e
    omega
section
variable {P : Program} {w : World} {K : PySem.W.Frag} {mg : Str → Option Value} {base : Heap}
def RNames (ds : List D) (d : D) : Prop := ∃ (n : Nat) (ns : List (List Nat)), ds = [.int (n : Nat)] ∧ n ≤ 12 ∧ Names ns ∧ ns.length = n ∧ d = .list (txts ns)
theorem tails_txt : txts tailsW = [D.str "", .str "", .str "", .str "k", .str "kkkkkkkkk"] := by
  have : tailsW.map txt = [("" : Str), "", "", "k", "kkkkkkkkk"] := by decide +kernel
  have e : txts tailsW = (tailsW.map txt).map D.str := by simp [txts]
  rw [e, this]
  rfl
theorem rnames_ex {n : Nat} (h : n ≤ 12) : ∃ d, RNames [.int (n : Nat)] d := by
  have : ∀ m : Nat, m ≤ 12 → ∃ ns : List (List Nat), ns.length = m ∧ ∀ j w, ns[j]? = some w → IsName 0 j w := fun m => by
    induction m with
    | zero => exact fun _ => ⟨[], rfl, fun j w e => by simp at e⟩
    | succ m ih =>
      intro hm
      obtain ⟨ns, h1, h2⟩ := ih (by omega)
      refine ⟨ns ++ [97 :: (48 + (0 + 37 * m) % 100 / 10) :: (48 + (0 + 37 * m) % 100 % 10) :: []], by simp [h1], fun j w e => ?_⟩
      by_cases hj : j < ns.length
      · rw [List.getElem?_append_left hj] at e
        exact h2 j w e
      · rw [List.getElem?_append_right (by omega)] at e
        have : j = m := by
          have := (List.getElem?_eq_some_iff.mp e).1
          simp at this
          omega
        subst this
        rw [h1, Nat.sub_self] at e
        simp only [List.getElem?_cons_zero, Option.some.injEq] at e
        exact ⟨97, [], by decide, by decide, e.symm⟩
  obtain ⟨ns, h1, h2⟩ := this n h
  exact ⟨_, n, ns, rfl, h, names_of (by omega) h2, h1, rfl⟩
abbrev s__law_names : Stmt := top 27
theorem sc__law_names : FnScope ["_law_source_here", "_law_many", "_law_shift", "_law_names_here", "_law_tails", "_law_k", "_law_letter"] ["_law_source_here", "_law_many"] (defScope s__law_names) := ⟨rfl, rfl, rfl, by decide +kernel, rfl, by decide +kernel, by decide +kernel⟩
theorem ok__law_names {k : Nat} {f : Addr} {fd : FuncData} (T : Tx K mg) (G__law_pick : FnT P w K mg base k "_law_pick" ["_law_source_here", "_law_many"] (SpD true false RPick)) (Fu : Fun K "_law_names" "_law_names" s__law_names f fd) : FnOk P w K mg base CX0 (k + 1) f fd ["_law_source_here", "_law_many"] (SpD true true RNames) := by
  refine ok_D Fu sc__law_names (fun ds d ⟨_, _, e, _⟩ => by rw [e]; rfl) fun cdv A outer s H E hr => ?_
  refine ⟨_, (pss_cons (ps_par3 (i := 2) (j := 3) (l := 4) rfl sc__law_names.nd rfl rfl rfl (by decide) (by decide) (by decide) rfl rfl rfl (pa_cons (pe_callT G__law_pick hr (pa_cons (pv 0) (pa_cons pe_int pa_nil))) (pa_cons (pe_lst pa_nil) (pa_cons (pe_lst (pa_cons pe_str (pa_cons pe_str (pa_cons pe_str (pa_cons pe_str (pa_cons pe_str pa_nil)))))) pa_nil))) (by rfl))
    (pss_cons (ps_for PassesOwn.never rfl (pi_range1 (by rfl) T.n_range (pa_cons (pv 1) pa_nil)) (pg_name (i := 5) sc__law_names.nd rfl (Or.inl rfl))
      (pss_cons (ps_set (i := 6) sc__law_names.nd rfl (Or.inl rfl) (pe_ix (qIx (K := K)) pe_str (pe_callT G__law_pick hr (pa_cons (pv 0) (pa_cons pe_int pa_nil))) (fun _ _ => rfl)))
      (pss_one (ps_expr (qBm (K := K) PySem.F.plainAttrs_list PySem.F.slot_list_append PySem.F.type_list_append mt_append (pv 3) (pa_cons (pe_op (qAdd (K := K)) (pe_op (qAdd (K := K)) (pv 6) (pe_slice (qSl (K := K)) (pe_callTy pStr (by rfl) T.n_str (by decide +kernel) (pa_cons (pe_op (qAdd (K := K)) pe_int (pe_op op_modN (pe_callTy pInt (by rfl) T.n_int (by decide +kernel) (pa_cons (pe_op (qAdd (K := K)) (pv 2) (pe_op pMul pe_int (pv 5))) pa_nil)) pe_int)) pa_nil)) (po_some pe_int) po_none)) (pe_ix (qIx (K := K)) (pv 4) (pe_callT G__law_pick hr (pa_cons (pv 0) (pa_cons pe_int pa_nil))) (fun _ _ => rfl))) pa_nil))))))
    (pss_one (ps_ret (pv 3))))), fun F ds hF hR => ?_⟩
  obtain ⟨_, n, _, rfl, hn, _⟩ := hR
  have z : ∀ n ≤ 100000, n ≤ sizeLine := fun n hn => Nat.le_trans hn (by decide)
  refine run_par3O (P1 := fun d => ∃ r : Nat, r < 100 ∧ d = .int (r : Nat)) (P2 := fun r => r = []) (P3 := fun z => z = .list (txts tailsW)) (ev_pick (i := 0) (n := 100) rfl ev_int (by decide) (by decide)) (ef_lst ea_nil) ((EvF.val1 (ef_lst (ea_cons1 ev_str (ea_cons1 ev_str (ea_cons1 ev_str (ea_cons1 ev_str (ea_cons1 ev_str ea_nil))))))).eq (by rw [tails_txt])) (by show 3 < 7; decide) (by decide) ?_
  rintro x ds zz ⟨sh, hsh, rfl⟩ rfl rfl
  refine run_seqM (N := fun Δ => ∃ ns s5 s6, Δ = [.src, .v (.int (n : Nat)), .v (.int (sh : Nat)), .own (txts ns), .v (.list (txts tailsW)), s5, s6] ∧ ns.length = n ∧ ∀ j w, ns[j]? = some w → IsName sh j w) ?_ ?_
  · refine run_for (ds := rngD 0 n) ((ei_rng (n := (n : Nat)) (ea_cons1 (ev_var rfl) ea_nil) (by omega)).imp fun r e => by rw [e]; simp) (fun i Δ => ∃ ns s5 s6, Δ = [.src, .v (.int (n : Nat)), .v (.int (sh : Nat)), .own (txts ns), .v (.list (txts tailsW)), s5, s6] ∧ ns.length = i ∧ ∀ j w, ns[j]? = some w → IsName sh j w) ⟨[], .un, .un, rfl, rfl, fun j w e => by simp at e⟩ ?_ ?_
    · rintro i d Δ hd ⟨ns, s5, s6, rfl, hl, hns⟩
      have hi : i < n := by
        have := (List.getElem?_eq_some_iff.mp hd).1
        simpa [rngD] using this
      have ed : d = .int ((i : Nat) : Int) := by
        have := (List.getElem?_eq_some_iff.mp hd).2
        rw [← this]
        simp [rngD]
      subst ed
      refine ⟨_, _, eg_name, ?_⟩
      refine run_asgS (P := fun d => ∃ c, c ∈ Lex.letters ∧ d = .str (txt [c])) (ev_op sIx (P1 := fun d => d = .str (txt Lex.letters)) (P2 := fun d => ∃ r : Nat, r < 26 ∧ d = .int (r : Nat)) (ev_str.eq (congrArg D.str lets_txt)) (ev_pick (i := 0) (n := 26) rfl ev_int (by decide) (by decide)) fun x y e1 ⟨r, hr, e2⟩ => ?_) fun d ⟨c, hc, ed⟩ => ?_
      · subst e1 e2
        have hr' : r < Lex.letters.length := hr
        refine ⟨.str ⟨#[Lex.letters[r]]⟩, ⟨by rw [txt_len]; decide, Lex.letters[r], ?_, rfl⟩, Lex.letters[r], List.getElem_mem hr', rfl⟩
        rw [txt_list]
        exact atI_nat (List.getElem?_eq_getElem hr')
      subst ed
      have hv : (sh + 37 * i) % 100 < 100 := Nat.mod_lt _ (by decide)
      have num : ∀ {Δ : List Sl}, Δ[2]? = some (.v (.int (sh : Nat))) → Δ[5]? = some (.v (.int (i : Nat))) → Ev1 F (tOp (rAddP K) (tC (.int 100)) (tOp (rI (fun _ j => j ≠ 0) fun i j => .int (i.fmod j)) (tCB rIntP (tCons (tOp (rAddP K) (tVar 2) (tOp rMulP (tC (.int 37)) (tVar 5))) tNil)) (tC (.int 100)))) Δ (.int ((100 + (sh + 37 * i) % 100 : Nat) : Int)) := fun {Δ} a1 a2 => by
        refine (ev_addI (j := (((sh + 37 * i) % 100 : Nat) : Int)) (ev_int (i := 100)) ((ev_op1 (d := .int (((sh : Nat) + 37 * (i : Nat) : Int).fmod 100)) (sInt (C := fun _ j => j ≠ 0) (g := fun i j => i.fmod j)) (ev_cb1 sIntC (ea_cons1 (ev_addI (ev_var a1) (ev_mulI (ev_int (i := 37)) (ev_var a2) ?_)) ea_nil) rfl) (ev_int (i := 100)) ⟨show (100 : Int) ≠ 0 by decide, rfl⟩).eq (congrArg D.int ?_))).eq (congrArg D.int (by omega))
        · exact .inl ⟨by decide, by decide⟩
        · rw [Int.fmod_eq_emod_of_nonneg _ (by decide)]
          omega
      have str3 : ∀ {Δ : List Sl}, Δ[2]? = some (.v (.int (sh : Nat))) → Δ[5]? = some (.v (.int (i : Nat))) → Ev1 F (tSl (rSlP K) (tCB rStrP (tCons (tOp (rAddP K) (tC (.int 100)) (tOp (rI (fun _ j => j ≠ 0) fun i j => .int (i.fmod j)) (tCB rIntP (tCons (tOp (rAddP K) (tVar 2) (tOp rMulP (tC (.int 37)) (tVar 5))) tNil)) (tC (.int 100)))) tNil)) (tPart (tC (.int 1))) tNoPart) Δ (.str (txt [48 + (sh + 37 * i) % 100 / 10, 48 + (sh + 37 * i) % 100 % 10])) := fun {Δ} a1 a2 => by
        refine ev_sl1 (ev_strN (num a1 a2) (Nat.lt_of_lt_of_le (show 100 + (sh + 37 * i) % 100 < 200 by omega) (by decide))) (eo_some ev_int) eo_none ⟨?_, ?_⟩
        · rw [num3 hv, txt_len]
          exact z _ (by simp)
        · rw [num3 hv, show (1 : Int) = ((1 : Nat) : Int) by rfl, cut_from]
          rfl
      have tl : ∀ {Δ : List Sl} {E : XK}, Δ[0]? = some .src → Δ[4]? = some (.v (.list (txts tailsW))) → EvR F (tOp (rIx K) (tVar 4) (tCall (SpD true false RPick) [] E (tCons (tVar 0) (tCons (tC (.int 5)) tNil)))) Δ fun d => ∃ b, d = .str (txt b) ∧ b ∈ tailsW := fun a1 a2 =>
        ev_op sIx (P1 := fun d => d = .list (txts tailsW)) (P2 := fun d => ∃ r : Nat, r < 5 ∧ d = .int (r : Nat)) (ev_var a2) (ev_pick (n := 5) a1 ev_int (by decide) (by decide)) fun x y e1 ⟨r, hr, e2⟩ => by
          subst e1 e2
          have hr' : r < tailsW.length := hr
          exact ⟨.str (txt tailsW[r]), atI_nat (by rw [List.getElem?_map, List.getElem?_eq_getElem hr']; rfl), tailsW[r], rfl, List.getElem_mem hr'⟩
      have tk : ∀ t ∈ tailsW, t.length ≤ 9 := by decide
      refine run_app (i := 3) (P := fun d => ∃ w, IsName sh i w ∧ d = .str (txt w)) rfl ((ev_addSS (Pa := fun a => a = [c, 48 + (sh + 37 * i) % 100 / 10, 48 + (sh + 37 * i) % 100 % 10]) (Pb := fun b => b ∈ tailsW) ((ev_addS (a := [c]) (b := [48 + (sh + 37 * i) % 100 / 10, 48 + (sh + 37 * i) % 100 % 10]) (ev_var rfl) (str3 rfl rfl) (z _ (by simp))).imp fun d e => ⟨_, e, rfl⟩) (tl rfl rfl) ?_).imp ?_) ?_ ?_
      · rintro a b rfl hb
        have := tk b hb
        exact z _ (by simp; omega)
      · rintro d ⟨a, b, rfl, rfl, hb⟩
        exact ⟨_, ⟨c, b, hc, hb, rfl⟩, rfl⟩
      · exact Nat.lt_of_le_of_lt (show (txts ns).length ≤ 12 by simp; omega) (by decide)
      · rintro d ⟨nm, hnm, rfl⟩
        refine ⟨ns ++ [nm], .v (.int (i : Nat)), .v (.str (txt [c])), by simp [txts], by simp [hl], fun j w' e => ?_⟩
        by_cases hj : j < ns.length
        · rw [List.getElem?_append_left hj] at e
          exact hns j w' e
        · rw [List.getElem?_append_right (by omega)] at e
          have hji : j = i := by
            have := (List.getElem?_eq_some_iff.mp e).1
            simp at this
            omega
          subst hji
          rw [hl, Nat.sub_self] at e
          simp only [List.getElem?_cons_zero, Option.some.injEq] at e
          exact e ▸ hnm
    · rintro Δ ⟨ns, s5, s6, rfl, hl, hns⟩
      exact ⟨ns, s5, s6, rfl, by rw [hl]; simp [rngD], hns⟩
  · rintro Δ ⟨ns, s5, s6, rfl, hl, hns⟩
    exact run_retO (i := 3) rfl ⟨n, ns, rfl, hn, names_of (by omega) hns, hl, rfl⟩
end
end K02

namespace K02
open PySem L2 PySem.Spec PyProof.Rows Bc
open Lex (endOf run lexAt Lm Lk lexL lexF blanks)
section
variable {F : Fp} {Δ : List Sl} {te ta : TE} {K : PySem.W.Frag} {E : XK}
theorem ef_mixed {i : Nat} {l : List D} (hi : Δ[i]? = some .src) (h : Ev1 F te Δ (.list l)) (hl : l.length ≤ 1000) : EvF F (tCall (SpD true true RMixed) [] E (tCons (tVar i) (tCons te tNil))) Δ fun m => m.Perm l :=
  (ef_callS hi (ea_cons1 h ea_nil) fun ds e => ⟨.list l, l, l, e, hl, List.Perm.refl _, rfl⟩).imp fun m ⟨ds, e, l', m', e2, _, hp, e3⟩ => by
    rw [e] at e2
    simp only [List.cons.injEq, D.list.injEq, and_true] at e2
    subst e2
    cases e3
    exact hp
theorem ef_names {i n : Nat} (hi : Δ[i]? = some .src) (h : Ev1 F te Δ (.int (n : Nat))) (hn : n ≤ 12) : EvF F (tCall (SpD true true RNames) [] E (tCons (tVar i) (tCons te tNil))) Δ fun r => ∃ ns, Names ns ∧ ns.length = n ∧ r = txts ns :=
  (ef_callS hi (ea_cons1 h ea_nil) fun ds e => by subst e; exact rnames_ex hn).imp fun m ⟨ds, e, n', ns, e2, _, hp, hl, e3⟩ => by
    rw [e] at e2
    simp only [List.cons.injEq, D.int.injEq, and_true] at e2
    have : n' = n := by omega
    cases e3
    exact ⟨ns, hp, by omega, rfl⟩
theorem ef_namesR {i : Nat} {P : Nat → Prop} (hi : Δ[i]? = some .src) (h : EvR F te Δ fun d => ∃ n : Nat, P n ∧ d = .int (n : Nat)) (hn : ∀ n, P n → n ≤ 12) : EvF F (tCall (SpD true true RNames) [] E (tCons (tVar i) (tCons te tNil))) Δ fun r => ∃ ns, Names ns ∧ P ns.length ∧ r = txts ns :=
  (ef_callS hi (ea_cons h ea_nil) fun ds ⟨d, r, e, ⟨n, hp, e1⟩, e2⟩ => by subst e e1 e2; exact rnames_ex (hn n hp)).imp fun m ⟨ds, ⟨d, r, e, ⟨n, hp, e1⟩, e2⟩, n', ns, e3, _, hq, hl, e4⟩ => by
    rw [e, e1, e2] at e3
    simp only [List.cons.injEq, D.int.injEq, and_true] at e3
    have : n' = n := by omega
    cases e4
    exact ⟨ns, hq, by rw [hl, this]; exact hp, rfl⟩
theorem txts_mem {ws : List (List Nat)} {d : D} (h : d ∈ txts ws) : ∃ w ∈ ws, d = .str (txt w) := by
  obtain ⟨w, hw, rfl⟩ := List.mem_map.mp h
  exact ⟨w, hw, rfl⟩
theorem ev_ofW {i : Nat} {ws : List (List Nat)} (hi : Δ[i]? = some .src) (h : Ev1 F ta Δ (.list (txts ws))) (h0 : 0 < ws.length) (h1 : ws.length ≤ 1000) : EvR F (tCall (SpD true false ROf) [] E (tCons (tVar i) (tCons ta tNil))) Δ fun d => ∃ w ∈ ws, d = .str (txt w) :=
  (ev_of hi h (by simpa using h0) (by simp; omega)).imp fun d hd => txts_mem hd
theorem snoc_of : ∀ {α : Type} {l : List α}, 0 < l.length → ∃ (r : List α) (x : α), l = r ++ [x] := fun {α l} h => ⟨l.dropLast, l.getLast (by intro e; rw [e] at h; exact absurd h (Nat.lt_irrefl 0)), (List.dropLast_concat_getLast _).symm⟩
theorem key_strs {P : List Nat → Prop} : ∀ {r : List D}, (∀ d ∈ r, ∃ w, P w ∧ d = .str (txt w)) → ∃ ws : List (List Nat), ws.length = r.length ∧ (∀ w ∈ ws, P w) ∧ r = txts ws
  | [], _ => ⟨[], rfl, fun _ h => (by cases h), rfl⟩
  | d :: r, h => by
    obtain ⟨w, hw, rfl⟩ := h d (List.mem_cons_self ..)
    obtain ⟨l, h1, h2, h3⟩ := key_strs fun e he => h e (List.mem_cons_of_mem _ he)
    exact ⟨w :: l, by simp [h1], fun q hq => (List.mem_cons.mp hq).elim (fun e => e ▸ hw) (h2 q), by rw [h3]; rfl⟩
end
section
variable {P : Program} {w : World} {K : PySem.W.Frag} {mg : Str → Option Value} {base : Heap}
/-- shapes on the way, and words that are left -/
structure Way (sh : List Sh) (ws : List (List Nat)) (n : Nat) : Prop where
  ok : ∀ s ∈ sh, okz s
  wd : ∀ w ∈ ws, Wq w
  nd : (sh.map Sh.w ++ ws).Nodup
  n : sh.length + ws.length = n
theorem Way.next {sh : List Sh} {r : List (List Nat)} {x c : List Nat} {bs : List (List Nat)} {n : Nat} (h : Way sh (r ++ [x]) n) (hc : Wq c) (hb : ∀ b ∈ bs, Wq b) (hn : bs.length ≤ 10) : Way (sh ++ [⟨x, c, bs⟩]) r n where
  ok := fun s hs => by
    rcases List.mem_append.mp hs with hs | hs
    · exact h.ok s hs
    · rw [List.mem_singleton] at hs
      subst hs
      exact Sh.mk_okz (h.wd x (by simp)) hc hb (Nat.le_trans hn (by decide))
  wd := fun w hw => h.wd w (by simp [hw])
  nd := by
    have p : (sh.map Sh.w ++ (r ++ [x])).Perm ((sh ++ [(⟨x, c, bs⟩ : Sh)]).map Sh.w ++ r) := by
      rw [List.map_append, List.append_assoc]
      exact List.Perm.append_left _ List.perm_append_comm
    exact p.nodup_iff.mp h.nd
  n := by
    have := h.n
    simp only [List.length_append, List.length_cons, List.length_nil] at this ⊢
    omega
def RShps (ds : List D) (d : D) : Prop := ∃ l, ds = [.int 4] ∧ Shz l ∧ d = .list (l.map Sh.d)
theorem shs_perm {l m : List Sh} (hp : l.Perm m) (h1 : ∀ s ∈ l, okz s) (h2 : (l.map Sh.w).Nodup) (h3 : l.length ≤ 20) : Shz m :=
  ⟨fun s hs => h1 s (hp.mem_iff.mpr hs), (hp.map Sh.w).nodup_iff.mp h2, by rw [← hp.length_eq]; exact Nat.le_trans h3 (by decide)⟩
abbrev s__law_shapes : Stmt := top 28
theorem sc__law_shapes : FnScope ["_law_source_here", "_law_most", "_law_colours", "_law_words", "_law_shapes_here", "_law_colour", "_law_lap", "_law_branches", "_law_turn"] ["_law_source_here", "_law_most"] (defScope s__law_shapes) := ⟨rfl, rfl, rfl, by decide +kernel, rfl, by decide +kernel, by decide +kernel⟩
theorem ok__law_shapes {k : Nat} {f : Addr} {fd : FuncData} (T : Tx K mg) (G__law_pick : FnT P w K mg base k "_law_pick" ["_law_source_here", "_law_many"] (SpD true false RPick)) (G__law_of : FnT P w K mg base k "_law_of" ["_law_source_here", "_law_some"] (SpD true false ROf)) (G__law_names : FnT P w K mg base k "_law_names" ["_law_source_here", "_law_many"] (SpD true true RNames)) (G__law_mixed : FnT P w K mg base k "_law_mixed" ["_law_source_here", "_law_things"] (SpD true true RMixed)) (Fu : Fun K "_law_shapes" "_law_shapes" s__law_shapes f fd) : FnOk P w K mg base CX0 (k + 1) f fd ["_law_source_here", "_law_most"] (SpD true true RShps) := by
  refine ok_D Fu sc__law_shapes (fun ds d ⟨_, e, _⟩ => by rw [e]; rfl) fun cdv A outer s H E hr => ?_
  refine ⟨_, (pss_cons (ps_asg (pe_tup (pa_cons (pe_callT G__law_names hr (pa_cons (pv 0) (pa_cons (pe_op (qAdd (K := K)) pe_int (pe_callT G__law_pick hr (pa_cons (pv 0) (pa_cons pe_int pa_nil)))) pa_nil))) (pa_cons (pe_callT G__law_names hr (pa_cons (pv 0) (pa_cons pe_int pa_nil))) pa_nil))) (qg_tup (K := K) rfl (pgs_cons (pg_name (i := 2) sc__law_shapes.nd rfl (Or.inr rfl)) (pgs_cons (pg_name (i := 3) sc__law_shapes.nd rfl (Or.inr rfl)) pgs_nil))))
    (pss_cons (ps_setLc (i := 4) (own := [("_law_colour", 5)]) rfl sc__law_shapes.nd rfl rfl (sw_true rfl rfl rfl (by decide +kernel)) (qi_any (K := K) (pv 2)) (blkOk_by (own := [("_law_colour", 5)]) (N := ["_law_source_here", "_law_most", "_law_colours", "_law_words", "_law_shapes_here", "_law_colour", "_law_lap", "_law_branches", "_law_turn"]) (sc := defScope s__law_shapes) (by decide +kernel)) (fun _ _ _ _ _ => (pg_name (i := 5) sc__law_shapes.nd rfl (by first | exact Or.inl rfl | exact Or.inr rfl))) (fun _ _ _ _ _ => pts_nil) (fun _ _ _ _ _ => (pe_tup (pa_cons (qBm0 (K := K) PySem.F.plainAttrs_list PySem.F.slot_list_pop PySem.F.type_list_pop mt_pop (pv 3)) (pa_cons (pv 5) (pa_cons (pe_tup pa_nil) pa_nil))))))
    (pss_cons (ps_for PassesOwn.never rfl (pi_range1 (by rfl) T.n_range (pa_cons (pe_callT G__law_pick hr (pa_cons (pv 0) (pa_cons (pe_op (qAdd (K := K)) (pv 1) pe_int) pa_nil))) pa_nil)) (pg_name (i := 6) sc__law_shapes.nd rfl (Or.inl rfl))
      (pss_cons (ps_set (i := 7) sc__law_shapes.nd rfl (Or.inl rfl) (pe_callTy (qTuple (K := K)) (by rfl) T.n_tuple (by decide +kernel) (pa_cons (pe_lc (own := [("_law_turn", 8)]) rfl sc__law_shapes.nd (pi_range1 (by rfl) T.n_range (pa_cons (pe_op (qAdd (K := K)) pe_int (pe_callT G__law_pick hr (pa_cons (pv 0) (pa_cons pe_int pa_nil)))) pa_nil)) (blkOk_by (own := [("_law_turn", 8)]) (N := ["_law_source_here", "_law_most", "_law_colours", "_law_words", "_law_shapes_here", "_law_colour", "_law_lap", "_law_branches", "_law_turn"]) (sc := defScope s__law_shapes) (by decide +kernel)) (fun _ _ _ _ _ => (pg_name (i := 8) sc__law_shapes.nd rfl (by first | exact Or.inl rfl | exact Or.inr rfl))) (fun _ _ _ _ _ => pts_nil) (fun _ _ _ _ _ => (pe_callT G__law_of hr (pa_cons (pv 0) (pa_cons (pv 2) pa_nil))))) pa_nil)))
      (pss_one (ps_expr (qBm (K := K) PySem.F.plainAttrs_list PySem.F.slot_list_append PySem.F.type_list_append mt_append (pv 4) (pa_cons (pe_tup (pa_cons (qBm0 (K := K) PySem.F.plainAttrs_list PySem.F.slot_list_pop PySem.F.type_list_pop mt_pop (pv 3)) (pa_cons (pe_callT G__law_of hr (pa_cons (pv 0) (pa_cons (pv 2) pa_nil))) (pa_cons (pv 7) pa_nil)))) pa_nil))))))
    (pss_one (ps_ret (pe_callT G__law_mixed hr (pa_cons (pv 0) (pa_cons (pv 4) pa_nil)))))))), fun F ds hF hR => ?_⟩
  obtain ⟨_, _, rfl, _⟩ := hR
  have z : ∀ n ≤ 100000, n ≤ sizeLine := fun n hn => Nat.le_trans hn (by decide)
  have one_more : ∀ {Δ : List Sl} {E : XK}, Δ[0]? = some .src → EvR F (tOp (rAddP K) (tC (.int 1)) (tCall (SpD true false RPick) [] E (tCons (tVar 0) (tCons (tC (.int 3)) tNil)))) Δ fun d => ∃ n : Nat, (0 < n ∧ n ≤ 3) ∧ d = .int (n : Nat) := fun h0 =>
    ev_op sAdd (P1 := fun d => d = .int 1) (P2 := fun d => ∃ r : Nat, r < 3 ∧ d = .int (r : Nat)) ev_int (ev_pick (n := 3) h0 ev_int (by decide) (by decide)) fun x y e1 ⟨r, hr, e2⟩ => by
      subst e1 e2
      exact ⟨_, rfl, 1 + r, ⟨by omega, by omega⟩, congrArg D.int (by omega)⟩
  refine run_asgO (P1 := fun d => ∃ cs, Names cs ∧ (0 < cs.length ∧ cs.length ≤ 3) ∧ d = .list (txts cs)) (P2 := fun r => ∃ ns, Names ns ∧ ns.length = 12 ∧ r = txts ns) (P3 := fun r => r = []) ((ef_namesR (i := 0) rfl (one_more rfl) fun n h => by omega).val.imp fun d ⟨r, ⟨ns, h1, h2, h3⟩, e⟩ => ⟨ns, h1, h2, by rw [e, h3]⟩) (ef_names (i := 0) rfl ev_int (by decide)) ea_nil (fun r e => by rw [e]; rfl) (by show 2 ≤ sizeLine; decide) (by show 3 < 9; decide) ?_
  rintro x ds r ⟨cs, hcs, hcl, rfl⟩ ⟨ns, hns, hnl, rfl⟩ rfl
  refine ⟨_, _, egs_nil, ?_⟩
  refine run_setFM (Pa := fun acc Δ' => ∃ sh ws, Way sh ws 12 ∧ sh.length ≤ 3 ∧ acc = sh.map Sh.d ∧ Δ' = [.src, .v (.int 4), .v (.list (txts cs)), .own (txts ws), .un, .un, .un, .un, .un]) (efm_lcP (ei_list (ev_var (d := .list (txts cs)) (i := 2) rfl)) (fun ds e => by rw [e]; exact z _ (by simp; omega)) (fun ds i acc Δi => ∃ sh ws, Way sh ws 12 ∧ sh.length = i ∧ acc = sh.map Sh.d ∧ Δi = [.src, .v (.int 4), .v (.list (txts cs)), .own (txts ws), .un, .un, .un, .un, .un]) (fun ds e => ⟨[], ns, ⟨fun _ h => (by cases h), hns.wd, hns.nd, by simpa using hnl⟩, rfl, rfl, rfl⟩) (fun ds i acc Δi ⟨_, _, _, _, _, e⟩ => by rw [e]; rfl) ?_ ?_) ?_ ?_
  · rintro ds i d acc Δi rfl hd ⟨sh, ws, hw, hi, rfl, rfl⟩ hla
    obtain ⟨c, hc, rfl⟩ := txts_mem (List.mem_of_getElem? hd)
    have hi3 : i < cs.length := by
      have := (List.getElem?_eq_some_iff.mp hd).1
      simpa using this
    have hn := hw.n
    obtain ⟨r, x, rfl⟩ := snoc_of (l := ws) (by omega)
    refine ⟨[5], [.src, .v (.int 4), .v (.list (txts cs)), .own (txts (r ++ [x])), .un, .v (.str (txt c)), .un, .un, .un], eg_name, by simp, fun b => b = true, et_yes, fun h => absurd h (by decide), fun _ => ?_⟩
    refine (evm_tup (Pa := fun ds Δ' => ds = [.str (txt x), .str (txt c), .tuple []] ∧ Δ' = [.src, .v (.int 4), .v (.list (txts cs)), .own (txts r), .un, .v (.str (txt c)), .un, .un, .un]) ((eam_cons (P := fun d Δ' => d = .str (txt x) ∧ Δ' = [.src, .v (.int 4), .v (.list (txts cs)), .own (txts r), .un, .v (.str (txt c)), .un, .un, .un]) (Pr := fun d Δ' q Δ'' => q = [.str (txt c), .tuple []] ∧ Δ'' = Δ') ((evm_pop (i := 3) (r := txts r) (x := .str (txt x)) (by show some (Sl.own (txts (r ++ [x]))) = _; simp [txts])).imp fun d Δ' ⟨e1, e2⟩ => ⟨e1, by rw [e2]; rfl⟩) fun d Δ' h => ?_).imp ?_) fun ds Δ' h => ?_).imp ?_
    · obtain ⟨rfl, rfl⟩ := h
      exact (eam_cons (P := fun d Δ' => d = .str (txt c) ∧ Δ' = _) (Pr := fun d Δ' q Δ'' => q = [.tuple []] ∧ Δ'' = Δ') (ev_var rfl).m fun d Δ' h => ((eam_cons (P := fun d Δ'' => d = .tuple [] ∧ Δ'' = Δ') (Pr := fun d Δ' q Δ'' => q = [] ∧ Δ'' = Δ') (ev_tup ea_nil).m fun d Δ' h => eam_nil).imp fun ds Δ'' ⟨d, Δ1, r, e1, ⟨e2, e3⟩, e4, e5⟩ => ⟨by rw [e1, e2, e4], by rw [e5, e3]⟩)).imp fun ds Δ'' ⟨d, Δ1, r, e1, ⟨e2, e3⟩, e4, e5⟩ => ⟨by rw [e1, e2, e4], by rw [e5, e3]⟩
    · rintro ds Δ'' ⟨d, Δ1, q, rfl, ⟨rfl, rfl⟩, rfl, rfl⟩
      exact ⟨rfl, rfl⟩
    · rw [h.1]
      show 3 ≤ sizeLine
      decide
    · rintro e Δ'' ⟨ds, ⟨rfl, rfl⟩, rfl⟩
      exact ⟨sh ++ [⟨x, c, []⟩], r, hw.next (hcs.wd c hc) (fun _ h => by cases h) (by simp), by simp [hi], by simp [Sh.d, txts], rfl⟩
  · rintro ds acc Δn rfl ⟨sh, ws, hw, hi, rfl, rfl⟩
    exact ⟨sh, ws, hw, by rw [hi]; simp; omega, rfl, rfl⟩
  · rintro ds Δ' ⟨sh, ws, hw, hl, rfl, rfl⟩ j es e
    match j, e with
    | 3, e => exact ⟨_, rfl⟩
    | 0, e => cases e
    | 1, e => cases e
    | 2, e => cases e
    | 4, e => cases e
    | 5, e => cases e
    | 6, e => cases e
    | 7, e => cases e
    | 8, e => cases e
    | (j + 9), e => simp at e
  · rintro ds Δ' ⟨sh, ws, hw, hl, rfl, rfl⟩
    refine run_seqM (N := fun Δ => ∃ sh ws s6 s7 s8, Way sh ws 12 ∧ sh.length ≤ 8 ∧ Δ = [.src, .v (.int 4), .v (.list (txts cs)), .own (txts ws), .own (sh.map Sh.d), .un, s6, s7, s8]) ?_ ?_
    · refine run_forP (Pd := fun r => ∃ n : Nat, n < 5 ∧ r = rngD 0 n) ((ei_rngP (P := fun n => ∃ m : Nat, m < 5 ∧ n = (m : Nat)) ((ea_cons (ev_pick (i := 0) (n := 5) rfl ((ev_addI (i := 4) (ev_var rfl) ev_int).eq rfl) (by decide) (by decide)) ea_nil).imp fun ds ⟨d, r, e, ⟨m, hm, e1⟩, e2⟩ => ⟨(m : Nat), ⟨m, hm, rfl⟩, by rw [e, e1, e2]⟩) fun n ⟨m, hm, e⟩ => by omega).imp fun r ⟨n, ⟨m, hm, e1⟩, e2⟩ => ⟨m, hm, by rw [e2, e1]; simp⟩) (fun ds i Δ => ∃ sh ws s6 s7 s8, Way sh ws 12 ∧ sh.length ≤ 3 + i ∧ Δ = [.src, .v (.int 4), .v (.list (txts cs)), .own (txts ws), .own (sh.map Sh.d), .un, s6, s7, s8]) (fun ds e => ⟨sh, ws, _, _, _, hw, hl, rfl⟩) ?_ ?_
      · rintro ds i dj Δ ⟨n, hn, rfl⟩ hd ⟨sh, ws, s6, s7, s8, hw, hl, rfl⟩
        have hi : i < n := by
          have := (List.getElem?_eq_some_iff.mp hd).1
          simpa [rngD] using this
        have hwn := hw.n
        obtain ⟨r, x, rfl⟩ := snoc_of (l := ws) (by omega)
        refine ⟨_, _, eg_name, ?_⟩
        refine run_asgS (P := fun d => ∃ bs, (∀ b ∈ bs, Wq b) ∧ bs.length ≤ 10 ∧ d = .tuple (txts bs)) (ev_cb sTup (ea_cons ((ef_each (Pd := fun r => ∃ n : Nat, n ≤ 3 ∧ r = rngD 0 n) (P := fun d => ∃ w ∈ cs, d = .str (txt w)) ((ei_rngP (P := fun n => ∃ m : Nat, m ≤ 3 ∧ n = (m : Nat)) ((ea_cons (one_more rfl) ea_nil).imp fun ds ⟨d, r, e, ⟨m, hm, e1⟩, e2⟩ => ⟨(m : Nat), ⟨m, hm.2, rfl⟩, by rw [e, e1, e2]⟩) fun n ⟨m, hm, e⟩ => by omega).imp fun r ⟨n, ⟨m, hm, e1⟩, e2⟩ => ⟨m, hm, by rw [e2, e1]; simp⟩) (fun ds ⟨n, hn, e⟩ => by rw [e]; exact z _ (by simp [rngD]; omega)) fun ds i d ⟨n, hn, e⟩ hd => ⟨[8], [.src, .v (.int 4), .v (.list (txts cs)), .own (txts (r ++ [x])), .own (sh.map Sh.d), .un, .v dj, s7, .v d], eg_name, by simp, ev_ofW (i := 0) rfl (ev_var rfl) hcl.1 (by omega)⟩).val) ea_nil) fun ds' ⟨d, r', e, ⟨r2, ⟨ds2, ⟨n2, hn2, e3⟩, hl2, hall⟩, e4⟩, e5⟩ => ?_) fun d ⟨bs, hb, hbl, ed⟩ => ?_
        · subst e e4 e5
          obtain ⟨bs, b1, b2, b3⟩ := key_strs (P := fun w => Wq w) fun d hd => by
            obtain ⟨w, hw, e⟩ := hall d hd
            exact ⟨w, hcs.wd w hw, e⟩
          refine ⟨.tuple r2, rfl, bs, b2, ?_, by rw [b3]⟩
          rw [b1, hl2, e3]
          simp [rngD]
          omega
        · subst ed
          refine run_appM (P := fun d Δ' => ∃ c ∈ cs, d = .tuple [.str (txt x), .str (txt c), .tuple (txts bs)] ∧ Δ' = [.src, .v (.int 4), .v (.list (txts cs)), .own (txts r), .own (sh.map Sh.d), .un, .v dj, .v (.tuple (txts bs)), s8]) ⟨_, rfl⟩ ?_ ?_
          · refine (evm_tup (Pa := fun ds Δ' => ∃ c ∈ cs, ds = [.str (txt x), .str (txt c), .tuple (txts bs)] ∧ Δ' = [.src, .v (.int 4), .v (.list (txts cs)), .own (txts r), .own (sh.map Sh.d), .un, .v dj, .v (.tuple (txts bs)), s8]) ((eam_cons (P := fun d Δ' => d = .str (txt x) ∧ Δ' = [.src, .v (.int 4), .v (.list (txts cs)), .own (txts r), .own (sh.map Sh.d), .un, .v dj, .v (.tuple (txts bs)), s8]) (Pr := fun d Δ' q Δ'' => ∃ c ∈ cs, q = [.str (txt c), .tuple (txts bs)] ∧ Δ'' = Δ') ((evm_pop (i := 3) (r := txts r) (x := .str (txt x)) (by show some (Sl.own (txts (r ++ [x]))) = _; simp [txts])).imp fun d Δ' ⟨e1, e2⟩ => ⟨e1, by rw [e2]; rfl⟩) fun d Δ' h => ?_).imp ?_) fun ds Δ' h => ?_).imp ?_
            · obtain ⟨rfl, rfl⟩ := h
              refine (eam_cons (P := fun d Δ' => (∃ c ∈ cs, d = .str (txt c)) ∧ Δ' = _) (Pr := fun d Δ' q Δ'' => q = [.tuple (txts bs)] ∧ Δ'' = Δ') (ev_ofW (i := 0) rfl (ev_var rfl) hcl.1 (by omega)).m fun d Δ' h => ?_).imp ?_
              · rw [h.2]
                exact (eam_cons (P := fun d Δ' => d = .tuple (txts bs) ∧ Δ' = _) (Pr := fun d Δ' q Δ'' => q = [] ∧ Δ'' = Δ') (ev_var (d := .tuple (txts bs)) rfl).m fun d Δ' _ => eam_nil).imp fun ds Δ'' ⟨d, Δ1, r, e1, ⟨e2, e3⟩, e4, e5⟩ => ⟨by rw [e1, e2, e4], by rw [e5, e3]⟩
              · rintro ds Δ'' ⟨d, Δ1, q, rfl, ⟨⟨c, hc, rfl⟩, e⟩, rfl, rfl⟩
                exact ⟨c, hc, rfl, e⟩
            · rintro ds Δ'' ⟨d, Δ1, q, rfl, ⟨rfl, e⟩, c, hc, rfl, rfl⟩
              exact ⟨c, hc, rfl, e⟩
            · obtain ⟨c, _, e, _⟩ := h
              rw [e]
              show 3 ≤ sizeLine
              decide
            · rintro e Δ'' ⟨ds, ⟨c, hc, rfl, rfl⟩, rfl⟩
              exact ⟨c, hc, rfl, rfl⟩
          · rintro d Δ' ⟨c, hc, rfl, rfl⟩
            refine ⟨sh.map Sh.d, rfl, Nat.lt_of_le_of_lt (show (sh.map Sh.d).length ≤ 12 by simp; omega) (by decide), sh ++ [⟨x, c, bs⟩], r, .v dj, .v (.tuple (txts bs)), s8, hw.next (hcs.wd c hc) hb hbl, by simp; omega, ?_⟩
            rw [List.map_append]
            rfl
      · rintro ds Δ ⟨n, hn, rfl⟩ ⟨sh, ws, s6, s7, s8, hw, hl, rfl⟩
        have : (rngD 0 n).length = n := by simp [rngD]
        exact ⟨sh, ws, s6, s7, s8, hw, by omega, rfl⟩
    · rintro Δ ⟨sh, ws, s6, s7, s8, hw, hl, rfl⟩
      refine run_frz (i := 4) rfl (run_retF (ef_mixed (i := 0) rfl (ev_var rfl) (by simp; omega)) fun m hp => ?_)
      obtain ⟨l', p, rfl⟩ := perm_unmap hp.symm rfl
      exact ⟨l', rfl, shs_perm p hw.ok (List.nodup_append.mp hw.nd).1 (by omega), rfl⟩
def poolW : List (List Nat) := [cRoot, [97], [98], cShape, cJoint, [104, 97, 110, 103], [97, 98, 99, 100, 101, 102, 103, 104, 105, 106, 107, 108]]
theorem pool_txt : txts poolW = [D.str "root", .str "a", .str "b", .str "shape", .str "joint", .str "hang", .str "abcdefghijkl"] := by
  have : poolW.map txt = [("root" : Str), "a", "b", "shape", "joint", "hang", "abcdefghijkl"] := by decide +kernel
  have e : txts poolW = (poolW.map txt).map D.str := by simp [txts]
  rw [e, this]
  rfl
theorem pool_wd : ∀ w ∈ poolW, Wq w := fun w hw => ⟨wd_b (by
  have : (poolW.all wdB) = true := by decide
  exact List.all_eq_true.mp this w hw), by
  have : ∀ w ∈ poolW, w ≠ cZq ∧ w ≠ cZ9 := by decide
  exact this w hw⟩
def RDrawS (ds : List D) (d : D) : Prop := ∃ l, ds = [] ∧ Shz l ∧ d = .list (l.map Sh.d)
abbrev s__law_drawn_shapes : Stmt := top 33
theorem sc__law_drawn_shapes : FnScope ["_law_source_here", "_law_pool", "_law_found", "_law_word", "_law_branches", "_law_lap"] ["_law_source_here"] (defScope s__law_drawn_shapes) := ⟨rfl, rfl, rfl, by decide +kernel, rfl, by decide +kernel, by decide +kernel⟩
theorem ok__law_drawn_shapes {k : Nat} {f : Addr} {fd : FuncData} (T : Tx K mg) (G__law_pick : FnT P w K mg base k "_law_pick" ["_law_source_here", "_law_many"] (SpD true false RPick)) (G__law_of : FnT P w K mg base k "_law_of" ["_law_source_here", "_law_some"] (SpD true false ROf)) (G__law_shapes : FnT P w K mg base k "_law_shapes" ["_law_source_here", "_law_most"] (SpD true true RShps)) (G__law_mixed : FnT P w K mg base k "_law_mixed" ["_law_source_here", "_law_things"] (SpD true true RMixed)) (Fu : Fun K "_law_drawn_shapes" "_law_drawn_shapes" s__law_drawn_shapes f fd) : FnOk P w K mg base CX0 (k + 1) f fd ["_law_source_here"] (SpD true true RDrawS) := by
  refine ok_D Fu sc__law_drawn_shapes (fun ds d ⟨_, e, _⟩ => by rw [e]; rfl) fun cdv A outer s H E hr => ?_
  refine ⟨_, (pss_cons (ps_if (pt_cmpR op_gt (pe_callT G__law_pick hr (pa_cons (pv 0) (pa_cons pe_int pa_nil))) pe_int (nomark _))
      (pss_one (ps_ret (pe_callT G__law_shapes hr (pa_cons (pv 0) (pa_cons pe_int pa_nil)))))
      pss_nil)
    (pss_cons (ps_asg (pe_tup (pa_cons (pe_lst (pa_cons pe_str (pa_cons pe_str (pa_cons pe_str (pa_cons pe_str (pa_cons pe_str (pa_cons pe_str (pa_cons pe_str pa_nil)))))))) (pa_cons (pe_lst pa_nil) pa_nil))) (qg_tup (K := K) rfl (pgs_cons (pg_name (i := 1) sc__law_drawn_shapes.nd rfl (Or.inr rfl)) (pgs_cons (pg_name (i := 2) sc__law_drawn_shapes.nd rfl (Or.inl rfl)) pgs_nil))))
    (pss_cons (ps_for PassesOwn.never rfl (qi_any (K := K) (pe_slice (qSl (K := K)) (pe_callT G__law_mixed hr (pa_cons (pv 0) (pa_cons (pv 1) pa_nil))) po_none (po_some (pe_callT G__law_pick hr (pa_cons (pv 0) (pa_cons pe_int pa_nil)))))) (pg_name (i := 3) sc__law_drawn_shapes.nd rfl (Or.inl rfl))
      (pss_cons (ps_set (i := 4) sc__law_drawn_shapes.nd rfl (Or.inl rfl) (pe_callTy (qTuple (K := K)) (by rfl) T.n_tuple (by decide +kernel) (pa_cons (pe_lc (own := [("_law_lap", 5)]) rfl sc__law_drawn_shapes.nd (pi_range1 (by rfl) T.n_range (pa_cons (pe_callT G__law_pick hr (pa_cons (pv 0) (pa_cons pe_int pa_nil))) pa_nil)) (blkOk_by (own := [("_law_lap", 5)]) (N := ["_law_source_here", "_law_pool", "_law_found", "_law_word", "_law_branches", "_law_lap"]) (sc := defScope s__law_drawn_shapes) (by decide +kernel)) (fun _ _ _ _ _ => (pg_name (i := 5) sc__law_drawn_shapes.nd rfl (by first | exact Or.inl rfl | exact Or.inr rfl))) (fun _ _ _ _ _ => pts_nil) (fun _ _ _ _ _ => (pe_callT G__law_of hr (pa_cons (pv 0) (pa_cons (pv 1) pa_nil))))) pa_nil)))
      (pss_one (ps_expr (qBm (K := K) PySem.F.plainAttrs_list PySem.F.slot_list_append PySem.F.type_list_append mt_append (pv 2) (pa_cons (pe_tup (pa_cons (pv 3) (pa_cons (pe_callT G__law_of hr (pa_cons (pv 0) (pa_cons (pv 1) pa_nil))) (pa_cons (pv 4) pa_nil)))) pa_nil))))))
    (pss_one (ps_ret (pv 2)))))), fun F ds hF hR => ?_⟩
  obtain ⟨_, _, rfl, _⟩ := hR
  have z : ∀ n ≤ 100000, n ≤ sizeLine := fun n hn => Nat.le_trans hn (by decide)
  have nil_ok : Shz [] := ⟨fun _ h => (by cases h), List.nodup_nil, by decide⟩
  refine run_ifS (Pb := fun _ => True) (et_test (Pb := fun _ => True) (ev_op sCmp (P1 := fun d => ∃ r : Nat, r < 3 ∧ d = .int (r : Nat)) (P2 := fun d => d = .int 0) (ev_pick (i := 0) (n := 3) rfl ev_int (by decide) (by decide)) ev_int fun x y ⟨r, hr, e1⟩ e2 => by subst e1 e2; exact ⟨_, rfl, _, rfl, trivial⟩)) (fun _ => ?_) fun _ => run_nextS ?_
  · exact run_retFS (ef_callS (i := 0) (Pa := fun r => r = [.int 4]) rfl (ea_cons1 ev_int ea_nil) fun ds e => ⟨.list ([].map Sh.d), [], e, nil_ok, rfl⟩) fun ds ⟨as, e, l, e2, h1, h2⟩ => ⟨l, rfl, h1, h2⟩
  refine run_asgO (P1 := fun d => d = .list (txts poolW)) (P2 := fun r => r = []) (P3 := fun r => r = []) ((EvF.val1 (ef_lst (ea_cons1 ev_str (ea_cons1 ev_str (ea_cons1 ev_str (ea_cons1 ev_str (ea_cons1 ev_str (ea_cons1 ev_str (ea_cons1 ev_str ea_nil))))))))).eq (by rw [pool_txt])) (ef_lst ea_nil) ea_nil (fun r e => by rw [e]; rfl) (by show 2 ≤ sizeLine; decide) (by show 2 < 6; decide) ?_
  rintro x ds r rfl rfl rfl
  refine ⟨_, _, egs_nil, ?_⟩
  refine run_seqM (N := fun Δ => ∃ sh s3 s4 s5, Shz sh ∧ Δ = [.src, .v (.list (txts poolW)), .own (sh.map Sh.d), s3, s4, s5]) ?_ ?_
  · refine run_forP (Pd := fun r => ∃ ws : List (List Nat), (∀ w ∈ ws, Wq w) ∧ ws.Nodup ∧ ws.length ≤ 5 ∧ r = txts ws) (ei_listP ((ev_slL (P := fun m => m.Perm (txts poolW)) (Ph := fun r => r < 6) ((ef_mixed (i := 0) rfl (ev_var (d := .list (txts poolW)) rfl) (by decide)).val.imp fun d ⟨m, h1, h2⟩ => ⟨m, h1, h2⟩) (ev_pick (i := 0) (n := 6) rfl ev_int (by decide) (by decide))).imp fun d ⟨m, r, hp, hr, e⟩ => ?_)) (fun ds i Δ => ∃ ws sh s3 s4 s5, ds = txts ws ∧ (∀ s ∈ sh, okz s) ∧ sh.map Sh.w = ws.take i ∧ Δ = [.src, .v (.list (txts poolW)), .own (sh.map Sh.d), s3, s4, s5]) (fun ds ⟨ws, h1, h2, h3, e⟩ => ⟨ws, [], .un, .un, .un, e, fun _ h => (by cases h), by simp, rfl⟩) ?_ ?_
    · obtain ⟨ws, p, rfl⟩ := perm_unmap (f := fun w : List Nat => D.str (txt w)) hp.symm rfl
      refine ⟨_, ⟨ws.take r, fun w hw => pool_wd w (p.mem_iff.mpr (List.mem_of_mem_take hw)), ?_, by rw [List.length_take]; omega, rfl⟩, by rw [e]; simp [txts, List.map_take]⟩
      have nd : poolW.Nodup := by decide
      have nd2 := p.nodup_iff.mp nd
      rw [← List.take_append_drop r ws] at nd2
      exact (List.nodup_append.mp nd2).1
    · rintro ds i d Δ ⟨ws0, h1, h2, h3, rfl⟩ hd ⟨ws, sh, s3, s4, s5, e, hok, hsw, rfl⟩
      have := txts_inj e
      subst this
      rw [List.getElem?_map, Option.map_eq_some_iff] at hd
      obtain ⟨wd, hwd, rfl⟩ := hd
      have hi : i < ws0.length := (List.getElem?_eq_some_iff.mp hwd).1
      have hls : sh.length = i := by
        have := congrArg List.length hsw
        rw [List.length_map, List.length_take] at this
        omega
      refine ⟨_, _, eg_name, ?_⟩
      refine run_asgS (P := fun d => ∃ bs, (∀ b ∈ bs, Wq b) ∧ bs.length ≤ 10 ∧ d = .tuple (txts bs)) (ev_cb sTup (ea_cons ((ef_each (Pd := fun r => ∃ n : Nat, n < 5 ∧ r = rngD 0 n) (P := fun d => ∃ w ∈ poolW, d = .str (txt w)) ((ei_rngP (P := fun n => ∃ m : Nat, m < 5 ∧ n = (m : Nat)) ((ea_cons (ev_pick (i := 0) (n := 5) rfl ev_int (by decide) (by decide)) ea_nil).imp fun ds ⟨d, r, e, ⟨m, hm, e1⟩, e2⟩ => ⟨(m : Nat), ⟨m, hm, rfl⟩, by rw [e, e1, e2]⟩) fun n ⟨m, hm, e⟩ => by omega).imp fun r ⟨n, ⟨m, hm, e1⟩, e2⟩ => ⟨m, hm, by rw [e2, e1]; simp⟩) (fun ds ⟨n, hn, e⟩ => by rw [e]; exact z _ (by simp [rngD]; omega)) fun ds i' d ⟨n, hn, e⟩ hd => ⟨[5], [.src, .v (.list (txts poolW)), .own (sh.map Sh.d), .v (.str (txt wd)), s4, .v d], eg_name, by simp, ev_ofW (i := 0) rfl (ev_var rfl) (by decide) (by decide)⟩).val) ea_nil) fun ds' ⟨d, r', e, ⟨r2, ⟨ds2, ⟨n2, hn2, e3⟩, hl2, hall⟩, e4⟩, e5⟩ => ?_) fun d ⟨bs, hb, hbl, ed⟩ => ?_
      · subst e e4 e5
        obtain ⟨bs, b1, b2, b3⟩ := key_strs (P := fun w => Wq w) fun d hd => by
          obtain ⟨w, hw, e⟩ := hall d hd
          exact ⟨w, pool_wd w hw, e⟩
        refine ⟨.tuple r2, rfl, bs, b2, ?_, by rw [b3]⟩
        rw [b1, hl2, e3]
        simp [rngD]
        omega
      · subst ed
        refine run_app (i := 2) (P := fun d => ∃ c ∈ poolW, d = .tuple [.str (txt wd), .str (txt c), .tuple (txts bs)]) rfl ((ev_tupP (ea_cons (ev_var (d := .str (txt wd)) rfl) (ea_cons (ev_ofW (i := 0) rfl (ev_var rfl) (by decide) (by decide)) (ea_cons (ev_var (d := .tuple (txts bs)) rfl) ea_nil))) ?_).imp ?_) ?_ ?_
        · rintro ds ⟨d, r, rfl, _, d2, r2, rfl, _, d3, r3, rfl, _, rfl⟩
          show 3 ≤ sizeLine
          decide
        · rintro d ⟨ds, ⟨d, r, rfl, rfl, d2, r2, rfl, ⟨c, hc, rfl⟩, d3, r3, rfl, rfl, rfl⟩, rfl⟩
          exact ⟨c, hc, rfl⟩
        · exact Nat.lt_of_le_of_lt (show (sh.map Sh.d).length ≤ 12 by simp; omega) (by decide)
        · rintro d ⟨c, hc, rfl⟩
          refine ⟨ws0, sh ++ [⟨wd, c, bs⟩], .v (.str (txt wd)), .v (.tuple (txts bs)), s5, rfl, fun s hs => ?_, ?_, ?_⟩
          · rcases List.mem_append.mp hs with hs | hs
            · exact hok s hs
            · rw [List.mem_singleton] at hs
              subst hs
              exact Sh.mk_okz (h1 wd (List.mem_of_getElem? hwd)) (pool_wd c hc) hb (Nat.le_trans hbl (by decide))
          · rw [List.map_append, hsw, List.take_succ, hwd]
            rfl
          · rw [List.map_append]
            rfl
    · rintro ds Δ ⟨ws0, h1, h2, h3, rfl⟩ ⟨ws, sh, s3, s4, s5, e, hok, hsw, rfl⟩
      have := txts_inj e
      subst this
      have hl : (txts ws0).length = ws0.length := by simp
      rw [hl, List.take_length] at hsw
      refine ⟨sh, s3, s4, s5, ⟨hok, by rw [hsw]; exact h2, ?_⟩, rfl⟩
      have := congrArg List.length hsw
      rw [List.length_map] at this
      omega
  · rintro Δ ⟨sh, s3, s4, s5, hs, rfl⟩
    exact run_retO (i := 2) rfl ⟨sh, rfl, hs, rfl⟩
end
end K02

namespace Bc
open PySem L2 PySem.Spec PyProof.Rows
/-- a slice of a list or of a tuple, the whole of it too -/
abbrev rSlB (K : PySem.W.Frag) : V → Option Int → Option Int → Hp → VK → Prop := fun x lo hi H Q => rSlL K x lo hi H Q ∨ rSlA K x lo hi H Q
theorem qSlB {X : Cx} {K : PySem.W.Frag} (hK : X.K = K := by rfl) : SlR X (rSlB K) := by subst hK; exact sl_list.or sl_tupA
theorem ev_slB {F : Fp} {K : PySem.W.Frag} {te : TE} {tl th : TO} {Δ : List Sl} {x : D} {l : List D} {c : List D → D} {lo hi : Option Int} (hc : (c = D.list ∧ x = .list l) ∨ (c = D.tuple ∧ x = .tuple l)) (h : Ev1 F te Δ x) (hl : EvO F tl Δ fun o => o = lo) (hh : EvO F th Δ fun o => o = hi) : Ev1 F (tSl (rSlB K) te tl th) Δ (c (cutD l lo hi)) := fun H0 S H σ w t Q k => by
  refine h H0 S H σ w t _ fun d v S1 H1 e g1 hd => ?_
  subst e
  refine hl H0 S1 H1 σ (g1.ok w) (t.mono g1) _ fun lo' S2 H2 pl g2 => ?_
  refine hh H0 S2 H2 σ (g2.ok (g1.ok w)) ((t.mono g1).mono g2) _ fun hi' S3 H3 ph g3 => ?_
  subst pl ph
  have w3 := g3.ok (g2.ok (g1.ok w))
  have hd3 := (hd.mono g2.s).mono g3.s
  have gg := (g1.trans g2).trans g3
  rcases hc with ⟨rfl, rfl⟩ | ⟨rfl, rfl⟩
  · simp only [Dt] at hd3
    obtain ⟨a, xs, rfl, e1, h1⟩ := hd3
    refine .inl ⟨a, xs, rfl, SqL.of (w3.s _ _ e1), fun p hp => k _ _ _ _ rfl (gg.trans (Gr.newD w3.s hp)) ?_⟩
    simp only [Dt]
    exact ⟨p, _, rfl, upd_same, (h1.cut lo' hi').mono (Gr.newD (F := F) (o := .lst (cutV xs lo' hi')) w3.s hp).s⟩
  · simp only [Dt] at hd3
    obtain ⟨a, xs, rfl, e1, h1⟩ := hd3
    refine .inr ⟨a, xs, rfl, SqT.of (w3.s _ _ e1), fun hw => k _ _ _ _ rfl gg ?_, fun _ p hp => k _ _ _ _ rfl (gg.trans (Gr.newD w3.s hp)) ?_⟩
    · simp only [Dt]
      refine ⟨a, xs, rfl, e1, ?_⟩
      have : cutD l lo' hi' = l := by
        unfold cutD
        rw [h1.len, hw.1, hw.2, List.drop_zero, Nat.sub_zero, ← h1.len, List.take_length]
      rw [this]
      exact h1
    · simp only [Dt]
      exact ⟨p, _, rfl, upd_same, (h1.cut lo' hi').mono (Gr.newD (F := F) (o := .tup (cutV xs lo' hi')) w3.s hp).s⟩
end Bc
namespace K02
open PySem L2 PySem.Spec PyProof.Rows Bc
open Lex (endOf run lexAt Lm Lk lexL lexF blanks)
theorem dszL_take : ∀ (n : Nat) (l : List D), dszL (l.take n) + dszL (l.drop n) = dszL l := fun n l => by
  rw [← dszL_app, List.take_append_drop]
theorem depL_mem : ∀ {l : List D} {d : D}, d ∈ l → d.dep ≤ depL l
  | [], _, h => by cases h
  | x :: l, d, h => by
    simp only [depL]
    rcases List.mem_cons.mp h with rfl | h
    · omega
    · have := depL_mem h; omega
theorem depL_le {n : Nat} : ∀ {l : List D}, (∀ d ∈ l, d.dep ≤ n) → depL l ≤ n
  | [], _ => by simp [depL]
  | x :: l, h => by
    simp only [depL]
    have := h x (List.mem_cons_self ..)
    have := depL_le fun d hd => h d (List.mem_cons_of_mem _ hd)
    omega
theorem cut_mem {l : List D} {lo hi : Option Int} {d : D} (h : d ∈ Bc.cutD l lo hi) : d ∈ l := List.mem_of_mem_drop (List.mem_of_mem_take h)
theorem cut_sz (l : List D) (lo hi : Option Int) : dszL (Bc.cutD l lo hi) ≤ dszL l := by
  unfold Bc.cutD
  have h1 := dszL_take (HT.sIx l.length l.length hi - HT.sIx l.length 0 lo) (l.drop (HT.sIx l.length 0 lo))
  have h2 := dszL_take (HT.sIx l.length 0 lo) l
  omega
theorem cut_drop (l : List D) (r : Nat) : Bc.cutD l (some (r : Int)) Option.none = l.drop r := by
  unfold Bc.cutD
  rw [HT.sIx_none, HT.sIx_nat]
  by_cases h : r ≤ l.length
  · rw [Nat.min_eq_left h, List.take_of_length_le (by rw [List.length_drop]; omega)]
  · rw [Nat.min_eq_right (by omega), List.drop_of_length_le (Nat.le_refl _), List.drop_of_length_le (by omega), List.take_nil]
mutual
theorem gv_e0 : ∀ d : D, gv d = true → d.e0 = true
  | .none, _ => by simp only [D.e0]
  | .bool _, _ => by simp only [D.e0]
  | .int _, _ => by simp only [D.e0]
  | .str _, _ => by simp only [D.e0]
  | .dict kvs, h => by simpa only [gv, D.e0] using h
  | .list l, h => by simpa only [D.e0] using gvL_e0 l (by simpa only [gv] using h)
  | .tuple l, h => by simpa only [D.e0] using gvL_e0 l (by simpa only [gv] using h)
  | .obj _ _, h => by simp [gv] at h
  | .exc _ _, h => by simp [gv] at h
  | .ref _, h => by simp [gv] at h
theorem gvL_e0 : ∀ l : List D, gvL l = true → e0L l = true
  | [], _ => by simp only [e0L]
  | d :: l, h => by
    simp only [gvL, Bool.and_eq_true] at h
    simp only [e0L, gv_e0 d h.1, gvL_e0 l h.2, Bool.and_self]
end
theorem int_short : ∀ i : Int, -1 ≤ i → i ≤ 30 → (toString i : Str).length ≤ 2 ∧ i.natAbs.log2 < 1920 := fun i h1 h2 => by
  have key : ∀ n : Nat, n < 32 → ((toString ((n : Int) - 1) : String) : Str).length ≤ 2 ∧ ((n : Int) - 1).natAbs.log2 < 1920 := by decide +kernel
  have := key (i + 1).toNat (by omega)
  rwa [show (((i + 1).toNat : Nat) : Int) - 1 = i by omega] at this
mutual
theorem gv_pr : ∀ d : D, gv d = true → d.prOk = true ∧ d.pr.showable = true ∧ d.pr.depth ≤ d.dep + 1 ∧ d.pr.shown.length + 2 ≤ 220 * dsz d
  | .none, _ => by simp only [D.prOk, D.pr, PyData.showable, PyData.depth, PyData.shown, dsz]; decide
  | .bool b, _ => by cases b <;> simp only [D.prOk, D.pr, PyData.showable, PyData.depth, PyData.shown, dsz] <;> decide
  | .int i, h => by
    simp only [gv, decide_eq_true_eq] at h
    have := int_short i h.1 h.2
    simp only [D.prOk, D.pr, PyData.showable, PyData.depth, PyData.shown, dsz, decide_eq_true_eq]
    exact ⟨trivial, this.2, Nat.zero_le _, by omega⟩
  | .str z, h => by
    simp only [gv, Bool.and_eq_true, decide_eq_true_eq, List.all_eq_true] at h
    simp only [D.prOk, D.pr, PyData.showable, PyData.depth, PyData.shown, dsz]
    have := PySem.StrLaws.reprText_len z fun c hc => Nat.lt_trans (h.1 c hc) (by decide)
    exact ⟨trivial, trivial, Nat.zero_le _, by omega⟩
  | .dict kvs, h => by
    simp only [gv, List.isEmpty_iff] at h
    subst h
    simp only [D.prOk, prOkK, D.pr, prK, PyData.showable, PyData.showableKv, PyData.depth, PyData.depthKv, PyData.shown, PyData.shownKv, dsz, D.dep]
    exact ⟨trivial, trivial, by decide, by decide⟩
  | .list l, h => by
    obtain ⟨h1, h2, h3, h4⟩ := gvL_pr l (by simpa only [gv] using h)
    simp only [D.prOk, D.pr, PyData.showable, PyData.depth, PyData.shown, dsz, D.dep]
    have := listText_le (PyData.shownAll (prL l))
    exact ⟨h1, h2, by omega, by omega⟩
  | .tuple l, h => by
    obtain ⟨h1, h2, h3, h4⟩ := gvL_pr l (by simpa only [gv] using h)
    simp only [D.prOk, D.pr, PyData.showable, PyData.depth, PyData.shown, dsz, D.dep]
    have := tupleText_le (PyData.shownAll (prL l))
    exact ⟨h1, h2, by omega, by omega⟩
  | .obj _ _, h => by simp [gv] at h
  | .exc _ _, h => by simp [gv] at h
  | .ref _, h => by simp [gv] at h
theorem gvL_pr : ∀ l : List D, gvL l = true → prOkL l = true ∧ PyData.showableAll (prL l) = true ∧ PyData.depthAll (prL l) ≤ depL l + 1 ∧ piled (PyData.shownAll (prL l)) ≤ 220 * dszL l
  | [], _ => by simp only [prOkL, prL, PyData.showableAll, PyData.depthAll, PyData.shownAll, piled_nil]; exact ⟨trivial, trivial, by omega, by omega⟩
  | d :: l, h => by
    simp only [gvL, Bool.and_eq_true] at h
    obtain ⟨a1, a2, a3, a4⟩ := gv_pr d h.1
    obtain ⟨b1, b2, b3, b4⟩ := gvL_pr l h.2
    simp only [prOkL, prL, PyData.showableAll, PyData.depthAll, PyData.shownAll, piled_cons, dszL, depL, Bool.and_eq_true]
    exact ⟨⟨a1, b1⟩, ⟨a2, b2⟩, by omega, by omega⟩
end
theorem gv_rOk {d : D} (h : gv d = true) (hs : dsz d ≤ 5000) (hd : d.dep ≤ 60) : d.rOk = true := by
  obtain ⟨h1, h2, h3, h4⟩ := gv_pr d h
  simp only [D.rOk, h1, h2, Bool.true_and, Bool.and_eq_true, decide_eq_true_eq]
  exact ⟨by omega, Nat.le_trans (show _ ≤ 1100000 by omega) (by decide)⟩
/-! ### _law_bent -/
mutual
/-- the text zq7 is nowhere in it -/
def nzq : D → Bool
  | .str z => decide (z ≠ txt cZq)
  | .tuple l => nzqL l
  | .list l => nzqL l
  | _ => true
def nzqL : List D → Bool
  | [] => true
  | d :: l => nzq d && nzqL l
end
theorem nzqL_iff : ∀ {l : List D}, nzqL l = true ↔ ∀ d ∈ l, nzq d = true
  | [] => by simp [nzqL]
  | d :: l => by
    simp only [nzqL, Bool.and_eq_true, nzqL_iff (l := l), List.mem_cons]
    exact ⟨fun h x hx => hx.elim (fun e => e ▸ h.1) (h.2 x), fun h => ⟨h d (.inl rfl), fun x hx => h x (.inr hx)⟩⟩
/-- both -/
def gz (d : D) : Prop := gv d = true ∧ nzq d = true
/-- what may stand in a value -/
structure OddOk (l : List D) : Prop where
  v : ∀ o ∈ l, gz o ∧ dsz o ≤ 40 ∧ o.dep ≤ 4
  ne : 0 < l.length
  n : l.length ≤ 100
def Bent (v : D) (m : Nat) (d : D) : Prop := gz d ∧ dsz d ≤ dsz v + 40 ∧ d.dep ≤ max v.dep (m + 6)
def RBent : Nat → List D → D → Prop
  | 0, _, _ => False
  | m + 1, ds, d => ∃ (v : D) (odd : List D), gz v ∧ dsz v ≤ 3000 ∧ OddOk odd ∧ ds = [v, .int (m : Nat), .list odd] ∧ Bent v m d
theorem bent_self {v d : D} {m : Nat} (h1 : gz d) (h2 : dsz d ≤ dsz v) (h3 : d.dep ≤ v.dep) : Bent v m d := ⟨h1, by omega, by omega⟩
/-- a list or a tuple -/
inductive Seq : (List D → D) → Prop where
  | l : Seq D.list
  | t : Seq D.tuple
theorem Seq.gv {c : List D → D} (s : Seq c) {l : List D} : gz (c l) ↔ ∀ d ∈ l, gz d := by
  have h1 : K02.gv (c l) = true ↔ ∀ d ∈ l, K02.gv d = true := by cases s; exact gv_lst; exact gv_tup
  have h2 : nzq (c l) = true ↔ ∀ d ∈ l, nzq d = true := by cases s <;> exact (show nzqL l = true ↔ _ from nzqL_iff)
  unfold gz
  rw [h1, h2]
  exact ⟨fun h d hd => ⟨h.1 d hd, h.2 d hd⟩, fun h => ⟨fun d hd => (h d hd).1, fun d hd => (h d hd).2⟩⟩
theorem Seq.sz {c : List D → D} (s : Seq c) (l : List D) : dsz (c l) = 1 + dszL l := by cases s <;> simp only [dsz]
theorem Seq.dep {c : List D → D} (s : Seq c) (l : List D) : (c l).dep = depL l + 1 := by cases s <;> simp only [D.dep]
theorem Seq.cut {c c' : List D → D} (s : Seq c) (s' : Seq c') {l : List D} (h : gz (c l)) (lo hi : Option Int) {m : Nat} : Bent (c l) m (c' (Bc.cutD l lo hi)) := by
  refine bent_self (s'.gv.mpr fun d hd => s.gv.mp h d (cut_mem hd)) ?_ ?_
  · rw [s.sz, s'.sz]
    have := cut_sz l lo hi
    omega
  · rw [s.dep, s'.dep]
    have := depL_le fun d (hd : d ∈ Bc.cutD l lo hi) => depL_mem (cut_mem hd)
    omega
theorem depL_app : ∀ a b : List D, depL (a ++ b) = max (depL a) (depL b)
  | [], b => by simp [depL]
  | d :: a, b => by simp only [List.cons_append, depL, depL_app a b]; omega
theorem Seq.add {c : List D → D} (s : Seq c) {l : List D} (h : gz (c l)) {o : D} (ho : gz o ∧ dsz o ≤ 40 ∧ o.dep ≤ 4) {m : Nat} : Bent (c l) m (c (l ++ [o])) := by
  refine ⟨s.gv.mpr fun d hd => ?_, ?_, ?_⟩
  · rcases List.mem_append.mp hd with hd | hd
    · exact s.gv.mp h d hd
    · rw [List.mem_singleton] at hd; exact hd ▸ ho.1
  · rw [s.sz, s.sz, dszL_app]
    simp only [dszL]
    omega
  · rw [s.dep, s.dep, depL_app]
    simp only [depL]
    omega
theorem Seq.conv {c c' : List D → D} (s : Seq c) (s' : Seq c') {l : List D} (h : gz (c l)) {m : Nat} : Bent (c l) m (c' l) := bent_self (s'.gv.mpr (s.gv.mp h)) (by rw [s.sz, s'.sz]; omega) (by rw [s.dep, s'.dep]; omega)
theorem bent_odd {v o : D} (ho : gz o ∧ dsz o ≤ 40 ∧ o.dep ≤ 4) {m : Nat} : Bent v m o := ⟨ho.1, by omega, by omega⟩
theorem Seq.deep {c : List D → D} (s : Seq c) {l : List D} (h : gz (c l)) {r m : Nat} {x : D} (hx : l[r]? = some x) {d : D} (hd : Bent x m d) : Bent (c l) (m + 1) (c (l.take r ++ [d] ++ l.drop (r + 1))) := by
  obtain ⟨hlt, he⟩ := List.getElem?_eq_some_iff.mp hx
  have e : l = l.take r ++ [x] ++ l.drop (r + 1) := by
    rw [List.append_assoc, List.singleton_append, ← he, ← List.drop_eq_getElem_cons hlt, List.take_append_drop]
  have hm := s.gv.mp h
  refine ⟨s.gv.mpr fun y hy => ?_, ?_, ?_⟩
  · rcases List.mem_append.mp hy with hy | hy
    · rcases List.mem_append.mp hy with hy | hy
      · exact hm y (List.mem_of_mem_take hy)
      · rw [List.mem_singleton] at hy; exact hy ▸ hd.1
    · exact hm y (List.mem_of_mem_drop hy)
  · have e2 : dszL l = dszL (l.take r) + dsz x + dszL (l.drop (r + 1)) := by
      conv => lhs; rw [e]
      rw [dszL_app, dszL_app]
      simp only [dszL]
      omega
    rw [s.sz, s.sz, dszL_app, dszL_app]
    simp only [dszL]
    have := hd.2.1
    omega
  · have e2 : depL l = max (max (depL (l.take r)) x.dep) (depL (l.drop (r + 1))) := by
      conv => lhs; rw [e]
      rw [depL_app, depL_app]
      simp only [depL]
      omega
    rw [s.dep, s.dep, depL_app, depL_app]
    simp only [depL]
    have := hd.2.2
    omega
section
variable {F : Fp} {Δ : List Sl} {ta tb te : TE} {K : PySem.W.Frag} {E : XK} {c : List D → D} {l : List D}
theorem Seq.len (s : Seq c) (h : Ev1 F te Δ (c l)) : Ev1 F (tCB (rLenP K) (tCons te tNil)) Δ (.int (l.length : Nat)) := by
  cases s
  · exact ev_lenL h
  · exact ev_lenU h
theorem Seq.ix (s : Seq c) {q : Nat} {d : D} (h : Ev1 F te Δ (c l)) (hb : Ev1 F tb Δ (.int (q : Nat))) (hc : l[q]? = some d) : Ev1 F (tOp (rIx K) te tb) Δ d := by
  cases s
  · exact ev_ixL h hb hc
  · exact ev_ixU h hb hc
theorem et_pick0 {i n : Nat} (hi : Δ[i]? = some .src) (hn : n < 2 ^ 30 := by decide) (h0 : 0 < n := by decide) : EvT F (tTest (tOp (rEqP K) (tCall (SpD true false RPick) [] E (tCons (tVar i) (tCons (tC (.int (n : Nat))) tNil))) (tC (.int 0)))) Δ fun _ => True :=
  et_test (ev_op sScE (ev_pick hi ev_int hn h0) ev_int fun x y ⟨r, _, e⟩ e2 => ⟨.bool (decide ((r : Int) = 0)), by subst e e2; simp [scF], _, rfl, trivial⟩)
end
section
variable {P : Program} {w : World} {K : PySem.W.Frag} {mg : Str → Option Value} {base : Heap}
abbrev s__law_bent : Stmt := top 32
theorem sc__law_bent : FnScope ["_law_source_here", "_law_value", "_law_deep", "_law_odd", "_law_way", "_law_other", "_law_at", "_law_new"] ["_law_source_here", "_law_value", "_law_deep", "_law_odd"] (defScope s__law_bent) := ⟨rfl, rfl, rfl, by decide +kernel, rfl, by decide +kernel, by decide +kernel⟩
theorem ok__law_bent {k : Nat} {f : Addr} {fd : FuncData} (m : Nat) (T : Tx K mg) (G__law_is_listing : FnT P w K mg base k "_law_is_listing" ["_law_value"] (SpD false false RIsList)) (G__law_pick : FnT P w K mg base k "_law_pick" ["_law_source_here", "_law_many"] (SpD true false RPick)) (G__law_of : FnT P w K mg base k "_law_of" ["_law_source_here", "_law_some"] (SpD true false ROf))
    (G__law_bent : FnT P w K mg base k "_law_bent" ["_law_source_here", "_law_value", "_law_deep", "_law_odd"] (SpD true false (RBent m))) (Fu : Fun K "_law_bent" "_law_bent" s__law_bent f fd) : FnOk P w K mg base CX0 (k + 1) f fd ["_law_source_here", "_law_value", "_law_deep", "_law_odd"] (SpD true false (RBent (m + 1))) := by
  refine ok_D Fu sc__law_bent (fun ds d ⟨_, _, _, _, _, e, _⟩ => by rw [e]; rfl) fun cdv A outer s H E hr => ?_
  have hu2 : (A.deeper (envOfC "_law_bent" (defScope s__law_bent) s.heap.objs.size f cdv)).units + 65 < cLine := by have := hr.un; omega
  refine ⟨_, (pss_cons (ps_if (PW.pt (pw_or (pt_not (pt_val (pe_callT G__law_is_listing hr (pa_cons (pv 1) pa_nil)))) (pw_or (pt_cmpR (qEq (K := K) hu2) (pe_callB (qLen (K := K)) (by rfl) T.n_len (by decide +kernel) (pa_cons (pv 1) pa_nil)) pe_int (nomark _)) (pw_or (pt_cmpR (qEq (K := K) hu2) (pv 2) pe_int (nomark _)) (pw_or1 (pt_cmpR (qEq (K := K) hu2) (pe_callT G__law_pick hr (pa_cons (pv 0) (pa_cons pe_int pa_nil))) pe_int (nomark _)))))))
      (pss_cons (ps_par (i := 4) (j := 5) rfl sc__law_bent.nd rfl rfl (by decide) rfl rfl (pa_cons (pe_callT G__law_pick hr (pa_cons (pv 0) (pa_cons pe_int pa_nil))) (pa_cons (pe_callT G__law_of hr (pa_cons (pv 0) (pa_cons (pv 3) pa_nil))) pa_nil)) (by rfl))
      (pss_cons (ps_if (PW.pt (pw_and (pt_val (pe_callB (qIsi (K := K)) (by rfl) T.n_isinstance (by decide +kernel) (pa_cons (pv 1) (pa_cons (pe_bltn (by rfl) T.n_tuple (by decide +kernel) (show RelV (.ty "tuple") _ from rfl)) pa_nil)))) (pw_and1 (pt_cmpR pLt (pv 4) pe_int (nomark _)))))
        (pss_one (ps_ret (pe_ix (qIx (K := K)) (pe_lst (pa_cons (pe_slice (qSlB (K := K)) (pv 1) (po_some pe_int) po_none) (pa_cons (pe_slice (qSlB (K := K)) (pv 1) po_none (po_some (pe_un un_neg pe_int))) (pa_cons (pe_op (qAdd (K := K)) (pv 1) (pe_tup (pa_cons (pv 5) pa_nil))) (pa_cons (pe_callTy (qList (K := K)) (by rfl) T.n_list (by decide +kernel) (pa_cons (pv 1) pa_nil)) pa_nil))))) (pv 4) (fun _ _ => rfl))))
        pss_nil)
      (pss_cons (ps_if (PW.pt (pw_and (pt_val (pe_callB (qIsi (K := K)) (by rfl) T.n_isinstance (by decide +kernel) (pa_cons (pv 1) (pa_cons (pe_bltn (by rfl) T.n_list (by decide +kernel) (show RelV (.ty "list") _ from rfl)) pa_nil)))) (pw_and1 (pt_cmpR pLt (pv 4) pe_int (nomark _)))))
        (pss_one (ps_ret (pe_ix (qIx (K := K)) (pe_lst (pa_cons (pe_slice (qSlB (K := K)) (pv 1) (po_some pe_int) po_none) (pa_cons (pe_slice (qSlB (K := K)) (pv 1) po_none (po_some (pe_un un_neg pe_int))) (pa_cons (pe_op (qAdd (K := K)) (pv 1) (pe_lst (pa_cons (pv 5) pa_nil))) (pa_cons (pe_callTy (qTuple (K := K)) (by rfl) T.n_tuple (by decide +kernel) (pa_cons (pv 1) pa_nil)) pa_nil))))) (pv 4) (fun _ _ => rfl))))
        pss_nil)
      (pss_one (ps_ret (pv 5))))))
      pss_nil)
    (pss_cons (ps_set (i := 6) sc__law_bent.nd rfl (Or.inl rfl) (pe_callT G__law_pick hr (pa_cons (pv 0) (pa_cons (pe_callB (qLen (K := K)) (by rfl) T.n_len (by decide +kernel) (pa_cons (pv 1) pa_nil)) pa_nil))))
    (pss_cons (ps_set (i := 7) sc__law_bent.nd rfl (Or.inl rfl) (pe_callT G__law_bent hr (pa_cons (pv 0) (pa_cons (pe_ix (qIx (K := K)) (pv 1) (pv 6) (fun _ _ => rfl)) (pa_cons (pe_op op_sub (pv 2) pe_int) (pa_cons (pv 3) pa_nil))))))
    (pss_cons (ps_if (pt_val (pe_callB (qIsi (K := K)) (by rfl) T.n_isinstance (by decide +kernel) (pa_cons (pv 1) (pa_cons (pe_bltn (by rfl) T.n_list (by decide +kernel) (show RelV (.ty "list") _ from rfl)) pa_nil))))
      (pss_one (ps_ret (pe_op (qAdd (K := K)) (pe_op (qAdd (K := K)) (pe_slice (qSlB (K := K)) (pv 1) po_none (po_some (pv 6))) (pe_lst (pa_cons (pv 7) pa_nil))) (pe_slice (qSlB (K := K)) (pv 1) (po_some (pe_op (qAdd (K := K)) (pv 6) pe_int)) po_none))))
      pss_nil)
    (pss_one (ps_ret (pe_op (qAdd (K := K)) (pe_op (qAdd (K := K)) (pe_slice (qSlB (K := K)) (pv 1) po_none (po_some (pv 6))) (pe_tup (pa_cons (pv 7) pa_nil))) (pe_slice (qSlB (K := K)) (pv 1) (po_some (pe_op (qAdd (K := K)) (pv 6) pe_int)) po_none)))))))), fun F ds hF hR => ?_⟩
  obtain ⟨_, v, odd, gx, sv, ho, rfl, _⟩ := hR
  have z : ∀ {n : Nat}, n ≤ 100000 → n ≤ sizeLine := fun hn => Nat.le_trans hn (by decide)
  refine run_ifS (Pb := fun b => b = false → ∃ (c : List D → D) (l : List D), Seq c ∧ v = c l ∧ 0 < l.length ∧ m ≠ 0) ?_ (fun _ => run_seqM (N := fun _ => False) ?_ fun _ z => z.elim) fun h => run_nextS ?_
  · refine (et_or (et_not1 (et_B1 (ev_islist gx.1 (ev_var rfl)))) (P2 := fun b => b = false → ∃ (c : List D → D) (l : List D), Seq c ∧ v = c l ∧ 0 < l.length ∧ m ≠ 0) fun hb => ?_).imp fun b h e => ?_
    · have hlb : listB v = true := by
        cases q : listB v
        · rw [q] at hb; exact absurd hb (by decide)
        · rfl
      obtain ⟨c, l, s, rfl⟩ : ∃ (c : List D → D) (l : List D), Seq c ∧ v = c l := by
        obtain ⟨l, rfl | rfl⟩ := lst_or hlb
        · exact ⟨_, l, .l, rfl⟩
        · exact ⟨_, l, .t, rfl⟩
      refine (et_or (et_test1 (ev_eqI (s.len (ev_var rfl)) (ev_int (i := 0)))) (P2 := fun b => b = false → m ≠ 0) fun h1 => (et_or (et_test1 (ev_eqI (i := (m : Int)) (j := 0) (ev_var rfl) ev_int)) (P2 := fun _ => True) fun _ => et_pick0 rfl).imp fun b h e => ?_).imp fun b h e => ?_
      · rcases h with ⟨e2, _⟩ | ⟨e2, _⟩
        · rw [e] at e2; cases e2
        · have := of_decide_eq_false e2.symm
          omega
      · rcases h with ⟨e2, _⟩ | ⟨e2, e3⟩
        · rw [e] at e2; cases e2
        · have := of_decide_eq_false e2.symm
          exact ⟨c, l, s, rfl, by omega, e3 e⟩
    · rcases h with ⟨e2, _⟩ | ⟨_, e3⟩
      · rw [e] at e2; cases e2
      · exact e3 e
  · have fin : ∀ {d : D}, Bent v m d → RBent (m + 1) [v, .int (m : Nat), .list odd] d := fun h => ⟨v, odd, gx, sv, ho, rfl, h⟩
    refine run_par (ea_cons (ev_pick (n := 6) rfl ev_int (by decide) (by decide)) (ea_cons (ev_of rfl (ev_var rfl) ho.ne (Nat.le_trans ho.n (by decide))) ea_nil)) fun ds ⟨a, r, e, ⟨way, hway, ea⟩, b, r', e', hb, er⟩ => ⟨a, b, by rw [e, e', er], ?_⟩
    subst ea
    have hob := ho.v b hb
    have way4 : ∀ {A B C E : D}, Bent v m A → Bent v m B → Bent v m C → Bent v m E → way < 4 → ∃ d, ixF (.list [A, B, C, E]) (.int (way : Nat)) d ∧ Bent v m d := fun {A B C E} h1 h2 h3 h4 hw => by
      match way, hw with
      | 0, _ => exact ⟨A, rfl, h1⟩
      | 1, _ => exact ⟨B, rfl, h2⟩
      | 2, _ => exact ⟨C, rfl, h3⟩
      | 3, _ => exact ⟨E, rfl, h4⟩
    refine run_if1S (b := (v.ty == "tuple") && decide ((way : Int) < 4)) (et_and1 (et_B1 (ev_isi (T := "tuple") (ev_var rfl) (gv_ty gx.1) (kit_LT (gv_ty gx.1)).2)) fun _ => et_test1 (ev_ltI (ev_var rfl) ev_int)) (fun h => ?_) fun _ => run_nextS ?_
    · rw [Bool.and_eq_true, decide_eq_true_eq] at h
      obtain ⟨l, rfl⟩ := ty_tup h.1
      have ll := dszL_len l
      have s0 : 1 + dszL l ≤ 3000 := by rw [← Seq.t.sz]; exact sv
      refine run_retS (ev_op sIx (P1 := fun d => d = .list [.tuple (Bc.cutD l (some 1) none), .tuple (Bc.cutD l none (some (-1))), .tuple (l ++ [b]), .list l]) (EvF.val1 (ef_lst (ea_cons1 (ev_slB (c := D.tuple) (.inr ⟨rfl, rfl⟩) (ev_var rfl) (eo_some ev_int) eo_none) (ea_cons1 (ev_slB (c := D.tuple) (.inr ⟨rfl, rfl⟩) (ev_var rfl) eo_none (eo_some (ev_neg ev_int))) (ea_cons1 (ev_addT (ev_var rfl) (ev_tup (ea_cons1 (ev_var rfl) ea_nil)) (z (by simp only [List.length_cons, List.length_nil]; omega))) (ea_cons1 (ef_list (es_tuple (ev_var rfl))).val1 ea_nil)))))) (ev_var rfl) fun x y e1 e2 => ?_) fun d hd => fin hd
      subst e1 e2
      exact way4 (Seq.t.cut .t gx _ _) (Seq.t.cut .t gx _ _) (Seq.t.add gx hob) (Seq.t.conv .l gx) (by omega)
    refine run_if1S (b := (v.ty == "list") && decide ((way : Int) < 4)) (et_and1 (et_B1 (ev_isi (T := "list") (ev_var rfl) (gv_ty gx.1) (kit_LT (gv_ty gx.1)).1)) fun _ => et_test1 (ev_ltI (ev_var rfl) ev_int)) (fun h => ?_) fun _ => run_nextS (run_ret1 (ev_var rfl) (fin (bent_odd hob)))
    · rw [Bool.and_eq_true, decide_eq_true_eq] at h
      obtain ⟨l, rfl⟩ := ty_lst h.1
      have ll := dszL_len l
      have s0 : 1 + dszL l ≤ 3000 := by rw [← Seq.l.sz]; exact sv
      refine run_retS (ev_op sIx (P1 := fun d => d = .list [.list (Bc.cutD l (some 1) none), .list (Bc.cutD l none (some (-1))), .list (l ++ [b]), .tuple l]) (EvF.val1 (ef_lst (ea_cons1 (ev_slB (c := D.list) (.inl ⟨rfl, rfl⟩) (ev_var rfl) (eo_some ev_int) eo_none) (ea_cons1 (ev_slB (c := D.list) (.inl ⟨rfl, rfl⟩) (ev_var rfl) eo_none (eo_some (ev_neg ev_int))) (ea_cons1 (ev_addL (ev_var rfl) (EvF.val1 (ef_lst (ea_cons1 (ev_var rfl) ea_nil))) (z (by simp only [List.length_cons, List.length_nil]; omega))) (ea_cons1 (ev_cb1 sTup (ea_cons1 (ev_var rfl) ea_nil) rfl) ea_nil)))))) (ev_var rfl) fun x y e1 e2 => ?_) fun d hd => fin hd
      subst e1 e2
      exact way4 (Seq.l.cut .l gx _ _) (Seq.l.cut .l gx _ _) (Seq.l.add gx hob) (Seq.l.conv .t gx) (by omega)
  · obtain ⟨c, l, s, rfl, h0, hm⟩ := h rfl
    obtain ⟨m, rfl⟩ : ∃ m', m = m' + 1 := ⟨m - 1, by omega⟩
    have ll := dszL_len l
    have s0 : 1 + dszL l ≤ 3000 := by rw [← s.sz]; exact sv
    refine run_asgS (ev_pick (n := l.length) rfl (s.len (ev_var rfl)) (by omega) h0) fun d ⟨r, hr, e⟩ => ?_
    subst e
    have hx : l[r]? = some l[r] := List.getElem?_eq_getElem hr
    have gxr := s.gv.mp gx _ (List.getElem_mem hr)
    have szr : dsz l[r] ≤ 3000 := by have := dszL_mem (List.getElem_mem hr); omega
    refine run_asgS ((ev_callS rfl (ea_cons1 (d := l[r]) (s.ix (ev_var rfl) (ev_var rfl) hx) (ea_cons1 ((ev_subI (i := ((m + 1 : Nat) : Int)) (j := 1) (ev_var rfl) ev_int).eq (d := .int (m : Nat)) (by congr 1; omega)) (ea_cons1 (ev_var rfl) ea_nil))) fun ds e => ?_).imp (P' := fun d => Bent l[r] m d) fun d ⟨ds, e, v', odd', _, _, _, e2, hb⟩ => ?_) fun d hd => ?_
    · exact ⟨odd[0]'ho.ne, l[r], odd, gxr, szr, ho, e, bent_odd (ho.v _ (List.getElem_mem _))⟩
    · have res := s.deep gx hx hd
      have fin : RBent (m + 1 + 1) [c l, .int ((m + 1 : Nat) : Int), .list odd] (c (l.take r ++ [d] ++ l.drop (r + 1))) := ⟨_, odd, gx, sv, ho, rfl, res⟩
      have z1 : (l.take r).length + 1 ≤ sizeLine := z (by rw [List.length_take]; omega)
      have z2 : (l.take r ++ [d]).length + (l.drop (r + 1)).length ≤ sizeLine := z (by rw [List.length_append, List.length_take, List.length_drop]; simp only [List.length_cons, List.length_nil]; omega)
      have e1 : Bc.cutD l none (some ((r : Nat) : Int)) = l.take r := cut_take l r
      have e2 : Bc.cutD l (some (((r : Nat) : Int) + 1)) none = l.drop (r + 1) := cut_drop l (r + 1)
      cases s
      · refine run_if1S (b := true) (et_B1 (ev_isi (T := "list") (b := true) (ev_var rfl) (by simp only [D.ty]; decide) (by simp only [D.ty]; decide +kernel))) (fun _ => ?_) fun h => nomatch h
        exact run_ret1S (ev_addL (ev_addL ((ev_slB (c := D.list) (.inl ⟨rfl, rfl⟩) (ev_var rfl) eo_none (eo_some (ev_var rfl))).eq (congrArg D.list e1)) (EvF.val1 (ef_lst (ea_cons1 (ev_var rfl) ea_nil))) z1) ((ev_slB (c := D.list) (.inl ⟨rfl, rfl⟩) (ev_var rfl) (eo_some (ev_addI (ev_var rfl) ev_int)) eo_none).eq (congrArg D.list e2)) z2) fin
      · refine run_if1S (b := false) (et_B1 (ev_isi (T := "list") (b := false) (ev_var rfl) (by simp only [D.ty]; decide) (by simp only [D.ty]; decide +kernel))) (fun h => nomatch h) fun _ => run_nextS ?_
        exact run_ret1 (ev_addT (ev_addT ((ev_slB (c := D.tuple) (.inr ⟨rfl, rfl⟩) (ev_var rfl) eo_none (eo_some (ev_var rfl))).eq (congrArg D.tuple e1)) (ev_tup (ea_cons1 (ev_var rfl) ea_nil)) z1) ((ev_slB (c := D.tuple) (.inr ⟨rfl, rfl⟩) (ev_var rfl) (eo_some (ev_addI (ev_var rfl) ev_int)) eo_none).eq (congrArg D.tuple e2)) z2) fin
    · rw [e] at e2
      simp only [List.cons.injEq] at e2
      rw [e2.1]
      exact hb
end
end K02

namespace Bc
open PySem L2 PySem.Spec PyProof.Rows
theorem run_dropP {F : Fp} {fr : Bool} {te : TE} {Δ : List Sl} {P : D → Prop} {po : Po} (h : EvR F te Δ P) (k : ∀ d, P d → po.nx Δ) : Run F fr (tDrop te) Δ po := fun S0 H0 B S H σ E w g st r =>
  h H0 S H σ w st _ fun d v S' H' p g' _ => r.nx Δ S' H' σ (k d p) (g'.ok w) (g.step g') (st.mono g')
end Bc
namespace K02
open PySem L2 PySem.Spec PyProof.Rows Bc
open Lex (endOf run lexAt Lm Lk lexL lexF blanks)
theorem rng_at {n i : Nat} {d : D} (h : (rngD 0 n)[i]? = some d) : i < n ∧ d = .int (i : Nat) := by
  unfold rngD at h
  rw [List.getElem?_map, Option.map_eq_some_iff] at h
  obtain ⟨j, hj, rfl⟩ := h
  obtain ⟨h1, h2⟩ := List.getElem?_eq_some_iff.mp hj
  rw [List.getElem_range] at h2
  subst h2
  rw [List.length_range] at h1
  exact ⟨h1, by rw [Int.zero_add]⟩
theorem rng_len (n : Nat) : (rngD 0 n).length = n := by simp [rngD]
end K02

namespace K02
open PySem L2 PySem.Spec PyProof.Rows Bc
open Lex (endOf run lexAt Lm Lk lexL lexF blanks)
section
variable {P : Program} {w : World} {K : PySem.W.Frag} {mg : Str → Option Value} {base : Heap}
def namesW : List (List Nat) := [[97], [98], cShape, cJoint, [104, 97, 110, 103], cBag, [106, 49], [97, 98, 99, 100, 101, 102, 103, 104, 105, 106, 107, 108]]
theorem names_txt : txts namesW = [D.str "a", .str "b", .str "shape", .str "joint", .str "hang", .str "bag", .str "j1", .str "abcdefghijkl"] := by
  have : namesW.map txt = [("a" : Str), "b", "shape", "joint", "hang", "bag", "j1", "abcdefghijkl"] := by decide +kernel
  have e : txts namesW = (namesW.map txt).map D.str := by simp [txts]
  rw [e, this]
  rfl
theorem names_names : Names namesW ∧ namesW.length = 8 := by
  refine ⟨⟨fun w hw => ⟨wd_b ?_, ?_, ?_⟩, fun w hw => ?_, by decide⟩, rfl⟩
  · have : (namesW.all wdB) = true := by decide
    exact List.all_eq_true.mp this w hw
  · have : (namesW.all fun w => decide (w ≠ cZq)) = true := by decide
    exact of_decide_eq_true (List.all_eq_true.mp this w hw)
  · have : (namesW.all fun w => decide (w ≠ cZ9)) = true := by decide
    exact of_decide_eq_true (List.all_eq_true.mp this w hw)
  · have : (namesW.all fun w => decide (w ≠ cRoot)) = true := by decide
    exact of_decide_eq_true (List.all_eq_true.mp this w hw)
theorem Names.perm {a b : List (List Nat)} (p : a.Perm b) (h : Names a) : Names b := ⟨fun w hw => h.wd w (p.mem_iff.mpr hw), fun w hw => h.rt w (p.mem_iff.mpr hw), p.nodup_iff.mp h.nd⟩
/-- joints on the way, and names that are left -/
structure WayJ (l : List Sh) (js : List Jt) (ns : List (List Nat)) : Prop where
  wd : ∀ j ∈ js, Wd j.2
  mem : ∀ j ∈ js, j.2 ∈ l.map Sh.w
  nm : Names (js.map Prod.fst ++ ns)
  n : js.length + ns.length = 8
theorem WayJ.next {l : List Sh} {js : List Jt} {r : List (List Nat)} {x : List Nat} {s : Sh} (h : WayJ l js (r ++ [x])) (hs : s ∈ l) (ho : s.ok) : WayJ l (js ++ [(x, s.w)]) r where
  wd := fun j hj => by
    rcases List.mem_append.mp hj with hj | hj
    · exact h.wd j hj
    · rw [List.mem_singleton] at hj
      subst hj
      exact ho.w
  mem := fun j hj => by
    rcases List.mem_append.mp hj with hj | hj
    · exact h.mem j hj
    · rw [List.mem_singleton] at hj
      subst hj
      exact List.mem_map_of_mem hs
  nm := by
    refine Names.perm ?_ h.nm
    rw [List.map_append, List.append_assoc]
    exact List.Perm.append_left _ List.perm_append_comm
  n := by
    have := h.n
    simp only [List.length_append, List.length_cons, List.length_nil] at this ⊢
    omega
theorem WayJ.js {l : List Sh} {js : List Jt} {ns : List (List Nat)} (h : WayJ l js ns) : Js l js where
  wd := fun j hj => ⟨(h.nm.wd _ (List.mem_append_left _ (List.mem_map_of_mem hj))).1, h.wd j hj⟩
  rt := fun j hj => h.nm.rt _ (List.mem_append_left _ (List.mem_map_of_mem hj))
  mem := h.mem
  nd := (List.nodup_append.mp h.nm.nd).1
  n := by have := h.n; omega
theorem WayJ.zq {l : List Sh} {js : List Jt} {ns : List (List Nat)} (h : WayJ l js ns) : (∀ j ∈ js, j.1 ≠ cZq) ∧ js.length ≤ 8 := ⟨fun j hj => (h.nm.wd _ (List.mem_append_left _ (List.mem_map_of_mem hj))).2.1, by have := h.n; omega⟩
def RDrawJ (ds : List D) (d : D) : Prop := ∃ l js, Shs l ∧ ds = [.list (l.map Sh.d)] ∧ Js l js ∧ ((∀ j ∈ js, j.1 ≠ cZq) ∧ js.length ≤ 8) ∧ d = .list (js.map jd)
abbrev s__law_drawn_joints : Stmt := top 35
theorem sc__law_drawn_joints : FnScope ["_law_source_here", "_law_shapes_here", "_law_names_here", "_law_found", "_law_lap"] ["_law_source_here", "_law_shapes_here"] (defScope s__law_drawn_joints) := ⟨rfl, rfl, rfl, by decide +kernel, rfl, by decide +kernel, by decide +kernel⟩
theorem ok__law_drawn_joints {k : Nat} {f : Addr} {fd : FuncData} (T : Tx K mg) (G__law_pick : FnT P w K mg base k "_law_pick" ["_law_source_here", "_law_many"] (SpD true false RPick)) (G__law_of : FnT P w K mg base k "_law_of" ["_law_source_here", "_law_some"] (SpD true false ROf)) (G__law_names : FnT P w K mg base k "_law_names" ["_law_source_here", "_law_many"] (SpD true true RNames)) (G__law_mixed : FnT P w K mg base k "_law_mixed" ["_law_source_here", "_law_things"] (SpD true true RMixed)) (Fu : Fun K "_law_drawn_joints" "_law_drawn_joints" s__law_drawn_joints f fd) : FnOk P w K mg base CX0 (k + 1) f fd ["_law_source_here", "_law_shapes_here"] (SpD true true RDrawJ) := by
  refine ok_D Fu sc__law_drawn_joints (fun ds d ⟨_, _, _, e, _⟩ => by rw [e]; rfl) fun cdv A outer s H E hr => ?_
  have hu2 : (A.deeper (envOfC "_law_drawn_joints" (defScope s__law_drawn_joints) s.heap.objs.size f cdv)).units + 65 < cLine := by have := hr.un; omega
  refine ⟨_, (pss_cons (ps_par (i := 2) (j := 3) rfl sc__law_drawn_joints.nd rfl rfl (by decide) rfl rfl (pa_cons (pe_callT G__law_names hr (pa_cons (pv 0) (pa_cons pe_int pa_nil))) (pa_cons (pe_lst pa_nil) pa_nil)) (by rfl))
    (pss_cons (ps_if (pt_cmpR (qEq (K := K) hu2) (pe_callT G__law_pick hr (pa_cons (pv 0) (pa_cons pe_int pa_nil))) pe_int (nomark _))
      (pss_one (ps_set (i := 2) sc__law_drawn_joints.nd rfl (Or.inl rfl) (pe_callT G__law_mixed hr (pa_cons (pv 0) (pa_cons (pe_lst (pa_cons pe_str (pa_cons pe_str (pa_cons pe_str (pa_cons pe_str (pa_cons pe_str (pa_cons pe_str (pa_cons pe_str (pa_cons pe_str pa_nil))))))))) pa_nil)))))
      pss_nil)
    (pss_cons (ps_for PassesOwn.never rfl (pi_range1 (by rfl) T.n_range (pa_cons (pe_op pMul (pe_callT G__law_pick hr (pa_cons (pv 0) (pa_cons pe_int pa_nil))) (pe_callTy pInt (by rfl) T.n_int (by decide +kernel) (pa_cons (pe_cmpR op_gt (pe_callB (qLen (K := K)) (by rfl) T.n_len (by decide +kernel) (pa_cons (pv 1) pa_nil)) pe_int (nomark _)) pa_nil))) pa_nil)) (pg_name (i := 4) sc__law_drawn_joints.nd rfl (Or.inl rfl))
      (pss_one (ps_expr (qBm (K := K) PySem.F.plainAttrs_list PySem.F.slot_list_append PySem.F.type_list_append mt_append (pv 3) (pa_cons (pe_tup (pa_cons (qBm0 (K := K) PySem.F.plainAttrs_list PySem.F.slot_list_pop PySem.F.type_list_pop mt_pop (pv 2)) (pa_cons (pe_ix (qIx (K := K)) (pe_callT G__law_of hr (pa_cons (pv 0) (pa_cons (pv 1) pa_nil))) pe_int (fun _ _ => rfl)) pa_nil))) pa_nil)))))
    (pss_one (ps_ret (pv 3)))))), fun F ds hF hR => ?_⟩
  obtain ⟨_, l, _, hl, rfl, _⟩ := hR
  have z : ∀ n ≤ 100000, n ≤ sizeLine := fun n hn => Nat.le_trans hn (by decide)
  have hn := hl.n
  refine run_parFF (Pa := fun r => ∃ ns, Names ns ∧ ns.length = 8 ∧ r = txts ns) (Pb := fun r => r = []) (ef_names (i := 0) rfl ev_int (by decide)) (ef_lst ea_nil) (by show 2 < 5; decide) (by decide) ?_
  rintro as bs ⟨ns, hns, hnl, rfl⟩ rfl
  refine run_seqM (N := fun Δ => ∃ ns, Names ns ∧ ns.length = 8 ∧ Δ = [.src, .v (.list (l.map Sh.d)), .own (txts ns), .own [], .un]) ?_ ?_
  · refine run_if (Pb := fun _ => True) (et_test (Pb := fun _ => True) (ev_op sScE (P1 := fun d => ∃ r : Nat, r < 3 ∧ d = .int (r : Nat)) (P2 := fun d => d = .int 0) (ev_pick (i := 0) (n := 3) rfl ev_int (by decide) (by decide)) ev_int fun x y ⟨r, hr, e1⟩ e2 => by subst e1 e2; exact ⟨.bool (decide ((r : Int) = 0)), by simp [scF], _, rfl, trivial⟩)) (fun _ => ?_) fun _ => run_next ⟨ns, hns, hnl, rfl⟩
    refine run_asgF (ef_mixed (i := 0) rfl ((EvF.val1 (ef_lst (ea_cons1 ev_str (ea_cons1 ev_str (ea_cons1 ev_str (ea_cons1 ev_str (ea_cons1 ev_str (ea_cons1 ev_str (ea_cons1 ev_str (ea_cons1 ev_str ea_nil)))))))))).eq (by rw [names_txt])) (l := txts namesW) (by decide)) fun m hp => ?_
    obtain ⟨ws, p, rfl⟩ := perm_unmap (f := fun w : List Nat => D.str (txt w)) hp.symm rfl
    exact ⟨ws, names_names.1.perm p, by rw [← p.length_eq]; exact names_names.2, rfl⟩
  rintro Δ ⟨ns, hns, hnl, rfl⟩
  refine run_seqM (N := fun Δ => ∃ js ns s4, WayJ l js ns ∧ Δ = [.src, .v (.list (l.map Sh.d)), .own (txts ns), .own (js.map jd), s4]) ?_ ?_
  · refine run_forP (Pd := fun r => ∃ n : Nat, n < 6 ∧ (l = [] → n = 0) ∧ r = rngD 0 n) ((ei_rngP (P := fun n => ∃ m : Nat, m < 6 ∧ (l = [] → m = 0) ∧ n = (m : Nat)) ((ea_cons (P := fun d => ∃ m : Nat, m < 6 ∧ (l = [] → m = 0) ∧ d = .int (m : Nat)) (ev_op sMul (P1 := fun d => ∃ r : Nat, r < 6 ∧ d = .int (r : Nat)) (P2 := fun d => d = .int (if decide ((0 : Int) < ((l.map Sh.d).length : Nat)) then 1 else 0)) (ev_pick (i := 0) (n := 6) rfl ev_int (by decide) (by decide)) (ev_cb1 sIntC (ea_cons1 (ev_gtI (ev_lenL (ev_var rfl)) ev_int) ea_nil) rfl) fun x y ⟨r, hr, e1⟩ e2 => ?_) ea_nil).imp fun ds ⟨d, r, e, ⟨m, hm, hm0, e1⟩, e2⟩ => ⟨(m : Nat), ⟨m, hm, hm0, rfl⟩, by rw [e, e1, e2]⟩) fun n ⟨m, hm, _, e⟩ => by omega).imp fun r ⟨n, ⟨m, hm, hm0, e1⟩, e2⟩ => ⟨m, hm, hm0, by rw [e2, e1]; simp⟩) (fun ds i Δ => ∃ js ns s4, WayJ l js ns ∧ js.length = i ∧ Δ = [.src, .v (.list (l.map Sh.d)), .own (txts ns), .own (js.map jd), s4]) (fun ds e => ⟨[], ns, .un, ⟨fun _ h => (by cases h), fun _ h => (by cases h), hns, by simpa using hnl⟩, rfl, rfl⟩) ?_ ?_
    · subst e1 e2
      by_cases hz : l = []
      · subst hz
        exact ⟨.int 0, ⟨.inr ⟨by decide, by decide⟩, by simp⟩, 0, by decide, fun _ => rfl, rfl⟩
      · have : (0 : Int) < ((l.map Sh.d).length : Nat) := by
          have := List.length_pos_iff.mpr hz
          rw [List.length_map]
          omega
        rw [decide_eq_true this, if_pos rfl]
        exact ⟨.int (r : Nat), ⟨.inr ⟨by decide, by decide⟩, by simp⟩, r, hr, fun h => absurd h hz, rfl⟩
    · rintro ds i dj Δ ⟨n, hn6, hn0, rfl⟩ hd ⟨js, ns, s4, hw, hj, rfl⟩
      have hi : i < n := by
        have := (List.getElem?_eq_some_iff.mp hd).1
        simpa [rngD] using this
      have hlz : l ≠ [] := fun e => by have := hn0 e; omega
      have hlp := List.length_pos_iff.mpr hlz
      have hwn := hw.n
      obtain ⟨r, x, rfl⟩ := snoc_of (l := ns) (by omega)
      refine ⟨_, _, eg_name, ?_⟩
      refine run_appM (P := fun d Δ' => ∃ s ∈ l, d = .tuple [.str (txt x), .str (txt s.w)] ∧ Δ' = [.src, .v (.list (l.map Sh.d)), .own (txts r), .own (js.map jd), .v dj]) ⟨_, rfl⟩ ?_ ?_
      · refine (evm_tup (Pa := fun ds Δ' => ∃ s ∈ l, ds = [.str (txt x), .str (txt s.w)] ∧ Δ' = [.src, .v (.list (l.map Sh.d)), .own (txts r), .own (js.map jd), .v dj]) ((eam_cons (P := fun d Δ' => d = .str (txt x) ∧ Δ' = [.src, .v (.list (l.map Sh.d)), .own (txts r), .own (js.map jd), .v dj]) (Pr := fun d Δ' q Δ'' => ∃ s ∈ l, q = [.str (txt s.w)] ∧ Δ'' = Δ') ((evm_pop (i := 2) (r := txts r) (x := .str (txt x)) (by show some (Sl.own (txts (r ++ [x]))) = _; simp [txts])).imp fun d Δ' ⟨e1, e2⟩ => ⟨e1, by rw [e2]; rfl⟩) fun d Δ' h => ?_).imp ?_) fun ds Δ' h => ?_).imp ?_
        · obtain ⟨rfl, rfl⟩ := h
          refine (eam_cons (P := fun d Δ' => (∃ s ∈ l, d = .str (txt s.w)) ∧ Δ' = _) (Pr := fun d Δ' q Δ'' => q = [] ∧ Δ'' = Δ') (ev_op sIx (P1 := fun d => ∃ s ∈ l, d = s.d) (P2 := fun d => d = .int 0) ((ev_of (i := 0) rfl (ev_var (d := .list (l.map Sh.d)) rfl) (by simpa using hlp) (by simp; omega)).imp fun d hd => by obtain ⟨s, hs, e⟩ := List.mem_map.mp hd; exact ⟨s, hs, e.symm⟩) ev_int fun x y ⟨s, hs, e1⟩ e2 => by subst e1 e2; exact ⟨.str (txt s.w), rfl, s, hs, rfl⟩).m fun d Δ' _ => eam_nil).imp ?_
          rintro ds Δ'' ⟨d, Δ1, q, rfl, ⟨⟨s, hs, rfl⟩, e⟩, rfl, rfl⟩
          exact ⟨s, hs, rfl, e⟩
        · rintro ds Δ'' ⟨d, Δ1, q, rfl, ⟨rfl, e⟩, s, hs, rfl, rfl⟩
          exact ⟨s, hs, rfl, e⟩
        · obtain ⟨s, _, e, _⟩ := h
          rw [e]
          show 2 ≤ sizeLine
          decide
        · rintro e Δ'' ⟨ds, ⟨s, hs, rfl, rfl⟩, rfl⟩
          exact ⟨s, hs, rfl, rfl⟩
      · rintro d Δ' ⟨s, hs, rfl, rfl⟩
        refine ⟨js.map jd, rfl, Nat.lt_of_le_of_lt (show (js.map jd).length ≤ 12 by simp; omega) (by decide), js ++ [(x, s.w)], r, .v dj, hw.next hs (hl.ok s hs), by simp [hj], ?_⟩
        rw [List.map_append]
        rfl
    · rintro ds Δ ⟨n, hn6, hn0, rfl⟩ ⟨js, ns, s4, hw, hj, rfl⟩
      exact ⟨js, ns, s4, hw, rfl⟩
  · rintro Δ ⟨js, ns, s4, hw, rfl⟩
    exact run_retO (i := 3) rfl ⟨l, js, hl, rfl, hw.js, hw.zq, rfl⟩
end
end K02

namespace Bc
open PySem L2 PySem.Spec PyProof.Rows
theorem run_told1 {F : Fp} {fr : Bool} {Δ : List Sl} {ta : TA} {tt : TT} {tb : TS} {po : Po} {K : PySem.W.Frag} {i j : Nat} {dss : List (List D)} (hij : i ≠ j) (hi : i < Δ.length) (hj : j < Δ.length) (h : EvAF F ta Δ dss) (hz : dss.length ≤ sizeLine) (hl : ∀ ds ∈ dss, ds.length < sizeLine) (ht : EvT F tt (Δ.set i (.v (.list (dss.map D.list)))) fun b => b = false) (k : po.nx ((Δ.set i .un).set j .un)) :
    Run F fr (tSeq (tAsg (tLst ta) (gName i)) (tSeq (tIfS tt tb tNext) (tFor (iAny K (tVar i)) (gName j) (tDrop (tBM K "list" rAppend (tVar j) (tCons (tC .non) tNil)))))) Δ po := run_told (u := tNext) hij hi hj h hz hl ht (run_next k)
end Bc
namespace K02
open PySem L2 PySem.Spec PyProof.Rows Bc
open Lex (endOf run lexAt Lm Lk lexL lexF blanks)
section
variable {X : Cx}
abbrev s__law_missing : Stmt := top 34
theorem sc__law_missing : FnScope ["_law_call", "error", "!x"] ["_law_call"] (defScope s__law_missing) := ⟨rfl, rfl, rfl, by decide +kernel, rfl, by decide +kernel, by decide +kernel⟩
theorem gives_missing {g : Addr} {cdg : Value} {q : Str} (U : Tb X.prog X.K X.mg) : GivesS X ["_law_call", "error", "!x"] "_law_missing" (defScope s__law_missing) g cdg (defBody s__law_missing) "_law_call" q (TTm (clsOf X.mg "UnknownName")) := by
  intro f c' s H Q tl act hco hT
  refine ⟨_, (pss_cons (ps_tryA (i := 1) rfl rfl sc__law_missing.nd rfl rfl ⟨rfl, by decide, .inl U.x_UnknownName.gC⟩ takes0
      (fun W pn xe tk po_ => (pss_one (ps_expr (act W pn xe _ _ tk))))
      (fun a oe cls d pn hz hf => (pss_one (ps_ret (pe_lst (pa_cons (pe_xf U.f_UnknownName U.no_UnknownName_name hz hf (pv 1)) pa_nil))))))
    (pss_one (ps_ret (pe_lst pa_nil)))), ?_⟩
  refine ⟨rfl, hco, hT _ _ ?_ ?_⟩
  · intro H' dd vs v hdd hlk hq
    exact ⟨true, U.c_UnknownName, fun _ a ha => ⟨.ref a, rfl, rfl, rfl, dd, vs, v, rfl, hdd, hlk, show 1 ≤ sizeLine by decide, hq⟩, fun z => nomatch z⟩
  · intro v H' hq
    exact ⟨show 0 ≤ sizeLine by decide, hq⟩
end
section
variable {F : Fp} {Δ : List Sl} {C N B : Addr} {l : List Sh} {js : List Jt} {ix it : Nat} {R : List D → D → Prop} {P : Addr} {q : Str}
abbrev PXn (N : Addr) (x : D) : Value → FX → Prop := fun c f => c = .ref N ∧ f = some [(("name" : Str), x)]
/-- _law_missing(lambda: o.m(x)), x no name of the bag -/
theorem evm_noName {m : Str} {i j : Nat} {x : D} (hT : Δ[it]? = some (.tb P q)) (h1 : tb1 it Δ = true) (hl : Shs l) (hjs : Js l js) (hx : x.ty ≠ "?") (hn : ∀ j ∈ js, x ≠ .str (txt j.1)) (hR : ∀ d, ¬ R [bagD C B l js, x] d) (hix : ∀ W, (((dat Δ).set ix (.xc W (PXn N x) (List.replicate Δ.length Option.none))))[ix]? = some (.xc W (PXn N x) (List.replicate Δ.length Option.none)))
    (hi : ∀ W, (((dat Δ).set ix (.xc W (PXn N x) (List.replicate Δ.length Option.none))))[i]? = some (.v (bagD C B l js))) (hj : ∀ W, (((dat Δ).set ix (.xc W (PXn N x) (List.replicate Δ.length Option.none))))[j]? = some (.v x)) (hlen : (dat Δ).length = Δ.length) (hmm : (bagF B l js).lookup m = Option.none := by rfl) :
    EvM F (tLamS P q (TTm N) fun E => tMethS C m (SpX false false R (XNm C B N)) (WE (WOf E)) (tVar i) (tCons (tVar j) tNil)) Δ fun d Δ' => d = .list [x] ∧ Δ' = Δ := by
  refine (evm_missing (ix := ix) (PX := PXn N x) (Pv := fun _ => False) hT h1 (fun E => (ev_methX (hix _) (hm_none (by rw [List.length_set, hlen])) (ev_var (hi _)) (ea_cons1 (ev_var (hj _)) ea_nil) (fun ds e => .inr ⟨_, _, l, js, x, hl, hjs, hx, hn, by rw [e]; rfl, rfl, rfl⟩) (fun ds c f e h => ?_) hmm).imp ?_) (fun c f ⟨h1, h2⟩ => ⟨x, h1, h2⟩)).imp ?_
  · obtain ⟨l', js', x', _, _, _, _, h2, rfl, rfl⟩ := h
    rw [e] at h2
    simp only [List.cons.injEq, and_true] at h2
    exact ⟨rfl, by rw [h2.2]⟩
  · rintro d ⟨ds, e, h⟩
    rw [e] at h
    exact hR d h
  · rintro d Δ' ⟨e, h | ⟨y, ⟨_, h2⟩, h3⟩⟩
    · exact h.elim fun _ z => z.1.elim
    · simp only [Option.some.injEq, List.cons.injEq, Prod.mk.injEq, and_true, true_and] at h2
      exact ⟨by rw [h3, h2], e⟩
end
def tR : List D := [.none, .bool true, .int 0, .str "", .str "zq7", .str "root", .tuple [], .list [.str "a"], .dict [], .tuple [.str "a", .list []]]
def tRB (d : D) : Bool := (d.ty != "?") && (d.e0 && (decide (d.dep ≤ 8) && match d with | .str z => !wdB z.cps.toList || (decide (z = txt cZq) || decide (z = txt cRoot)) | _ => true))
theorem tR_ok : tR.all tRB = true := by decide +kernel
theorem tR_no {x : D} (h : tRB x = true) {l : List Sh} {js : List Jt} (hj : Js l js) (hq : ∀ j ∈ js, j.1 ≠ cZq) : ∀ j ∈ js, x ≠ .str (txt j.1) := fun j hm e => by
  subst e
  simp only [tRB, Bool.and_eq_true, Bool.or_eq_true, decide_eq_true_eq, txt_list, Bool.not_eq_true'] at h
  rcases h.2.2.2 with h | h | h
  · rw [b_wd (hj.wd j hm).1] at h; cases h
  · exact hq j hm (txt_inj h)
  · exact hj.rt j hm (txt_inj h)
def dueG (l : List Sh) (x : D) : List D := match wrongB l x with
  | some q => [.tuple q]
  | none => []
def RDueG (ds : List D) (d : D) : Prop := ∃ l x, Shs l ∧ gv x = true ∧ dsz x ≤ 2000 ∧ ds = [.list (l.map Sh.d), x] ∧ d = .list (dueG l x)
def RRefG (B : Addr) (ds : List D) (d : D) : Prop := ∃ l x, Shs l ∧ gv x = true ∧ dsz x ≤ 2000 ∧ ds = [bookD B l, x] ∧ d = .list (dueG l x)
theorem isJ_ei {F : Fp} {Δ : List Sl} {K : PySem.W.Frag} {te : TE} {x : D} {l : List Jt} (hx : isJ x l) (h : Ev1 F te Δ x) : EvI F (iAny K te) Δ fun r => r = l.map jd := by
  rcases hx with rfl | rfl
  · exact ei_list h
  · exact ei_tup h
theorem isJ_ef {F : Fp} {Δ : List Sl} {K : PySem.W.Frag} {te : TE} {x : D} {l : List Jt} (hx : isJ x l) (h : Ev1 F te Δ x) : EvF F (tCB (rListP K) (tCons te tNil)) Δ fun r => r = l.map jd := by
  rcases hx with rfl | rfl
  · exact ef_list (es_list h)
  · exact ef_list (es_tuple h)
theorem wd_root : Wd cRoot := wd_b (by decide)
section
variable {P : Program} {w : World} {K : PySem.W.Frag} {mg : Str → Option Value} {base : Heap}
abbrev s__law_wrong_bag : Stmt := top 36
theorem sc__law_wrong_bag : FnScope ["_law_shapes_here", "_law_joints", "_law_names_here", "_law_k", "_law_joint", "_law_shape"] ["_law_shapes_here", "_law_joints"] (defScope s__law_wrong_bag) := ⟨rfl, rfl, rfl, by decide +kernel, rfl, by decide +kernel, by decide +kernel⟩
theorem ok__law_wrong_bag {k : Nat} {f : Addr} {fd : FuncData} (T : Tx K mg) (sb : SysB base) (G__law_is_listing : FnT P w K mg base k "_law_is_listing" ["_law_value"] (SpD false false RIsList)) (G__law_is_row : FnT P w K mg base k "_law_is_row" ["_law_value", "_law_many"] (SpD false false RIsRow)) (G__law_is_word : FnT P w K mg base k "_law_is_word" ["_law_value"] (SpD false false RIsWord)) (Fu : Fun K "_law_wrong_bag" "_law_wrong_bag" s__law_wrong_bag f fd) : FnOk P w K mg base CX0 (k + 1) f fd ["_law_shapes_here", "_law_joints"] (SpD false false RDueG) := by
  refine ok_D Fu sc__law_wrong_bag (fun ds d ⟨_, _, _, _, _, e, _⟩ => by rw [e]; rfl) fun cdv A outer s H E hr => ?_
  have hu2 : (A.deeper (envOfC "_law_wrong_bag" (defScope s__law_wrong_bag) s.heap.objs.size f cdv)).units + 65 < cLine := by have := hr.un; omega
  refine ⟨_, (pss_cons (ps_if (pt_not (pt_val (pe_callT G__law_is_listing hr (pa_cons (pv 1) pa_nil))))
      (pss_one (ps_ret (pe_lst (pa_cons (pe_tup pa_nil) pa_nil))))
      pss_nil)
    (pss_cons (ps_set (i := 2) sc__law_wrong_bag.nd rfl (Or.inl rfl) (pe_lst (pa_cons pe_str pa_nil)))
    (pss_cons (ps_for PassesOwn.never rfl (pi_range1 (by rfl) T.n_range (pa_cons (pe_callB (qLen (K := K)) (by rfl) T.n_len (by decide +kernel) (pa_cons (pv 1) pa_nil)) pa_nil)) (pg_name (i := 3) sc__law_wrong_bag.nd rfl (Or.inl rfl))
      (pss_cons (ps_set (i := 4) sc__law_wrong_bag.nd rfl (Or.inl rfl) (pe_ix (qIx (K := K)) (pv 1) (pv 3) (fun _ _ => rfl)))
      (pss_cons (ps_if (pt_not (pt_val (pe_callT G__law_is_row hr (pa_cons (pv 4) (pa_cons pe_int pa_nil)))))
        (pss_one (ps_ret (pe_lst (pa_cons (pe_tup (pa_cons (pv 3) pa_nil)) pa_nil))))
        pss_nil)
      (pss_cons (ps_if (PW.pt (pw_or (pt_not (pt_val (pe_callT G__law_is_word hr (pa_cons (pe_ix (qIx (K := K)) (pv 4) pe_int (fun _ _ => rfl)) pa_nil)))) (pw_or1 (pt_cmpR (qIn (K := K) hu2) (pe_ix (qIx (K := K)) (pv 4) pe_int (fun _ _ => rfl)) (pv 2) rfl))))
        (pss_one (ps_ret (pe_lst (pa_cons (pe_tup (pa_cons (pv 3) (pa_cons pe_int pa_nil))) pa_nil))))
        pss_nil)
      (pss_cons (ps_if (pt_cmpR (qNotInS sb hu2) (pe_ix (qIx (K := K)) (pv 4) pe_int (fun _ _ => rfl)) (pe_lc (own := [("_law_shape", 5)]) rfl sc__law_wrong_bag.nd (qi_any (K := K) (pv 0)) (blkOk_by (own := [("_law_shape", 5)]) (N := ["_law_shapes_here", "_law_joints", "_law_names_here", "_law_k", "_law_joint", "_law_shape"]) (sc := defScope s__law_wrong_bag) (by decide +kernel)) (fun _ _ _ _ _ => (pg_name (i := 5) sc__law_wrong_bag.nd rfl (by first | exact Or.inl rfl | exact Or.inr rfl))) (fun _ _ _ _ _ => pts_nil) (fun _ _ _ _ _ => (pe_ix (qIx (K := K)) (pv 5) pe_int (fun _ _ => rfl)))) rfl)
        (pss_one (ps_ret (pe_lst (pa_cons (pe_tup (pa_cons (pv 3) (pa_cons pe_int pa_nil))) pa_nil))))
        pss_nil)
      (pss_one (ps_expr (qBm (K := K) PySem.F.plainAttrs_list PySem.F.slot_list_append PySem.F.type_list_append mt_append (pv 2) (pa_cons (pe_ix (qIx (K := K)) (pv 4) pe_int (fun _ _ => rfl)) pa_nil)))))))))
    (pss_one (ps_ret (pe_lst pa_nil)))))), fun F ds hF hR => ?_⟩
  obtain ⟨_, l, x, hl, gx, sx, rfl, _⟩ := hR
  have z : ∀ {n : Nat}, n ≤ 100000 → n ≤ sizeLine := fun hn => Nat.le_trans hn (by decide)
  have hln := hl.n
  have rt : ("root" : Str) = txt cRoot := by decide +kernel
  have got : ∀ {q : List D}, wrongB l x = some q → RDueG [.list (l.map Sh.d), x] (.list [.tuple q]) := fun e => ⟨l, x, hl, gx, sx, rfl, by rw [dueG, e]⟩
  have one : ∀ {q : List D} {te : TE} {Δ : List Sl}, Ev1 F te Δ (.tuple q) → Ev1 F (tLst (tCons te tNil)) Δ (.list [.tuple q]) := fun h => EvF.val1 (ef_lst (ea_cons1 h ea_nil))
  cases hlb : listB x
  · exact run_if1S (b := true) ((et_not1 (et_B1 (ev_islist gx (ev_var (i := 1) rfl)))).eq (by rw [hlb]; rfl)) (fun _ => run_ret1S (one (ev_tup ea_nil)) (got (wrongB_no hlb))) fun h => nomatch h
  obtain ⟨r, hx⟩ := lst_or hlb
  obtain ⟨c, sq, rfl⟩ : ∃ c : List D → D, Seq c ∧ x = c r := by
    rcases hx with rfl | rfl
    · exact ⟨_, .l, rfl⟩
    · exact ⟨_, .t, rfl⟩
  have gl := gv_l gx hx
  have sl : dszL r ≤ 2000 := by have := dsz_l hx; omega
  have ll := dszL_len r
  refine run_if1S (b := false) ((et_not1 (et_B1 (ev_islist gx (ev_var (i := 1) rfl)))).eq (by rw [hlb]; rfl)) (fun h => nomatch h) fun _ => run_nextS ?_
  refine run_setF (ds := txts [cRoot]) (ef_lst (ea_cons1 (ev_str.eq (congrArg D.str rt)) ea_nil)) ?_
  refine run_seqM (N := fun _ => wrongB l (c r) = none) ?_ fun Δ e => run_ret1 (EvF.val1 (ef_lst ea_nil)) ⟨l, _, hl, gx, sx, rfl, by rw [dueG, e]⟩
  refine run_for (ds := rngD 0 r.length) ((ei_rng (n := (r.length : Nat)) (ea_cons1 (sq.len (ev_var rfl)) ea_nil) (by omega)).imp fun r e => by rw [e]; rfl) (fun i Δ => ∃ (ns : List (List Nat)) (s3 s4 : Sl), wrongB l (c r) = wrongG l i ns (r.drop i) ∧ (∀ y ∈ ns, Wd y) ∧ ns.length = i ∧ Δ = [.v (.list (l.map Sh.d)), .v (c r), .own (txts (cRoot :: ns)), s3, s4, .un]) ⟨[], _, _, wrongB_l hx, by simp, rfl, rfl⟩ ?_ ?_
  · rintro i d Δ hd ⟨ns, s3, s4, he, hw, hli, rfl⟩
    obtain ⟨hi, rfl⟩ := rng_at hd
    have hy : r[i]? = some r[i] := List.getElem?_eq_getElem hi
    generalize hye : r[i] = y at hy
    have gy := gl y (List.mem_of_getElem? hy)
    have dr : r.drop i = y :: r.drop (i + 1) := by rw [← hye]; exact List.drop_eq_getElem_cons hi
    rw [dr, wrongG] at he
    refine ⟨_, _, eg_name, ?_⟩
    refine run_set (d := y) (sq.ix (ev_var rfl) (ev_var rfl) hy) ?_
    have got2 : ∀ {q : List D}, wrongJ l y ns = some q → RDueG [.list (l.map Sh.d), c r] (.list [.tuple (.int (i : Nat) :: q)]) := fun e => got (by rw [he, e])
    cases hrow : rowB y 2
    · exact run_if1S (b := true) ((et_not1 (et_B1 (ev_isrow (n := 2) gy (ev_var rfl) ev_int))).eq (by rw [hrow]; rfl)) (fun _ => run_ret1S (one (ev_tup (ea_cons1 (ev_var rfl) ea_nil))) (got2 (wrongJ_row hrow))) fun h => nomatch h
    obtain ⟨a, b, rfl⟩ := row2 hrow
    have ga := gv_tup.mp gy a (by simp)
    have gb := gv_tup.mp gy b (by simp)
    refine run_if1S (b := false) ((et_not1 (et_B1 (ev_isrow (n := 2) gy (ev_var rfl) ev_int))).eq rfl) (fun h => nomatch h) fun _ => run_nextS ?_
    cases ha : wordB a
    · exact run_if1S (b := true) ((et_or1 (a := true) (b := true) ((et_not1 (et_B1 (ev_isword ga (ev_ixU (q := 0) (ev_var rfl) ev_int rfl)))).eq (by rw [ha]; rfl)) fun h => nomatch h).eq rfl) (fun _ => run_ret1S (one (ev_tup (ea_cons1 (ev_var rfl) (ea_cons1 ev_int ea_nil)))) (got2 (q := [.int 0]) (by simp only [wrongJ]; rw [ha]; rfl))) fun h => nomatch h
    obtain ⟨v, hv, rfl⟩ := wordB_wd ha
    have hw2 : ∀ y ∈ cRoot :: ns, Wd y := fun y hy => by
      rcases List.mem_cons.mp hy with rfl | hy
      · exact wd_root
      · exact hw y hy
    have tst := et_thaw (i := 2) (Δ := [.v (.list (l.map Sh.d)), .v (c r), .own (txts (cRoot :: ns)), .v (.int (i : Nat)), .v (.tuple [.str (txt v), b]), .un]) rfl (et_or1 (F := F) (a := false) (b := decide (v ∈ cRoot :: ns)) ((et_not1 (et_B1 (ev_isword (E := E0) ga (ev_ixU (K := K) (q := 0) (ev_var (i := 4) rfl) ev_int rfl)))).eq (by rw [ha]; rfl)) fun _ => et_test1 (ev_inW (K := K) (neg := false) hv hw2 (ev_ixU (K := K) (q := 0) (ev_var (i := 4) rfl) ev_int rfl) (ev_var (i := 2) rfl)))
    have mm : decide (v ∈ cRoot :: ns) = (decide (v = cRoot) || decide (v ∈ ns)) := by
      rw [Bool.eq_iff_iff, Bool.or_eq_true, decide_eq_true_eq, decide_eq_true_eq, decide_eq_true_eq, List.mem_cons]
    have w0 : wrongJ l (.tuple [.str (txt v), b]) ns = if decide (v ∈ cRoot :: ns) then some [.int 0] else if isW l b then none else some [.int 1] := by
      rw [mm]
      simp only [wrongJ]
      rw [ha, wOf_txt, Bool.not_true, Bool.false_or]
    cases hm : decide (v ∈ cRoot :: ns)
    · rw [hm, if_neg (by decide)] at w0
      refine run_if1S (b := false) (tst.eq (by rw [hm] <;> rfl)) (fun h => nomatch h) fun _ => run_nextS ?_
      have wl : ∀ {Δ : List Sl}, Δ[0]? = some (.v (.list (l.map Sh.d))) → Δ.length = 6 → Ev1 F (tLc (iAny K (tVar 0)) (gName 5) tYes (tOp (rIx K) (tVar 5) (tC (.int 0))) [5]) Δ (.list (txts (l.map Sh.w))) := fun {Δ} h0 h6 => (EvF.val1 (ef_mapL l Sh.d (fun s => .str (txt s.w)) (ei_list (ev_var h0)) (z (by omega)) fun i s hs => ⟨[5], _, eg_name, by simp, ev_ixU (q := 0) (ev_var (d := s.d) (by rw [List.getElem?_set_self (by simpa [wipeD] using by omega)])) ev_int rfl⟩)).eq (congrArg D.list (by simp [txts]))
      cases hb : isW l b
      · rw [hb, if_neg (by decide)] at w0
        exact run_if1S (b := true) ((et_test1 (ev_ninW hl gb (ev_ixU (q := 1) (ev_var rfl) ev_int rfl) (wl rfl rfl))).eq (by rw [hb]; rfl)) (fun _ => run_ret1S (one (ev_tup (ea_cons1 (ev_var rfl) (ea_cons1 ev_int ea_nil)))) (got2 (q := [.int 1]) w0)) fun h => nomatch h
      · rw [hb, if_pos rfl] at w0
        refine run_if1S (b := false) ((et_test1 (ev_ninW hl gb (ev_ixU (q := 1) (ev_var rfl) ev_int rfl) (wl rfl rfl))).eq (by rw [hb]; rfl)) (fun h => nomatch h) fun _ => run_nextS ?_
        rw [w0] at he
        refine run_app (i := 2) rfl (ev_ixU (q := 0) (ev_var rfl) ev_int rfl) ?_ fun d ed => ⟨ns ++ [v], .v (.int (i : Nat)), .v (.tuple [.str (txt v), b]), ?_, ?_, ?_, ?_⟩
        · have : (100000 : Nat) < sizeLine := by decide
          simp only [List.length_map, List.length_cons]
          omega
        · rw [he]
          show wrongG l (i + 1) (ns ++ [wOf (.str (txt v))]) _ = _
          rw [wOf_txt]
        · intro z hz
          rcases List.mem_append.mp hz with hz | hz
          · exact hw z hz
          · rw [List.mem_singleton] at hz
            exact hz ▸ hv
        · simp [hli]
        · rw [ed]
          simp [txts, List.map_append]
    · rw [hm, if_pos rfl] at w0
      exact run_if1S (b := true) (tst.eq (by rw [hm] <;> rfl)) (fun _ => run_ret1S (one (ev_tup (ea_cons1 (ev_var rfl) (ea_cons1 ev_int ea_nil)))) (got2 (q := [.int 0]) w0)) fun h => nomatch h
  · rintro Δ ⟨ns, _, _, he, _⟩
    show wrongB l (c r) = none
    rw [he, rng_len, List.drop_length]
    rfl
abbrev s__law_refused : Stmt := top 37
theorem sc__law_refused : FnScope ["_law_book", "_law_joints", "error", "!x"] ["_law_book", "_law_joints"] (defScope s__law_refused) := ⟨rfl, rfl, rfl, by decide +kernel, rfl, by decide +kernel, by decide +kernel⟩
theorem ok__law_refused {k : Nat} {f : Addr} {fd : FuncData} (T : Tx K mg) (U : Tb P K mg) (MKX_Bag : MkTX P w K mg base k "Bag" (clsOf mg "Bag") ["self", "book", "joints"] (SpOX (clsOf mg "Bag") false (RBag (clsOf mg "Book")) (XBag (clsOf mg "Book") (clsOf mg "BadBag")))) (Fu : Fun K "_law_refused" "_law_refused" s__law_refused f fd) : FnOk P w K mg base CX0 (k + 2) f fd ["_law_book", "_law_joints"] (SpD false false (RRefG (clsOf mg "Book"))) := by
  refine ok_D Fu sc__law_refused (fun ds d ⟨_, _, _, _, _, e, _⟩ => by rw [e]; rfl) fun cdv A outer s H E hrm => ?_
  have hr : Room k _ := hrm.mono (Nat.le_succ k)
  refine ⟨_, (pss_cons (ps_tryA (i := 2) rfl rfl sc__law_refused.nd rfl rfl ⟨rfl, by decide, .inl U.x_BadBag.gC⟩ takes0
      (fun W pn xe tk po_ => (pss_one (ps_expr (pe_makeTX tk MKX_Bag hrm (pa_cons (pv 0) (pa_cons (pv 1) pa_nil))))))
      (fun a oe cls d pn hz hf => (pss_one (ps_ret (pe_lst (pa_cons (pe_xf U.f_BadBag U.no_BadBag_path hz hf (pv 2)) pa_nil))))))
    (pss_one (ps_ret (pe_lst pa_nil)))), fun F ds hF hR => ?_⟩
  obtain ⟨_, l, x, hl, gx, sx, rfl, _⟩ := hR
  have fin : ∀ {r : List D}, r = dueG l x → RRefG (clsOf mg "Book") [bookD (clsOf mg "Book") l, x] (.list r) := fun e => ⟨l, x, hl, gx, sx, rfl, by rw [e]⟩
  refine run_seqM (N := fun _ => wrongB l x = none) ?_ fun Δ e => run_ret1 (EvF.val1 (ef_lst ea_nil)) (fin (by rw [dueG, e]))
  refine run_try (ix := 3) (XBag (clsOf mg "Book") (clsOf mg "BadBag") [bookD (clsOf mg "Book") l, x]) [some (bookD (clsOf mg "Book") l), some x, Option.none, Option.none] (fun c h => by obtain ⟨_, _, _, _, _, _, _, _, _, e⟩ := h; cases e) (fun c f h => by obtain ⟨_, _, _, _, _, _, _, _, e, _⟩ := h; rw [e]; exact U.c_BadBag) (fun W => ?_) fun a c dd fs ⟨l', x', q, _, _, _, hq, e, hc, hf⟩ => ?_
  · refine run_dropP (ev_mkX (ix := 3) (RX := XBag (clsOf mg "Book") (clsOf mg "BadBag")) rfl ⟨_, rfl, _, rfl, _, _, rfl, _, _, rfl, rfl⟩ (ea_cons1 (ev_var rfl) (ea_cons1 (ev_var rfl) ea_nil)) (fun ds e => ?_) (fun ds d fs' ⟨_, _, _, _, _, _, _, _, _, e, _⟩ => e) fun ds c f e h => e ▸ h) fun d ⟨ds, fs', e, h, _⟩ => ?_
    · cases hq : wrongB l x with
      | none =>
        obtain ⟨js, hx, hj⟩ := wrongB_none hl sx hq
        exact .inl ⟨_, _, l, x, js, hl, hj, hx, sx, rfl, e, rfl, rfl⟩
      | some q => exact .inr ⟨_, _, l, x, q, hl, gx, sx, hq, e, rfl, rfl⟩
    · obtain ⟨l', y, js, h1, h2, h3, _, _, e2, _⟩ := h
      rw [e] at e2
      simp only [List.cons.injEq, and_true] at e2
      have := book_inj e2.1
      subst this
      obtain ⟨_, rfl⟩ := e2
      exact wrongB_ok h2 h3
  · simp only [List.cons.injEq, and_true] at e
    have := book_inj e.1
    subst this
    obtain ⟨_, rfl⟩ := e
    subst hc
    cases hf
    exact run_ret1 (EvF.val1 (ef_lst (ea_cons1 (ev_xf (ix := 3) rfl (ev_var rfl) rfl) ea_nil))) (fin (by rw [dueG, hq]))
end
end K02

namespace K02
open PySem L2 PySem.Spec PyProof.Rows Bc
open Lex (endOf run lexAt Lm Lk lexL lexF blanks)
def UVO (s : Sl) : Prop := s = .un ∨ (∃ d, s = .v d) ∨ ∃ l, s = .own l
def UV (s : Sl) : Prop := s = .un ∨ ∃ d, s = .v d
/-! what a bag tells -/
def RToldR (C B : Addr) (ds : List D) (d : D) : Prop := ∃ l js x, Shs l ∧ Js l js ∧ isJ x js ∧ (∀ j ∈ js, j.1 ≠ cZq) ∧ ds = [bagD C B l js, .list (l.map Sh.d), x] ∧ d = .bool true
def nT : List Str := ["_law_bag", "_law_shapes_here", "_law_joints", "_law_names_here", "_law_words", "_law_joint", "_law_lap", "_law_told", "_law_some", "_law_word", "_law_shape", "_law_name", "_law_one", "_law_odd", "!t", "!x"]
section
variable {F : Fp} {Δ : List Sl} {te : TE} {E : XK} {C B : Addr} {l : List Sh} {js : List Jt}
theorem ef_joints (h : Ev1 F te Δ (bagD C B l js)) : EvF F (tMeth C "joints" (SpD false true (RJoints C B)) [] E te tNil) Δ fun r => r = js.map jd :=
  (ef_methD h ea_nil (fun ds e => by subst e; exact ⟨_, l, js, rfl, rfl⟩)).imp fun r ⟨ds, e, l', js', h1, h2⟩ => by
    subst e
    simp only [List.cons.injEq, and_true] at h1
    rw [(bag_inj h1).2]
    simpa using h2
theorem ef_names' (h : Ev1 F te Δ (bagD C B l js)) : EvF F (tMeth C "names" (SpD false true (RBNames C B)) [] E te tNil) Δ fun r => r = txts (js.map Prod.fst) :=
  (ef_methD h ea_nil (fun ds e => by subst e; exact ⟨_, l, js, rfl, rfl⟩)).imp fun r ⟨ds, e, l', js', h1, h2⟩ => by
    subst e
    simp only [List.cons.injEq, and_true] at h1
    rw [(bag_inj h1).2]
    simpa using h2
theorem ev_gbook (h : Ev1 F te Δ (bagD C B l js)) : Ev1 F (tMeth C "book" (SpD false false (RGBook C B)) [] E te tNil) Δ (bookD B l) :=
  EvR.to1 (ev_methD h ea_nil fun ds e => ⟨_, l, js, by rw [e]; rfl, rfl⟩) fun d ⟨ds, e, l', js', h1, h2⟩ => by
    subst e
    simp only [List.cons.injEq, and_true] at h1
    rw [h2, (bag_inj h1).1]
theorem ev_stock (hl : Shs l) (hj : Js l js) (h : Ev1 F te Δ (bagD C B l js)) : Ev1 F (tMeth C "stock" (SpD false false (RStock C B)) [] E te tNil) Δ (.tuple (l.map fun s => .int (((js.map Prod.snd).count s.w : Nat) : Int))) :=
  EvR.to1 (ev_methD h ea_nil fun ds e => ⟨_, l, js, hl, hj, by rw [e]; rfl, rfl⟩) fun d ⟨ds, e, l', js', _, _, h1, h2⟩ => by
    subst e
    simp only [List.cons.injEq, and_true] at h1
    rw [h2, (bag_inj h1).1, (bag_inj h1).2]
end
def eqS (w : List Nat) : D → Option D
  | .str z => if z = txt w then some (.str z) else none
  | _ => none
theorem eqS_len (w : List Nat) : ∀ ws : List (List Nat), ((txts ws).filterMap (eqS w)).length = ws.count w
  | [] => rfl
  | a :: ws => by
    rw [txts, List.map_cons, List.filterMap_cons, List.count_cons, ← eqS_len w ws]
    by_cases h : a = w
    · have : eqS w (.str (txt a)) = some (.str (txt a)) := by simp only [eqS]; rw [if_pos (by rw [h])]
      rw [this, if_pos (by rw [h]; simp)]
      rfl
    · have : eqS w (.str (txt a)) = none := by simp only [eqS]; rw [if_neg (fun e => h (txt_inj e))]
      rw [this, if_neg (by simpa using h)]
      rfl
def eqH (w : List Nat) : D → Option D
  | .tuple (.str z :: r) => if z = txt w then some (.tuple (.str z :: r)) else none
  | _ => none
theorem eqH_sh (w : List Nat) (s : Sh) : eqH w s.d = if s.w = w then some s.d else none := by
  simp only [eqH, Sh.d]
  by_cases h : s.w = w
  · rw [if_pos (by rw [h]), if_pos h]
  · rw [if_neg (fun e => h (txt_inj e)), if_neg h]
theorem filt_sh {w : List Nat} : ∀ {l : List Sh} {s : Sh}, (l.map Sh.w).Nodup → s ∈ l → s.w = w → ((l.map Sh.d).filterMap (eqH w))[0]? = some s.d
  | p :: l, s, nd, h, e => by
    simp only [List.map_cons, List.nodup_cons] at nd
    rw [List.map_cons, List.filterMap_cons, eqH_sh]
    by_cases hp : p.w = w
    · rw [if_pos hp]
      rcases List.mem_cons.mp h with rfl | h
      · rfl
      · exact absurd (by rw [hp, ← e]; exact List.mem_map_of_mem h) nd.1
    · rw [if_neg hp]
      rcases List.mem_cons.mp h with rfl | h
      · exact absurd e hp
      · exact filt_sh nd.2 h e
theorem okn_list {n : Nat} {l : List D} (h : ∀ d ∈ l, d.okn n = true) : (D.list l).okn (n + 1) = true := by
  show oknL n l = true
  exact oknL_of h
theorem okn_wds {ws : List (List Nat)} (h : ∀ w ∈ ws, Wd w) : (D.list (txts ws)).okn 63 = true := okn_list fun d hd => by
  obtain ⟨w, hw, rfl⟩ := List.mem_map.mp hd
  exact okn_txt (wd_128 (h w hw))
section
variable {P : Program} {w : World} {K : PySem.W.Frag} {mg : Str → Option Value} {base : Heap}
abbrev s__law_told_right : Stmt := top 38
theorem sc__law_told_right : FnScope ["_law_bag", "_law_shapes_here", "_law_joints", "_law_names_here", "_law_words", "_law_joint", "_law_lap", "_law_told", "_law_some", "_law_word", "_law_shape", "_law_name", "_law_one", "_law_odd", "!t", "!x"] ["_law_bag", "_law_shapes_here", "_law_joints"] (defScope s__law_told_right) := ⟨rfl, rfl, rfl, by decide +kernel, rfl, by decide +kernel, by decide +kernel⟩
theorem ok__law_told_right {k : Nat} {f g cc T0 : Addr} {fdm : FuncData} {oc kV doc pm ct : Value} {od an : Option Addr} {osl : Array (Option Value)} (T : Tx K mg) (U : Tb P K mg) (TB : LamX.TabB base mg cc T0)
    (M_shapes : MethT P w K mg base k (clsOf mg "Book") "shapes" ["self"] (SpD false true (RShapes (clsOf mg "Book")))) (M_joints : MethT P w K mg base k (clsOf mg "Bag") "joints" ["self"] (SpD false true (RJoints (clsOf mg "Bag") (clsOf mg "Book")))) (M_names : MethT P w K mg base k (clsOf mg "Bag") "names" ["self"] (SpD false true (RBNames (clsOf mg "Bag") (clsOf mg "Book")))) (M_book : MethT P w K mg base k (clsOf mg "Bag") "book" ["self"] (SpD false false (RGBook (clsOf mg "Bag") (clsOf mg "Book")))) (M_stock : MethT P w K mg base k (clsOf mg "Bag") "stock" ["self"] (SpD false false (RStock (clsOf mg "Bag") (clsOf mg "Book"))))
    (MX_word : MethTX P w K mg base k (clsOf mg "Bag") "word" ["self", "name"] (SpX false false (RPart (fun s => .str (txt s.w)) (clsOf mg "Bag") (clsOf mg "Book")) (XNm (clsOf mg "Bag") (clsOf mg "Book") (clsOf mg "UnknownName")))) (MX_stem : MethTX P w K mg base k (clsOf mg "Bag") "stem" ["self", "name"] (SpX false false (RPart (fun s => .str (txt s.c)) (clsOf mg "Bag") (clsOf mg "Book")) (XNm (clsOf mg "Bag") (clsOf mg "Book") (clsOf mg "UnknownName")))) (MX_branches : MethTX P w K mg base k (clsOf mg "Bag") "branches" ["self", "name"] (SpX false false (RPart (fun s => .tuple (txts s.bs)) (clsOf mg "Bag") (clsOf mg "Book")) (XNm (clsOf mg "Bag") (clsOf mg "Book") (clsOf mg "UnknownName"))))
    (F__law_missing : Fun K "_law_missing" "_law_missing" s__law_missing g fdm) (m__law_missing : mg "_law_missing" = some (.ref g)) (k__law_missing : PySem.W.keepIn K (.ref g) = true) (b__law_missing : L2.Binds K fdm ["_law_call"] [])
    (lk : K.lookup f = some ⟨oc, od, .func (PySem.W.fnOf "_law_told_right" "_law_told_right" (defArgs s__law_told_right) (defBody s__law_told_right) (defScope s__law_told_right) .none kV doc pm an (.ref cc) ct), osl⟩) (hcd : PySem.W.codeIn K (.ref cc) "_law_told_right" = true) :
    FnOk P w K mg base CX0 (k + 3) f (PySem.W.fnOf "_law_told_right" "_law_told_right" (defArgs s__law_told_right) (defBody s__law_told_right) (defScope s__law_told_right) .none kV doc pm an (.ref cc) ct) ["_law_bag", "_law_shapes_here", "_law_joints"] (SpTb T0 (("_law_told_right" : Str) ++ ".<locals>." ++ "<lambda>") (RToldR (clsOf mg "Bag") (clsOf mg "Book"))) := by
  have safe : ∀ {m : Str} {g : Sh → D}, MethTX P w K mg base k (clsOf mg "Bag") m ["self", "name"] (SpX false false (RPart g (clsOf mg "Bag") (clsOf mg "Book")) (XNm (clsOf mg "Bag") (clsOf mg "Book") (clsOf mg "UnknownName"))) → MethT P w K mg base k (clsOf mg "Bag") m ["self", "name"] (SpD false false (RPart g (clsOf mg "Bag") (clsOf mg "Book"))) := fun G => G.safe fun ds hd => ⟨hd, fun c f hx => by
    obtain ⟨d, l, js, j, s, _, _, hm, _, _, e, _⟩ := hd
    obtain ⟨l', js', x', _, _, _, hn, e2, _⟩ := hx
    rw [e] at e2
    simp only [List.cons.injEq, and_true] at e2
    obtain ⟨rfl, rfl⟩ := bag_inj e2.1
    exact hn j hm e2.2.symm, fun _ h => h⟩
  have M_word := safe MX_word
  have M_stem := safe MX_stem
  have M_branches := safe MX_branches
  refine ok_Tb (it := 14) lk hcd sc__law_told_right (fun ds d ⟨_, _, _, _, _, _, _, e, _⟩ => by rw [e]; rfl) (by decide) fun A outer s H E hrl => ?_
  have hr : Room k _ := hrl.mono (by omega)
  have hu2 : (A.deeper (envOfC "_law_told_right" (defScope s__law_told_right) s.heap.objs.size f (.ref cc))).units + 65 < cLine := by have := hr.un; omega
  have hcode : (envOfC "_law_told_right" (defScope s__law_told_right) s.heap.objs.size f (.ref cc)).code = .ref cc := rfl
  have hG : ∀ (cdg : Value) (q : Str), GivesS (cxOf CX0 P w K mg base nT "_law_told_right" (defScope s__law_told_right) f (.ref cc) A outer s H E).nox ["_law_call", "error", "!x"] "_law_missing" (defScope s__law_missing) g cdg (defBody s__law_missing) "_law_call" q (TTm (clsOf mg "UnknownName")) := fun cdg q => gives_missing U
  have z : ∀ {n : Nat}, n ≤ 100000 → n ≤ sizeLine := fun hn => Nat.le_trans hn (by decide)
  refine ⟨_, (pss_cons (ps_asg (pe_tup (pa_cons (pe_lc (own := [("_law_joint", 5)]) rfl sc__law_told_right.nd (qi_any (K := K) (pv 2)) (blkOk_by (own := [("_law_joint", 5)]) (N := ["_law_bag", "_law_shapes_here", "_law_joints", "_law_names_here", "_law_words", "_law_joint", "_law_lap", "_law_told", "_law_some", "_law_word", "_law_shape", "_law_name", "_law_one", "_law_odd", "!t", "!x"]) (sc := defScope s__law_told_right) (by decide +kernel)) (fun _ _ _ _ _ => (pg_name (i := 5) sc__law_told_right.nd rfl (by first | exact Or.inl rfl | exact Or.inr rfl))) (fun _ _ _ _ _ => pts_nil) (fun _ _ _ _ _ => (pe_ix (qIx (K := K)) (pv 5) pe_int (fun _ _ => rfl)))) (pa_cons (pe_lc (own := [("_law_joint", 5)]) rfl sc__law_told_right.nd (qi_any (K := K) (pv 2)) (blkOk_by (own := [("_law_joint", 5)]) (N := ["_law_bag", "_law_shapes_here", "_law_joints", "_law_names_here", "_law_words", "_law_joint", "_law_lap", "_law_told", "_law_some", "_law_word", "_law_shape", "_law_name", "_law_one", "_law_odd", "!t", "!x"]) (sc := defScope s__law_told_right) (by decide +kernel)) (fun _ _ _ _ _ => (pg_name (i := 5) sc__law_told_right.nd rfl (by first | exact Or.inl rfl | exact Or.inr rfl))) (fun _ _ _ _ _ => pts_nil) (fun _ _ _ _ _ => (pe_ix (qIx (K := K)) (pv 5) pe_int (fun _ _ => rfl)))) pa_nil))) (qg_tup (K := K) rfl (pgs_cons (pg_name (i := 3) sc__law_told_right.nd rfl ((by first | exact Or.inl rfl | exact Or.inr rfl))) (pgs_cons (pg_name (i := 4) sc__law_told_right.nd rfl ((by first | exact Or.inl rfl | exact Or.inr rfl))) pgs_nil))))
    (pss_cons (ps_for PassesOwn.never rfl (pi_range1 (by rfl) T.n_range (pa_cons pe_int pa_nil)) (pg_name (i := 6) sc__law_told_right.nd rfl ((by first | exact Or.inl rfl | exact Or.inr rfl)))
      (pss_cons (ps_set (i := 7) sc__law_told_right.nd rfl ((by first | exact Or.inl rfl | exact Or.inr rfl)) (pe_lst (pa_cons (pe_methT0 M_joints hr (pv 0)) (pa_cons (pe_methT0 M_names hr (pv 0)) pa_nil))))
      (pss_cons (ps_if (PW.pt (pw_or (pt_cmpR (qNe (K := K) hu2) (pv 7) (pe_lst (pa_cons (pe_callTy (qList (K := K)) (by rfl) T.n_list (by decide +kernel) (pa_cons (pv 2) pa_nil)) (pa_cons (pv 3) pa_nil))) (nomark _)) (pw_or1 (pt_cmpR (qNe (K := K) hu2) (pe_methT0 M_shapes hr (pe_methT0 M_book hr (pv 0))) (pv 1) (nomark _)))))
        (pss_one (ps_ret pe_bl))
        pss_nil)
      (pss_one (ps_for PassesOwn.never rfl (qi_any (K := K) (pv 7)) (pg_name (i := 8) sc__law_told_right.nd rfl ((by first | exact Or.inl rfl | exact Or.inr rfl)))
        (pss_one (ps_expr (qBm (K := K) PySem.F.plainAttrs_list PySem.F.slot_list_append PySem.F.type_list_append mt_append (pv 8) (pa_cons pe_non pa_nil)))))))))
    (pss_cons (ps_if (pt_cmpR (qNe (K := K) hu2) (pe_methT0 M_stock hr (pv 0)) (pe_callTy (qTuple (K := K)) (by rfl) T.n_tuple (by decide +kernel) (pa_cons (pe_lc (own := [("_law_shape", 10)]) rfl sc__law_told_right.nd (qi_any (K := K) (pv 1)) (blkOk_by (own := [("_law_shape", 10)]) (N := ["_law_bag", "_law_shapes_here", "_law_joints", "_law_names_here", "_law_words", "_law_joint", "_law_lap", "_law_told", "_law_some", "_law_word", "_law_shape", "_law_name", "_law_one", "_law_odd", "!t", "!x"]) (sc := defScope s__law_told_right) (by decide +kernel)) (fun _ _ _ _ _ => (pg_name (i := 10) sc__law_told_right.nd rfl (by first | exact Or.inl rfl | exact Or.inr rfl))) (fun _ _ _ _ _ => pts_nil) (fun _ _ _ _ _ => (pe_callB (qLen (K := K)) (by rfl) T.n_len (by decide +kernel) (pa_cons (pe_lc (own := [("_law_word", 9)]) rfl sc__law_told_right.nd (qi_any (K := K) (pv 4)) (blkOk_by (own := [("_law_word", 9)]) (N := ["_law_bag", "_law_shapes_here", "_law_joints", "_law_names_here", "_law_words", "_law_joint", "_law_lap", "_law_told", "_law_some", "_law_word", "_law_shape", "_law_name", "_law_one", "_law_odd", "!t", "!x"]) (by kernel_rfl)) (fun _ _ _ _ _ => (pg_name (i := 9) sc__law_told_right.nd rfl (by first | exact Or.inl rfl | exact Or.inr rfl))) (fun _ _ _ _ _ => (pts_one (pt_cmpR (qEq (K := K) hu2) (pv 9) (pe_ix (qIx (K := K)) (pv 10) pe_int (fun _ _ => rfl)) (nomark _)))) (fun _ _ _ _ _ => (pv 9))) pa_nil)))) pa_nil)) (nomark _))
      (pss_one (ps_ret pe_bl))
      pss_nil)
    (pss_cons (ps_for PassesOwn.never rfl (qi_any (K := K) (pv 2)) (qg_tup (K := K) rfl (pgs_cons (pg_name (i := 11) sc__law_told_right.nd rfl ((by first | exact Or.inl rfl | exact Or.inr rfl))) (pgs_cons (pg_name (i := 9) sc__law_told_right.nd rfl ((by first | exact Or.inl rfl | exact Or.inr rfl))) pgs_nil)))
      (pss_cons (ps_set (i := 10) sc__law_told_right.nd rfl ((by first | exact Or.inl rfl | exact Or.inr rfl)) (pe_ix (qIx (K := K)) (pe_lc (own := [("_law_one", 12)]) rfl sc__law_told_right.nd (qi_any (K := K) (pv 1)) (blkOk_by (own := [("_law_one", 12)]) (N := ["_law_bag", "_law_shapes_here", "_law_joints", "_law_names_here", "_law_words", "_law_joint", "_law_lap", "_law_told", "_law_some", "_law_word", "_law_shape", "_law_name", "_law_one", "_law_odd", "!t", "!x"]) (sc := defScope s__law_told_right) (by decide +kernel)) (fun _ _ _ _ _ => (pg_name (i := 12) sc__law_told_right.nd rfl (by first | exact Or.inl rfl | exact Or.inr rfl))) (fun _ _ _ _ _ => (pts_one (pt_cmpR (qEq (K := K) hu2) (pe_ix (qIx (K := K)) (pv 12) pe_int (fun _ _ => rfl)) (pv 9) (nomark _)))) (fun _ _ _ _ _ => (pv 12))) pe_int (fun _ _ => rfl)))
      (pss_one (ps_if (pt_cmpR (qNe (K := K) hu2) (pe_tup (pa_cons (pe_methT M_word hr (pv 0) (pa_cons (pv 11) pa_nil)) (pa_cons (pe_methT M_stem hr (pv 0) (pa_cons (pv 11) pa_nil)) (pa_cons (pe_methT M_branches hr (pv 0) (pa_cons (pv 11) pa_nil)) pa_nil)))) (pv 10) (nomark _))
        (pss_one (ps_ret pe_bl))
        pss_nil))))
    (pss_cons (ps_for PassesOwn.never rfl (qi_any (K := K) (pe_lst (pa_cons pe_non (pa_cons pe_bl (pa_cons pe_int (pa_cons pe_str (pa_cons pe_str (pa_cons pe_str (pa_cons (pe_tup pa_nil) (pa_cons (pe_lst (pa_cons pe_str pa_nil)) (pa_cons pe_dnewK (pa_cons (pe_tup (pa_cons pe_str (pa_cons (pe_lst pa_nil) pa_nil))) pa_nil)))))))))))) (pg_name (i := 13) sc__law_told_right.nd rfl ((by first | exact Or.inl rfl | exact Or.inr rfl)))
      (pss_cons (ps_set (i := 7) sc__law_told_right.nd rfl ((by first | exact Or.inl rfl | exact Or.inr rfl)) (pe_lst (pa_cons (pe_lamS F__law_missing m__law_missing k__law_missing b__law_missing sc__law_missing (fun cdg => hG cdg _) TB hcode hrl (L := LamX.lamS_by (show LamX.lamSB (defScope s__law_told_right) _ = true by decide +kernel)) (hbody := fun A outer s H E f c' hr => (pe_methTX (takes_of rfl rfl rfl rfl) MX_word hr (pv 0) (pa_cons (pv 13) pa_nil)))) pa_nil)))
      (pss_cons (ps_expr (qBm (K := K) PySem.F.plainAttrs_list PySem.F.slot_list_append PySem.F.type_list_append mt_append (pv 7) (pa_cons (pe_lamS F__law_missing m__law_missing k__law_missing b__law_missing sc__law_missing (fun cdg => hG cdg _) TB hcode hrl (L := LamX.lamS_by (show LamX.lamSB (defScope s__law_told_right) _ = true by decide +kernel)) (hbody := fun A outer s H E f c' hr => (pe_methTX (takes_of rfl rfl rfl rfl) MX_stem hr (pv 0) (pa_cons (pv 13) pa_nil)))) pa_nil)))
      (pss_cons (ps_expr (qBm (K := K) PySem.F.plainAttrs_list PySem.F.slot_list_append PySem.F.type_list_append mt_append (pv 7) (pa_cons (pe_lamS F__law_missing m__law_missing k__law_missing b__law_missing sc__law_missing (fun cdg => hG cdg _) TB hcode hrl (L := LamX.lamS_by (show LamX.lamSB (defScope s__law_told_right) _ = true by decide +kernel)) (hbody := fun A outer s H E f c' hr => (pe_methTX (takes_of rfl rfl rfl rfl) MX_branches hr (pv 0) (pa_cons (pv 13) pa_nil)))) pa_nil)))
      (pss_one (ps_if (pt_cmpR (qNeS hu2) (pv 7) (pe_op pMul (pe_lst (pa_cons (pe_lst (pa_cons (pv 13) pa_nil)) pa_nil)) pe_int) (nomark _))
        (pss_one (ps_ret pe_bl))
        pss_nil))))))
    (pss_one (ps_ret pe_bl))))))), fun ds hR => ?_⟩
  obtain ⟨_, l, js, x, hl, hj, hx, hq, rfl, _⟩ := hR
  have hn := hl.n
  have hjn := hj.n
  let bg := (bagD (clsOf mg "Bag") (clsOf mg "Book") l js)
  let qT : Str := ("_law_told_right" : Str) ++ ".<locals>." ++ "<lambda>"
  have w1 : ∀ w ∈ js.map Prod.fst, Wd w := fun w hw => by
    obtain ⟨j, h, rfl⟩ := List.mem_map.mp hw
    exact (hj.wd j h).1
  have w2 : ∀ w ∈ js.map Prod.snd, Wd w := fun w hw => by
    obtain ⟨j, h, rfl⟩ := List.mem_map.mp hw
    exact (hj.wd j h).2
  refine run_asgGS (d := .tuple [.list (txts (js.map Prod.fst)), .list (txts (js.map Prod.snd))]) (ev_tup (ea_cons1 ((EvF.val1 (ef_mapL js jd (fun j => .str (txt j.1)) (isJ_ei hx (ev_var rfl)) (z (by omega)) fun i j hi => ⟨[5], _, eg_name, by simp, ev_ixU (q := 0) (ev_var (d := jd j) rfl) ev_int rfl⟩)).eq (congrArg D.list (by simp [txts]))) (ea_cons1 ((EvF.val1 (ef_mapL js jd (fun j => .str (txt j.2)) (isJ_ei hx (ev_var rfl)) (z (by omega)) fun i j hi => ⟨[5], _, eg_name, by simp, ev_ixU (q := 1) (ev_var (d := jd j) rfl) ev_int rfl⟩)).eq (congrArg D.list (by simp [txts]))) ea_nil))) (eg_tup rfl (egs_cons eg_name (egs_cons eg_name egs_nil))) ?_
  have okJ : (D.list (js.map jd)).okn 63 = true := okn_list fun d hd => by
    obtain ⟨j, hjm, rfl⟩ := List.mem_map.mp hd
    have k1 : (D.str (txt j.1)).okn 61 = true := okn_txt (wd_128 (hj.wd j hjm).1)
    have k2 : (D.str (txt j.2)).okn 61 = true := okn_txt (wd_128 (hj.wd j hjm).2)
    show oknL 61 [.str (txt j.1), .str (txt j.2)] = true
    simp only [oknL, k1, k2, Bool.and_self]
  have okT : (D.list [.list (js.map jd), .list (txts (js.map Prod.fst))]).okn 64 = true := okn_list fun d hd => by
    simp only [List.mem_cons, List.not_mem_nil, or_false] at hd
    rcases hd with rfl | rfl
    · exact okJ
    · exact okn_wds w1
  have ne : ∀ y : D, (!y.eqb y) = false := fun y => by rw [show y.eqb y = true from eqb_refl _]; rfl
  refine run_seqM (N := fun Δ => ∃ s6, UV s6 ∧ Δ = [.v bg, .v (.list (l.map Sh.d)), .v x, .v (.list (txts (js.map Prod.fst))), .v (.list (txts (js.map Prod.snd))), .un, s6, .un, .un, .un, .un, .un, .un, .un, .tb T0 qT, .un]) ?_ ?_
  · refine run_for (ei_rng (n := 2) (ea_cons1 ev_int ea_nil) (by decide)) (fun _ Δ => ∃ s6, UV s6 ∧ Δ = [.v bg, .v (.list (l.map Sh.d)), .v x, .v (.list (txts (js.map Prod.fst))), .v (.list (txts (js.map Prod.snd))), .un, s6, .un, .un, .un, .un, .un, .un, .un, .tb T0 qT, .un]) ⟨.un, .inl rfl, rfl⟩ ?_ fun Δ h => h
    rintro i d Δ _ ⟨s6, h6, rfl⟩
    refine ⟨_, _, eg_name, ?_⟩
    refine run_told1 (dss := [js.map jd, txts (js.map Prod.fst)]) (by decide) (by show 7 < 16; decide) (by show 8 < 16; decide) (eaf_cons (ef_joints (ev_var rfl)) (eaf_cons (ef_names' (ev_var rfl)) eaf_nil)) (show 2 ≤ sizeLine by decide) (fun ds hd => ?_) ((et_or1 (a := false) (b := false) ((et_test1 (ev_neD (x := .list [.list (js.map jd), .list (txts (js.map Prod.fst))]) (y := .list [.list (js.map jd), .list (txts (js.map Prod.fst))]) (ev_var rfl) (EvF.val1 (ef_lst (ea_cons1 (isJ_ef hx (ev_var rfl)).val1 (ea_cons1 (ev_var rfl) ea_nil)))) (D.okn_ok okT) (D.okn_ok okT))).eq (ne _)) fun _ => (et_test1 (ev_neD (x := .list (l.map Sh.d)) (y := .list (l.map Sh.d)) (ef_shapes (ev_gbook (ev_var rfl))).val1 (ev_var rfl) (shs_ok hl.okw) (shs_ok hl.okw))).eq (ne _)).eq rfl) ⟨.v d, .inr ⟨_, rfl⟩, rfl⟩
    simp only [List.mem_cons, List.not_mem_nil, or_false] at hd
    have : (100000 : Nat) < sizeLine := by decide
    rcases hd with rfl | rfl <;> simp only [List.length_map] <;> omega
  rintro Δ ⟨s6, h6, rfl⟩
  have okS : (D.tuple (l.map fun (s : Sh) => D.int (((js.map Prod.snd).count (Sh.w s) : Nat) : Int))).eqOk := D.okn_ok (by
    show oknL 63 (l.map fun (s : Sh) => D.int (((js.map Prod.snd).count (Sh.w s) : Nat) : Int)) = true
    refine oknL_of fun d hd => ?_
    obtain ⟨s, _, rfl⟩ := List.mem_map.mp hd
    rfl)
  refine run_if1S (b := false) ((et_test1 (ev_neD (x := .tuple (l.map fun (s : Sh) => D.int (((js.map Prod.snd).count (Sh.w s) : Nat) : Int))) (y := .tuple (l.map fun (s : Sh) => D.int (((js.map Prod.snd).count (Sh.w s) : Nat) : Int))) (ev_stock hl hj (ev_var rfl)) (ev_cb1 sTup (ea_cons1 (EvF.val1 (ef_mapL l Sh.d (fun (s : Sh) => D.int (((js.map Prod.snd).count (Sh.w s) : Nat) : Int)) (ei_list (ev_var rfl)) (z (by omega)) fun i sh hs => ⟨[10], _, eg_name, by simp, (ev_lenL (l := (txts (js.map Prod.snd)).filterMap (eqS sh.w)) (EvF.val1 (ef_lcM (ds := txts (js.map Prod.snd)) (ei_list (ev_var rfl)) (z (by simp only [List.length_map]; omega)) (eqS sh.w) fun m d hd => ?inn))).eq (by rw [eqS_len])⟩)) ea_nil) rfl) okS okS)).eq (ne _)) (fun h => nomatch h) fun _ => run_nextS ?_
  case inn =>
    rw [List.getElem?_map, Option.map_eq_some_iff] at hd
    obtain ⟨v, _, rfl⟩ := hd
    refine ⟨[9], _, eg_name, by simp, decide (txt v = txt sh.w), et_test1 (ev_eqZ (ev_var rfl) (ev_ixU (q := 0) (ev_var (d := sh.d) rfl) ev_int rfl)), fun h => ?_, fun h => ⟨.str (txt v), ?_, ev_var rfl⟩⟩
    · simp only [eqS]
      rw [if_neg (of_decide_eq_false h)]
    · simp only [eqS]
      rw [if_pos (of_decide_eq_true h)]
  refine run_seqM (N := fun Δ => ∃ s9 s10 s11, UV s9 ∧ UV s10 ∧ UV s11 ∧ Δ = [.v bg, .v (.list (l.map Sh.d)), .v x, .v (.list (txts (js.map Prod.fst))), .v (.list (txts (js.map Prod.snd))), .un, s6, .un, .un, s9, s10, s11, .un, .un, .tb T0 qT, .un]) ?_ ?_
  · refine run_for (isJ_ei hx (ev_var rfl)) (fun _ Δ => ∃ s9 s10 s11, UV s9 ∧ UV s10 ∧ UV s11 ∧ Δ = [.v bg, .v (.list (l.map Sh.d)), .v x, .v (.list (txts (js.map Prod.fst))), .v (.list (txts (js.map Prod.snd))), .un, s6, .un, .un, s9, s10, s11, .un, .un, .tb T0 qT, .un]) ⟨_, _, _, .inl rfl, .inl rfl, .inl rfl, rfl⟩ ?_ fun Δ h => h
    rintro i d Δ hd ⟨s9, s10, s11, h9, h10, h11, rfl⟩
    rw [List.getElem?_map, Option.map_eq_some_iff] at hd
    obtain ⟨jt, hjt, rfl⟩ := hd
    have hjm := List.mem_of_getElem? hjt
    obtain ⟨sh, hs, es, _⟩ := shapeOf_of hl (hj.mem jt hjm)
    have key : ∀ (g : Sh → D) (d : D), (∃ ds, ds = [.str (txt jt.1)] ∧ RPart g (clsOf mg "Bag") (clsOf mg "Book") (bg :: ds) d) → d = g sh := fun g d ⟨ds, e, l', js', j', s', _, _, hj', hs', es', h1, h2⟩ => by
      subst e
      simp only [List.cons.injEq, and_true, D.str.injEq, txt_iff] at h1
      obtain ⟨rfl, rfl⟩ := bag_inj h1.1
      have : jt = j' := fst_inj hj.nd hjm hj' h1.2
      subst this
      rw [h2, sh_uni hl hs' hs (by rw [es, es'])]
    have oks : sh.d.eqOk := D.okn_ok (by
      have o := hl.ok sh hs
      have k1 : (D.str (txt sh.w)).okn 63 = true := okn_txt (wd_128 o.w)
      have k2 : (D.str (txt sh.c)).okn 63 = true := okn_txt (wd_128 o.c)
      have k3 : (D.tuple (txts sh.bs)).okn 63 = true := by
        show oknL 62 (txts sh.bs) = true
        refine oknL_of fun d hd => ?_
        obtain ⟨w, hw, rfl⟩ := List.mem_map.mp hd
        exact okn_txt (wd_128 (o.bs w hw))
      show oknL 63 [.str (txt sh.w), .str (txt sh.c), .tuple (txts sh.bs)] = true
      simp only [oknL, k1, k2, k3, Bool.and_self])
    refine ⟨_, _, eg_tup (ds := [.str (txt jt.1), .str (txt jt.2)]) rfl (egs_cons eg_name (egs_cons eg_name egs_nil)), ?_⟩
    refine run_set (d := sh.d) (ev_ixL (q := 0) (EvF.val1 (ef_lcM (ds := l.map Sh.d) (ei_list (ev_var rfl)) (z (by rw [List.length_map]; omega)) (eqH jt.2) fun m d hd => ?inn2)) ev_int (filt_sh hl.nd hs es)) ?_
    case inn2 =>
      rw [List.getElem?_map, Option.map_eq_some_iff] at hd
      obtain ⟨t, _, rfl⟩ := hd
      refine ⟨[12], _, eg_name, by simp, decide (txt t.w = txt jt.2), et_test1 (ev_eqZ (ev_ixU (q := 0) (ev_var (d := t.d) rfl) ev_int rfl) (ev_var rfl)), fun h => ?_, fun h => ⟨t.d, ?_, ev_var rfl⟩⟩
      · rw [eqH_sh, if_neg (fun e => of_decide_eq_false h (by rw [e]))]
      · rw [eqH_sh, if_pos (txt_inj (of_decide_eq_true h))]
    exact run_if1 (b := false) ((et_test1 (ev_neD (x := sh.d) (y := sh.d) (ev_tup (ea_cons1 (EvR.to1 (ev_methD (R := RPart (fun s => .str (txt s.w)) (clsOf mg "Bag") (clsOf mg "Book")) (C := clsOf mg "Bag") (fs := bagF (clsOf mg "Book") l js) (ev_var (i := 0) rfl) (ea_cons1 (ev_var (d := .str (txt jt.1)) rfl) ea_nil) fun ds e => ⟨_, l, js, jt, sh, hl, hj, hjm, hs, es, by rw [e]; rfl, rfl⟩) (key (fun s => .str (txt s.w)))) (ea_cons1 (EvR.to1 (ev_methD (R := RPart (fun s => .str (txt s.c)) (clsOf mg "Bag") (clsOf mg "Book")) (C := clsOf mg "Bag") (fs := bagF (clsOf mg "Book") l js) (ev_var (i := 0) rfl) (ea_cons1 (ev_var (d := .str (txt jt.1)) rfl) ea_nil) fun ds e => ⟨_, l, js, jt, sh, hl, hj, hjm, hs, es, by rw [e]; rfl, rfl⟩) (key (fun s => .str (txt s.c)))) (ea_cons1 (EvR.to1 (ev_methD (R := RPart (fun s => .tuple (txts s.bs)) (clsOf mg "Bag") (clsOf mg "Book")) (C := clsOf mg "Bag") (fs := bagF (clsOf mg "Book") l js) (ev_var (i := 0) rfl) (ea_cons1 (ev_var (d := .str (txt jt.1)) rfl) ea_nil) fun ds e => ⟨_, l, js, jt, sh, hl, hj, hjm, hs, es, by rw [e]; rfl, rfl⟩) (key (fun s => .tuple (txts s.bs)))) ea_nil)))) (ev_var rfl) oks oks)).eq (ne _)) (fun h => nomatch h) fun _ => run_next ⟨_, _, _, .inr ⟨_, rfl⟩, .inr ⟨_, rfl⟩, .inr ⟨_, rfl⟩, rfl⟩
  rintro Δ ⟨s9, s10, s11, h9, h10, h11, rfl⟩
  refine run_seqM (N := fun Δ => Δ[14]? = some (.tb T0 qT)) ?_ fun Δ h => run_ret1 ev_bl ⟨l, js, x, hl, hj, hx, hq, rfl, rfl⟩ h
  refine run_for (ds := tR) (ei_list (EvF.val1 (ef_lst (ea_cons1 ev_non (ea_cons1 ev_bl (ea_cons1 ev_int (ea_cons1 ev_str (ea_cons1 ev_str (ea_cons1 ev_str (ea_cons1 (ev_tup ea_nil) (ea_cons1 (EvF.val1 (ef_lst (ea_cons1 ev_str ea_nil))) (ea_cons1 ev_dnew (ea_cons1 (ev_tup (ea_cons1 ev_str (ea_cons1 (EvF.val1 (ef_lst ea_nil)) ea_nil))) ea_nil))))))))))))) (fun _ Δ => ∃ s7 s13, UVO s7 ∧ UV s13 ∧ Δ = [.v bg, .v (.list (l.map Sh.d)), .v x, .v (.list (txts (js.map Prod.fst))), .v (.list (txts (js.map Prod.snd))), .un, s6, s7, .un, s9, s10, s11, .un, s13, .tb T0 qT, .un]) ⟨_, _, .inl rfl, .inl rfl, rfl⟩ ?_ ?_
  · rintro i o Δ ho ⟨s7, s13, h7, h13, rfl⟩
    have hob := List.all_eq_true.mp tR_ok o (List.mem_of_getElem? ho)
    have hno := tR_no hob hj hq
    have hty : o.ty ≠ "?" := by
      simp only [tRB, Bool.and_eq_true, bne_iff_ne, ne_eq] at hob
      exact hob.1
    refine ⟨_, _, eg_name, ?_⟩
    have tb1 : Bc.tb1 14 [.v bg, .v (.list (l.map Sh.d)), .v x, .v (.list (txts (js.map Prod.fst))), .v (.list (txts (js.map Prod.snd))), .un, s6, s7, .un, s9, s10, s11, .un, .v o, .tb T0 qT, .un] = true := by
      rcases h6 with rfl | ⟨_, rfl⟩ <;> rcases h7 with rfl | ⟨_, rfl⟩ | ⟨_, rfl⟩ <;> rcases h9 with rfl | ⟨_, rfl⟩ <;> rcases h10 with rfl | ⟨_, rfl⟩ <;> rcases h11 with rfl | ⟨_, rfl⟩ <;> rfl
    have tb2 : ∀ es : List D, Bc.tb1 14 [.v bg, .v (.list (l.map Sh.d)), .v x, .v (.list (txts (js.map Prod.fst))), .v (.list (txts (js.map Prod.snd))), .un, s6, .own es, .un, s9, s10, s11, .un, .v o, .tb T0 qT, .un] = true := fun es => by
      rcases h6 with rfl | ⟨_, rfl⟩ <;> rcases h9 with rfl | ⟨_, rfl⟩ <;> rcases h10 with rfl | ⟨_, rfl⟩ <;> rcases h11 with rfl | ⟨_, rfl⟩ <;> rfl
    have noP : ∀ (g : Sh → D) (d : D), ¬ RPart g (clsOf mg "Bag") (clsOf mg "Book") [bagD (clsOf mg "Bag") (clsOf mg "Book") l js, o] d := fun g d ⟨l', js', j', s', _, _, hj', _, _, e, _⟩ => by
      simp only [List.cons.injEq, and_true] at e
      obtain ⟨rfl, rfl⟩ := bag_inj e.1
      exact hno j' hj' e.2
    have he0 : e0L [.list [o], .list [o], .list [o]] = true := by
      simp only [tRB, Bool.and_eq_true] at hob
      simp only [e0L, D.e0, hob.2.1, Bool.and_self]
    have hdp : depL [.list [o], .list [o], .list [o]] ≤ 32 := by
      simp only [tRB, Bool.and_eq_true, decide_eq_true_eq] at hob
      have := hob.2.2.1
      simp only [depL, D.dep]
      omega
    refine run_setL1M (evm_noName (N := clsOf mg "UnknownName") (C := clsOf mg "Bag") (B := clsOf mg "Book") (R := RPart (fun s => .str (txt s.w)) (clsOf mg "Bag") (clsOf mg "Book")) (l := l) (js := js) (x := o) (ix := 15) (i := 0) (j := 13) (it := 14) rfl tb1 hl hj hty hno (noP _) (fun _ => rfl) (fun _ => rfl) (fun _ => rfl) rfl) fun d Δ' ⟨e1, e2⟩ => ?_
    subst e1 e2
    refine run_seqM (N := fun Δ => Δ = [.v bg, .v (.list (l.map Sh.d)), .v x, .v (.list (txts (js.map Prod.fst))), .v (.list (txts (js.map Prod.snd))), .un, s6, .own [.list [o], .list [o]], .un, s9, s10, s11, .un, .v o, .tb T0 qT, .un]) (run_appM ⟨_, rfl⟩ (evm_noName (N := clsOf mg "UnknownName") (C := clsOf mg "Bag") (B := clsOf mg "Book") (R := RPart (fun s => .str (txt s.c)) (clsOf mg "Bag") (clsOf mg "Book")) (l := l) (js := js) (x := o) (ix := 15) (i := 0) (j := 13) (it := 14) rfl (tb2 _) hl hj hty hno (noP _) (fun _ => rfl) (fun _ => rfl) (fun _ => rfl) rfl) fun d Δ' ⟨e1, e2⟩ => ⟨[.list [o]], by rw [e2]; rfl, show 1 < sizeLine by decide, by rw [e2, e1]; rfl⟩) fun Δ e => ?_
    subst e
    refine run_seqM (N := fun Δ => Δ = [.v bg, .v (.list (l.map Sh.d)), .v x, .v (.list (txts (js.map Prod.fst))), .v (.list (txts (js.map Prod.snd))), .un, s6, .own [.list [o], .list [o], .list [o]], .un, s9, s10, s11, .un, .v o, .tb T0 qT, .un]) (run_appM ⟨_, rfl⟩ (evm_noName (N := clsOf mg "UnknownName") (C := clsOf mg "Bag") (B := clsOf mg "Book") (R := RPart (fun s => .tuple (txts s.bs)) (clsOf mg "Bag") (clsOf mg "Book")) (l := l) (js := js) (x := o) (ix := 15) (i := 0) (j := 13) (it := 14) rfl (tb2 _) hl hj hty hno (noP _) (fun _ => rfl) (fun _ => rfl) (fun _ => rfl) rfl) fun d Δ' ⟨e1, e2⟩ => ⟨[.list [o], .list [o]], by rw [e2]; rfl, show 2 < sizeLine by decide, by rw [e2, e1]; rfl⟩) fun Δ e => ?_
    subst e
    refine run_if1 (b := false) (et_thaw (i := 7) rfl (et_test1 (ev_neS (ds := [.list [o], .list [o], .list [o]]) (ev_var rfl) (ev_op1 sMul (EvF.val1 (ef_lst (ea_cons1 (EvF.val1 (ef_lst (ea_cons1 (ev_var rfl) ea_nil))) ea_nil))) ev_int ⟨by decide, by decide, by show 1 * 3 ≤ sizeLine; decide, rfl⟩) he0 hdp))) (fun h => nomatch h) fun _ => run_next ⟨_, _, .inr (.inr ⟨_, rfl⟩), .inr ⟨_, rfl⟩, rfl⟩
  · rintro Δ ⟨s7, s13, _, _, rfl⟩
    rfl
end
end K02

namespace Bc
open PySem L2 PySem.Spec PyProof.Rows
mutual
/-- no list in it -/
def D.nl : D → Bool
  | .none => true
  | .bool _ => true
  | .int _ => true
  | .str _ => true
  | .list _ => false
  | .tuple l => nlL l
  | .dict l => nlK l
  | .obj _ l => nlF l
  | .exc _ _ => false
  | .ref _ => true
def nlL : List D → Bool
  | [] => true
  | d :: ds => d.nl && nlL ds
def nlK : List (Key × D) → Bool
  | [] => true
  | (_, d) :: ds => d.nl && nlK ds
def nlF : List (Str × D) → Bool
  | [] => true
  | (_, d) :: ds => d.nl && nlF ds
end
section
variable {S S' : Hp}
mutual
theorem dt_nl (e : ∀ a o, S a = some o → (∀ xs, o ≠ .lst xs) → S' a = some o) : ∀ (d : D) (v : V), d.nl = true → Dt S d v → Dt S' d v
  | .none, v, _, h => by simpa only [Dt] using h
  | .bool b, v, _, h => by simpa only [Dt] using h
  | .int i, v, _, h => by simpa only [Dt] using h
  | .str s, v, _, h => by simpa only [Dt] using h
  | .ref a, v, _, h => by simpa only [Dt] using h
  | .list ds, v, q, h => by simp [D.nl] at q
  | .tuple ds, v, q, h => by
    simp only [Dt] at h ⊢
    simp only [D.nl] at q
    obtain ⟨a, xs, e1, e2, h⟩ := h
    exact ⟨a, xs, e1, e _ _ e2 (by simp), dtl_nl e ds xs q h⟩
  | .dict ds, v, q, h => by
    simp only [Dt] at h ⊢
    simp only [D.nl] at q
    obtain ⟨a, xs, e1, e2, h⟩ := h
    exact ⟨a, xs, e1, e _ _ e2 (by simp), dtk_nl e ds xs q h⟩
  | .obj C ds, v, q, h => by
    simp only [Dt] at h ⊢
    simp only [D.nl] at q
    obtain ⟨a, dx, xs, e1, e2, h⟩ := h
    exact ⟨a, dx, xs, e1, e _ _ e2 (by simp), dtf_nl e ds xs q h⟩
  | .exc C fs, v, q, h => by simp [D.nl] at q
theorem dtl_nl (e : ∀ a o, S a = some o → (∀ xs, o ≠ .lst xs) → S' a = some o) : ∀ (d : List D) (v : List V), nlL d = true → DtL S d v → DtL S' d v
  | [], v, _, h => by simpa only [DtL] using h
  | d :: ds, v, q, h => by
    simp only [DtL] at h ⊢
    simp only [nlL, Bool.and_eq_true] at q
    obtain ⟨x, ys, e1, h1, h2⟩ := h
    exact ⟨x, ys, e1, dt_nl e d x q.1 h1, dtl_nl e ds ys q.2 h2⟩
theorem dtk_nl (e : ∀ a o, S a = some o → (∀ xs, o ≠ .lst xs) → S' a = some o) : ∀ (d : List (Key × D)) (v : List (Key × V)), nlK d = true → DtK S d v → DtK S' d v
  | [], v, _, h => by simpa only [DtK] using h
  | (k, d) :: ds, v, q, h => by
    simp only [DtK] at h ⊢
    simp only [nlK, Bool.and_eq_true] at q
    obtain ⟨x, ys, e1, h1, h2⟩ := h
    exact ⟨x, ys, e1, dt_nl e d x q.1 h1, dtk_nl e ds ys q.2 h2⟩
theorem dtf_nl (e : ∀ a o, S a = some o → (∀ xs, o ≠ .lst xs) → S' a = some o) : ∀ (d : List (Str × D)) (v : List (Str × V)), nlF d = true → DtF S d v → DtF S' d v
  | [], v, _, h => by simpa only [DtF] using h
  | (k, d) :: ds, v, q, h => by
    simp only [DtF] at h ⊢
    simp only [nlF, Bool.and_eq_true] at q
    obtain ⟨x, ys, e1, h1, h2⟩ := h
    exact ⟨x, ys, e1, dt_nl e d x q.1 h1, dtf_nl e ds ys q.2 h2⟩
end
end
section
variable {F : Fp} {fr : Bool} {Δ : List Sl} {te ta tb : TE} {tr : TA} {tt t u : TT} {K : PySem.W.Frag}
/-- made with an own list at hand; no list is in what is made -/
theorem ev_thawN {i : Nat} {ds : List D} {P : D → Prop} (hi : Δ[i]? = some (.own ds)) (h : EvR F te (Δ.set i (.v (.list ds))) P) (hf : ∀ d, P d → d.nl = true) : EvR F te Δ P := fun H0 S H σ w t Q k => by
  obtain ⟨p, xs, hs, hp, w', t'⟩ := t.frzE w hi
  refine h H0 _ H σ w' t' Q fun d v S' H' pd g hd => ?_
  have hSp : S' p = some (.lst xs) := g.s p _ upd_same
  refine k d v (fun x => if x = p then Option.none else S' x) H' pd ⟨fun x o e => ?_, fun x o e => ?_, fun x o e => ?_, g.k, g.m, g.src⟩ (dt_nl (fun a o e n => ?_) d v (hf d pd) hd)
  · have n : x ≠ p := fun z => by rw [z, hs] at e; cases e
    show (if x = p then _ else _) = _
    rw [if_neg n]
    exact g.s x o (by rw [upd_ne n]; exact e)
  · have e : (if x = p then Option.none else S' x) = some o := e
    by_cases n : x = p
    · rw [if_pos n] at e; cases e
    · rw [if_neg n] at e
      exact g.h x o e
  · show (if x = p then _ else _) = _
    by_cases n : x = p
    · rw [if_pos n, n, hs]
    · rw [if_neg n, g.n x o e, upd_ne n]
  · show (if a = p then _ else _) = _
    have m : a ≠ p := fun z => by rw [z, hSp] at e; exact n xs (Option.some.inj e).symm
    rw [if_neg m]
    exact e
theorem etm_orM {P2 : Bool → Prop} (h1 : EvTM F t Δ fun b Δ' => b = false ∧ Δ' = Δ) (h2 : EvT F u Δ P2) : EvTM F (tOr t u) Δ fun b Δ' => P2 b ∧ Δ' = Δ := fun H0 S H σ w st dm Q k => by
  refine h1 H0 S H σ w st dm _ fun b S1 H1 Δ1 p1 w1 g1 st1 => ?_
  obtain ⟨rfl, rfl⟩ := p1
  show u σ H1 Q
  exact h2 H0 S1 H1 σ w1 st1 Q fun c S2 H2 p2 g2 => k c S2 H2 Δ1 ⟨p2, rfl⟩ (g2.ok w1) (g1.trans (g2.w g1.m)) (st1.mono g2)
theorem etm_andM {Pb : Bool → List Sl → Prop} (h1 : EvT F t Δ fun b => b = true) (h2 : EvTM F u Δ Pb) : EvTM F (tAnd t u) Δ Pb := fun H0 S H σ w st dm Q k => by
  refine h1 H0 S H σ w st _ fun b S1 H1 p1 g1 => ?_
  subst p1
  show u σ H1 Q
  exact h2 H0 S1 H1 σ (g1.ok w) (st.mono g1) (fun x o e => (dm x o e).elim fun o' e' => g1.m x o' e') Q fun c S2 H2 Δ2 p2 w2 g2 st2 => k c S2 H2 Δ2 p2 w2 ((g1.w dm).trans g2) st2
def NT : Sl → Prop
  | .tb _ _ => False
  | _ => True
theorem tb1_of {i : Nat} (h : ∀ s ∈ Δ.set i .un, NT s) : tb1 i Δ = true := by
  unfold tb1
  rw [List.all_eq_true]
  intro s hs
  have := h s hs
  cases s <;> first | rfl | exact this.elim
/-- l[::-1] -/
theorem ef_revL {l : List D} (h : Ev1 F te Δ (.list l)) : EvF F (tRevL K te) Δ fun r => r = l.reverse := fun H0 S H σ w t Q k =>
  h H0 S H σ w t _ fun d v S1 H1 e g hd => by
    subst e
    simp only [Dt] at hd
    obtain ⟨a, xs, rfl, e1, h1⟩ := hd
    refine ⟨a, xs, rfl, SqL.of (g.h _ _ e1), fun p hp => ?_⟩
    have hpH : H p = Option.none := by
      cases e : H p with
      | none => rfl
      | some o =>
        obtain ⟨o', e'⟩ := g.m p o e
        rw [hp] at e'
        cases e'
    exact k _ p _ S1 _ rfl (g.trans (Gr.new g.h hp)) hpH upd_same (Same.free g.h hp) h1.rev
end
end Bc
namespace K02
open PySem L2 PySem.Spec PyProof.Rows Bc
open Lex (endOf run lexAt Lm Lk lexL lexF blanks)
def odd1 : List D := [.none, .bool true, .int 0, .str "", .str "zz", .str "A", .str "1a", .str (Txt.mul "a" 13), .str "root", .str "a", .str "b", .tuple [], .list [], .dict [], .tuple [.str "a"]]
def odd2 : List D := [.list [.str "a", .str "a"], .tuple [.str "root", .str "a"]]
def oddL : List D := odd1 ++ odd2
def oddB (d : D) : Bool := gv d && (nzq d && (decide (dsz d ≤ 40) && decide (d.dep ≤ 4)))
theorem oddL_ok : oddL.all oddB = true := by decide +kernel
theorem oddL_len : oddL.length = 17 := by decide
theorem gz_wd {w : List Nat} (h : Wd w) (hq : w ≠ cZq) : gz (.str (txt w)) := ⟨gv_wd h, by
  simp only [nzq, decide_eq_true_eq]
  exact fun e => hq (txt_inj e)⟩
theorem gz_jd {l : List Sh} {js : List Jt} {j : Jt} (hl : Shs l) (hj : Js l js) (hq : ∀ j ∈ js, j.1 ≠ cZq) (hm : j ∈ js) : gz (jd j) := by
  obtain ⟨s, hs, e⟩ := List.mem_map.mp (hj.mem j hm)
  refine Seq.t.gv.mpr fun d hd => ?_
  simp only [List.mem_cons, List.not_mem_nil, or_false] at hd
  rcases hd with rfl | rfl
  · exact gz_wd (hj.wd j hm).1 (hq j hm)
  · exact gz_wd (hj.wd j hm).2 (e ▸ (hl.ok s hs).q.1)
theorem jd_sz (j : Jt) : dsz (jd j) = 3 ∧ (jd j).dep = 1 := ⟨by simp [jd, dsz, dszL], by simp [jd, D.dep, depL]⟩
theorem js_sz : ∀ js : List Jt, dszL (js.map jd) = 3 * js.length
  | [] => rfl
  | j :: js => by
    simp only [List.map_cons, dszL, (jd_sz j).1, js_sz js, List.length_cons]
    omega
theorem odd_ok {l : List Sh} {js : List Jt} (hl : Shs l) (hj : Js l js) (hq : (∀ j ∈ js, j.1 ≠ cZq) ∧ js.length ≤ 8) (ws : List D) (hw : ∀ d ∈ ws, ∃ s ∈ l, d = .str (txt s.w)) (hn : ws.length ≤ 30) : OddOk (oddL ++ js.map jd ++ ws) where
  v := fun o ho => by
    rcases List.mem_append.mp ho with ho | ho
    · rcases List.mem_append.mp ho with ho | ho
      · have := List.all_eq_true.mp oddL_ok o ho
        simp only [oddB, Bool.and_eq_true, decide_eq_true_eq] at this
        exact ⟨⟨this.1, this.2.1⟩, this.2.2.1, this.2.2.2⟩
      · obtain ⟨j, hm, rfl⟩ := List.mem_map.mp ho
        have := jd_sz j
        exact ⟨gz_jd hl hj hq.1 hm, by omega, by omega⟩
    · obtain ⟨s, hs, rfl⟩ := hw o ho
      exact ⟨gz_wd (hl.ok s hs).w (hl.ok s hs).q.1, by simp only [dsz]; omega, by simp only [D.dep]; omega⟩
  ne := by
    rw [List.length_append, List.length_append, oddL_len]
    omega
  n := by
    rw [List.length_append, List.length_append, List.length_map, oddL_len]
    omega
def Told (d : D) : Prop := gz d ∧ dsz d ≤ 300 ∧ d.dep ≤ 14
theorem js_told {l : List Sh} {js : List Jt} (hl : Shs l) (hj : Js l js) (hq : (∀ j ∈ js, j.1 ≠ cZq) ∧ js.length ≤ 8) : gz (.list (js.map jd)) ∧ dsz (.list (js.map jd)) ≤ 100 ∧ (D.list (js.map jd)).dep ≤ 3 := by
  refine ⟨Seq.l.gv.mpr fun d hd => ?_, ?_, ?_⟩
  · obtain ⟨j, hm, rfl⟩ := List.mem_map.mp hd
    exact gz_jd hl hj hq.1 hm
  · simp only [dsz]
    rw [js_sz]
    omega
  · have := depL_le (n := 2) (l := js.map jd) fun d hd => by
      obtain ⟨j, _, rfl⟩ := List.mem_map.mp hd
      have := (jd_sz j).2
      omega
    simp only [D.dep]
    omega
theorem wrongG_ints {l : List Sh} : ∀ {r : List D} {k : Nat} {ns : List (List Nat)} {q : List D}, wrongG l k ns r = some q → ∀ d ∈ q, ∃ i, d = .int i
  | [], _, _, _, h => by cases h
  | x :: r, k, ns, q, h => by
    unfold wrongG at h
    split at h
    · rename_i q' e
      cases h
      intro d hd
      rcases List.mem_cons.mp hd with rfl | hd
      · exact ⟨_, rfl⟩
      · unfold wrongJ at e
        have one : ∀ {i : Int} {q : List D}, some [D.int i] = some q → ∀ d ∈ q, ∃ i, d = .int i := fun e d hd => by
          cases e
          rw [List.mem_singleton] at hd
          exact ⟨_, hd⟩
        split at e
        · split at e
          · exact one e d hd
          · split at e
            · cases e
            · exact one e d hd
        · cases e
          cases hd
    · exact wrongG_ints h
theorem due_ok (l : List Sh) (x : D) : (D.list (dueG l x)).eqOk := D.okn_ok (okn_list fun d hd => by
  unfold dueG at hd
  split at hd
  · rename_i q e
    rw [List.mem_singleton] at hd
    subst hd
    have hq : ∀ d ∈ q, ∃ i, d = D.int i := by
      unfold wrongB at e
      split at e
      · exact wrongG_ints e
      · exact wrongG_ints e
      · cases e
        intro d hd
        cases hd
    show oknL 62 q = true
    refine oknL_of fun d hd => ?_
    obtain ⟨i, rfl⟩ := hq d hd
    rfl
  · cases hd)
theorem eqb_comm (x y : D) : x.eqb y = y.eqb x := PySem.W.eqv_comm _ _
theorem eqb_lt (a b : List D) : (D.tuple a).eqb (.tuple b) = (D.list a).eqb (.list b) := by
  simp only [D.eqb, D.py, PyData.eqv]
theorem eqvAll_len : ∀ (a b : List D), PyData.eqvAll (pyL a) (pyL b) = true → a.length = b.length
  | [], [], _ => rfl
  | [], _ :: _, h => by simp [pyL, PyData.eqvAll] at h
  | _ :: _, [], h => by simp [pyL, PyData.eqvAll] at h
  | x :: a, y :: b, h => by
    simp only [pyL, PyData.eqvAll, Bool.and_eq_true] at h
    rw [List.length_cons, List.length_cons, eqvAll_len a b h.2]
theorem eqb_len {a b : List D} (h : a.length ≠ b.length) : (D.list a).eqb (.list b) = false := by
  cases e : (D.list a).eqb (.list b)
  · rfl
  · simp only [D.eqb, D.py, PyData.eqv] at e
    exact absurd (eqvAll_len a b e) h
theorem book_nl (C : Addr) (l : List Sh) : (bookD C l).nl = true := by
  have t : ∀ ws : List (List Nat), nlL (txts ws) = true := fun ws => by
    induction ws with
    | nil => rfl
    | cons w ws ih => simp only [txts, List.map_cons, nlL, D.nl, Bool.true_and]; exact ih
  have k : nlK (rowsD l) = true := by
    induction l with
    | nil => rfl
    | cons s l ih =>
      simp only [rowsD, List.map_cons, nlK, Sh.d, D.nl, nlL, t, Bool.true_and, Bool.and_true]
      exact ih
  simp only [bookD, D.nl, nlF, k, Bool.and_self]
theorem sh_nl (s : Sh) : s.d.nl = true := by
  have t : ∀ ws : List (List Nat), nlL (txts ws) = true := fun ws => by
    induction ws with
    | nil => rfl
    | cons w ws ih => simp only [txts, List.map_cons, nlL, D.nl, Bool.true_and]; exact ih
  simp only [Sh.d, D.nl, nlL, t, Bool.and_true]
theorem bag_nl {C B : Addr} {l : List Sh} {js : List Jt} (hl : Shs l) (hm : ∀ j ∈ js, j.2 ∈ l.map Sh.w) : (bagD C B l js).nl = true := by
  have k1 : nlL (js.map jd) = true := by
    clear hm
    induction js with
    | nil => rfl
    | cons j js ih => simp only [List.map_cons, nlL, jd, D.nl, Bool.true_and]; exact ih
  have k2 : nlK (bagRows l js) = true := by
    clear k1
    induction js with
    | nil => rfl
    | cons j js ih =>
      obtain ⟨s, _, _, e⟩ := shapeOf_of hl (hm j (List.mem_cons_self ..))
      simp only [bagRows, List.map_cons, nlK, e, sh_nl, Bool.true_and]
      exact ih fun t ht => hm t (List.mem_cons_of_mem _ ht)
  have k3 := book_nl B l
  simp only [bagD, bagF, D.nl, nlF, k1, k2, k3, Bool.and_self]
theorem told_true {C B : Addr} {ds : List D} {d : D} (h : RToldR C B ds d) : d = .bool true := by
  obtain ⟨_, _, _, _, _, _, _, _, e⟩ := h
  exact e
theorem bagEq_uni {C B : Addr} {l m : List Sh} {js ks : List Jt} {d : D} (h : RBagEq C B [bagD C B l js, bagD C B m ks] d) : d = .bool ((D.tuple (js.map jd)).eqb (.tuple (ks.map jd)) && (D.list (l.map Sh.d)).eqb (.list (m.map Sh.d))) := by
  rcases h with ⟨l', m', js', ks', _, _, _, _, e, h⟩ | ⟨l', js', y, _, _, hy, e, h⟩
  · simp only [List.cons.injEq, and_true] at e
    obtain ⟨h1, h2⟩ := bag_inj e.1
    obtain ⟨h3, h4⟩ := bag_inj e.2
    rw [h, h1, h2, h3, h4]
  · simp only [List.cons.injEq, and_true] at e
    rw [← e.2] at hy
    rcases hy with hy | ⟨m', e3⟩
    · exact absurd hy (by simp only [bagD, D.ty]; decide)
    · simp only [bagD, bookD, bagF, D.obj.injEq, List.cons.injEq] at e3
      exact absurd e3.2.1 (by simp)
theorem bagEq_no {C B : Addr} {l : List Sh} {js : List Jt} {y d : D} (hy : othY B y) (h : RBagEq C B [bagD C B l js, y] d) : d = .bool false := by
  rcases h with ⟨l', m', js', ks', _, _, _, _, e, _⟩ | ⟨_, _, _, _, _, _, _, h⟩
  · simp only [List.cons.injEq, and_true] at e
    rw [e.2] at hy
    rcases hy with hy | ⟨m'', e3⟩
    · exact absurd hy (by simp only [bagD, D.ty]; decide)
    · simp only [bagD, bookD, bagF, D.obj.injEq, List.cons.injEq] at e3
      exact absurd e3.2.1 (by simp)
  · exact h
section
variable {F : Fp} {Δ : List Sl} {ta tb te : TE} {K : PySem.W.Frag} {E : XK} {B C : Addr} {l m : List Sh} {js ks : List Jt} {x v : D}
theorem ev_book (hl : Shs l) (hx : isL x l) (h : Ev1 F te Δ x) : Ev1 F (tMake B (SpO B false RBook) [] E (tCons te tNil)) Δ (bookD B l) :=
  (ev_mkD (ea_cons1 h ea_nil) (fun ds e => ⟨_, _, x, l, hx, hl, rfl, e, rfl, rfl⟩) (fun ds d fs' h => by obtain ⟨_, _, _, _, _, _, e, _⟩ := h; exact e)).imp fun d ⟨ds, fs', e, ⟨x', l', hx', _, _, e2, _, e3⟩, e4⟩ => by
    rw [e] at e2
    simp only [List.cons.injEq, and_true] at e2
    subst e2
    have : l = l' := by
      rcases hx with rfl | rfl <;> rcases hx' with h | h <;> first | cases h | skip
      · injection h with h; exact shs_inj h
      · injection h with h; exact shs_inj h
    rw [e4, e3, this]
    rfl
theorem ev_bag (hl : Shs l) (hj : Js l js) (hx : isJ x js) (sx : dsz x ≤ 2000) (ha : Ev1 F ta Δ (bookD B l)) (h : Ev1 F te Δ x) : Ev1 F (tMake C (SpO C false (RBag B)) [] E (tCons ta (tCons te tNil))) Δ (bagD C B l js) :=
  (ev_mkD (ea_cons1 ha (ea_cons1 h ea_nil)) (fun ds e => ⟨_, _, l, x, js, hl, hj, hx, sx, rfl, e, rfl, rfl⟩) (fun ds d fs' h => by obtain ⟨_, _, _, _, _, _, _, _, _, e, _⟩ := h; exact e)).imp fun d ⟨ds, fs', e, ⟨l', x', js', _, _, hx', _, _, e2, _, e3⟩, e4⟩ => by
    rw [e] at e2
    simp only [List.cons.injEq, and_true] at e2
    obtain ⟨e2, rfl⟩ := e2
    have := book_inj e2
    subst this
    rw [e4, e3, isJ_inj hx hx']
    rfl
theorem ev_bent {odd : List D} {i k : Nat} (hi : Δ[i]? = some .src) (gx : gz v) (sv : dsz v ≤ 3000) (ho : OddOk odd) (h : Ev1 F te Δ v) (hb : Ev1 F tb Δ (.list odd)) : EvR F (tCall (SpD true false (RBent (k + 1))) [] E (tCons (tVar i) (tCons te (tCons (tC (.int (k : Nat))) (tCons tb tNil))))) Δ (Bent v k) :=
  (ev_callS hi (ea_cons1 h (ea_cons1 (ev_int (i := (k : Nat))) (ea_cons1 hb ea_nil))) fun ds e => ⟨odd[0]'ho.ne, v, odd, gx, sv, ho, e, bent_odd (ho.v _ (List.getElem_mem _))⟩).imp fun d ⟨ds, e, v', odd', _, _, _, e2, hb⟩ => by
    rw [e] at e2
    simp only [List.cons.injEq] at e2
    rw [e2.1]
    exact hb
theorem ev_dueG (hl : Shs l) (gx : gv x = true) (sx : dsz x ≤ 2000) (ha : Ev1 F ta Δ (.list (l.map Sh.d))) (h : Ev1 F te Δ x) : Ev1 F (tCall (SpD false false RDueG) [] E (tCons ta (tCons te tNil))) Δ (.list (dueG l x)) :=
  ev_call1 (ea_cons1 ha (ea_cons1 h ea_nil)) ⟨l, x, hl, gx, sx, rfl, rfl⟩ fun e ⟨l', y, _, _, _, h1, h2⟩ => by
    simp only [List.cons.injEq, D.list.injEq, and_true] at h1
    rw [h2, h1.2, shs_inj h1.1]
theorem ev_refG (hl : Shs l) (gx : gv x = true) (sx : dsz x ≤ 2000) (ha : Ev1 F ta Δ (bookD B l)) (h : Ev1 F te Δ x) : Ev1 F (tCall (SpD false false (RRefG B)) [] E (tCons ta (tCons te tNil))) Δ (.list (dueG l x)) :=
  ev_call1 (ea_cons1 ha (ea_cons1 h ea_nil)) ⟨l, x, hl, gx, sx, rfl, rfl⟩ fun e ⟨l', y, _, _, _, h1, h2⟩ => by
    simp only [List.cons.injEq, and_true] at h1
    rw [h2, h1.2, book_inj h1.1]
theorem ev_eqG (hl : Shs l) (hm : Shs m) (hj : Js l js) (hk : Js m ks) (ha : Ev1 F ta Δ (bagD C B l js)) (hb : Ev1 F tb Δ (bagD C B m ks)) : Ev1 F (tOp (rOwn C false (SpD false false (RBagEq C B))) ta tb) Δ (.bool ((D.tuple (js.map jd)).eqb (.tuple (ks.map jd)) && (D.list (l.map Sh.d)).eqb (.list (m.map Sh.d)))) :=
  ev_op1 sOwn ha hb ⟨_, _, _, rfl, rfl, .inl ⟨l, m, js, ks, hl, hm, hj, hk, rfl, rfl⟩, fun d' h => bagEq_uni h, by simp⟩
theorem eqb_self (y : D) : y.eqb y = true := eqb_refl y
theorem ev_neG (hl : Shs l) (hj : Js l js) (ha : Ev1 F ta Δ (bagD C B l js)) (hb : Ev1 F tb Δ (bagD C B l js)) : Ev1 F (tOp (rOwn C true (SpD false false (RBagEq C B))) ta tb) Δ (.bool false) :=
  ev_op1 sOwn ha hb ⟨_, _, true, rfl, rfl, .inl ⟨l, l, js, js, hl, hl, hj, hj, rfl, by rw [eqb_self, eqb_self]; rfl⟩, fun d' h => (bagEq_uni h).trans (by rw [eqb_self, eqb_self]; rfl), by simp⟩
theorem et_toldR {it : Nat} {P : Addr} {q : Str} {tx : TE} (hT : Δ[it]? = some (.tb P q)) (h1 : tb1 it Δ = true) (hl : Shs l) (hj : Js l js) (hx : isJ x js) (hq : ∀ j ∈ js, j.1 ≠ cZq) (ha : Ev1 F ta Δ (bagD C B l js)) (hb : Ev1 F tb Δ (.list (l.map Sh.d))) (hc : Ev1 F tx Δ x) : EvTM F (tNot (tB (tCall (SpTb P q (RToldR C B)) [] E (tCons ta (tCons tb (tCons tx tNil)))))) Δ fun b Δ' => b = false ∧ Δ' = Δ := by
  have e1 := evm_callTb (Pa := fun ds => ds = [bagD C B l js, .list (l.map Sh.d), x]) (R := RToldR C B) (E := E) hT h1 (ea_cons1 ha (ea_cons1 hb (ea_cons1 hc ea_nil))) fun ds e => ⟨_, l, js, x, hl, hj, hx, hq, e, rfl⟩
  have e2 := etm_B (Pb := fun b Δ' => b = true ∧ Δ' = Δ) (e1.imp fun d Δ' ⟨⟨ds, e, h⟩, e2⟩ => ⟨true, told_true h, rfl, e2⟩)
  exact fun H0 S H σ w t dm Q k => (etm_not e2) H0 S H σ w t dm Q fun b S' H' Δ' p => k b S' H' Δ' ⟨by rw [← Bool.not_not b, p.1]; rfl, p.2⟩
end
theorem NT.un : NT .un := trivial
theorem NT.v {d : D} : NT (.v d) := trivial
theorem NT.src : NT .src := trivial
theorem NT.own {l : List D} : NT (.own l) := trivial
end K02

namespace K02
open PySem L2 PySem.Spec PyProof.Rows Bc
open Lex (endOf run lexAt Lm Lk lexL lexF blanks)
def oSh : Sh := ⟨cZ9, [122, 122, 56], []⟩
theorem oSh_ok : oSh.ok := ⟨wd_b (by decide), wd_b (by decide), (fun b h => by cases h), by decide, by decide, by decide, fun b h => by cases h⟩
theorem oSh_d : oSh.d = .tuple [.str "zz9", .str "zz8", .tuple []] := by
  have e1 : txt cZ9 = "zz9" := by decide +kernel
  have e2 : txt [122, 122, 56] = "zz8" := by decide +kernel
  simp only [Sh.d, oSh, e1, e2, txts, List.map_nil]
section
variable {P : Program} {w : World} {K : PySem.W.Frag} {mg : Str → Option Value} {base : Heap}
abbrev s_law : Stmt := top 39
theorem sc_law : FnScope ["_law_script", "_law_source_here", "_law_odd", "_law_turn", "_law_shapes_here", "_law_joints", "_law_book", "_law_handed", "_law_bag", "_law_value", "_law_other", "_law_look", "_law_told", "_law_shape", "_law_due", "_law_seen", "!t"] ["_law_script"] (defScope s_law) := ⟨rfl, rfl, rfl, by decide +kernel, rfl, by decide +kernel, by decide +kernel⟩
theorem ok_law {k : Nat} {f T0 : Addr} {fd : FuncData} (T : Tx K mg) (U : Tb P K mg) (sb : SysB base) (G__law_source : FnT P w K mg base k "_law_source" ["_law_script"] (spSource K)) (G__law_pick : FnT P w K mg base k "_law_pick" ["_law_source_here", "_law_many"] (SpD true false RPick)) (G__law_drawn_shapes : FnT P w K mg base k "_law_drawn_shapes" ["_law_source_here"] (SpD true true RDrawS)) (G__law_drawn_joints : FnT P w K mg base k "_law_drawn_joints" ["_law_source_here", "_law_shapes_here"] (SpD true true RDrawJ))
    (MKX_Book : MkTX P w K mg base k "Book" (clsOf mg "Book") ["self", "shapes"] (SpOX (clsOf mg "Book") false RBook (XBook (clsOf mg "BadBook")))) (MKX_Bag : MkTX P w K mg base k "Bag" (clsOf mg "Bag") ["self", "book", "joints"] (SpOX (clsOf mg "Bag") false (RBag (clsOf mg "Book")) (XBag (clsOf mg "Book") (clsOf mg "BadBag"))))
    (G__law_refused : FnT P w K mg base k "_law_refused" ["_law_book", "_law_joints"] (SpD false false (RRefG (clsOf mg "Book")))) (G__law_told_right : FnT P w K mg base k "_law_told_right" ["_law_bag", "_law_shapes_here", "_law_joints"] (SpTb T0 (("_law_told_right" : Str) ++ ".<locals>." ++ "<lambda>") (RToldR (clsOf mg "Bag") (clsOf mg "Book")))) (G__law_bent : FnT P w K mg base k "_law_bent" ["_law_source_here", "_law_value", "_law_deep", "_law_odd"] (SpD true false (RBent 4))) (G__law_wrong_bag : FnT P w K mg base k "_law_wrong_bag" ["_law_shapes_here", "_law_joints"] (SpD false false RDueG))
    (Q_Bag : EqT P w K mg base k (clsOf mg "Bag") (SpD false false (RBagEq (clsOf mg "Bag") (clsOf mg "Book")))) (Fu : Fun K "law" "law" s_law f fd) : FnOkG P w K mg base (k + 2) f fd ["_law_script"] (spLawT K T0) := by
  have MK_Book : MkT P w K mg base k "Book" (clsOf mg "Book") ["self", "shapes"] (SpO (clsOf mg "Book") false RBook) := MKX_Book.safe fun fs ds hd => by
    refine ⟨hd, fun c f hx => ?_, fun _ _ h => h⟩
    obtain ⟨d, fs', x, l, h1, h2, _, e, _⟩ := hd
    obtain ⟨x', q, _, _, h3, e', _⟩ := hx
    rw [e] at e'
    cases e'
    rw [wrongP_ok h2 h1] at h3
    cases h3
  have MK_Bag : MkT P w K mg base k "Bag" (clsOf mg "Bag") ["self", "book", "joints"] (SpO (clsOf mg "Bag") false (RBag (clsOf mg "Book"))) := MKX_Bag.safe fun fs ds hd => by
    refine ⟨hd, fun c f hx => ?_, fun _ _ h => h⟩
    obtain ⟨d, fs', l, x, js, h1, h2, h0, _, _, e, _⟩ := hd
    obtain ⟨l', x', q, _, _, _, h3, e', _⟩ := hx
    rw [e] at e'
    simp only [List.cons.injEq, and_true] at e'
    obtain ⟨e', rfl⟩ := e'
    have := book_inj e'
    subst this
    rw [wrongB_ok h2 h0] at h3
    cases h3
  refine bodyG Fu sc_law (fun vs H Q E h => ?_) (fun cdv A outer s H vs Q E hgd0 hrm h => ?_)
  · obtain ⟨a, ns, rfl, _⟩ := h
    rfl
  obtain ⟨a, ns, rfl, hS, hl0, hT0, hk⟩ := h
  have hr : Room k _ := hrm.mono (Nat.le_succ k)
  have hu2 : (A.deeper (envOfC "law" (defScope s_law) s.heap.objs.size f cdv)).units + 65 < cLine := by have := hr.un; omega
  have hgd : (A.deeper (envOfC "law" (defScope s_law) s.heap.objs.size f cdv)).guards = some [] := by
    first | exact hgd0 | (rw [Around.guards_deeper]; exact hgd0) | simpa [Around.deeper] using hgd0
  have z : ∀ {n : Nat}, n ≤ 100000 → n ≤ sizeLine := fun hn => Nat.le_trans hn (by decide)
  refine ⟨_, (pss_cons (ps_set (i := 1) sc_law.nd rfl (Or.inl rfl) (pe_callT G__law_source hr (pa_cons (pv 0) pa_nil)))
    (pss_cons (ps_set (i := 2) sc_law.nd rfl (Or.inl rfl) (pe_lst (pa_cons pe_non (pa_cons pe_bl (pa_cons pe_int (pa_cons pe_str (pa_cons pe_str (pa_cons pe_str (pa_cons pe_str (pa_cons (pe_op pMul pe_str pe_int) (pa_cons pe_str (pa_cons pe_str (pa_cons pe_str (pa_cons (pe_tup pa_nil) (pa_cons (pe_lst pa_nil) (pa_cons pe_dnewK (pa_cons (pe_tup (pa_cons pe_str pa_nil)) pa_nil)))))))))))))))))
    (pss_cons (ps_set (i := 2) sc_law.nd rfl (Or.inl rfl) (pe_op (qAdd (K := K)) (pv 2) (pe_lst (pa_cons (pe_lst (pa_cons pe_str (pa_cons pe_str pa_nil))) (pa_cons (pe_tup (pa_cons pe_str (pa_cons pe_str pa_nil))) pa_nil)))))
    (pss_cons (ps_for PassesOwn.never rfl (pi_range1 (by rfl) T.n_range (pa_cons pe_int pa_nil)) (pg_name (i := 3) sc_law.nd rfl (Or.inl rfl))
      (pss_cons (ps_set (i := 4) sc_law.nd rfl (Or.inl rfl) (pe_callT G__law_drawn_shapes hr (pa_cons (pv 1) pa_nil)))
      (pss_cons (ps_par (i := 5) (j := 6) rfl sc_law.nd rfl rfl (by decide) rfl rfl (pa_cons (pe_callT G__law_drawn_joints hr (pa_cons (pv 1) (pa_cons (pv 4) pa_nil))) (pa_cons (pe_makeT MK_Book hrm (pa_cons (pv 4) pa_nil)) pa_nil)) (by rfl))
      (pss_cons (ps_set (i := 7) sc_law.nd rfl (Or.inl rfl) (pe_callTy (qList (K := K)) (by rfl) T.n_list (by decide +kernel) (pa_cons (pv 5) pa_nil)))
      (pss_cons (ps_set (i := 8) sc_law.nd rfl (Or.inr rfl) (pe_makeT MK_Bag hrm (pa_cons (pv 6) (pa_cons (pv 7) pa_nil))))
      (pss_cons (ps_expr (qBm (K := K) PySem.F.plainAttrs_list PySem.F.slot_list_append PySem.F.type_list_append mt_append (pv 7) (pa_cons pe_non pa_nil)))
      (pss_cons (ps_if (PW.pt (pw_or (pt_not (pt_val (pe_callT G__law_told_right hr (pa_cons (pv 8) (pa_cons (pv 4) (pa_cons (pv 5) pa_nil)))))) (pw_or1 (pt_cmpR (qOwnNe Q_Bag hrm) (pe_makeT MK_Bag hrm (pa_cons (pe_makeT MK_Book hrm (pa_cons (pv 4) pa_nil)) (pa_cons (pe_callTy (qTuple (K := K)) (by rfl) T.n_tuple (by decide +kernel) (pa_cons (pv 5) pa_nil)) pa_nil))) (pv 8) (nomark _)))))
        (pss_one (ps_ret pe_bl))
        pss_nil)
      (pss_cons (ps_if (pt_cmpR (qNe (K := K) hu2) (pe_lc (own := [("_law_value", 9)]) rfl sc_law.nd (qi_any (K := K) (pe_lst (pa_cons pe_non (pa_cons (pv 5) (pa_cons (pv 6) (pa_cons pe_int pa_nil)))))) (blkOk_by (own := [("_law_value", 9)]) (N := ["_law_script", "_law_source_here", "_law_odd", "_law_turn", "_law_shapes_here", "_law_joints", "_law_book", "_law_handed", "_law_bag", "_law_value", "_law_other", "_law_look", "_law_told", "_law_shape", "_law_due", "_law_seen", "!t"]) (sc := defScope s_law) (by decide +kernel)) (fun _ _ _ _ _ => (pg_name (i := 9) sc_law.nd rfl (by first | exact Or.inl rfl | exact Or.inr rfl))) (fun _ _ _ _ _ => (pts_one (pt_cmpR (qOwnT (K := K) Q_Bag hr) (pv 8) (pv 9) (nomark _)))) (fun _ _ _ _ _ => pe_int)) (pe_lst pa_nil) (nomark _))
        (pss_one (ps_ret pe_bl))
        pss_nil)
      (pss_cons (ps_set (i := 10) sc_law.nd rfl (Or.inl rfl) (pe_op (qAdd (K := K)) (pv 4) (pe_lst (pa_cons (pe_tup (pa_cons pe_str (pa_cons pe_str (pa_cons (pe_tup pa_nil) pa_nil)))) pa_nil))))
      (pss_cons (ps_if (PW.pt (pw_or (pt_cmpR (qOwn Q_Bag hr) (pe_makeT MK_Bag hrm (pa_cons (pe_makeT MK_Book hrm (pa_cons (pv 10) pa_nil)) (pa_cons (pv 5) pa_nil))) (pv 8) (nomark _)) (pw_or1 (pt_cmpR (qNe (K := K) hu2) (pe_cmpR (qOwn Q_Bag hr) (pe_makeT MK_Bag hrm (pa_cons (pv 6) (pa_cons (pe_revL (pv 5)) pa_nil))) (pv 8) (nomark _)) (pe_cmpR (qEq (K := K) hu2) (pv 5) (pe_revL (pv 5)) (nomark _)) (nomark _)))))
        (pss_one (ps_ret pe_bl))
        pss_nil)
      (pss_one (ps_for PassesOwn.never rfl (pi_range1 (by rfl) T.n_range (pa_cons pe_int pa_nil)) (pg_name (i := 11) sc_law.nd rfl (Or.inl rfl))
        (pss_cons (ps_set (i := 12) sc_law.nd rfl (Or.inl rfl) (pe_callT G__law_bent hr (pa_cons (pv 1) (pa_cons (pv 5) (pa_cons pe_int (pa_cons (pe_op (qAdd (K := K)) (pe_op (qAdd (K := K)) (pv 2) (pv 5)) (pe_lc (own := [("_law_shape", 13)]) rfl sc_law.nd (qi_any (K := K) (pv 4)) (blkOk_by (own := [("_law_shape", 13)]) (N := ["_law_script", "_law_source_here", "_law_odd", "_law_turn", "_law_shapes_here", "_law_joints", "_law_book", "_law_handed", "_law_bag", "_law_value", "_law_other", "_law_look", "_law_told", "_law_shape", "_law_due", "_law_seen", "!t"]) (sc := defScope s_law) (by decide +kernel)) (fun _ _ _ _ _ => (pg_name (i := 13) sc_law.nd rfl (by first | exact Or.inl rfl | exact Or.inr rfl))) (fun _ _ _ _ _ => pts_nil) (fun _ _ _ _ _ => (pe_ix (qIx (K := K)) (pv 13) pe_int (fun _ _ => rfl))))) pa_nil))))))
        (pss_cons (ps_set (i := 12) sc_law.nd rfl (Or.inl rfl) (pe_ifExp (pt_cmpR (qEq (K := K) hu2) (pe_callT G__law_pick hr (pa_cons (pv 1) (pa_cons pe_int pa_nil))) pe_int (nomark _)) (pe_callT G__law_bent hr (pa_cons (pv 1) (pa_cons (pv 12) (pa_cons pe_int (pa_cons (pe_op (qAdd (K := K)) (pv 2) (pv 5)) pa_nil))))) (pv 12)))
        (pss_cons (ps_par (i := 14) (j := 15) rfl sc_law.nd rfl rfl (by decide) rfl rfl (pa_cons (pe_callT G__law_wrong_bag hr (pa_cons (pv 4) (pa_cons (pv 12) pa_nil))) (pa_cons (pe_callB (qReprA sb hgd hu2) (by rfl) T.n_repr (by decide +kernel) (pa_cons (pv 12) pa_nil)) pa_nil)) (by rfl))
        (pss_cons (ps_if (PW.pt (pw_or (pt_cmpR (qNe (K := K) hu2) (pe_callT G__law_refused hr (pa_cons (pv 6) (pa_cons (pv 12) pa_nil))) (pv 14) (nomark _)) (pw_or1 (pt_cmpR (qNe (K := K) hu2) (pe_callB (qReprA sb hgd hu2) (by rfl) T.n_repr (by decide +kernel) (pa_cons (pv 12) pa_nil)) (pv 15) (nomark _)))))
          (pss_one (ps_ret pe_bl))
          pss_nil)
        (pss_cons (ps_if (PW.pt (pw_and (pt_cmpR (qEq (K := K) hu2) (pv 14) (pe_lst pa_nil) (nomark _)) (pw_and1 (pt_not (pt_val (pe_callT G__law_told_right hr (pa_cons (pe_makeT MK_Bag hrm (pa_cons (pv 6) (pa_cons (pv 12) pa_nil))) (pa_cons (pv 4) (pa_cons (pv 12) pa_nil)))))))))
          (pss_one (ps_ret pe_bl))
          pss_nil)
        (pss_one (ps_if (PW.pt (pw_and (pt_cmpR (qEq (K := K) hu2) (pv 14) (pe_lst pa_nil) (nomark _)) (pw_and1 (pt_cmpR (qNe (K := K) hu2) (pe_cmpR (qOwn Q_Bag hr) (pe_makeT MK_Bag hrm (pa_cons (pv 6) (pa_cons (pv 12) pa_nil))) (pv 8) (nomark _)) (pe_cmpR (qEq (K := K) hu2) (pe_callTy (qList (K := K)) (by rfl) T.n_list (by decide +kernel) (pa_cons (pv 12) pa_nil)) (pv 5) (nomark _)) (nomark _)))))
          (pss_one (ps_ret pe_bl))
          pss_nil)))))))))))))))))))
    (pss_one (ps_ret pe_bl)))))), ?_⟩
  refine ⟨_, rfl, a, ns, rfl, hS, hl0, fun p c H1 hp hc hsrc hsm => ?_⟩
  dsimp only [gName]
  let qT : Str := ("_law_told_right" : Str) ++ ".<locals>." ++ "<lambda>"
  refine law_startT (n := 15) (it := 16) (P := T0) (q := qT) (σ := (L2.start ["_law_script", "_law_source_here", "_law_odd", "_law_turn", "_law_shapes_here", "_law_joints", "_law_book", "_law_handed", "_law_bag", "_law_value", "_law_other", "_law_look", "_law_told", "_law_shape", "_law_due", "_law_seen", "!t"] [V.ref a]).set 1 (some (V.ref p))) hsrc (hsm T0 _ hT0) (by rfl) (by rfl) ?_ hk
  refine run_set (d := .list odd1) (EvF.val1 (ef_lst (ea_cons1 ev_non (ea_cons1 ev_bl (ea_cons1 ev_int (ea_cons1 ev_str (ea_cons1 ev_str (ea_cons1 ev_str (ea_cons1 ev_str (ea_cons1 (ev_op1 sMul ev_str ev_int ⟨⟨by decide, fun _ _ => by decide, fun _ _ => by decide +kernel⟩, rfl⟩) (ea_cons1 ev_str (ea_cons1 ev_str (ea_cons1 ev_str (ea_cons1 (ev_tup ea_nil) (ea_cons1 (EvF.val1 (ef_lst ea_nil)) (ea_cons1 ev_dnew (ea_cons1 (ev_tup (ea_cons1 ev_str ea_nil)) ea_nil))))))))))))))))) ?_
  refine run_set (d := .list oddL) (ev_addL (ev_var rfl) (EvF.val1 (ef_lst (ea_cons1 (EvF.val1 (ef_lst (ea_cons1 ev_str (ea_cons1 ev_str ea_nil)))) (ea_cons1 (ev_tup (ea_cons1 ev_str (ea_cons1 ev_str ea_nil))) ea_nil)))) (by decide)) ?_
  refine run_seqM (N := fun _ => True) ?_ fun Δ _ => run_ret1 (d := .bool true) ev_bl rfl
  refine run_for (ei_rng (n := 4) (ea_cons1 ev_int ea_nil) (by decide)) (fun _ Δ => ∃ s3 s4 s5 s6 s7 s8 s9 s10 s11 s12 s13 s14 s15, NT s9 ∧ NT s10 ∧ NT s11 ∧ NT s12 ∧ NT s13 ∧ NT s14 ∧ NT s15 ∧ Δ = [.un, .src, .v (.list oddL), s3, s4, s5, s6, s7, s8, s9, s10, s11, s12, s13, s14, s15, .tb T0 qT]) ⟨_, _, _, _, _, _, _, _, _, _, _, _, _, NT.un, NT.un, NT.un, NT.un, NT.un, NT.un, NT.un, rfl⟩ ?_ (fun Δ h => trivial)
  rintro i tn Δ _ ⟨s3, s4, s5, s6, s7, s8, s9, s10, s11, s12, s13, s14, s15, n9, n10, n11, n12, n13, n14, n15, rfl⟩
  refine ⟨_, _, eg_name, ?_⟩
  have nil_ok : Shz [] := ⟨fun _ h => (by cases h), List.nodup_nil, by decide⟩
  refine run_asgS (P := fun d => ∃ l, Shz l ∧ d = .list (l.map Sh.d)) ((EvF.val (ef_callS (i := 1) (Pa := fun r => r = []) rfl ea_nil fun ds e => ⟨.list ([].map Sh.d), [], e, nil_ok, rfl⟩)).imp fun d ⟨r, ⟨ds, _, l, _, h1, h2⟩, e⟩ => ⟨l, h1, by rw [e]; exact h2⟩) fun d ⟨l, hz, ed⟩ => ?_
  subst ed
  have hl := hz.shs
  have hn := hl.n
  have hxl : isL (.list (l.map Sh.d)) l := .inl rfl
  have nilJ : Js l [] := ⟨fun _ h => (by cases h), fun _ h => (by cases h), fun _ h => (by cases h), List.nodup_nil, by decide⟩
  refine run_par (ea_cons (P := fun d => ∃ js, Js l js ∧ ((∀ j ∈ js, j.1 ≠ cZq) ∧ js.length ≤ 8) ∧ d = .list (js.map jd)) ((EvF.val (ef_callS (i := 1) (Pa := fun r => r = [.list (l.map Sh.d)]) rfl (ea_cons1 (ev_var rfl) ea_nil) fun ds e => ⟨.list ([].map jd), l, [], hl, e, nilJ, ⟨fun _ h => (by cases h), by decide⟩, rfl⟩)).imp fun d ⟨r, ⟨ds, e0, l', js, _, h1, h2, h3, h4⟩, e⟩ => by
    rw [e0] at h1
    simp only [List.cons.injEq, D.list.injEq, and_true] at h1
    have := shs_inj h1
    subst this
    exact ⟨js, h2, h3, by rw [e]; exact h4⟩) (ea_cons1 (d := (bookD (clsOf mg "Book") l)) (ev_book hl hxl (ev_var rfl)) ea_nil)) fun ds ⟨d, r, e, ⟨js, hj, hq, ed⟩, er⟩ => ⟨d, (bookD (clsOf mg "Book") l), by rw [e, er], ?_⟩
  subst ed
  have hjx : isJ (.list (js.map jd)) js := .inl rfl
  have hjt : isJ (.tuple (js.map jd)) js := .inr rfl
  have tl := js_told hl hj hq
  have sx : dsz (.list (js.map jd)) ≤ 2000 := by omega
  have sxt : dsz (.tuple (js.map jd)) ≤ 2000 := by simp only [dsz] at sx ⊢; exact sx
  refine run_setF (ef_list (es_list (ev_var rfl))) ?_
  refine run_set (d := (bagD (clsOf mg "Bag") (clsOf mg "Book") l js)) (ev_thawN (i := 7) rfl (ev_bag hl hj hjx sx (ev_var rfl) (ev_var rfl)) fun d e => by rw [e]; exact bag_nl hl hj.mem) ?_
  refine run_seqM (N := fun Δ => Δ = [.un, .src, .v (.list oddL), .v tn, .v (.list (l.map Sh.d)), .v (.list (js.map jd)), .v (bookD (clsOf mg "Book") l), .own (js.map jd ++ [D.none]), .v (bagD (clsOf mg "Bag") (clsOf mg "Book") l js), s9, s10, s11, s12, s13, s14, s15, .tb T0 qT]) (run_app (i := 7) rfl ev_non ?_ fun d e => by rw [e]; rfl) fun Δ e => ?_
  · rw [List.length_map]
    exact Nat.lt_of_le_of_lt hq.2 (by decide)
  subst e
  refine run_ifMS (Pb := fun b Δ' => b = false ∧ Δ' = [.un, .src, .v (.list oddL), .v tn, .v (.list (l.map Sh.d)), .v (.list (js.map jd)), .v (bookD (clsOf mg "Book") l), .own (js.map jd ++ [D.none]), .v (bagD (clsOf mg "Bag") (clsOf mg "Book") l js), s9, s10, s11, s12, s13, s14, s15, .tb T0 qT]) ((etm_orM (et_toldR (it := 16) rfl (tb1_of (fun s hs => by
    simp only [List.set_cons_succ, List.set_cons_zero, List.mem_cons, List.not_mem_nil, or_false] at hs
    rcases hs with h | h | h | h | h | h | h | h | h | h | h | h | h | h | h | h | h <;> subst h <;> first | exact NT.un | exact NT.v | exact NT.src | exact NT.own | assumption)) hl hj hjx hq.1 (ev_var rfl) (ev_var rfl) (ev_var rfl)) (et_test1 (ev_neG hl hj (ev_bag hl hj hjt sxt (ev_book hl hxl (ev_var rfl)) (ev_cb1 sTup (ea_cons1 (ev_var (d := .list (js.map jd)) rfl) ea_nil) rfl)) (ev_var rfl)))).imp fun b Δ' h => ⟨h.1.trans rfl, h.2⟩) (fun Δ' h => nomatch h.1) fun Δ' ⟨_, e⟩ => ?_
  subst e
  refine run_nextS ?_
  refine run_if1S (b := false) ((et_test1 (ev_neD (x := .list []) (y := .list []) ((EvF.val1 (ef_lcM (ds := [.none, .list (js.map jd), (bookD (clsOf mg "Book") l), .int 0]) (ei_list (EvF.val1 (ef_lst (ea_cons1 ev_non (ea_cons1 (ev_var rfl) (ea_cons1 (ev_var rfl) (ea_cons1 ev_int ea_nil))))))) (show 4 ≤ sizeLine by decide) (fun _ => none) fun m d hd => ?oth)).eq rfl) (EvF.val1 (ef_lst ea_nil)) (D.okn_ok rfl) (D.okn_ok rfl))).eq (by rw [show (D.list []).eqb (.list []) = true from eqb_refl _]; rfl)) (fun h => nomatch h) fun _ => run_nextS ?_
  case oth =>
    have hm := List.mem_of_getElem? hd
    have ho : othY (clsOf mg "Book") d := by
      simp only [List.mem_cons, List.not_mem_nil, or_false] at hm
      rcases hm with rfl | rfl | rfl | rfl
      · exact .inl (by simp only [D.ty]; decide)
      · exact .inl (by simp only [D.ty]; decide)
      · exact .inr ⟨l, rfl⟩
      · exact .inl (by simp only [D.ty]; decide)
    obtain ⟨t, ht, htm⟩ := othY_ty U ho
    exact ⟨[9], _, eg_name, by simp, false, et_test1 (ev_ownT (C := clsOf mg "Bag") (fs := bagF (clsOf mg "Book") l js) (ev_var rfl) (ev_var rfl) ht (U.nf_Bag t htm) (.inr ⟨l, js, d, hl, hj, ho, rfl, rfl⟩) fun d' h => bagEq_no ho h), fun _ => rfl, fun h => nomatch h⟩
  refine run_set (d := .list ((l ++ [oSh]).map Sh.d)) ((ev_addL (ev_var rfl) (EvF.val1 (ef_lst (ea_cons1 (ev_tup (ea_cons1 ev_str (ea_cons1 ev_str (ea_cons1 (ev_tup ea_nil) ea_nil)))) ea_nil))) (z (by simp only [List.length_map, List.length_cons, List.length_nil]; omega))).eq (by rw [List.map_append, List.map_cons, List.map_nil, oSh_d])) ?_
  have hno : ∀ s ∈ l, s.w ≠ cZ9 := fun s hs => (hz.ok s hs).2
  have hlo : Shs (l ++ [oSh]) := ⟨fun s hs => by
    rcases List.mem_append.mp hs with hs | hs
    · exact hl.ok s hs
    · rw [List.mem_singleton] at hs
      exact hs ▸ oSh_ok, by
    rw [List.map_append, List.nodup_append]
    refine ⟨hl.nd, by simp, fun a ha b hb e => ?_⟩
    obtain ⟨s, hs, rfl⟩ := List.mem_map.mp ha
    simp only [List.map_cons, List.map_nil, List.mem_singleton] at hb
    exact hno s hs (by rw [e, hb]; rfl), by
    have := hz.n
    simp only [List.length_append, List.length_cons, List.length_nil]
    omega⟩
  have hjo : Js (l ++ [oSh]) js := ⟨hj.wd, hj.rt, fun j hm => by rw [List.map_append]; exact List.mem_append_left _ (hj.mem j hm), hj.nd, hj.n⟩
  have hjr : Js l js.reverse := ⟨fun j hm => hj.wd j (List.mem_reverse.mp hm), fun j hm => hj.rt j (List.mem_reverse.mp hm), fun j hm => hj.mem j (List.mem_reverse.mp hm), by rw [List.map_reverse]; exact (List.reverse_perm _).nodup_iff.mpr hj.nd, by rw [List.length_reverse]; exact hj.n⟩
  have er : (js.map jd).reverse = js.reverse.map jd := by rw [List.map_reverse]
  have sxr : dsz (.list (js.reverse.map jd)) ≤ 2000 := by
    simp only [dsz]
    rw [js_sz, List.length_reverse]
    have := hq.2
    omega
  have rev : ∀ {Δ : List Sl}, Δ[5]? = some (.v (.list (js.map jd))) → Ev1 (some (p, c)) (tRevL K (tVar 5)) Δ (.list (js.reverse.map jd)) := fun h => (EvF.val1 (ef_revL (ev_var h))).eq (by rw [er])
  refine run_if1S (b := false) ((et_or1 (a := false) (b := false) ((et_test1 (ev_eqG hlo hl hjo hj (ev_bag hlo hjo hjx sx (ev_book hlo (.inl rfl) (ev_var rfl)) (ev_var rfl)) (ev_var rfl))).eq (by rw [eqb_self, eqb_len (by rw [List.length_map, List.length_map, List.length_append]; simp)]; rfl)) fun _ => et_test1 (ev_op1 sScN (ev_eqG hl hl hjr hj (ev_bag hl hjr (.inl rfl) sxr (ev_var rfl) (rev rfl)) (ev_var rfl)) (ev_eqD (x := .list (js.map jd)) (y := .list (js.reverse.map jd)) (ev_var rfl) (rev rfl) (js_ok hj).2 (js_ok hjr).2) ?eqr)).eq rfl) (fun h => nomatch h) fun _ => run_nextS ?_
  case eqr =>
    rw [eqb_self (.list (l.map Sh.d)), Bool.and_true, eqb_lt, eqb_comm]
    show D.bool false = .bool (decide (_ = _) != true)
    rw [decide_eq_true rfl]
    rfl
  have so : oddL.length + (js.map jd).length ≤ sizeLine := z (by rw [List.length_map, oddL_len]; have := hq.2; omega)
  have so2 : (oddL ++ js.map jd).length + (l.map fun s : Sh => D.str (txt s.w)).length ≤ sizeLine := z (by rw [List.length_append, List.length_map, List.length_map, oddL_len]; have := hq.2; omega)
  have od1 := odd_ok hl hj hq (l.map fun s : Sh => D.str (txt s.w)) (fun d hd => by obtain ⟨s, hs, rfl⟩ := List.mem_map.mp hd; exact ⟨s, hs, rfl⟩) (by rw [List.length_map]; exact hn)
  have od2 : OddOk (oddL ++ js.map jd) := by
    have := odd_ok hl hj hq [] (fun d hd => by cases hd) (by decide)
    rwa [List.append_nil] at this
  refine run_for (ei_rng (n := 6) (ea_cons1 ev_int ea_nil) (by decide)) (fun _ Δ => ∃ s11 s12 s13 s14 s15, NT s11 ∧ NT s12 ∧ NT s13 ∧ NT s14 ∧ NT s15 ∧ Δ = [.un, .src, .v (.list oddL), .v tn, .v (.list (l.map Sh.d)), .v (.list (js.map jd)), .v (bookD (clsOf mg "Book") l), .own (js.map jd ++ [D.none]), .v (bagD (clsOf mg "Bag") (clsOf mg "Book") l js), s9, .v (.list ((l ++ [oSh]).map Sh.d)), s11, s12, s13, s14, s15, .tb T0 qT]) ⟨_, _, _, _, _, n11, n12, n13, n14, n15, rfl⟩ ?_ fun Δ ⟨s11, s12, s13, s14, s15, n11, n12, n13, n14, n15, e⟩ => ⟨_, _, _, _, _, _, _, _, _, _, _, _, _, n9, NT.v, n11, n12, n13, n14, n15, e⟩
  rintro j dj Δ _ ⟨s11, s12, s13, s14, s15, n11, n12, n13, n14, n15, rfl⟩
  refine ⟨_, _, eg_name, ?_⟩
  refine run_asgS (ev_bent (k := 3) (i := 1) rfl tl.1 (by omega) od1 (ev_var rfl) (ev_addL (ev_addL (ev_var rfl) (ev_var rfl) so) (EvF.val1 (ef_mapL l Sh.d (fun s => .str (txt s.w)) (ei_list (ev_var rfl)) (z (by omega)) fun i s hs => ⟨[13], _, eg_name, by simp, ev_ixU (q := 0) (ev_var (d := s.d) rfl) ev_int rfl⟩)) so2)) fun t1 h1 => ?_
  have h1' : Told t1 := ⟨h1.1, by have := h1.2.1; omega, by have := h1.2.2; omega⟩
  refine run_asgS (P := Told) (ev_if (Pb := fun _ => True) (et_pick0 (n := 3) rfl) (fun _ => (ev_bent (k := 3) (i := 1) rfl h1.1 (by have := h1'.2.1; omega) od2 (ev_var rfl) (ev_addL (ev_var rfl) (ev_var rfl) so)).imp fun d h => ⟨h.1, by have := h.2.1; have := h1.2.1; omega, by have := h.2.2; have := h1.2.2; omega⟩) fun _ => (ev_var rfl).imp fun d e => e ▸ h1') fun t h => ?_
  have gt := h.1.1
  have st : dsz t ≤ 2000 := by have := h.2.1; omega
  have rt : t.rOk = true := gv_rOk gt (by omega) (by have := h.2.2; omega)
  refine run_par (ea_cons1 (ev_dueG hl gt st (ev_var rfl) (ev_var rfl)) (ea_cons1 (ev_reprA (ev_var rfl) rt) ea_nil)) fun ds e => ⟨_, _, e, ?_⟩
  have dueT : EvT (some (p, c)) (tTest (tOp (rEqP K) (tVar 14) (tLst tNil))) [.un, .src, .v (.list oddL), .v tn, .v (.list (l.map Sh.d)), .v (.list (js.map jd)), .v (bookD (clsOf mg "Book") l), .own (js.map jd ++ [D.none]), .v (bagD (clsOf mg "Bag") (clsOf mg "Book") l js), s9, .v (.list ((l ++ [oSh]).map Sh.d)), .v dj, .v t, s13, .v (.list (dueG l t)), .v (.str t.pr.shown), .tb T0 qT] fun b => b = (dueG l t).isEmpty := (et_test1 (ev_eqD (ev_var rfl) (EvF.val1 (ef_lst ea_nil)) (due_ok l t) (D.okn_ok rfl))).eq (eqb_nil _)
  have fin : ∃ s11 s12 s13' s14 s15, NT s11 ∧ NT s12 ∧ NT s13' ∧ NT s14 ∧ NT s15 ∧ [.un, .src, .v (.list oddL), .v tn, .v (.list (l.map Sh.d)), .v (.list (js.map jd)), .v (bookD (clsOf mg "Book") l), .own (js.map jd ++ [D.none]), .v (bagD (clsOf mg "Bag") (clsOf mg "Book") l js), s9, .v (.list ((l ++ [oSh]).map Sh.d)), .v dj, .v t, s13, .v (.list (dueG l t)), .v (.str t.pr.shown), .tb T0 qT] = [.un, .src, .v (.list oddL), .v tn, .v (.list (l.map Sh.d)), .v (.list (js.map jd)), .v (bookD (clsOf mg "Book") l), .own (js.map jd ++ [D.none]), .v (bagD (clsOf mg "Bag") (clsOf mg "Book") l js), s9, .v (.list ((l ++ [oSh]).map Sh.d)), s11, s12, s13', s14, s15, .tb T0 qT] := ⟨_, _, _, _, _, NT.v, NT.v, n13, NT.v, NT.v, rfl⟩
  refine run_if1S (b := false) ((et_or1 (a := false) (b := false) ((et_test1 (ev_neD (ev_refG hl gt st (ev_var rfl) (ev_var rfl)) (ev_var rfl) (due_ok l t) (due_ok l t))).eq (by rw [eqb_self]; rfl)) fun _ => (et_test1 (ev_neZ (ev_reprA (ev_var rfl) rt) (ev_var rfl))).eq (by rw [decide_eq_true rfl]; rfl)).eq rfl) (fun h => nomatch h) fun _ => run_nextS ?_
  cases hw : wrongB l t with
  | some q =>
    have de : (dueG l t).isEmpty = false := by rw [dueG, hw]; rfl
    refine run_if1S (b := false) ((et_and1 (a := false) (b := true) (dueT.eq de) fun h => nomatch h).eq rfl) (fun h => nomatch h) fun _ => run_nextS ?_
    exact run_if1 (b := false) ((et_and1 (a := false) (b := true) (dueT.eq de) fun h => nomatch h).eq rfl) (fun h => nomatch h) fun _ => run_next fin
  | none =>
    have de : (dueG l t).isEmpty = true := by rw [dueG, hw]; rfl
    obtain ⟨ks, hx, hk⟩ := wrongB_none hl st hw
    have hkq : ∀ j ∈ ks, j.1 ≠ cZq := fun j hm e => by
      have gj : gz (jd j) := by
        have : jd j ∈ ks.map jd := List.mem_map_of_mem hm
        rcases hx with rfl | rfl
        · exact Seq.l.gv.mp h.1 _ this
        · exact Seq.t.gv.mp h.1 _ this
      have := (Seq.t.gv.mp gj (.str (txt j.1)) (by simp)).2
      simp only [nzq, decide_eq_true_eq] at this
      exact this (by rw [e])
    refine run_ifMS (Pb := fun b Δ' => b = false ∧ Δ' = [.un, .src, .v (.list oddL), .v tn, .v (.list (l.map Sh.d)), .v (.list (js.map jd)), .v (bookD (clsOf mg "Book") l), .own (js.map jd ++ [D.none]), .v (bagD (clsOf mg "Bag") (clsOf mg "Book") l js), s9, .v (.list ((l ++ [oSh]).map Sh.d)), .v dj, .v t, s13, .v (.list (dueG l t)), .v (.str t.pr.shown), .tb T0 qT]) (etm_andM (dueT.eq de) (et_toldR (it := 16) rfl (tb1_of (fun s hs => by
    simp only [List.set_cons_succ, List.set_cons_zero, List.mem_cons, List.not_mem_nil, or_false] at hs
    rcases hs with h | h | h | h | h | h | h | h | h | h | h | h | h | h | h | h | h <;> subst h <;> first | exact NT.un | exact NT.v | exact NT.src | exact NT.own | assumption)) hl hk hx hkq (ev_bag hl hk hx st (ev_var rfl) (ev_var rfl)) (ev_var rfl) (ev_var rfl))) (fun Δ' h => nomatch h.1) fun Δ' ⟨_, e⟩ => ?_
    subst e
    refine run_nextS ?_
    refine run_if1 (b := false) ((et_and1 (a := true) (b := false) (dueT.eq de) fun _ => et_test1 (ev_op1 sScN (ev_eqG hl hl hk hj (ev_bag hl hk hx st (ev_var rfl) (ev_var rfl)) (ev_var rfl)) (ev_eqD (x := .list (ks.map jd)) (y := .list (js.map jd)) (isJ_ef hx (ev_var rfl)).val1 (ev_var rfl) (js_ok hk).2 (js_ok hj).2) ?_)).eq rfl) (fun h => nomatch h) fun _ => run_next fin
    rw [eqb_self (.list (l.map Sh.d)), Bool.and_true, eqb_lt]
    show D.bool false = .bool (decide (_ = _) != true)
    rw [decide_eq_true rfl]
    rfl
end
end K02

namespace K02
open PySem L2 PySem.Spec PyProof.Rows Bc
theorem _root_.Bc.MethT.mono {P : Program} {w : World} {K : PySem.W.Frag} {mg : Str → Option Value} {base : Heap} {k j : Nat} {C : Addr} {m : Str} {ps : List Str} {sp : Sp} (T : MethT P w K mg base j C m ps sp) (h : j ≤ k) : MethT P w K mg base k C m ps sp := by
  obtain ⟨⟨f, fd, a, b, c⟩, d⟩ := T
  exact ⟨⟨f, fd, a, b, c.mono h⟩, d⟩
theorem _root_.Bc.MkT.mono {P : Program} {w : World} {K : PySem.W.Frag} {mg : Str → Option Value} {base : Heap} {k j : Nat} {x : Str} {C : Addr} {ps : List Str} {sp : Sp} (T : MkT P w K mg base j x C ps sp) (h : j ≤ k) : MkT P w K mg base k x C ps sp := by
  obtain ⟨⟨f, fd, a, b, c⟩, d⟩ := T
  exact ⟨⟨f, fd, a, b, c.mono h⟩, d⟩
theorem _root_.Bc.EqT.mono {P : Program} {w : World} {K : PySem.W.Frag} {mg : Str → Option Value} {base : Heap} {k j : Nat} {C : Addr} {sp : Sp} (T : EqT P w K mg base j C sp) (h : j ≤ k) : EqT P w K mg base k C sp := by
  obtain ⟨f, fd, ps, a, b, c⟩ := T.ex
  exact ⟨f, fd, ps, a, b, c.mono h⟩
theorem _root_.Bc.FFn.mono {P : Program} {w : World} {K : PySem.W.Frag} {mg : Str → Option Value} {base : Heap} {k j : Nat} {f : Addr} {fd : FuncData} {ps : List Str} {sp : SpF} (o : FFn P w K mg base j f fd ps sp) (h : j ≤ k) : FFn P w K mg base k f fd ps sp :=
  ⟨o.len, fun A outer s H args us vs Qy Qn rm e b v q => codeAny_mono (o.run A outer s H args us vs Qy Qn (rm.mono h) e b v q) fun r t z => by
    cases r with
    | error x => exact z
    | ok fl => cases fl with
      | ret u =>
        obtain ⟨a, g, c, e1, e2, e3, e4, e5, e6, e7, wk⟩ := z
        exact ⟨a, g, c, e1, e2, e3, e4, e5, e6, e7, fun A n z rm2 => wk A n z (rm2.mono h)⟩
      | next => exact z
      | brk => exact z
      | cont => exact z⟩
theorem _root_.Bc.FnTF.mono {P : Program} {w : World} {K : PySem.W.Frag} {mg : Str → Option Value} {base : Heap} {k j : Nat} {x : Str} {ps : List Str} {sp : SpF} (T : FnTF P w K mg base j x ps sp) (h : j ≤ k) : FnTF P w K mg base k x ps sp := by
  obtain ⟨f, fd, a, b, c, o⟩ := T.ex
  exact ⟨f, fd, a, b, c, o.mono h⟩
theorem ns_ok {K : PySem.W.Frag} {N : Addr} {nc : Value} {nd : Option Addr} {es : Array DictEntry} {np : Nat} {ns : Array (Option Value)} {el : List DictEntry} (h1 : K.lookup N = some ⟨nc, nd, .dict es np, ns⟩) (h2 : es.toList = el) (h3 : el.all (fun e => match e.key with | .str _ _ => true | _ => false) = true) : PySem.W.nsOkIn K N = true := by
  unfold PySem.W.nsOkIn
  rw [h1]
  subst h2
  show es.all _ = true
  rw [← Array.all_toList]
  exact h3
theorem kit_self (K : PySem.W.Frag) (C : Addr) : PySem.W.kitOne K (.ref C) (.ref C) = some true := by
  unfold PySem.W.kitOne
  rw [if_pos (beq_self_eq_true _)]
theorem _root_.Bc.FnTX.mono {P : Program} {w : World} {K : PySem.W.Frag} {mg : Str → Option Value} {base : Heap} {k j : Nat} {x : Str} {ps : List Str} {sp : Sp} (T : FnTX P w K mg base j x ps sp) (h : j ≤ k) : FnTX P w K mg base k x ps sp := by
  obtain ⟨f, fd, a, b, c, d⟩ := T.ex
  exact ⟨f, fd, a, b, c, d.mono h⟩
theorem _root_.Bc.MethTX.mono {P : Program} {w : World} {K : PySem.W.Frag} {mg : Str → Option Value} {base : Heap} {k j : Nat} {C : Addr} {m : Str} {ps : List Str} {sp : Sp} (T : MethTX P w K mg base j C m ps sp) (h : j ≤ k) : MethTX P w K mg base k C m ps sp := by
  obtain ⟨⟨f, fd, a, b, c⟩, d⟩ := T
  exact ⟨⟨f, fd, a, b, c.mono h⟩, d⟩
theorem _root_.Bc.MkTX.mono {P : Program} {w : World} {K : PySem.W.Frag} {mg : Str → Option Value} {base : Heap} {k j : Nat} {x : Str} {C : Addr} {ps : List Str} {sp : Sp} (T : MkTX P w K mg base j x C ps sp) (h : j ≤ k) : MkTX P w K mg base k x C ps sp := by
  obtain ⟨⟨f, fd, a, b, c⟩, d⟩ := T
  exact ⟨⟨f, fd, a, b, c.mono h⟩, d⟩
abbrev s_BadBook : Stmt := inClass (top 4) 0
theorem text_BadBook {P : Program} : XText P s_BadBook ["path"] true := ⟨⟨_, _, _, _, _, _, _, _, _, rfl, (show XI.PathL _ _ from ⟨⟨_, _, _, _, _, _, rfl⟩, by decide +kernel⟩), rfl⟩, ⟨_, rfl, rfl⟩, rfl, rfl, rfl, by decide +kernel, by decide +kernel, by decide +kernel, by decide +kernel, by decide +kernel, by decide +kernel, by decide, fun h => by first | rfl | cases h⟩
abbrev s_BadBag : Stmt := inClass (top 5) 0
theorem text_BadBag {P : Program} : XText P s_BadBag ["path"] true := ⟨⟨_, _, _, _, _, _, _, _, _, rfl, (show XI.PathL _ _ from ⟨⟨_, _, _, _, _, _, rfl⟩, by decide +kernel⟩), rfl⟩, ⟨_, rfl, rfl⟩, rfl, rfl, rfl, by decide +kernel, by decide +kernel, by decide +kernel, by decide +kernel, by decide +kernel, by decide +kernel, by decide, fun h => by first | rfl | cases h⟩
abbrev s_UnknownName : Stmt := inClass (top 6) 0
theorem text_UnknownName {P : Program} : XText P s_UnknownName ["name"] false := ⟨⟨_, _, _, _, _, _, _, _, _, rfl, (show XI.AsgL _ _ from ⟨_, _, _, rfl, ⟨_, _, _, _, rfl⟩, rfl⟩), rfl⟩, ⟨_, rfl, rfl⟩, rfl, rfl, rfl, by decide +kernel, by decide +kernel, by decide +kernel, by decide +kernel, by decide +kernel, by decide +kernel, by decide, fun h => by first | rfl | cases h⟩
theorem all_mk {l : PySem.W.OpenLaw} {w : World} {K : PySem.W.Frag} {h : Heap} {mg : Str → Option Value} {fa : Addr} (X : K.In h) (G : h.Ns mainGlobals mg) (hfa : mg "law" = some (.ref fa))
    {C_Book : Addr} {N_Book : Addr} {nm_Book q_Book : Str} {bs_Book : List Value} {sn_Book : List Str} {sub_Book : List Value} {ab_Book : Bool} {col_Book : Option Bool} {dd_Book : Option Addr} {m0_Book m1_Book m2_Book m3_Book m5_Book : Option Value} {f_Book___eq__ : Addr} {nc_Book : Value} {nd_Book : Option Addr} {es_Book : Array DictEntry} {np_Book : Nat} {ns_Book : Array (Option Value)} {el_Book : List DictEntry} {f_Book___init__ : Addr} {od_Book___init__ an_Book___init__ : Option Addr} {sl_Book___init__ : Array (Option Value)} {oc_Book___init__ kV_Book___init__ dc_Book___init__ pm_Book___init__ cd_Book___init__ ct_Book___init__ : Value} {od_Book___eq__ an_Book___eq__ : Option Addr} {sl_Book___eq__ : Array (Option Value)} {oc_Book___eq__ kV_Book___eq__ dc_Book___eq__ pm_Book___eq__ cd_Book___eq__ ct_Book___eq__ : Value} {f_Book_shapes : Addr} {od_Book_shapes an_Book_shapes : Option Addr} {sl_Book_shapes : Array (Option Value)} {oc_Book_shapes kV_Book_shapes dc_Book_shapes pm_Book_shapes cd_Book_shapes ct_Book_shapes : Value} {f_Book_words : Addr} {od_Book_words an_Book_words : Option Addr} {sl_Book_words : Array (Option Value)} {oc_Book_words kV_Book_words dc_Book_words pm_Book_words cd_Book_words ct_Book_words : Value} {f_Book_shape : Addr} {od_Book_shape an_Book_shape : Option Addr} {sl_Book_shape : Array (Option Value)} {oc_Book_shape kV_Book_shape dc_Book_shape pm_Book_shape cd_Book_shape ct_Book_shape : Value} {C_Bag : Addr} {N_Bag : Addr} {nm_Bag q_Bag : Str} {bs_Bag : List Value} {sn_Bag : List Str} {sub_Bag : List Value} {ab_Bag : Bool} {col_Bag : Option Bool} {dd_Bag : Option Addr} {m0_Bag m1_Bag m2_Bag m3_Bag m5_Bag : Option Value} {f_Bag___eq__ : Addr} {nc_Bag : Value} {nd_Bag : Option Addr} {es_Bag : Array DictEntry} {np_Bag : Nat} {ns_Bag : Array (Option Value)} {el_Bag : List DictEntry} {f_Bag___init__ : Addr} {od_Bag___init__ an_Bag___init__ : Option Addr} {sl_Bag___init__ : Array (Option Value)} {oc_Bag___init__ kV_Bag___init__ dc_Bag___init__ pm_Bag___init__ cd_Bag___init__ ct_Bag___init__ : Value} {od_Bag___eq__ an_Bag___eq__ : Option Addr} {sl_Bag___eq__ : Array (Option Value)} {oc_Bag___eq__ kV_Bag___eq__ dc_Bag___eq__ pm_Bag___eq__ cd_Bag___eq__ ct_Bag___eq__ : Value} {f_Bag_book : Addr} {od_Bag_book an_Bag_book : Option Addr} {sl_Bag_book : Array (Option Value)} {oc_Bag_book kV_Bag_book dc_Bag_book pm_Bag_book cd_Bag_book ct_Bag_book : Value} {f_Bag_joints : Addr} {od_Bag_joints an_Bag_joints : Option Addr} {sl_Bag_joints : Array (Option Value)} {oc_Bag_joints kV_Bag_joints dc_Bag_joints pm_Bag_joints cd_Bag_joints ct_Bag_joints : Value} {f_Bag_names : Addr} {od_Bag_names an_Bag_names : Option Addr} {sl_Bag_names : Array (Option Value)} {oc_Bag_names kV_Bag_names dc_Bag_names pm_Bag_names cd_Bag_names ct_Bag_names : Value} {f_Bag_has_name : Addr} {od_Bag_has_name an_Bag_has_name : Option Addr} {sl_Bag_has_name : Array (Option Value)} {oc_Bag_has_name kV_Bag_has_name dc_Bag_has_name pm_Bag_has_name cd_Bag_has_name ct_Bag_has_name : Value} {f_Bag_shape : Addr} {od_Bag_shape an_Bag_shape : Option Addr} {sl_Bag_shape : Array (Option Value)} {oc_Bag_shape kV_Bag_shape dc_Bag_shape pm_Bag_shape cd_Bag_shape ct_Bag_shape : Value} {f_Bag_word : Addr} {od_Bag_word an_Bag_word : Option Addr} {sl_Bag_word : Array (Option Value)} {oc_Bag_word kV_Bag_word dc_Bag_word pm_Bag_word cd_Bag_word ct_Bag_word : Value} {f_Bag_stem : Addr} {od_Bag_stem an_Bag_stem : Option Addr} {sl_Bag_stem : Array (Option Value)} {oc_Bag_stem kV_Bag_stem dc_Bag_stem pm_Bag_stem cd_Bag_stem ct_Bag_stem : Value} {f_Bag_branches : Addr} {od_Bag_branches an_Bag_branches : Option Addr} {sl_Bag_branches : Array (Option Value)} {oc_Bag_branches kV_Bag_branches dc_Bag_branches pm_Bag_branches cd_Bag_branches ct_Bag_branches : Value} {f_Bag_stock : Addr} {od_Bag_stock an_Bag_stock : Option Addr} {sl_Bag_stock : Array (Option Value)} {oc_Bag_stock kV_Bag_stock dc_Bag_stock pm_Bag_stock cd_Bag_stock ct_Bag_stock : Value} {f_is_word : Addr} {od_is_word an_is_word : Option Addr} {sl_is_word : Array (Option Value)} {oc_is_word kV_is_word dc_is_word pm_is_word cd_is_word ct_is_word : Value} {f_is_list : Addr} {od_is_list an_is_list : Option Addr} {sl_is_list : Array (Option Value)} {oc_is_list kV_is_list dc_is_list pm_is_list cd_is_list ct_is_list : Value} {f_is_row : Addr} {od_is_row an_is_row : Option Addr} {sl_is_row : Array (Option Value)} {oc_is_row kV_is_row dc_is_row pm_is_row cd_is_row ct_is_row : Value} {f_wrong_shape : Addr} {od_wrong_shape an_wrong_shape : Option Addr} {sl_wrong_shape : Array (Option Value)} {oc_wrong_shape kV_wrong_shape dc_wrong_shape pm_wrong_shape cd_wrong_shape ct_wrong_shape : Value} {f__law_source : Addr} {od__law_source an__law_source : Option Addr} {sl__law_source : Array (Option Value)} {oc__law_source kV__law_source dc__law_source pm__law_source cd__law_source ct__law_source : Value} {f__law_pick : Addr} {od__law_pick an__law_pick : Option Addr} {sl__law_pick : Array (Option Value)} {oc__law_pick kV__law_pick dc__law_pick pm__law_pick cd__law_pick ct__law_pick : Value} {f__law_of : Addr} {od__law_of an__law_of : Option Addr} {sl__law_of : Array (Option Value)} {oc__law_of kV__law_of dc__law_of pm__law_of cd__law_of ct__law_of : Value} {f__law_mixed : Addr} {od__law_mixed an__law_mixed : Option Addr} {sl__law_mixed : Array (Option Value)} {oc__law_mixed kV__law_mixed dc__law_mixed pm__law_mixed cd__law_mixed ct__law_mixed : Value} {f__law_names : Addr} {od__law_names an__law_names : Option Addr} {sl__law_names : Array (Option Value)} {oc__law_names kV__law_names dc__law_names pm__law_names cd__law_names ct__law_names : Value} {f__law_shapes : Addr} {od__law_shapes an__law_shapes : Option Addr} {sl__law_shapes : Array (Option Value)} {oc__law_shapes kV__law_shapes dc__law_shapes pm__law_shapes cd__law_shapes ct__law_shapes : Value} {f__law_is_word : Addr} {od__law_is_word an__law_is_word : Option Addr} {sl__law_is_word : Array (Option Value)} {oc__law_is_word kV__law_is_word dc__law_is_word pm__law_is_word cd__law_is_word ct__law_is_word : Value} {f__law_is_listing : Addr} {od__law_is_listing an__law_is_listing : Option Addr} {sl__law_is_listing : Array (Option Value)} {oc__law_is_listing kV__law_is_listing dc__law_is_listing pm__law_is_listing cd__law_is_listing ct__law_is_listing : Value} {f__law_is_row : Addr} {od__law_is_row an__law_is_row : Option Addr} {sl__law_is_row : Array (Option Value)} {oc__law_is_row kV__law_is_row dc__law_is_row pm__law_is_row cd__law_is_row ct__law_is_row : Value} {f__law_bent : Addr} {od__law_bent an__law_bent : Option Addr} {sl__law_bent : Array (Option Value)} {oc__law_bent kV__law_bent dc__law_bent pm__law_bent cd__law_bent ct__law_bent : Value} {f__law_drawn_shapes : Addr} {od__law_drawn_shapes an__law_drawn_shapes : Option Addr} {sl__law_drawn_shapes : Array (Option Value)} {oc__law_drawn_shapes kV__law_drawn_shapes dc__law_drawn_shapes pm__law_drawn_shapes cd__law_drawn_shapes ct__law_drawn_shapes : Value} {f__law_drawn_joints : Addr} {od__law_drawn_joints an__law_drawn_joints : Option Addr} {sl__law_drawn_joints : Array (Option Value)} {oc__law_drawn_joints kV__law_drawn_joints dc__law_drawn_joints pm__law_drawn_joints cd__law_drawn_joints ct__law_drawn_joints : Value} {f__law_missing : Addr} {od__law_missing an__law_missing : Option Addr} {sl__law_missing : Array (Option Value)} {oc__law_missing kV__law_missing dc__law_missing pm__law_missing cd__law_missing ct__law_missing : Value} {f__law_wrong_bag : Addr} {od__law_wrong_bag an__law_wrong_bag : Option Addr} {sl__law_wrong_bag : Array (Option Value)} {oc__law_wrong_bag kV__law_wrong_bag dc__law_wrong_bag pm__law_wrong_bag cd__law_wrong_bag ct__law_wrong_bag : Value} {f__law_refused : Addr} {od__law_refused an__law_refused : Option Addr} {sl__law_refused : Array (Option Value)} {oc__law_refused kV__law_refused dc__law_refused pm__law_refused cd__law_refused ct__law_refused : Value} {f__law_told_right : Addr} {od__law_told_right an__law_told_right : Option Addr} {sl__law_told_right : Array (Option Value)} {oc__law_told_right kV__law_told_right dc__law_told_right pm__law_told_right ct__law_told_right : Value} {cc T0 : Addr} {f_law : Addr} {od_law an_law : Option Addr} {sl_law : Array (Option Value)} {oc_law kV_law dc_law pm_law cd_law ct_law : Value} {f_first_wrong_books : Addr} {od_first_wrong_books an_first_wrong_books : Option Addr} {sl_first_wrong_books : Array (Option Value)} {oc_first_wrong_books kV_first_wrong_books dc_first_wrong_books pm_first_wrong_books cd_first_wrong_books ct_first_wrong_books : Value} {f_first_wrong_bags : Addr} {od_first_wrong_bags an_first_wrong_bags : Option Addr} {sl_first_wrong_bags : Array (Option Value)} {oc_first_wrong_bags kV_first_wrong_bags dc_first_wrong_bags pm_first_wrong_bags cd_first_wrong_bags ct_first_wrong_bags : Value} {t_LETTERS : Tok} {t_DIGITS : Tok} {C_BushError : Addr} {N_BushError : Addr} {nm_BushError q_BushError : Str} {bs_BushError : List Value} {sn_BushError : List Str} {sub_BushError : List Value} {ab_BushError : Bool} {col_BushError : Option Bool} {dd_BushError : Option Addr} {m0_BushError m1_BushError m2_BushError m3_BushError m5_BushError : Option Value} {C_NameMissing : Addr} {N_NameMissing : Addr} {nm_NameMissing q_NameMissing : Str} {bs_NameMissing : List Value} {sn_NameMissing : List Str} {sub_NameMissing : List Value} {ab_NameMissing : Bool} {col_NameMissing : Option Bool} {dd_NameMissing : Option Addr} {m0_NameMissing m1_NameMissing m2_NameMissing m3_NameMissing m5_NameMissing : Option Value} {C_BadBook f_BadBook cc_BadBook cda_BadBook N_BadBook : Addr} {nm_BadBook q_BadBook : Str} {bs_BadBook : List Value} {sn_BadBook : List Str} {sub_BadBook : List Value} {ab_BadBook : Bool} {col_BadBook : Option Bool} {dd_BadBook : Option Addr} {m0_BadBook m1_BadBook m2_BadBook m3_BadBook m5_BadBook : Option Value} {oc_BadBook kV_BadBook dc_BadBook pm_BadBook ct_BadBook ccl_BadBook cl_BadBook : Value} {od_BadBook an_BadBook cdd_BadBook cld_BadBook : Option Addr} {osl_BadBook ccs_BadBook csl_BadBook : Array (Option Value)} {vs_BadBook : Array Value} {file_BadBook : Str} {tf_BadBook : Tok} {C_BadBag f_BadBag cc_BadBag cda_BadBag N_BadBag : Addr} {nm_BadBag q_BadBag : Str} {bs_BadBag : List Value} {sn_BadBag : List Str} {sub_BadBag : List Value} {ab_BadBag : Bool} {col_BadBag : Option Bool} {dd_BadBag : Option Addr} {m0_BadBag m1_BadBag m2_BadBag m3_BadBag m5_BadBag : Option Value} {oc_BadBag kV_BadBag dc_BadBag pm_BadBag ct_BadBag ccl_BadBag cl_BadBag : Value} {od_BadBag an_BadBag cdd_BadBag cld_BadBag : Option Addr} {osl_BadBag ccs_BadBag csl_BadBag : Array (Option Value)} {vs_BadBag : Array Value} {file_BadBag : Str} {tf_BadBag : Tok} {C_UnknownName f_UnknownName cc_UnknownName cda_UnknownName N_UnknownName : Addr} {nm_UnknownName q_UnknownName : Str} {bs_UnknownName : List Value} {sn_UnknownName : List Str} {sub_UnknownName : List Value} {ab_UnknownName : Bool} {col_UnknownName : Option Bool} {dd_UnknownName : Option Addr} {m0_UnknownName m1_UnknownName m2_UnknownName m3_UnknownName m5_UnknownName : Option Value} {oc_UnknownName kV_UnknownName dc_UnknownName pm_UnknownName ct_UnknownName ccl_UnknownName cl_UnknownName : Value} {od_UnknownName an_UnknownName cdd_UnknownName cld_UnknownName : Option Addr} {osl_UnknownName ccs_UnknownName csl_UnknownName : Array (Option Value)} {vs_UnknownName : Array Value} {file_UnknownName : Str} {tf_UnknownName : Tok}
    (a_Book : PySem.W.nsIn K mainGlobals "Book" = some (some (.ref C_Book)))
    (pg_Book : PySem.W.plainGet K C_Book Str.empty = true)
    (hd_Book : PySem.W.hasDictIn K C_Book = true)
    (po_Book : PySem.W.plainOver K C_Book = true)
    (sa_Book : PySem.W.findIn K (.ref C_Book) "__setattr__" = some (some (.builtin "object.__setattr__")))
    (mk_Book : PySem.W.makesIn K C_Book = true)
    (kc_Book : PySem.W.keepIn K (.ref C_Book) = true)
    (no_Book_rows : PySem.W.findIn K (.ref C_Book) "rows" = some none)
    (x_Book : K.lookup C_Book = some (excClassObj nm_Book q_Book C_Book N_Book bs_Book [.type "object"] true sn_Book sub_Book ab_Book col_Book dd_Book m0_Book m1_Book m2_Book m3_Book m5_Book "object.__new__"))
    (ln_Book : K.lookup N_Book = some ⟨nc_Book, nd_Book, .dict es_Book np_Book, ns_Book⟩)
    (le_Book : es_Book.toList = el_Book)
    (la_Book : el_Book.all (fun e => match e.key with | .str _ _ => true | _ => false) = true)
    (ne_Book : PySem.W.nsIn K N_Book "__eq__" = some (some (.ref f_Book___eq__)))
    (nn_Book : PySem.W.nsIn K N_Book "__ne__" = some none)
    (kl_Book : PySem.W.findIn K (.ref C_Book) "__class__" = some (some (.builtin "object.__class__")))
    (ob_Book : PySem.W.mroIn K C_Book (.type "object") = some true)
    (a_Book___init__ : PySem.W.findIn K (.ref C_Book) "__init__" = some (some (.ref f_Book___init__)))
    (i_Book___init__ : PySem.W.isFn K (.ref f_Book___init__) = true)
    (l_Book___init__ : K.lookup f_Book___init__ = some ⟨oc_Book___init__, od_Book___init__, .func (PySem.W.fnOf "__init__" "Book.__init__" (defArgs s_Book___init__) (defBody s_Book___init__) (defScope s_Book___init__) .none kV_Book___init__ dc_Book___init__ pm_Book___init__ an_Book___init__ cd_Book___init__ ct_Book___init__), sl_Book___init__⟩)
    (c_Book___init__ : PySem.W.codeIn K cd_Book___init__ "Book.__init__" = true)
    (k_Book___init__ : PySem.W.keepIn K (.ref f_Book___init__) = true)
    (a_Book___eq__ : PySem.W.findIn K (.ref C_Book) "__eq__" = some (some (.ref f_Book___eq__)))
    (i_Book___eq__ : PySem.W.isFn K (.ref f_Book___eq__) = true)
    (l_Book___eq__ : K.lookup f_Book___eq__ = some ⟨oc_Book___eq__, od_Book___eq__, .func (PySem.W.fnOf "__eq__" "Book.__eq__" (defArgs s_Book___eq__) (defBody s_Book___eq__) (defScope s_Book___eq__) .none kV_Book___eq__ dc_Book___eq__ pm_Book___eq__ an_Book___eq__ cd_Book___eq__ ct_Book___eq__), sl_Book___eq__⟩)
    (c_Book___eq__ : PySem.W.codeIn K cd_Book___eq__ "Book.__eq__" = true)
    (k_Book___eq__ : PySem.W.keepIn K (.ref f_Book___eq__) = true)
    (a_Book_shapes : PySem.W.findIn K (.ref C_Book) "shapes" = some (some (.ref f_Book_shapes)))
    (i_Book_shapes : PySem.W.isFn K (.ref f_Book_shapes) = true)
    (l_Book_shapes : K.lookup f_Book_shapes = some ⟨oc_Book_shapes, od_Book_shapes, .func (PySem.W.fnOf "shapes" "Book.shapes" (defArgs s_Book_shapes) (defBody s_Book_shapes) (defScope s_Book_shapes) .none kV_Book_shapes dc_Book_shapes pm_Book_shapes an_Book_shapes cd_Book_shapes ct_Book_shapes), sl_Book_shapes⟩)
    (c_Book_shapes : PySem.W.codeIn K cd_Book_shapes "Book.shapes" = true)
    (k_Book_shapes : PySem.W.keepIn K (.ref f_Book_shapes) = true)
    (a_Book_words : PySem.W.findIn K (.ref C_Book) "words" = some (some (.ref f_Book_words)))
    (i_Book_words : PySem.W.isFn K (.ref f_Book_words) = true)
    (l_Book_words : K.lookup f_Book_words = some ⟨oc_Book_words, od_Book_words, .func (PySem.W.fnOf "words" "Book.words" (defArgs s_Book_words) (defBody s_Book_words) (defScope s_Book_words) .none kV_Book_words dc_Book_words pm_Book_words an_Book_words cd_Book_words ct_Book_words), sl_Book_words⟩)
    (c_Book_words : PySem.W.codeIn K cd_Book_words "Book.words" = true)
    (k_Book_words : PySem.W.keepIn K (.ref f_Book_words) = true)
    (a_Book_shape : PySem.W.findIn K (.ref C_Book) "shape" = some (some (.ref f_Book_shape)))
    (i_Book_shape : PySem.W.isFn K (.ref f_Book_shape) = true)
    (l_Book_shape : K.lookup f_Book_shape = some ⟨oc_Book_shape, od_Book_shape, .func (PySem.W.fnOf "shape" "Book.shape" (defArgs s_Book_shape) (defBody s_Book_shape) (defScope s_Book_shape) .none kV_Book_shape dc_Book_shape pm_Book_shape an_Book_shape cd_Book_shape ct_Book_shape), sl_Book_shape⟩)
    (c_Book_shape : PySem.W.codeIn K cd_Book_shape "Book.shape" = true)
    (k_Book_shape : PySem.W.keepIn K (.ref f_Book_shape) = true)
    (a_Bag : PySem.W.nsIn K mainGlobals "Bag" = some (some (.ref C_Bag)))
    (pg_Bag : PySem.W.plainGet K C_Bag Str.empty = true)
    (hd_Bag : PySem.W.hasDictIn K C_Bag = true)
    (po_Bag : PySem.W.plainOver K C_Bag = true)
    (sa_Bag : PySem.W.findIn K (.ref C_Bag) "__setattr__" = some (some (.builtin "object.__setattr__")))
    (mk_Bag : PySem.W.makesIn K C_Bag = true)
    (kc_Bag : PySem.W.keepIn K (.ref C_Bag) = true)
    (no_Bag_own_book : PySem.W.findIn K (.ref C_Bag) "own_book" = some none)
    (no_Bag_own_joints : PySem.W.findIn K (.ref C_Bag) "own_joints" = some none)
    (no_Bag_own_shapes : PySem.W.findIn K (.ref C_Bag) "own_shapes" = some none)
    (x_Bag : K.lookup C_Bag = some (excClassObj nm_Bag q_Bag C_Bag N_Bag bs_Bag [.type "object"] true sn_Bag sub_Bag ab_Bag col_Bag dd_Bag m0_Bag m1_Bag m2_Bag m3_Bag m5_Bag "object.__new__"))
    (ln_Bag : K.lookup N_Bag = some ⟨nc_Bag, nd_Bag, .dict es_Bag np_Bag, ns_Bag⟩)
    (le_Bag : es_Bag.toList = el_Bag)
    (la_Bag : el_Bag.all (fun e => match e.key with | .str _ _ => true | _ => false) = true)
    (ne_Bag : PySem.W.nsIn K N_Bag "__eq__" = some (some (.ref f_Bag___eq__)))
    (nn_Bag : PySem.W.nsIn K N_Bag "__ne__" = some none)
    (kl_Bag : PySem.W.findIn K (.ref C_Bag) "__class__" = some (some (.builtin "object.__class__")))
    (ob_Bag : PySem.W.mroIn K C_Bag (.type "object") = some true)
    (a_Bag___init__ : PySem.W.findIn K (.ref C_Bag) "__init__" = some (some (.ref f_Bag___init__)))
    (i_Bag___init__ : PySem.W.isFn K (.ref f_Bag___init__) = true)
    (l_Bag___init__ : K.lookup f_Bag___init__ = some ⟨oc_Bag___init__, od_Bag___init__, .func (PySem.W.fnOf "__init__" "Bag.__init__" (defArgs s_Bag___init__) (defBody s_Bag___init__) (defScope s_Bag___init__) .none kV_Bag___init__ dc_Bag___init__ pm_Bag___init__ an_Bag___init__ cd_Bag___init__ ct_Bag___init__), sl_Bag___init__⟩)
    (c_Bag___init__ : PySem.W.codeIn K cd_Bag___init__ "Bag.__init__" = true)
    (k_Bag___init__ : PySem.W.keepIn K (.ref f_Bag___init__) = true)
    (a_Bag___eq__ : PySem.W.findIn K (.ref C_Bag) "__eq__" = some (some (.ref f_Bag___eq__)))
    (i_Bag___eq__ : PySem.W.isFn K (.ref f_Bag___eq__) = true)
    (l_Bag___eq__ : K.lookup f_Bag___eq__ = some ⟨oc_Bag___eq__, od_Bag___eq__, .func (PySem.W.fnOf "__eq__" "Bag.__eq__" (defArgs s_Bag___eq__) (defBody s_Bag___eq__) (defScope s_Bag___eq__) .none kV_Bag___eq__ dc_Bag___eq__ pm_Bag___eq__ an_Bag___eq__ cd_Bag___eq__ ct_Bag___eq__), sl_Bag___eq__⟩)
    (c_Bag___eq__ : PySem.W.codeIn K cd_Bag___eq__ "Bag.__eq__" = true)
    (k_Bag___eq__ : PySem.W.keepIn K (.ref f_Bag___eq__) = true)
    (a_Bag_book : PySem.W.findIn K (.ref C_Bag) "book" = some (some (.ref f_Bag_book)))
    (i_Bag_book : PySem.W.isFn K (.ref f_Bag_book) = true)
    (l_Bag_book : K.lookup f_Bag_book = some ⟨oc_Bag_book, od_Bag_book, .func (PySem.W.fnOf "book" "Bag.book" (defArgs s_Bag_book) (defBody s_Bag_book) (defScope s_Bag_book) .none kV_Bag_book dc_Bag_book pm_Bag_book an_Bag_book cd_Bag_book ct_Bag_book), sl_Bag_book⟩)
    (c_Bag_book : PySem.W.codeIn K cd_Bag_book "Bag.book" = true)
    (k_Bag_book : PySem.W.keepIn K (.ref f_Bag_book) = true)
    (a_Bag_joints : PySem.W.findIn K (.ref C_Bag) "joints" = some (some (.ref f_Bag_joints)))
    (i_Bag_joints : PySem.W.isFn K (.ref f_Bag_joints) = true)
    (l_Bag_joints : K.lookup f_Bag_joints = some ⟨oc_Bag_joints, od_Bag_joints, .func (PySem.W.fnOf "joints" "Bag.joints" (defArgs s_Bag_joints) (defBody s_Bag_joints) (defScope s_Bag_joints) .none kV_Bag_joints dc_Bag_joints pm_Bag_joints an_Bag_joints cd_Bag_joints ct_Bag_joints), sl_Bag_joints⟩)
    (c_Bag_joints : PySem.W.codeIn K cd_Bag_joints "Bag.joints" = true)
    (k_Bag_joints : PySem.W.keepIn K (.ref f_Bag_joints) = true)
    (a_Bag_names : PySem.W.findIn K (.ref C_Bag) "names" = some (some (.ref f_Bag_names)))
    (i_Bag_names : PySem.W.isFn K (.ref f_Bag_names) = true)
    (l_Bag_names : K.lookup f_Bag_names = some ⟨oc_Bag_names, od_Bag_names, .func (PySem.W.fnOf "names" "Bag.names" (defArgs s_Bag_names) (defBody s_Bag_names) (defScope s_Bag_names) .none kV_Bag_names dc_Bag_names pm_Bag_names an_Bag_names cd_Bag_names ct_Bag_names), sl_Bag_names⟩)
    (c_Bag_names : PySem.W.codeIn K cd_Bag_names "Bag.names" = true)
    (k_Bag_names : PySem.W.keepIn K (.ref f_Bag_names) = true)
    (a_Bag_has_name : PySem.W.findIn K (.ref C_Bag) "has_name" = some (some (.ref f_Bag_has_name)))
    (i_Bag_has_name : PySem.W.isFn K (.ref f_Bag_has_name) = true)
    (l_Bag_has_name : K.lookup f_Bag_has_name = some ⟨oc_Bag_has_name, od_Bag_has_name, .func (PySem.W.fnOf "has_name" "Bag.has_name" (defArgs s_Bag_has_name) (defBody s_Bag_has_name) (defScope s_Bag_has_name) .none kV_Bag_has_name dc_Bag_has_name pm_Bag_has_name an_Bag_has_name cd_Bag_has_name ct_Bag_has_name), sl_Bag_has_name⟩)
    (c_Bag_has_name : PySem.W.codeIn K cd_Bag_has_name "Bag.has_name" = true)
    (k_Bag_has_name : PySem.W.keepIn K (.ref f_Bag_has_name) = true)
    (a_Bag_shape : PySem.W.findIn K (.ref C_Bag) "shape" = some (some (.ref f_Bag_shape)))
    (i_Bag_shape : PySem.W.isFn K (.ref f_Bag_shape) = true)
    (l_Bag_shape : K.lookup f_Bag_shape = some ⟨oc_Bag_shape, od_Bag_shape, .func (PySem.W.fnOf "shape" "Bag.shape" (defArgs s_Bag_shape) (defBody s_Bag_shape) (defScope s_Bag_shape) .none kV_Bag_shape dc_Bag_shape pm_Bag_shape an_Bag_shape cd_Bag_shape ct_Bag_shape), sl_Bag_shape⟩)
    (c_Bag_shape : PySem.W.codeIn K cd_Bag_shape "Bag.shape" = true)
    (k_Bag_shape : PySem.W.keepIn K (.ref f_Bag_shape) = true)
    (a_Bag_word : PySem.W.findIn K (.ref C_Bag) "word" = some (some (.ref f_Bag_word)))
    (i_Bag_word : PySem.W.isFn K (.ref f_Bag_word) = true)
    (l_Bag_word : K.lookup f_Bag_word = some ⟨oc_Bag_word, od_Bag_word, .func (PySem.W.fnOf "word" "Bag.word" (defArgs s_Bag_word) (defBody s_Bag_word) (defScope s_Bag_word) .none kV_Bag_word dc_Bag_word pm_Bag_word an_Bag_word cd_Bag_word ct_Bag_word), sl_Bag_word⟩)
    (c_Bag_word : PySem.W.codeIn K cd_Bag_word "Bag.word" = true)
    (k_Bag_word : PySem.W.keepIn K (.ref f_Bag_word) = true)
    (a_Bag_stem : PySem.W.findIn K (.ref C_Bag) "stem" = some (some (.ref f_Bag_stem)))
    (i_Bag_stem : PySem.W.isFn K (.ref f_Bag_stem) = true)
    (l_Bag_stem : K.lookup f_Bag_stem = some ⟨oc_Bag_stem, od_Bag_stem, .func (PySem.W.fnOf "stem" "Bag.stem" (defArgs s_Bag_stem) (defBody s_Bag_stem) (defScope s_Bag_stem) .none kV_Bag_stem dc_Bag_stem pm_Bag_stem an_Bag_stem cd_Bag_stem ct_Bag_stem), sl_Bag_stem⟩)
    (c_Bag_stem : PySem.W.codeIn K cd_Bag_stem "Bag.stem" = true)
    (k_Bag_stem : PySem.W.keepIn K (.ref f_Bag_stem) = true)
    (a_Bag_branches : PySem.W.findIn K (.ref C_Bag) "branches" = some (some (.ref f_Bag_branches)))
    (i_Bag_branches : PySem.W.isFn K (.ref f_Bag_branches) = true)
    (l_Bag_branches : K.lookup f_Bag_branches = some ⟨oc_Bag_branches, od_Bag_branches, .func (PySem.W.fnOf "branches" "Bag.branches" (defArgs s_Bag_branches) (defBody s_Bag_branches) (defScope s_Bag_branches) .none kV_Bag_branches dc_Bag_branches pm_Bag_branches an_Bag_branches cd_Bag_branches ct_Bag_branches), sl_Bag_branches⟩)
    (c_Bag_branches : PySem.W.codeIn K cd_Bag_branches "Bag.branches" = true)
    (k_Bag_branches : PySem.W.keepIn K (.ref f_Bag_branches) = true)
    (a_Bag_stock : PySem.W.findIn K (.ref C_Bag) "stock" = some (some (.ref f_Bag_stock)))
    (i_Bag_stock : PySem.W.isFn K (.ref f_Bag_stock) = true)
    (l_Bag_stock : K.lookup f_Bag_stock = some ⟨oc_Bag_stock, od_Bag_stock, .func (PySem.W.fnOf "stock" "Bag.stock" (defArgs s_Bag_stock) (defBody s_Bag_stock) (defScope s_Bag_stock) .none kV_Bag_stock dc_Bag_stock pm_Bag_stock an_Bag_stock cd_Bag_stock ct_Bag_stock), sl_Bag_stock⟩)
    (c_Bag_stock : PySem.W.codeIn K cd_Bag_stock "Bag.stock" = true)
    (k_Bag_stock : PySem.W.keepIn K (.ref f_Bag_stock) = true)
    (a_is_word : PySem.W.nsIn K mainGlobals "is_word" = some (some (.ref f_is_word)))
    (l_is_word : K.lookup f_is_word = some ⟨oc_is_word, od_is_word, .func (PySem.W.fnOf "is_word" "is_word" (defArgs s_is_word) (defBody s_is_word) (defScope s_is_word) .none kV_is_word dc_is_word pm_is_word an_is_word cd_is_word ct_is_word), sl_is_word⟩)
    (c_is_word : PySem.W.codeIn K cd_is_word "is_word" = true)
    (k_is_word : PySem.W.keepIn K (.ref f_is_word) = true)
    (a_is_list : PySem.W.nsIn K mainGlobals "is_list" = some (some (.ref f_is_list)))
    (l_is_list : K.lookup f_is_list = some ⟨oc_is_list, od_is_list, .func (PySem.W.fnOf "is_list" "is_list" (defArgs s_is_list) (defBody s_is_list) (defScope s_is_list) .none kV_is_list dc_is_list pm_is_list an_is_list cd_is_list ct_is_list), sl_is_list⟩)
    (c_is_list : PySem.W.codeIn K cd_is_list "is_list" = true)
    (k_is_list : PySem.W.keepIn K (.ref f_is_list) = true)
    (a_is_row : PySem.W.nsIn K mainGlobals "is_row" = some (some (.ref f_is_row)))
    (l_is_row : K.lookup f_is_row = some ⟨oc_is_row, od_is_row, .func (PySem.W.fnOf "is_row" "is_row" (defArgs s_is_row) (defBody s_is_row) (defScope s_is_row) .none kV_is_row dc_is_row pm_is_row an_is_row cd_is_row ct_is_row), sl_is_row⟩)
    (c_is_row : PySem.W.codeIn K cd_is_row "is_row" = true)
    (k_is_row : PySem.W.keepIn K (.ref f_is_row) = true)
    (a_wrong_shape : PySem.W.nsIn K mainGlobals "wrong_shape" = some (some (.ref f_wrong_shape)))
    (l_wrong_shape : K.lookup f_wrong_shape = some ⟨oc_wrong_shape, od_wrong_shape, .func (PySem.W.fnOf "wrong_shape" "wrong_shape" (defArgs s_wrong_shape) (defBody s_wrong_shape) (defScope s_wrong_shape) .none kV_wrong_shape dc_wrong_shape pm_wrong_shape an_wrong_shape cd_wrong_shape ct_wrong_shape), sl_wrong_shape⟩)
    (c_wrong_shape : PySem.W.codeIn K cd_wrong_shape "wrong_shape" = true)
    (k_wrong_shape : PySem.W.keepIn K (.ref f_wrong_shape) = true)
    (a__law_source : PySem.W.nsIn K mainGlobals "_law_source" = some (some (.ref f__law_source)))
    (l__law_source : K.lookup f__law_source = some ⟨oc__law_source, od__law_source, .func (PySem.W.fnOf "_law_source" "_law_source" (defArgs s__law_source) (defBody s__law_source) (defScope s__law_source) .none kV__law_source dc__law_source pm__law_source an__law_source cd__law_source ct__law_source), sl__law_source⟩)
    (c__law_source : PySem.W.codeIn K cd__law_source "_law_source" = true)
    (k__law_source : PySem.W.keepIn K (.ref f__law_source) = true)
    (a__law_pick : PySem.W.nsIn K mainGlobals "_law_pick" = some (some (.ref f__law_pick)))
    (l__law_pick : K.lookup f__law_pick = some ⟨oc__law_pick, od__law_pick, .func (PySem.W.fnOf "_law_pick" "_law_pick" (defArgs s__law_pick) (defBody s__law_pick) (defScope s__law_pick) .none kV__law_pick dc__law_pick pm__law_pick an__law_pick cd__law_pick ct__law_pick), sl__law_pick⟩)
    (c__law_pick : PySem.W.codeIn K cd__law_pick "_law_pick" = true)
    (k__law_pick : PySem.W.keepIn K (.ref f__law_pick) = true)
    (a__law_of : PySem.W.nsIn K mainGlobals "_law_of" = some (some (.ref f__law_of)))
    (l__law_of : K.lookup f__law_of = some ⟨oc__law_of, od__law_of, .func (PySem.W.fnOf "_law_of" "_law_of" (defArgs s__law_of) (defBody s__law_of) (defScope s__law_of) .none kV__law_of dc__law_of pm__law_of an__law_of cd__law_of ct__law_of), sl__law_of⟩)
    (c__law_of : PySem.W.codeIn K cd__law_of "_law_of" = true)
    (k__law_of : PySem.W.keepIn K (.ref f__law_of) = true)
    (a__law_mixed : PySem.W.nsIn K mainGlobals "_law_mixed" = some (some (.ref f__law_mixed)))
    (l__law_mixed : K.lookup f__law_mixed = some ⟨oc__law_mixed, od__law_mixed, .func (PySem.W.fnOf "_law_mixed" "_law_mixed" (defArgs s__law_mixed) (defBody s__law_mixed) (defScope s__law_mixed) .none kV__law_mixed dc__law_mixed pm__law_mixed an__law_mixed cd__law_mixed ct__law_mixed), sl__law_mixed⟩)
    (c__law_mixed : PySem.W.codeIn K cd__law_mixed "_law_mixed" = true)
    (k__law_mixed : PySem.W.keepIn K (.ref f__law_mixed) = true)
    (a__law_names : PySem.W.nsIn K mainGlobals "_law_names" = some (some (.ref f__law_names)))
    (l__law_names : K.lookup f__law_names = some ⟨oc__law_names, od__law_names, .func (PySem.W.fnOf "_law_names" "_law_names" (defArgs s__law_names) (defBody s__law_names) (defScope s__law_names) .none kV__law_names dc__law_names pm__law_names an__law_names cd__law_names ct__law_names), sl__law_names⟩)
    (c__law_names : PySem.W.codeIn K cd__law_names "_law_names" = true)
    (k__law_names : PySem.W.keepIn K (.ref f__law_names) = true)
    (a__law_shapes : PySem.W.nsIn K mainGlobals "_law_shapes" = some (some (.ref f__law_shapes)))
    (l__law_shapes : K.lookup f__law_shapes = some ⟨oc__law_shapes, od__law_shapes, .func (PySem.W.fnOf "_law_shapes" "_law_shapes" (defArgs s__law_shapes) (defBody s__law_shapes) (defScope s__law_shapes) .none kV__law_shapes dc__law_shapes pm__law_shapes an__law_shapes cd__law_shapes ct__law_shapes), sl__law_shapes⟩)
    (c__law_shapes : PySem.W.codeIn K cd__law_shapes "_law_shapes" = true)
    (k__law_shapes : PySem.W.keepIn K (.ref f__law_shapes) = true)
    (a__law_is_word : PySem.W.nsIn K mainGlobals "_law_is_word" = some (some (.ref f__law_is_word)))
    (l__law_is_word : K.lookup f__law_is_word = some ⟨oc__law_is_word, od__law_is_word, .func (PySem.W.fnOf "_law_is_word" "_law_is_word" (defArgs s__law_is_word) (defBody s__law_is_word) (defScope s__law_is_word) .none kV__law_is_word dc__law_is_word pm__law_is_word an__law_is_word cd__law_is_word ct__law_is_word), sl__law_is_word⟩)
    (c__law_is_word : PySem.W.codeIn K cd__law_is_word "_law_is_word" = true)
    (k__law_is_word : PySem.W.keepIn K (.ref f__law_is_word) = true)
    (a__law_is_listing : PySem.W.nsIn K mainGlobals "_law_is_listing" = some (some (.ref f__law_is_listing)))
    (l__law_is_listing : K.lookup f__law_is_listing = some ⟨oc__law_is_listing, od__law_is_listing, .func (PySem.W.fnOf "_law_is_listing" "_law_is_listing" (defArgs s__law_is_listing) (defBody s__law_is_listing) (defScope s__law_is_listing) .none kV__law_is_listing dc__law_is_listing pm__law_is_listing an__law_is_listing cd__law_is_listing ct__law_is_listing), sl__law_is_listing⟩)
    (c__law_is_listing : PySem.W.codeIn K cd__law_is_listing "_law_is_listing" = true)
    (k__law_is_listing : PySem.W.keepIn K (.ref f__law_is_listing) = true)
    (a__law_is_row : PySem.W.nsIn K mainGlobals "_law_is_row" = some (some (.ref f__law_is_row)))
    (l__law_is_row : K.lookup f__law_is_row = some ⟨oc__law_is_row, od__law_is_row, .func (PySem.W.fnOf "_law_is_row" "_law_is_row" (defArgs s__law_is_row) (defBody s__law_is_row) (defScope s__law_is_row) .none kV__law_is_row dc__law_is_row pm__law_is_row an__law_is_row cd__law_is_row ct__law_is_row), sl__law_is_row⟩)
    (c__law_is_row : PySem.W.codeIn K cd__law_is_row "_law_is_row" = true)
    (k__law_is_row : PySem.W.keepIn K (.ref f__law_is_row) = true)
    (a__law_bent : PySem.W.nsIn K mainGlobals "_law_bent" = some (some (.ref f__law_bent)))
    (l__law_bent : K.lookup f__law_bent = some ⟨oc__law_bent, od__law_bent, .func (PySem.W.fnOf "_law_bent" "_law_bent" (defArgs s__law_bent) (defBody s__law_bent) (defScope s__law_bent) .none kV__law_bent dc__law_bent pm__law_bent an__law_bent cd__law_bent ct__law_bent), sl__law_bent⟩)
    (c__law_bent : PySem.W.codeIn K cd__law_bent "_law_bent" = true)
    (k__law_bent : PySem.W.keepIn K (.ref f__law_bent) = true)
    (a__law_drawn_shapes : PySem.W.nsIn K mainGlobals "_law_drawn_shapes" = some (some (.ref f__law_drawn_shapes)))
    (l__law_drawn_shapes : K.lookup f__law_drawn_shapes = some ⟨oc__law_drawn_shapes, od__law_drawn_shapes, .func (PySem.W.fnOf "_law_drawn_shapes" "_law_drawn_shapes" (defArgs s__law_drawn_shapes) (defBody s__law_drawn_shapes) (defScope s__law_drawn_shapes) .none kV__law_drawn_shapes dc__law_drawn_shapes pm__law_drawn_shapes an__law_drawn_shapes cd__law_drawn_shapes ct__law_drawn_shapes), sl__law_drawn_shapes⟩)
    (c__law_drawn_shapes : PySem.W.codeIn K cd__law_drawn_shapes "_law_drawn_shapes" = true)
    (k__law_drawn_shapes : PySem.W.keepIn K (.ref f__law_drawn_shapes) = true)
    (a__law_drawn_joints : PySem.W.nsIn K mainGlobals "_law_drawn_joints" = some (some (.ref f__law_drawn_joints)))
    (l__law_drawn_joints : K.lookup f__law_drawn_joints = some ⟨oc__law_drawn_joints, od__law_drawn_joints, .func (PySem.W.fnOf "_law_drawn_joints" "_law_drawn_joints" (defArgs s__law_drawn_joints) (defBody s__law_drawn_joints) (defScope s__law_drawn_joints) .none kV__law_drawn_joints dc__law_drawn_joints pm__law_drawn_joints an__law_drawn_joints cd__law_drawn_joints ct__law_drawn_joints), sl__law_drawn_joints⟩)
    (c__law_drawn_joints : PySem.W.codeIn K cd__law_drawn_joints "_law_drawn_joints" = true)
    (k__law_drawn_joints : PySem.W.keepIn K (.ref f__law_drawn_joints) = true)
    (a__law_missing : PySem.W.nsIn K mainGlobals "_law_missing" = some (some (.ref f__law_missing)))
    (l__law_missing : K.lookup f__law_missing = some ⟨oc__law_missing, od__law_missing, .func (PySem.W.fnOf "_law_missing" "_law_missing" (defArgs s__law_missing) (defBody s__law_missing) (defScope s__law_missing) .none kV__law_missing dc__law_missing pm__law_missing an__law_missing cd__law_missing ct__law_missing), sl__law_missing⟩)
    (c__law_missing : PySem.W.codeIn K cd__law_missing "_law_missing" = true)
    (k__law_missing : PySem.W.keepIn K (.ref f__law_missing) = true)
    (a__law_wrong_bag : PySem.W.nsIn K mainGlobals "_law_wrong_bag" = some (some (.ref f__law_wrong_bag)))
    (l__law_wrong_bag : K.lookup f__law_wrong_bag = some ⟨oc__law_wrong_bag, od__law_wrong_bag, .func (PySem.W.fnOf "_law_wrong_bag" "_law_wrong_bag" (defArgs s__law_wrong_bag) (defBody s__law_wrong_bag) (defScope s__law_wrong_bag) .none kV__law_wrong_bag dc__law_wrong_bag pm__law_wrong_bag an__law_wrong_bag cd__law_wrong_bag ct__law_wrong_bag), sl__law_wrong_bag⟩)
    (c__law_wrong_bag : PySem.W.codeIn K cd__law_wrong_bag "_law_wrong_bag" = true)
    (k__law_wrong_bag : PySem.W.keepIn K (.ref f__law_wrong_bag) = true)
    (a__law_refused : PySem.W.nsIn K mainGlobals "_law_refused" = some (some (.ref f__law_refused)))
    (l__law_refused : K.lookup f__law_refused = some ⟨oc__law_refused, od__law_refused, .func (PySem.W.fnOf "_law_refused" "_law_refused" (defArgs s__law_refused) (defBody s__law_refused) (defScope s__law_refused) .none kV__law_refused dc__law_refused pm__law_refused an__law_refused cd__law_refused ct__law_refused), sl__law_refused⟩)
    (c__law_refused : PySem.W.codeIn K cd__law_refused "_law_refused" = true)
    (k__law_refused : PySem.W.keepIn K (.ref f__law_refused) = true)
    (a__law_told_right : PySem.W.nsIn K mainGlobals "_law_told_right" = some (some (.ref f__law_told_right)))
    (l__law_told_right : K.lookup f__law_told_right = some ⟨oc__law_told_right, od__law_told_right, .func (PySem.W.fnOf "_law_told_right" "_law_told_right" (defArgs s__law_told_right) (defBody s__law_told_right) (defScope s__law_told_right) .none kV__law_told_right dc__law_told_right pm__law_told_right an__law_told_right (.ref cc) ct__law_told_right), sl__law_told_right⟩)
    (c__law_told_right : PySem.W.codeIn K (.ref cc) "_law_told_right" = true)
    (k__law_told_right : PySem.W.keepIn K (.ref f__law_told_right) = true)
    (hc__law_told_right : PySem.W.codeHdIn K cc T0 = true)
    (n_T0 : K.lookup T0 = Option.none)
    (a_law : PySem.W.nsIn K mainGlobals "law" = some (some (.ref f_law)))
    (l_law : K.lookup f_law = some ⟨oc_law, od_law, .func (PySem.W.fnOf "law" "law" (defArgs s_law) (defBody s_law) (defScope s_law) .none kV_law dc_law pm_law an_law cd_law ct_law), sl_law⟩)
    (c_law : PySem.W.codeIn K cd_law "law" = true)
    (k_law : PySem.W.keepIn K (.ref f_law) = true)
    (a_first_wrong_books : PySem.W.nsIn K mainGlobals "first_wrong_books" = some (some (.ref f_first_wrong_books)))
    (l_first_wrong_books : K.lookup f_first_wrong_books = some ⟨oc_first_wrong_books, od_first_wrong_books, .func (PySem.W.fnOf "first_wrong" "first_wrong" (defArgs s_first_wrong_books) (defBody s_first_wrong_books) (defScope s_first_wrong_books) .none kV_first_wrong_books dc_first_wrong_books pm_first_wrong_books an_first_wrong_books cd_first_wrong_books ct_first_wrong_books), sl_first_wrong_books⟩)
    (c_first_wrong_books : PySem.W.codeIn K cd_first_wrong_books "first_wrong" = true)
    (k_first_wrong_books : PySem.W.keepIn K (.ref f_first_wrong_books) = true)
    (a_first_wrong_bags : PySem.W.nsIn K mainGlobals "first_wrong_bags" = some (some (.ref f_first_wrong_bags)))
    (l_first_wrong_bags : K.lookup f_first_wrong_bags = some ⟨oc_first_wrong_bags, od_first_wrong_bags, .func (PySem.W.fnOf "first_wrong" "first_wrong" (defArgs s_first_wrong_bags) (defBody s_first_wrong_bags) (defScope s_first_wrong_bags) .none kV_first_wrong_bags dc_first_wrong_bags pm_first_wrong_bags an_first_wrong_bags cd_first_wrong_bags ct_first_wrong_bags), sl_first_wrong_bags⟩)
    (c_first_wrong_bags : PySem.W.codeIn K cd_first_wrong_bags "first_wrong" = true)
    (k_first_wrong_bags : PySem.W.keepIn K (.ref f_first_wrong_bags) = true)
    (z_LookupError : PySem.W.nsIn K mainGlobals "LookupError" = some none)
    (z_ValueError : PySem.W.nsIn K mainGlobals "ValueError" = some none)
    (z_abs : PySem.W.nsIn K mainGlobals "abs" = some none)
    (z_all : PySem.W.nsIn K mainGlobals "all" = some none)
    (z_enumerate : PySem.W.nsIn K mainGlobals "enumerate" = some none)
    (z_int : PySem.W.nsIn K mainGlobals "int" = some none)
    (z_isinstance : PySem.W.nsIn K mainGlobals "isinstance" = some none)
    (z_len : PySem.W.nsIn K mainGlobals "len" = some none)
    (z_list : PySem.W.nsIn K mainGlobals "list" = some none)
    (z_max : PySem.W.nsIn K mainGlobals "max" = some none)
    (z_range : PySem.W.nsIn K mainGlobals "range" = some none)
    (z_repr : PySem.W.nsIn K mainGlobals "repr" = some none)
    (z_str : PySem.W.nsIn K mainGlobals "str" = some none)
    (z_super : PySem.W.nsIn K mainGlobals "super" = some none)
    (z_tuple : PySem.W.nsIn K mainGlobals "tuple" = some none)
    (s_LETTERS : PySem.W.nsIn K mainGlobals "LETTERS" = some (some (.str "abcdefghijklmnopqrstuvwxyz" t_LETTERS)))
    (s_DIGITS : PySem.W.nsIn K mainGlobals "DIGITS" = some (some (.str "0123456789" t_DIGITS)))
    (a_BushError : PySem.W.nsIn K mainGlobals "BushError" = some (some (.ref C_BushError)))
    (x_BushError : K.lookup C_BushError = some (excClassObj nm_BushError q_BushError C_BushError N_BushError bs_BushError [.type "ValueError", .type "Exception", .type "BaseException", .type "object"] true sn_BushError sub_BushError ab_BushError col_BushError dd_BushError m0_BushError m1_BushError m2_BushError m3_BushError m5_BushError "ValueError.__new__"))
    (fi_BushError : PySem.W.findIn K (.ref C_BushError) "__init__" = some (some (.builtin "ValueError.__init__")))
    (a_NameMissing : PySem.W.nsIn K mainGlobals "NameMissing" = some (some (.ref C_NameMissing)))
    (x_NameMissing : K.lookup C_NameMissing = some (excClassObj nm_NameMissing q_NameMissing C_NameMissing N_NameMissing bs_NameMissing [.type "LookupError", .type "Exception", .type "BaseException", .type "object"] true sn_NameMissing sub_NameMissing ab_NameMissing col_NameMissing dd_NameMissing m0_NameMissing m1_NameMissing m2_NameMissing m3_NameMissing m5_NameMissing "LookupError.__new__"))
    (fi_NameMissing : PySem.W.findIn K (.ref C_NameMissing) "__init__" = some (some (.builtin "LookupError.__init__")))
    (a_BadBook : PySem.W.nsIn K mainGlobals "BadBook" = some (some (.ref C_BadBook)))
    (x_BadBook : K.lookup C_BadBook = some (excClassObj nm_BadBook q_BadBook C_BadBook N_BadBook bs_BadBook [.ref C_BushError, .type "ValueError", .type "Exception", .type "BaseException", .type "object"] true sn_BadBook sub_BadBook ab_BadBook col_BadBook dd_BadBook m0_BadBook m1_BadBook m2_BadBook m3_BadBook m5_BadBook "ValueError.__new__"))
    (sa_BadBook : PySem.W.findIn K (.ref C_BadBook) "__setattr__" = some (some (.builtin "object.__setattr__")))
    (kc_BadBook : PySem.W.keepIn K (.ref C_BadBook) = true)
    (ex_BadBook : PySem.W.subIn K (.ref C_BadBook) (.type "BaseException") = some true)
    (ty_BadBook : PySem.W.typeIn K (.ref C_BadBook) = some (.type "type"))
    (sb_BadBook : PySem.W.subIn K (.ref C_BadBook) (.type "ValueError") = some true)
    (ga_BadBook : PySem.W.findIn K (.ref C_BadBook) "__getattribute__" = some (some (.builtin "BaseException.__getattribute__")))
    (gg_BadBook : PySem.W.findIn K (.ref C_BadBook) "__getattr__" = some none)
    (hd_BadBook : PySem.W.hasDictIn K C_BadBook = true)
    (is_BadBook : PySem.W.isClsIn K C_BadBook = true)
    (mr_BadBook : PySem.W.mroIn K C_BadBook (.ref C_BadBook) = some true)
    (em_BadBook : PySem.W.exmOne K (.ref C_BadBook) (.ref C_BadBook) = some true)
    (i_BadBook : PySem.W.findIn K (.ref C_BadBook) "__init__" = some (some (.ref f_BadBook)))
    (t_BadBook : PySem.W.typeIn K (.ref f_BadBook) = some (.type "function"))
    (no_BadBook_path : PySem.W.findIn K (.ref C_BadBook) "path" = some none)
    (l_BadBook : K.lookup f_BadBook = some ⟨oc_BadBook, od_BadBook, .func (PySem.W.fnX "__init__" "BadBook.__init__" (defArgs s_BadBook) (defBody s_BadBook) (defScope s_BadBook) [("__class__", cc_BadBook)] .none kV_BadBook dc_BadBook pm_BadBook an_BadBook (.ref cda_BadBook) ct_BadBook), osl_BadBook⟩)
    (c_BadBook : PySem.W.codeIn K (.ref cda_BadBook) "BadBook.__init__" = true)
    (lc_BadBook : K.lookup cda_BadBook = some ⟨ccl_BadBook, cdd_BadBook, .fields vs_BadBook, ccs_BadBook⟩)
    (lv_BadBook : vs_BadBook[2]? = some (.str file_BadBook tf_BadBook))
    (lf_BadBook : ((l.prog.main.file : Str) == file_BadBook) = true)
    (le_BadBook : K.lookup cc_BadBook = some ⟨cl_BadBook, cld_BadBook, .cell (some (.ref C_BadBook)), csl_BadBook⟩)
    (a_BadBag : PySem.W.nsIn K mainGlobals "BadBag" = some (some (.ref C_BadBag)))
    (x_BadBag : K.lookup C_BadBag = some (excClassObj nm_BadBag q_BadBag C_BadBag N_BadBag bs_BadBag [.ref C_BushError, .type "ValueError", .type "Exception", .type "BaseException", .type "object"] true sn_BadBag sub_BadBag ab_BadBag col_BadBag dd_BadBag m0_BadBag m1_BadBag m2_BadBag m3_BadBag m5_BadBag "ValueError.__new__"))
    (sa_BadBag : PySem.W.findIn K (.ref C_BadBag) "__setattr__" = some (some (.builtin "object.__setattr__")))
    (kc_BadBag : PySem.W.keepIn K (.ref C_BadBag) = true)
    (ex_BadBag : PySem.W.subIn K (.ref C_BadBag) (.type "BaseException") = some true)
    (ty_BadBag : PySem.W.typeIn K (.ref C_BadBag) = some (.type "type"))
    (sb_BadBag : PySem.W.subIn K (.ref C_BadBag) (.type "ValueError") = some true)
    (ga_BadBag : PySem.W.findIn K (.ref C_BadBag) "__getattribute__" = some (some (.builtin "BaseException.__getattribute__")))
    (gg_BadBag : PySem.W.findIn K (.ref C_BadBag) "__getattr__" = some none)
    (hd_BadBag : PySem.W.hasDictIn K C_BadBag = true)
    (is_BadBag : PySem.W.isClsIn K C_BadBag = true)
    (mr_BadBag : PySem.W.mroIn K C_BadBag (.ref C_BadBag) = some true)
    (em_BadBag : PySem.W.exmOne K (.ref C_BadBag) (.ref C_BadBag) = some true)
    (i_BadBag : PySem.W.findIn K (.ref C_BadBag) "__init__" = some (some (.ref f_BadBag)))
    (t_BadBag : PySem.W.typeIn K (.ref f_BadBag) = some (.type "function"))
    (no_BadBag_path : PySem.W.findIn K (.ref C_BadBag) "path" = some none)
    (l_BadBag : K.lookup f_BadBag = some ⟨oc_BadBag, od_BadBag, .func (PySem.W.fnX "__init__" "BadBag.__init__" (defArgs s_BadBag) (defBody s_BadBag) (defScope s_BadBag) [("__class__", cc_BadBag)] .none kV_BadBag dc_BadBag pm_BadBag an_BadBag (.ref cda_BadBag) ct_BadBag), osl_BadBag⟩)
    (c_BadBag : PySem.W.codeIn K (.ref cda_BadBag) "BadBag.__init__" = true)
    (lc_BadBag : K.lookup cda_BadBag = some ⟨ccl_BadBag, cdd_BadBag, .fields vs_BadBag, ccs_BadBag⟩)
    (lv_BadBag : vs_BadBag[2]? = some (.str file_BadBag tf_BadBag))
    (lf_BadBag : ((l.prog.main.file : Str) == file_BadBag) = true)
    (le_BadBag : K.lookup cc_BadBag = some ⟨cl_BadBag, cld_BadBag, .cell (some (.ref C_BadBag)), csl_BadBag⟩)
    (a_UnknownName : PySem.W.nsIn K mainGlobals "UnknownName" = some (some (.ref C_UnknownName)))
    (x_UnknownName : K.lookup C_UnknownName = some (excClassObj nm_UnknownName q_UnknownName C_UnknownName N_UnknownName bs_UnknownName [.ref C_NameMissing, .type "LookupError", .type "Exception", .type "BaseException", .type "object"] true sn_UnknownName sub_UnknownName ab_UnknownName col_UnknownName dd_UnknownName m0_UnknownName m1_UnknownName m2_UnknownName m3_UnknownName m5_UnknownName "LookupError.__new__"))
    (sa_UnknownName : PySem.W.findIn K (.ref C_UnknownName) "__setattr__" = some (some (.builtin "object.__setattr__")))
    (kc_UnknownName : PySem.W.keepIn K (.ref C_UnknownName) = true)
    (ex_UnknownName : PySem.W.subIn K (.ref C_UnknownName) (.type "BaseException") = some true)
    (ty_UnknownName : PySem.W.typeIn K (.ref C_UnknownName) = some (.type "type"))
    (sb_UnknownName : PySem.W.subIn K (.ref C_UnknownName) (.type "LookupError") = some true)
    (ga_UnknownName : PySem.W.findIn K (.ref C_UnknownName) "__getattribute__" = some (some (.builtin "BaseException.__getattribute__")))
    (gg_UnknownName : PySem.W.findIn K (.ref C_UnknownName) "__getattr__" = some none)
    (hd_UnknownName : PySem.W.hasDictIn K C_UnknownName = true)
    (is_UnknownName : PySem.W.isClsIn K C_UnknownName = true)
    (mr_UnknownName : PySem.W.mroIn K C_UnknownName (.ref C_UnknownName) = some true)
    (em_UnknownName : PySem.W.exmOne K (.ref C_UnknownName) (.ref C_UnknownName) = some true)
    (i_UnknownName : PySem.W.findIn K (.ref C_UnknownName) "__init__" = some (some (.ref f_UnknownName)))
    (t_UnknownName : PySem.W.typeIn K (.ref f_UnknownName) = some (.type "function"))
    (no_UnknownName_name : PySem.W.findIn K (.ref C_UnknownName) "name" = some none)
    (l_UnknownName : K.lookup f_UnknownName = some ⟨oc_UnknownName, od_UnknownName, .func (PySem.W.fnX "__init__" "UnknownName.__init__" (defArgs s_UnknownName) (defBody s_UnknownName) (defScope s_UnknownName) [("__class__", cc_UnknownName)] .none kV_UnknownName dc_UnknownName pm_UnknownName an_UnknownName (.ref cda_UnknownName) ct_UnknownName), osl_UnknownName⟩)
    (c_UnknownName : PySem.W.codeIn K (.ref cda_UnknownName) "UnknownName.__init__" = true)
    (lc_UnknownName : K.lookup cda_UnknownName = some ⟨ccl_UnknownName, cdd_UnknownName, .fields vs_UnknownName, ccs_UnknownName⟩)
    (lv_UnknownName : vs_UnknownName[2]? = some (.str file_UnknownName tf_UnknownName))
    (lf_UnknownName : ((l.prog.main.file : Str) == file_UnknownName) = true)
    (le_UnknownName : K.lookup cc_UnknownName = some ⟨cl_UnknownName, cld_UnknownName, .cell (some (.ref C_UnknownName)), csl_UnknownName⟩)
    (op : PySem.W.nsIn K cStatics "thirdparty.any" = some none)
    (nt : (l.prog.main.scope.names.lookup ("super" : Str)).isSome = false)
    (ko_NoneType : PySem.W.kitOne K (.type "NoneType") (.ref C_Book) = some false)
    (kn_NoneType : PySem.W.notFirst K C_Book (.type "NoneType") = true)
    (ko_int : PySem.W.kitOne K (.type "int") (.ref C_Book) = some false)
    (kn_int : PySem.W.notFirst K C_Book (.type "int") = true)
    (ko_list : PySem.W.kitOne K (.type "list") (.ref C_Book) = some false)
    (kn_list : PySem.W.notFirst K C_Book (.type "list") = true)
    (ko_tuple : PySem.W.kitOne K (.type "tuple") (.ref C_Book) = some false)
    (kn_tuple : PySem.W.notFirst K C_Book (.type "tuple") = true)
    (go_NoneType : PySem.W.kitOne K (.type "NoneType") (.ref C_Bag) = some false)
    (gn_NoneType : PySem.W.notFirst K C_Bag (.type "NoneType") = true)
    (go_int : PySem.W.kitOne K (.type "int") (.ref C_Bag) = some false)
    (gn_int : PySem.W.notFirst K C_Bag (.type "int") = true)
    (go_list : PySem.W.kitOne K (.type "list") (.ref C_Bag) = some false)
    (gn_list : PySem.W.notFirst K C_Bag (.type "list") = true)
    (go_tuple : PySem.W.kitOne K (.type "tuple") (.ref C_Bag) = some false)
    (gn_tuple : PySem.W.notFirst K C_Bag (.type "tuple") = true)
    (go_Book : PySem.W.kitOne K (.ref C_Book) (.ref C_Bag) = some false)
    (gn_Book : PySem.W.notFirst K C_Bag (.ref C_Book) = true) :
    ∃ (fd : FuncData) (c : Addr), PySem.W.codeHdIn K c T0 = true ∧ K.lookup T0 = Option.none ∧ (∀ (s : Shared) (u : Value), BindsTo s fd ⟨[u], []⟩ [("_law_script", u)]) ∧ ∀ base : Heap, K.In base → base.Ns mainGlobals mg → SysB base → LamX.TabB base mg c T0 → FnOkG l.prog w K mg base 8 fa fd ["_law_script"] (spLawT K T0) := by
  have e := hfa.symm.trans (PySem.W.mg_of X G a_law)
  cases e
  have g_Book := PySem.W.mg_of X G a_Book
  obtain rfl : C_Book = clsOf mg "Book" := by
    unfold clsOf
    rw [g_Book]
  have g_Bag := PySem.W.mg_of X G a_Bag
  obtain rfl : C_Bag = clsOf mg "Bag" := by
    unfold clsOf
    rw [g_Bag]
  have no_Book := ns_ok ln_Book le_Book la_Book
  have F_Book___init__ := fun_mk (st := s_Book___init__) l_Book___init__ c_Book___init__ k_Book___init__
  have b_Book___init__ := F_Book___init__.binds (ps := ["self", "shapes"]) fun _ _ _ _ _ _ us hl => match us, hl with | [_, _], _ => rfl
  have F_Book___eq__ := fun_mk (st := s_Book___eq__) l_Book___eq__ c_Book___eq__ k_Book___eq__
  have b_Book___eq__ := F_Book___eq__.binds (ps := ["self", "other"]) fun _ _ _ _ _ _ us hl => match us, hl with | [_, _], _ => rfl
  have F_Book_shapes := fun_mk (st := s_Book_shapes) l_Book_shapes c_Book_shapes k_Book_shapes
  have b_Book_shapes := F_Book_shapes.binds (ps := ["self"]) fun _ _ _ _ _ _ us hl => match us, hl with | [_], _ => rfl
  have F_Book_words := fun_mk (st := s_Book_words) l_Book_words c_Book_words k_Book_words
  have b_Book_words := F_Book_words.binds (ps := ["self"]) fun _ _ _ _ _ _ us hl => match us, hl with | [_], _ => rfl
  have F_Book_shape := fun_mk (st := s_Book_shape) l_Book_shape c_Book_shape k_Book_shape
  have b_Book_shape := F_Book_shape.binds (ps := ["self", "word"]) fun _ _ _ _ _ _ us hl => match us, hl with | [_, _], _ => rfl
  have no_Bag := ns_ok ln_Bag le_Bag la_Bag
  have F_Bag___init__ := fun_mk (st := s_Bag___init__) l_Bag___init__ c_Bag___init__ k_Bag___init__
  have b_Bag___init__ := F_Bag___init__.binds (ps := ["self", "book", "joints"]) fun _ _ _ _ _ _ us hl => match us, hl with | [_, _, _], _ => rfl
  have F_Bag___eq__ := fun_mk (st := s_Bag___eq__) l_Bag___eq__ c_Bag___eq__ k_Bag___eq__
  have b_Bag___eq__ := F_Bag___eq__.binds (ps := ["self", "other"]) fun _ _ _ _ _ _ us hl => match us, hl with | [_, _], _ => rfl
  have F_Bag_book := fun_mk (st := s_Bag_book) l_Bag_book c_Bag_book k_Bag_book
  have b_Bag_book := F_Bag_book.binds (ps := ["self"]) fun _ _ _ _ _ _ us hl => match us, hl with | [_], _ => rfl
  have F_Bag_joints := fun_mk (st := s_Bag_joints) l_Bag_joints c_Bag_joints k_Bag_joints
  have b_Bag_joints := F_Bag_joints.binds (ps := ["self"]) fun _ _ _ _ _ _ us hl => match us, hl with | [_], _ => rfl
  have F_Bag_names := fun_mk (st := s_Bag_names) l_Bag_names c_Bag_names k_Bag_names
  have b_Bag_names := F_Bag_names.binds (ps := ["self"]) fun _ _ _ _ _ _ us hl => match us, hl with | [_], _ => rfl
  have F_Bag_has_name := fun_mk (st := s_Bag_has_name) l_Bag_has_name c_Bag_has_name k_Bag_has_name
  have b_Bag_has_name := F_Bag_has_name.binds (ps := ["self", "name"]) fun _ _ _ _ _ _ us hl => match us, hl with | [_, _], _ => rfl
  have F_Bag_shape := fun_mk (st := s_Bag_shape) l_Bag_shape c_Bag_shape k_Bag_shape
  have b_Bag_shape := F_Bag_shape.binds (ps := ["self", "name"]) fun _ _ _ _ _ _ us hl => match us, hl with | [_, _], _ => rfl
  have F_Bag_word := fun_mk (st := s_Bag_word) l_Bag_word c_Bag_word k_Bag_word
  have b_Bag_word := F_Bag_word.binds (ps := ["self", "name"]) fun _ _ _ _ _ _ us hl => match us, hl with | [_, _], _ => rfl
  have F_Bag_stem := fun_mk (st := s_Bag_stem) l_Bag_stem c_Bag_stem k_Bag_stem
  have b_Bag_stem := F_Bag_stem.binds (ps := ["self", "name"]) fun _ _ _ _ _ _ us hl => match us, hl with | [_, _], _ => rfl
  have F_Bag_branches := fun_mk (st := s_Bag_branches) l_Bag_branches c_Bag_branches k_Bag_branches
  have b_Bag_branches := F_Bag_branches.binds (ps := ["self", "name"]) fun _ _ _ _ _ _ us hl => match us, hl with | [_, _], _ => rfl
  have F_Bag_stock := fun_mk (st := s_Bag_stock) l_Bag_stock c_Bag_stock k_Bag_stock
  have b_Bag_stock := F_Bag_stock.binds (ps := ["self"]) fun _ _ _ _ _ _ us hl => match us, hl with | [_], _ => rfl
  have F_is_word := fun_mk (st := s_is_word) l_is_word c_is_word k_is_word
  have b_is_word := F_is_word.binds (ps := ["value"]) fun _ _ _ _ _ _ us hl => match us, hl with | [_], _ => rfl
  have F_is_list := fun_mk (st := s_is_list) l_is_list c_is_list k_is_list
  have b_is_list := F_is_list.binds (ps := ["value"]) fun _ _ _ _ _ _ us hl => match us, hl with | [_], _ => rfl
  have F_is_row := fun_mk (st := s_is_row) l_is_row c_is_row k_is_row
  have b_is_row := F_is_row.binds (ps := ["value", "many"]) fun _ _ _ _ _ _ us hl => match us, hl with | [_, _], _ => rfl
  have F_wrong_shape := fun_mk (st := s_wrong_shape) l_wrong_shape c_wrong_shape k_wrong_shape
  have b_wrong_shape := F_wrong_shape.binds (ps := ["shape", "path", "words"]) fun _ _ _ _ _ _ us hl => match us, hl with | [_, _, _], _ => rfl
  have F__law_source := fun_mk (st := s__law_source) l__law_source c__law_source k__law_source
  have b__law_source := F__law_source.binds (ps := ["_law_script"]) fun _ _ _ _ _ _ us hl => match us, hl with | [_], _ => rfl
  have F__law_pick := fun_mk (st := s__law_pick) l__law_pick c__law_pick k__law_pick
  have b__law_pick := F__law_pick.binds (ps := ["_law_source_here", "_law_many"]) fun _ _ _ _ _ _ us hl => match us, hl with | [_, _], _ => rfl
  have F__law_of := fun_mk (st := s__law_of) l__law_of c__law_of k__law_of
  have b__law_of := F__law_of.binds (ps := ["_law_source_here", "_law_some"]) fun _ _ _ _ _ _ us hl => match us, hl with | [_, _], _ => rfl
  have F__law_mixed := fun_mk (st := s__law_mixed) l__law_mixed c__law_mixed k__law_mixed
  have b__law_mixed := F__law_mixed.binds (ps := ["_law_source_here", "_law_things"]) fun _ _ _ _ _ _ us hl => match us, hl with | [_, _], _ => rfl
  have F__law_names := fun_mk (st := s__law_names) l__law_names c__law_names k__law_names
  have b__law_names := F__law_names.binds (ps := ["_law_source_here", "_law_many"]) fun _ _ _ _ _ _ us hl => match us, hl with | [_, _], _ => rfl
  have F__law_shapes := fun_mk (st := s__law_shapes) l__law_shapes c__law_shapes k__law_shapes
  have b__law_shapes := F__law_shapes.binds (ps := ["_law_source_here", "_law_most"]) fun _ _ _ _ _ _ us hl => match us, hl with | [_, _], _ => rfl
  have F__law_is_word := fun_mk (st := s__law_is_word) l__law_is_word c__law_is_word k__law_is_word
  have b__law_is_word := F__law_is_word.binds (ps := ["_law_value"]) fun _ _ _ _ _ _ us hl => match us, hl with | [_], _ => rfl
  have F__law_is_listing := fun_mk (st := s__law_is_listing) l__law_is_listing c__law_is_listing k__law_is_listing
  have b__law_is_listing := F__law_is_listing.binds (ps := ["_law_value"]) fun _ _ _ _ _ _ us hl => match us, hl with | [_], _ => rfl
  have F__law_is_row := fun_mk (st := s__law_is_row) l__law_is_row c__law_is_row k__law_is_row
  have b__law_is_row := F__law_is_row.binds (ps := ["_law_value", "_law_many"]) fun _ _ _ _ _ _ us hl => match us, hl with | [_, _], _ => rfl
  have F__law_bent := fun_mk (st := s__law_bent) l__law_bent c__law_bent k__law_bent
  have b__law_bent := F__law_bent.binds (ps := ["_law_source_here", "_law_value", "_law_deep", "_law_odd"]) fun _ _ _ _ _ _ us hl => match us, hl with | [_, _, _, _], _ => rfl
  have F__law_drawn_shapes := fun_mk (st := s__law_drawn_shapes) l__law_drawn_shapes c__law_drawn_shapes k__law_drawn_shapes
  have b__law_drawn_shapes := F__law_drawn_shapes.binds (ps := ["_law_source_here"]) fun _ _ _ _ _ _ us hl => match us, hl with | [_], _ => rfl
  have F__law_drawn_joints := fun_mk (st := s__law_drawn_joints) l__law_drawn_joints c__law_drawn_joints k__law_drawn_joints
  have b__law_drawn_joints := F__law_drawn_joints.binds (ps := ["_law_source_here", "_law_shapes_here"]) fun _ _ _ _ _ _ us hl => match us, hl with | [_, _], _ => rfl
  have F__law_missing := fun_mk (st := s__law_missing) l__law_missing c__law_missing k__law_missing
  have b__law_missing := F__law_missing.binds (ps := ["_law_call"]) fun _ _ _ _ _ _ us hl => match us, hl with | [_], _ => rfl
  have F__law_wrong_bag := fun_mk (st := s__law_wrong_bag) l__law_wrong_bag c__law_wrong_bag k__law_wrong_bag
  have b__law_wrong_bag := F__law_wrong_bag.binds (ps := ["_law_shapes_here", "_law_joints"]) fun _ _ _ _ _ _ us hl => match us, hl with | [_, _], _ => rfl
  have F__law_refused := fun_mk (st := s__law_refused) l__law_refused c__law_refused k__law_refused
  have b__law_refused := F__law_refused.binds (ps := ["_law_book", "_law_joints"]) fun _ _ _ _ _ _ us hl => match us, hl with | [_, _], _ => rfl
  have F__law_told_right := fun_mk (st := s__law_told_right) l__law_told_right c__law_told_right k__law_told_right
  have b__law_told_right := F__law_told_right.binds (ps := ["_law_bag", "_law_shapes_here", "_law_joints"]) fun _ _ _ _ _ _ us hl => match us, hl with | [_, _, _], _ => rfl
  have F_law := fun_mk (st := s_law) l_law c_law k_law
  have b_law := F_law.binds (ps := ["_law_script"]) fun _ _ _ _ _ _ us hl => match us, hl with | [_], _ => rfl
  have F_first_wrong_books := fun_mk (st := s_first_wrong_books) l_first_wrong_books c_first_wrong_books k_first_wrong_books
  have b_first_wrong_books := F_first_wrong_books.binds (ps := ["shapes"]) fun _ _ _ _ _ _ us hl => match us, hl with | [_], _ => rfl
  have F_first_wrong_bags := fun_mk (st := s_first_wrong_bags) l_first_wrong_bags c_first_wrong_bags k_first_wrong_bags
  have b_first_wrong_bags := F_first_wrong_bags.binds (ps := ["book", "joints"]) fun _ _ _ _ _ _ us hl => match us, hl with | [_, _], _ => rfl
  have g_is_word := PySem.W.mg_of X G a_is_word
  have g_is_list := PySem.W.mg_of X G a_is_list
  have g_is_row := PySem.W.mg_of X G a_is_row
  have g_wrong_shape := PySem.W.mg_of X G a_wrong_shape
  have g__law_source := PySem.W.mg_of X G a__law_source
  have g__law_pick := PySem.W.mg_of X G a__law_pick
  have g__law_of := PySem.W.mg_of X G a__law_of
  have g__law_mixed := PySem.W.mg_of X G a__law_mixed
  have g__law_names := PySem.W.mg_of X G a__law_names
  have g__law_shapes := PySem.W.mg_of X G a__law_shapes
  have g__law_is_word := PySem.W.mg_of X G a__law_is_word
  have g__law_is_listing := PySem.W.mg_of X G a__law_is_listing
  have g__law_is_row := PySem.W.mg_of X G a__law_is_row
  have g__law_bent := PySem.W.mg_of X G a__law_bent
  have g__law_drawn_shapes := PySem.W.mg_of X G a__law_drawn_shapes
  have g__law_drawn_joints := PySem.W.mg_of X G a__law_drawn_joints
  have g__law_missing := PySem.W.mg_of X G a__law_missing
  have g__law_wrong_bag := PySem.W.mg_of X G a__law_wrong_bag
  have g__law_refused := PySem.W.mg_of X G a__law_refused
  have g__law_told_right := PySem.W.mg_of X G a__law_told_right
  have g_law := PySem.W.mg_of X G a_law
  have g_first_wrong_books := PySem.W.mg_of X G a_first_wrong_books
  have g_first_wrong_bags := PySem.W.mg_of X G a_first_wrong_bags
  have n_LookupError := PySem.W.mg_none_of X G z_LookupError
  have n_ValueError := PySem.W.mg_none_of X G z_ValueError
  have n_abs := PySem.W.mg_none_of X G z_abs
  have n_all := PySem.W.mg_none_of X G z_all
  have n_enumerate := PySem.W.mg_none_of X G z_enumerate
  have n_int := PySem.W.mg_none_of X G z_int
  have n_isinstance := PySem.W.mg_none_of X G z_isinstance
  have n_len := PySem.W.mg_none_of X G z_len
  have n_list := PySem.W.mg_none_of X G z_list
  have n_max := PySem.W.mg_none_of X G z_max
  have n_range := PySem.W.mg_none_of X G z_range
  have n_repr := PySem.W.mg_none_of X G z_repr
  have n_str := PySem.W.mg_none_of X G z_str
  have n_super := PySem.W.mg_none_of X G z_super
  have n_tuple := PySem.W.mg_none_of X G z_tuple
  have g_LETTERS := PySem.W.mg_of X G s_LETTERS
  have g_DIGITS := PySem.W.mg_of X G s_DIGITS
  have g_BushError := PySem.W.mg_of X G a_BushError
  obtain rfl : C_BushError = clsOf mg "BushError" := by
    unfold clsOf
    rw [g_BushError]
  have g_NameMissing := PySem.W.mg_of X G a_NameMissing
  obtain rfl : C_NameMissing = clsOf mg "NameMissing" := by
    unfold clsOf
    rw [g_NameMissing]
  have g_BadBook := PySem.W.mg_of X G a_BadBook
  obtain rfl : C_BadBook = clsOf mg "BadBook" := by
    unfold clsOf
    rw [g_BadBook]
  have g_BadBag := PySem.W.mg_of X G a_BadBag
  obtain rfl : C_BadBag = clsOf mg "BadBag" := by
    unfold clsOf
    rw [g_BadBag]
  have g_UnknownName := PySem.W.mg_of X G a_UnknownName
  obtain rfl : C_UnknownName = clsOf mg "UnknownName" := by
    unfold clsOf
    rw [g_UnknownName]
  have T : Tx K mg := ⟨n_LookupError, n_ValueError, n_abs, n_all, n_enumerate, n_int, n_isinstance, n_len, n_list, n_max, n_range, n_repr, n_str, n_super, n_tuple, ⟨_, g_LETTERS⟩, ⟨_, g_DIGITS⟩⟩
  have X_BadBook := xcls_VE x_BadBook sa_BadBook kc_BadBook ex_BadBook ty_BadBook sb_BadBook
  have I_BadBook := xin_mk (P := l.prog) text_BadBook i_BadBook t_BadBook (fun p hp => by simp only [List.mem_cons, List.not_mem_nil, or_false] at hp; rcases hp with rfl <;> assumption) l_BadBook c_BadBook lc_BadBook lv_BadBook lf_BadBook le_BadBook is_BadBook mr_BadBook (super_mk x_BadBook x_BushError fi_BushError) op nt (fun us hl => match us, hl with | [_, _], _ => rfl)
  have X_BadBag := xcls_VE x_BadBag sa_BadBag kc_BadBag ex_BadBag ty_BadBag sb_BadBag
  have I_BadBag := xin_mk (P := l.prog) text_BadBag i_BadBag t_BadBag (fun p hp => by simp only [List.mem_cons, List.not_mem_nil, or_false] at hp; rcases hp with rfl <;> assumption) l_BadBag c_BadBag lc_BadBag lv_BadBag lf_BadBag le_BadBag is_BadBag mr_BadBag (super_mk x_BadBag x_BushError fi_BushError) op nt (fun us hl => match us, hl with | [_, _], _ => rfl)
  have X_UnknownName := xcls_LE x_UnknownName sa_UnknownName kc_UnknownName ex_UnknownName ty_UnknownName sb_UnknownName
  have I_UnknownName := xin_mk (P := l.prog) text_UnknownName i_UnknownName t_UnknownName (fun p hp => by simp only [List.mem_cons, List.not_mem_nil, or_false] at hp; rcases hp with rfl <;> assumption) l_UnknownName c_UnknownName lc_UnknownName lv_UnknownName lf_UnknownName le_UnknownName is_UnknownName mr_UnknownName (super_mk x_UnknownName x_NameMissing fi_NameMissing) op nt (fun us hl => match us, hl with | [_, _], _ => rfl)
  have o_Book : ∀ T ∈ others, PySem.W.kitOne K (.type T) (.ref (clsOf mg "Book")) = some false := fun T hT => by
    simp only [others, List.mem_cons, List.not_mem_nil, or_false] at hT
    rcases hT with rfl | rfl | rfl | rfl
    · exact ko_NoneType
    · exact ko_int
    · exact ko_list
    · exact ko_tuple
  have nf_Book : ∀ T ∈ others, PySem.W.notFirst K (clsOf mg "Book") (.type T) = true := fun T hT => by
    simp only [others, List.mem_cons, List.not_mem_nil, or_false] at hT
    rcases hT with rfl | rfl | rfl | rfl
    · exact kn_NoneType
    · exact kn_int
    · exact kn_list
    · exact kn_tuple
  have o_Bag : ∀ t ∈ othersG (clsOf mg "Book"), PySem.W.kitOne K t (.ref (clsOf mg "Bag")) = some false := fun t hT => by
    simp only [othersG, List.mem_cons, List.not_mem_nil, or_false] at hT
    rcases hT with rfl | rfl | rfl | rfl | rfl
    · exact go_NoneType
    · exact go_int
    · exact go_list
    · exact go_tuple
    · exact go_Book
  have nf_Bag : ∀ t ∈ othersG (clsOf mg "Book"), PySem.W.notFirst K (clsOf mg "Bag") t = true := fun t hT => by
    simp only [othersG, List.mem_cons, List.not_mem_nil, or_false] at hT
    rcases hT with rfl | rfl | rfl | rfl | rfl
    · exact gn_NoneType
    · exact gn_int
    · exact gn_list
    · exact gn_tuple
    · exact gn_Book
  have U : Tb l.prog K mg := ⟨⟨pg_Book, hd_Book, po_Book, sa_Book⟩, no_Book_rows, ⟨⟨pg_Book, hd_Book, po_Book, sa_Book⟩, kl_Book, spc_class, tak_class, ob_Book, kit_self _ _⟩, g_Book, o_Book, nf_Book, ⟨⟨_, _, _, _, _, X_BadBook, I_BadBook⟩, g_BadBook, n_super, n_tuple⟩, ⟨⟨_, _, _, _, _, X_UnknownName, I_UnknownName⟩, g_UnknownName, n_super, by decide⟩, ⟨ga_BadBook, gg_BadBook, ex_BadBook, hd_BadBook⟩, no_BadBook_path, em_BadBook, ⟨ga_UnknownName, gg_UnknownName, ex_UnknownName, hd_UnknownName⟩, no_UnknownName_name, em_UnknownName, ⟨⟨_, _, _, _, _, X_BadBag, I_BadBag⟩, g_BadBag, n_super, n_tuple⟩, ⟨ga_BadBag, gg_BadBag, ex_BadBag, hd_BadBag⟩, no_BadBag_path, em_BadBag, ⟨pg_Bag, hd_Bag, po_Bag, sa_Bag⟩, no_Bag_own_book, no_Bag_own_joints, no_Bag_own_shapes, ⟨⟨pg_Bag, hd_Bag, po_Bag, sa_Bag⟩, kl_Bag, spc_class, tak_class, ob_Bag, kit_self _ _⟩, g_Bag, o_Bag, nf_Bag⟩
  refine ⟨PySem.W.fnOf "law" "law" (defArgs s_law) (defBody s_law) (defScope s_law) .none kV_law dc_law pm_law an_law cd_law ct_law, cc, hc__law_told_right, n_T0, fun s v => .of_eq rfl, fun base hb gb sb TB => ?_⟩
  have o__law_source := ok__law_source (P := l.prog) (w := w) (base := base) (k := 0) T  F__law_source
  have G__law_source : FnT l.prog w K mg base 1 "_law_source" ["_law_script"] _ := ⟨⟨_, _, g__law_source, k__law_source, b__law_source, o__law_source⟩⟩
  have o__law_pick := ok__law_pick (P := l.prog) (w := w) (base := base) (k := 0) T  F__law_pick
  have G__law_pick : FnT l.prog w K mg base 1 "_law_pick" ["_law_source_here", "_law_many"] _ := ⟨⟨_, _, g__law_pick, k__law_pick, b__law_pick, o__law_pick⟩⟩
  have o_is_word := ok_is_word (P := l.prog) (w := w) (base := base) (k := 0) T  F_is_word
  have G_is_word : FnT l.prog w K mg base 1 "is_word" ["value"] _ := ⟨⟨_, _, g_is_word, k_is_word, b_is_word, o_is_word⟩⟩
  have o_is_list := ok_is_list (P := l.prog) (w := w) (base := base) (k := 0) T  F_is_list
  have G_is_list : FnT l.prog w K mg base 1 "is_list" ["value"] _ := ⟨⟨_, _, g_is_list, k_is_list, b_is_list, o_is_list⟩⟩
  have o_is_row := ok_is_row (P := l.prog) (w := w) (base := base) (k := 0) T  F_is_row
  have G_is_row : FnT l.prog w K mg base 1 "is_row" ["value", "many"] _ := ⟨⟨_, _, g_is_row, k_is_row, b_is_row, o_is_row⟩⟩
  have o__law_is_word := ok__law_is_word (P := l.prog) (w := w) (base := base) (k := 0) T  F__law_is_word
  have G__law_is_word : FnT l.prog w K mg base 1 "_law_is_word" ["_law_value"] _ := ⟨⟨_, _, g__law_is_word, k__law_is_word, b__law_is_word, o__law_is_word⟩⟩
  have o__law_is_listing := ok__law_is_listing (P := l.prog) (w := w) (base := base) (k := 0) T  F__law_is_listing
  have G__law_is_listing : FnT l.prog w K mg base 1 "_law_is_listing" ["_law_value"] _ := ⟨⟨_, _, g__law_is_listing, k__law_is_listing, b__law_is_listing, o__law_is_listing⟩⟩
  have o__law_is_row := ok__law_is_row (P := l.prog) (w := w) (base := base) (k := 0) T  F__law_is_row
  have G__law_is_row : FnT l.prog w K mg base 1 "_law_is_row" ["_law_value", "_law_many"] _ := ⟨⟨_, _, g__law_is_row, k__law_is_row, b__law_is_row, o__law_is_row⟩⟩
  have o__law_of := ok__law_of (P := l.prog) (w := w) (base := base) (k := 1) T (G__law_pick.mono (by decide)) F__law_of
  have G__law_of : FnT l.prog w K mg base 2 "_law_of" ["_law_source_here", "_law_some"] _ := ⟨⟨_, _, g__law_of, k__law_of, b__law_of, o__law_of⟩⟩
  have o_wrong_shape := ok_wrong_shape (P := l.prog) (w := w) (base := base) (k := 1) T (G_is_row.mono (by decide)) (G_is_word.mono (by decide)) F_wrong_shape
  have F0_wrong_shape : FnTF l.prog w K mg base 2 "wrong_shape" ["shape", "path", "words"] _ := ⟨⟨_, _, g_wrong_shape, k_wrong_shape, b_wrong_shape, o_wrong_shape⟩⟩
  have o_first_wrong_books := ok_first_wrong_books (P := l.prog) (w := w) (base := base) (k := 2) T (G_is_list.mono (by decide)) (F0_wrong_shape.mono (by decide)) F_first_wrong_books
  have G_first_wrong_books : FnT l.prog w K mg base 4 "first_wrong_books" ["shapes"] _ := ⟨⟨_, _, g_first_wrong_books, k_first_wrong_books, b_first_wrong_books, o_first_wrong_books⟩⟩
  have o_Book___init__ := ok_Book_init (P := l.prog) (w := w) (base := base) (k := 4) T U (G_first_wrong_books.mono (by decide)) F_Book___init__
  have MKX_Book : MkTX l.prog w K mg base 5 "Book" (clsOf mg "Book") ["self", "shapes"] _ := ⟨⟨_, _, ⟨mk_Book, a_Book___init__, i_Book___init__, kc_Book⟩, b_Book___init__, o_Book___init__⟩, g_Book⟩
  have o_Book_shapes := ok_Book_shapes (P := l.prog) (w := w) (base := base) (k := 0) T U  F_Book_shapes
  have M_shapes : MethT l.prog w K mg base 1 (clsOf mg "Book") "shapes" ["self"] _ := ⟨⟨_, _, ⟨a_Book_shapes, i_Book_shapes, k_Book_shapes⟩, b_Book_shapes, o_Book_shapes⟩, U.c_Book⟩
  have o_Book_words := ok_Book_words (P := l.prog) (w := w) (base := base) (k := 0) T U  F_Book_words
  have M_words : MethT l.prog w K mg base 1 (clsOf mg "Book") "words" ["self"] _ := ⟨⟨_, _, ⟨a_Book_words, i_Book_words, k_Book_words⟩, b_Book_words, o_Book_words⟩, U.c_Book⟩
  have o_Book_shape := ok_Book_shape (P := l.prog) (w := w) (base := base) (k := 0) T U  F_Book_shape
  have MX_bookshape : MethTX l.prog w K mg base 1 (clsOf mg "Book") "shape" ["self", "word"] _ := ⟨⟨_, _, ⟨a_Book_shape, i_Book_shape, k_Book_shape⟩, b_Book_shape, o_Book_shape⟩, U.c_Book⟩
  have M_bookshape : MethT l.prog w K mg base 1 (clsOf mg "Book") "shape" ["self", "word"] (SpD false false (RShape (clsOf mg "Book"))) := MX_bookshape.safe fun ds hd => by
    refine ⟨hd, fun c f hx => ?_, fun _ h => h⟩
    obtain ⟨d, l, s, _, hs, e, _⟩ := hd
    obtain ⟨l', x', _, _, hn, e2, _⟩ := hx
    rw [e] at e2
    simp only [List.cons.injEq, and_true] at e2
    have := book_inj e2.1
    subst this
    exact hn s hs e2.2.symm
  have o_Book___eq__ := ok_Book_eq (P := l.prog) (w := w) (base := base) (k := 1) T U (M_shapes.mono (by decide)) F_Book___eq__
  have Q_Book : EqT l.prog w K mg base 2 (clsOf mg "Book") _ := ⟨⟨_, _, _, ⟨⟨_, _, _, _, _, _, _, _, _, _, _, _, _, _, x_Book, no_Book, ne_Book, nn_Book⟩, i_Book___eq__, a_Book___eq__⟩, b_Book___eq__, o_Book___eq__⟩⟩
  have o_first_wrong_bags := ok_first_wrong_bags (P := l.prog) (w := w) (base := base) (k := 1) T sb (G_is_list.mono (by decide)) (G_is_row.mono (by decide)) (G_is_word.mono (by decide)) (M_words.mono (by decide)) F_first_wrong_bags
  have G_first_wrong_bags : FnT l.prog w K mg base 2 "first_wrong_bags" ["book", "joints"] _ := ⟨⟨_, _, g_first_wrong_bags, k_first_wrong_bags, b_first_wrong_bags, o_first_wrong_bags⟩⟩
  have o_Bag___init__ := ok_Bag_init (P := l.prog) (w := w) (base := base) (k := 2) T U (G_first_wrong_bags.mono (by decide)) (M_bookshape.mono (by decide)) F_Bag___init__
  have MKX_Bag : MkTX l.prog w K mg base 3 "Bag" (clsOf mg "Bag") ["self", "book", "joints"] _ := ⟨⟨_, _, ⟨mk_Bag, a_Bag___init__, i_Bag___init__, kc_Bag⟩, b_Bag___init__, o_Bag___init__⟩, g_Bag⟩
  have o_Bag_joints := ok_Bag_joints (P := l.prog) (w := w) (base := base) (k := 0) T U  F_Bag_joints
  have M_joints : MethT l.prog w K mg base 1 (clsOf mg "Bag") "joints" ["self"] _ := ⟨⟨_, _, ⟨a_Bag_joints, i_Bag_joints, k_Bag_joints⟩, b_Bag_joints, o_Bag_joints⟩, U.c_Bag⟩
  have o_Bag_names := ok_Bag_names (P := l.prog) (w := w) (base := base) (k := 0) T U  F_Bag_names
  have M_names : MethT l.prog w K mg base 1 (clsOf mg "Bag") "names" ["self"] _ := ⟨⟨_, _, ⟨a_Bag_names, i_Bag_names, k_Bag_names⟩, b_Bag_names, o_Bag_names⟩, U.c_Bag⟩
  have o_Bag_book := ok_Bag_book (P := l.prog) (w := w) (base := base) (k := 0) T U  F_Bag_book
  have M_book : MethT l.prog w K mg base 1 (clsOf mg "Bag") "book" ["self"] _ := ⟨⟨_, _, ⟨a_Bag_book, i_Bag_book, k_Bag_book⟩, b_Bag_book, o_Bag_book⟩, U.c_Bag⟩
  have o_Bag_has_name := ok_Bag_has_name (P := l.prog) (w := w) (base := base) (k := 0) T U  F_Bag_has_name
  have M_has_name : MethT l.prog w K mg base 1 (clsOf mg "Bag") "has_name" ["self", "name"] _ := ⟨⟨_, _, ⟨a_Bag_has_name, i_Bag_has_name, k_Bag_has_name⟩, b_Bag_has_name, o_Bag_has_name⟩, U.c_Bag⟩
  have o_Bag_shape := ok_Bag_shape (P := l.prog) (w := w) (base := base) (k := 1) T U (M_has_name.mono (by decide)) F_Bag_shape
  have MX_shape : MethTX l.prog w K mg base 2 (clsOf mg "Bag") "shape" ["self", "name"] _ := ⟨⟨_, _, ⟨a_Bag_shape, i_Bag_shape, k_Bag_shape⟩, b_Bag_shape, o_Bag_shape⟩, U.c_Bag⟩
  have o_Bag_word := ok_Bag_word (P := l.prog) (w := w) (base := base) (k := 2) T U (MX_shape.mono (by decide)) F_Bag_word
  have MX_word : MethTX l.prog w K mg base 3 (clsOf mg "Bag") "word" ["self", "name"] _ := ⟨⟨_, _, ⟨a_Bag_word, i_Bag_word, k_Bag_word⟩, b_Bag_word, o_Bag_word⟩, U.c_Bag⟩
  have o_Bag_stem := ok_Bag_stem (P := l.prog) (w := w) (base := base) (k := 2) T U (MX_shape.mono (by decide)) F_Bag_stem
  have MX_stem : MethTX l.prog w K mg base 3 (clsOf mg "Bag") "stem" ["self", "name"] _ := ⟨⟨_, _, ⟨a_Bag_stem, i_Bag_stem, k_Bag_stem⟩, b_Bag_stem, o_Bag_stem⟩, U.c_Bag⟩
  have o_Bag_branches := ok_Bag_branches (P := l.prog) (w := w) (base := base) (k := 2) T U (MX_shape.mono (by decide)) F_Bag_branches
  have MX_branches : MethTX l.prog w K mg base 3 (clsOf mg "Bag") "branches" ["self", "name"] _ := ⟨⟨_, _, ⟨a_Bag_branches, i_Bag_branches, k_Bag_branches⟩, b_Bag_branches, o_Bag_branches⟩, U.c_Bag⟩
  have o_Bag_stock := ok_Bag_stock (P := l.prog) (w := w) (base := base) (k := 1) T U (M_words.mono (by decide)) F_Bag_stock
  have M_stock : MethT l.prog w K mg base 2 (clsOf mg "Bag") "stock" ["self"] _ := ⟨⟨_, _, ⟨a_Bag_stock, i_Bag_stock, k_Bag_stock⟩, b_Bag_stock, o_Bag_stock⟩, U.c_Bag⟩
  have o_Bag___eq__ := ok_Bag_eq (P := l.prog) (w := w) (base := base) (k := 2) T U (Q_Book.mono (by decide)) F_Bag___eq__
  have Q_Bag : EqT l.prog w K mg base 3 (clsOf mg "Bag") _ := ⟨⟨_, _, _, ⟨⟨_, _, _, _, _, _, _, _, _, _, _, _, _, _, x_Bag, no_Bag, ne_Bag, nn_Bag⟩, i_Bag___eq__, a_Bag___eq__⟩, b_Bag___eq__, o_Bag___eq__⟩⟩
  have o__law_mixed := ok__law_mixed (P := l.prog) (w := w) (base := base) (k := 1) T (G__law_pick.mono (by decide)) F__law_mixed
  have G__law_mixed : FnT l.prog w K mg base 2 "_law_mixed" ["_law_source_here", "_law_things"] _ := ⟨⟨_, _, g__law_mixed, k__law_mixed, b__law_mixed, o__law_mixed⟩⟩
  have o__law_names := ok__law_names (P := l.prog) (w := w) (base := base) (k := 1) T (G__law_pick.mono (by decide)) F__law_names
  have G__law_names : FnT l.prog w K mg base 2 "_law_names" ["_law_source_here", "_law_many"] _ := ⟨⟨_, _, g__law_names, k__law_names, b__law_names, o__law_names⟩⟩
  have o__law_shapes := ok__law_shapes (P := l.prog) (w := w) (base := base) (k := 2) T (G__law_pick.mono (by decide)) (G__law_of.mono (by decide)) (G__law_names.mono (by decide)) (G__law_mixed.mono (by decide)) F__law_shapes
  have G__law_shapes : FnT l.prog w K mg base 3 "_law_shapes" ["_law_source_here", "_law_most"] _ := ⟨⟨_, _, g__law_shapes, k__law_shapes, b__law_shapes, o__law_shapes⟩⟩
  have o__law_drawn_shapes := ok__law_drawn_shapes (P := l.prog) (w := w) (base := base) (k := 3) T (G__law_pick.mono (by decide)) (G__law_of.mono (by decide)) (G__law_shapes.mono (by decide)) (G__law_mixed.mono (by decide)) F__law_drawn_shapes
  have G__law_drawn_shapes : FnT l.prog w K mg base 4 "_law_drawn_shapes" ["_law_source_here"] _ := ⟨⟨_, _, g__law_drawn_shapes, k__law_drawn_shapes, b__law_drawn_shapes, o__law_drawn_shapes⟩⟩
  have o__law_drawn_joints := ok__law_drawn_joints (P := l.prog) (w := w) (base := base) (k := 2) T (G__law_pick.mono (by decide)) (G__law_of.mono (by decide)) (G__law_names.mono (by decide)) (G__law_mixed.mono (by decide)) F__law_drawn_joints
  have G__law_drawn_joints : FnT l.prog w K mg base 3 "_law_drawn_joints" ["_law_source_here", "_law_shapes_here"] _ := ⟨⟨_, _, g__law_drawn_joints, k__law_drawn_joints, b__law_drawn_joints, o__law_drawn_joints⟩⟩
  have o__law_wrong_bag := ok__law_wrong_bag (P := l.prog) (w := w) (base := base) (k := 1) T sb (G__law_is_listing.mono (by decide)) (G__law_is_row.mono (by decide)) (G__law_is_word.mono (by decide)) F__law_wrong_bag
  have G__law_wrong_bag : FnT l.prog w K mg base 2 "_law_wrong_bag" ["_law_shapes_here", "_law_joints"] _ := ⟨⟨_, _, g__law_wrong_bag, k__law_wrong_bag, b__law_wrong_bag, o__law_wrong_bag⟩⟩
  have o__law_refused := ok__law_refused (P := l.prog) (w := w) (base := base) (k := 3) T U (MKX_Bag.mono (by decide)) F__law_refused
  have G__law_refused : FnT l.prog w K mg base 5 "_law_refused" ["_law_book", "_law_joints"] _ := ⟨⟨_, _, g__law_refused, k__law_refused, b__law_refused, o__law_refused⟩⟩
  have GB0 : FnT l.prog w K mg base 2 "_law_bent" ["_law_source_here", "_law_value", "_law_deep", "_law_odd"] (SpD true false (RBent 0)) := ⟨⟨_, _, g__law_bent, k__law_bent, b__law_bent, ⟨fun vs H Q E ⟨_, _, _, _, _, ⟨_, h⟩, _⟩ => h.elim, fun A outer s H args us vs Q E _ _ _ _ ⟨_, _, _, _, _, ⟨_, h⟩, _⟩ => h.elim⟩⟩⟩
  have ob0 := ok__law_bent (P := l.prog) (w := w) (base := base) (k := 2) 0 T (G__law_is_listing.mono (by decide)) (G__law_pick.mono (by decide)) (G__law_of.mono (by decide)) GB0 F__law_bent
  have GB1 : FnT l.prog w K mg base 3 "_law_bent" ["_law_source_here", "_law_value", "_law_deep", "_law_odd"] (SpD true false (RBent 1)) := ⟨⟨_, _, g__law_bent, k__law_bent, b__law_bent, ob0⟩⟩
  have ob1 := ok__law_bent (P := l.prog) (w := w) (base := base) (k := 3) 1 T (G__law_is_listing.mono (by decide)) (G__law_pick.mono (by decide)) (G__law_of.mono (by decide)) GB1 F__law_bent
  have GB2 : FnT l.prog w K mg base 4 "_law_bent" ["_law_source_here", "_law_value", "_law_deep", "_law_odd"] (SpD true false (RBent 2)) := ⟨⟨_, _, g__law_bent, k__law_bent, b__law_bent, ob1⟩⟩
  have ob2 := ok__law_bent (P := l.prog) (w := w) (base := base) (k := 4) 2 T (G__law_is_listing.mono (by decide)) (G__law_pick.mono (by decide)) (G__law_of.mono (by decide)) GB2 F__law_bent
  have GB3 : FnT l.prog w K mg base 5 "_law_bent" ["_law_source_here", "_law_value", "_law_deep", "_law_odd"] (SpD true false (RBent 3)) := ⟨⟨_, _, g__law_bent, k__law_bent, b__law_bent, ob2⟩⟩
  have ob3 := ok__law_bent (P := l.prog) (w := w) (base := base) (k := 5) 3 T (G__law_is_listing.mono (by decide)) (G__law_pick.mono (by decide)) (G__law_of.mono (by decide)) GB3 F__law_bent
  have GB4 : FnT l.prog w K mg base 6 "_law_bent" ["_law_source_here", "_law_value", "_law_deep", "_law_odd"] (SpD true false (RBent 4)) := ⟨⟨_, _, g__law_bent, k__law_bent, b__law_bent, ob3⟩⟩
  have o__law_told_right := ok__law_told_right (P := l.prog) (w := w) (base := base) (k := 3) T U TB (M_shapes.mono (by decide)) (M_joints.mono (by decide)) (M_names.mono (by decide)) (M_book.mono (by decide)) (M_stock.mono (by decide)) (MX_word.mono (by decide)) (MX_stem.mono (by decide)) (MX_branches.mono (by decide)) F__law_missing g__law_missing k__law_missing b__law_missing l__law_told_right c__law_told_right
  have G__law_told_right : FnT l.prog w K mg base 6 "_law_told_right" ["_law_bag", "_law_shapes_here", "_law_joints"] _ := ⟨⟨_, _, g__law_told_right, k__law_told_right, b__law_told_right, o__law_told_right⟩⟩
  exact ok_law (P := l.prog) (w := w) (base := base) (k := 6) T U sb (G__law_source.mono (by decide)) (G__law_pick.mono (by decide)) (G__law_drawn_shapes.mono (by decide)) (G__law_drawn_joints.mono (by decide)) (MKX_Book.mono (by decide)) (MKX_Bag.mono (by decide)) (G__law_refused.mono (by decide)) (G__law_told_right.mono (by decide)) (GB4.mono (by decide)) (G__law_wrong_bag.mono (by decide)) (Q_Bag.mono (by decide)) F_law
end K02

open PySem PySem.W PyProof.Rows in
set_option maxRecDepth 100000 in
set_option maxHeartbeats 0 in
theorem PySem.Challenge.cw_bushcoins_k02_bags_holds : PySem.Challenge.rw_bushcoins_k02_bags.Holds := by
  w_on; o_law; k_head; (case hw => w_witness2)
  k_fill
  refine Bc.walk_GT (l := PySem.Challenge.rw_bushcoins_k02_bags) (k := 8) (x := "_law_script") rfl rfl ⟨rfl, by decide, by decide⟩ (by decide +kernel) (fun w h Y => PySem.W.km_in_of Y) (fun w h Y => PySem.W.km_tabs_of Y _ List.mem_cons_self) ?F
  case F =>
    intro w mg fa h KX G hmg
    refine' K02.all_mk KX G hmg ?a_Book ?pg_Book ?hd_Book ?po_Book ?sa_Book ?mk_Book ?kc_Book ?no_Book_rows ?x_Book ?ln_Book ?le_Book ?la_Book ?ne_Book ?nn_Book ?kl_Book ?ob_Book ?a_Book___init__ ?i_Book___init__ ?l_Book___init__ ?c_Book___init__ ?k_Book___init__ ?a_Book___eq__ ?i_Book___eq__ ?l_Book___eq__ ?c_Book___eq__ ?k_Book___eq__ ?a_Book_shapes ?i_Book_shapes ?l_Book_shapes ?c_Book_shapes ?k_Book_shapes ?a_Book_words ?i_Book_words ?l_Book_words ?c_Book_words ?k_Book_words ?a_Book_shape ?i_Book_shape ?l_Book_shape ?c_Book_shape ?k_Book_shape ?a_Bag ?pg_Bag ?hd_Bag ?po_Bag ?sa_Bag ?mk_Bag ?kc_Bag ?no_Bag_own_book ?no_Bag_own_joints ?no_Bag_own_shapes ?x_Bag ?ln_Bag ?le_Bag ?la_Bag ?ne_Bag ?nn_Bag ?kl_Bag ?ob_Bag ?a_Bag___init__ ?i_Bag___init__ ?l_Bag___init__ ?c_Bag___init__ ?k_Bag___init__ ?a_Bag___eq__ ?i_Bag___eq__ ?l_Bag___eq__ ?c_Bag___eq__ ?k_Bag___eq__ ?a_Bag_book ?i_Bag_book ?l_Bag_book ?c_Bag_book ?k_Bag_book ?a_Bag_joints ?i_Bag_joints ?l_Bag_joints ?c_Bag_joints ?k_Bag_joints ?a_Bag_names ?i_Bag_names ?l_Bag_names ?c_Bag_names ?k_Bag_names ?a_Bag_has_name ?i_Bag_has_name ?l_Bag_has_name ?c_Bag_has_name ?k_Bag_has_name ?a_Bag_shape ?i_Bag_shape ?l_Bag_shape ?c_Bag_shape ?k_Bag_shape ?a_Bag_word ?i_Bag_word ?l_Bag_word ?c_Bag_word ?k_Bag_word ?a_Bag_stem ?i_Bag_stem ?l_Bag_stem ?c_Bag_stem ?k_Bag_stem ?a_Bag_branches ?i_Bag_branches ?l_Bag_branches ?c_Bag_branches ?k_Bag_branches ?a_Bag_stock ?i_Bag_stock ?l_Bag_stock ?c_Bag_stock ?k_Bag_stock ?a_is_word ?l_is_word ?c_is_word ?k_is_word ?a_is_list ?l_is_list ?c_is_list ?k_is_list ?a_is_row ?l_is_row ?c_is_row ?k_is_row ?a_wrong_shape ?l_wrong_shape ?c_wrong_shape ?k_wrong_shape ?a__law_source ?l__law_source ?c__law_source ?k__law_source ?a__law_pick ?l__law_pick ?c__law_pick ?k__law_pick ?a__law_of ?l__law_of ?c__law_of ?k__law_of ?a__law_mixed ?l__law_mixed ?c__law_mixed ?k__law_mixed ?a__law_names ?l__law_names ?c__law_names ?k__law_names ?a__law_shapes ?l__law_shapes ?c__law_shapes ?k__law_shapes ?a__law_is_word ?l__law_is_word ?c__law_is_word ?k__law_is_word ?a__law_is_listing ?l__law_is_listing ?c__law_is_listing ?k__law_is_listing ?a__law_is_row ?l__law_is_row ?c__law_is_row ?k__law_is_row ?a__law_bent ?l__law_bent ?c__law_bent ?k__law_bent ?a__law_drawn_shapes ?l__law_drawn_shapes ?c__law_drawn_shapes ?k__law_drawn_shapes ?a__law_drawn_joints ?l__law_drawn_joints ?c__law_drawn_joints ?k__law_drawn_joints ?a__law_missing ?l__law_missing ?c__law_missing ?k__law_missing ?a__law_wrong_bag ?l__law_wrong_bag ?c__law_wrong_bag ?k__law_wrong_bag ?a__law_refused ?l__law_refused ?c__law_refused ?k__law_refused ?a__law_told_right ?l__law_told_right ?c__law_told_right ?k__law_told_right ?hc__law_told_right ?n_T0 ?a_law ?l_law ?c_law ?k_law ?a_first_wrong_books ?l_first_wrong_books ?c_first_wrong_books ?k_first_wrong_books ?a_first_wrong_bags ?l_first_wrong_bags ?c_first_wrong_bags ?k_first_wrong_bags ?z_LookupError ?z_ValueError ?z_abs ?z_all ?z_enumerate ?z_int ?z_isinstance ?z_len ?z_list ?z_max ?z_range ?z_repr ?z_str ?z_super ?z_tuple ?s_LETTERS ?s_DIGITS ?a_BushError ?x_BushError ?fi_BushError ?a_NameMissing ?x_NameMissing ?fi_NameMissing ?a_BadBook ?x_BadBook ?sa_BadBook ?kc_BadBook ?ex_BadBook ?ty_BadBook ?sb_BadBook ?ga_BadBook ?gg_BadBook ?hd_BadBook ?is_BadBook ?mr_BadBook ?em_BadBook ?i_BadBook ?t_BadBook ?no_BadBook_path ?l_BadBook ?c_BadBook ?lc_BadBook ?lv_BadBook ?lf_BadBook ?le_BadBook ?a_BadBag ?x_BadBag ?sa_BadBag ?kc_BadBag ?ex_BadBag ?ty_BadBag ?sb_BadBag ?ga_BadBag ?gg_BadBag ?hd_BadBag ?is_BadBag ?mr_BadBag ?em_BadBag ?i_BadBag ?t_BadBag ?no_BadBag_path ?l_BadBag ?c_BadBag ?lc_BadBag ?lv_BadBag ?lf_BadBag ?le_BadBag ?a_UnknownName ?x_UnknownName ?sa_UnknownName ?kc_UnknownName ?ex_UnknownName ?ty_UnknownName ?sb_UnknownName ?ga_UnknownName ?gg_UnknownName ?hd_UnknownName ?is_UnknownName ?mr_UnknownName ?em_UnknownName ?i_UnknownName ?t_UnknownName ?no_UnknownName_name ?l_UnknownName ?c_UnknownName ?lc_UnknownName ?lv_UnknownName ?lf_UnknownName ?le_UnknownName ?op ?nt ?ko_NoneType ?kn_NoneType ?ko_int ?kn_int ?ko_list ?kn_list ?ko_tuple ?kn_tuple ?go_NoneType ?gn_NoneType ?go_int ?gn_int ?go_list ?gn_list ?go_tuple ?gn_tuple ?go_Book ?gn_Book
    (case a_Book => k_is)
    (case pg_Book => k_is)
    (case hd_Book => k_is)
    (case po_Book => k_is)
    (case sa_Book => k_is)
    (case mk_Book => k_is)
    (case kc_Book => k_is)
    (case no_Book_rows => k_is)
    (case x_Book => k_is)
    (case ln_Book => k_is)
    (case le_Book => rfl)
    (case la_Book => rfl)
    (case ne_Book => k_is)
    (case nn_Book => k_is)
    (case kl_Book => k_is)
    (case ob_Book => k_is)
    (case a_Book___init__ => k_is)
    (case i_Book___init__ => k_is)
    (case l_Book___init__ => k_is)
    (case c_Book___init__ => k_is)
    (case k_Book___init__ => k_is)
    (case a_Book___eq__ => k_is)
    (case i_Book___eq__ => k_is)
    (case l_Book___eq__ => k_is)
    (case c_Book___eq__ => k_is)
    (case k_Book___eq__ => k_is)
    (case a_Book_shapes => k_is)
    (case i_Book_shapes => k_is)
    (case l_Book_shapes => k_is)
    (case c_Book_shapes => k_is)
    (case k_Book_shapes => k_is)
    (case a_Book_words => k_is)
    (case i_Book_words => k_is)
    (case l_Book_words => k_is)
    (case c_Book_words => k_is)
    (case k_Book_words => k_is)
    (case a_Book_shape => k_is)
    (case i_Book_shape => k_is)
    (case l_Book_shape => k_is)
    (case c_Book_shape => k_is)
    (case k_Book_shape => k_is)
    (case a_Bag => k_is)
    (case pg_Bag => k_is)
    (case hd_Bag => k_is)
    (case po_Bag => k_is)
    (case sa_Bag => k_is)
    (case mk_Bag => k_is)
    (case kc_Bag => k_is)
    (case no_Bag_own_book => k_is)
    (case no_Bag_own_joints => k_is)
    (case no_Bag_own_shapes => k_is)
    (case x_Bag => k_is)
    (case ln_Bag => k_is)
    (case le_Bag => rfl)
    (case la_Bag => rfl)
    (case ne_Bag => k_is)
    (case nn_Bag => k_is)
    (case kl_Bag => k_is)
    (case ob_Bag => k_is)
    (case a_Bag___init__ => k_is)
    (case i_Bag___init__ => k_is)
    (case l_Bag___init__ => k_is)
    (case c_Bag___init__ => k_is)
    (case k_Bag___init__ => k_is)
    (case a_Bag___eq__ => k_is)
    (case i_Bag___eq__ => k_is)
    (case l_Bag___eq__ => k_is)
    (case c_Bag___eq__ => k_is)
    (case k_Bag___eq__ => k_is)
    (case a_Bag_book => k_is)
    (case i_Bag_book => k_is)
    (case l_Bag_book => k_is)
    (case c_Bag_book => k_is)
    (case k_Bag_book => k_is)
    (case a_Bag_joints => k_is)
    (case i_Bag_joints => k_is)
    (case l_Bag_joints => k_is)
    (case c_Bag_joints => k_is)
    (case k_Bag_joints => k_is)
    (case a_Bag_names => k_is)
    (case i_Bag_names => k_is)
    (case l_Bag_names => k_is)
    (case c_Bag_names => k_is)
    (case k_Bag_names => k_is)
    (case a_Bag_has_name => k_is)
    (case i_Bag_has_name => k_is)
    (case l_Bag_has_name => k_is)
    (case c_Bag_has_name => k_is)
    (case k_Bag_has_name => k_is)
    (case a_Bag_shape => k_is)
    (case i_Bag_shape => k_is)
    (case l_Bag_shape => k_is)
    (case c_Bag_shape => k_is)
    (case k_Bag_shape => k_is)
    (case a_Bag_word => k_is)
    (case i_Bag_word => k_is)
    (case l_Bag_word => k_is)
    (case c_Bag_word => k_is)
    (case k_Bag_word => k_is)
    (case a_Bag_stem => k_is)
    (case i_Bag_stem => k_is)
    (case l_Bag_stem => k_is)
    (case c_Bag_stem => k_is)
    (case k_Bag_stem => k_is)
    (case a_Bag_branches => k_is)
    (case i_Bag_branches => k_is)
    (case l_Bag_branches => k_is)
    (case c_Bag_branches => k_is)
    (case k_Bag_branches => k_is)
    (case a_Bag_stock => k_is)
    (case i_Bag_stock => k_is)
    (case l_Bag_stock => k_is)
    (case c_Bag_stock => k_is)
    (case k_Bag_stock => k_is)
    (case a_is_word => k_is)
    (case l_is_word => k_is)
    (case c_is_word => k_is)
    (case k_is_word => k_is)
    (case a_is_list => k_is)
    (case l_is_list => k_is)
    (case c_is_list => k_is)
    (case k_is_list => k_is)
    (case a_is_row => k_is)
    (case l_is_row => k_is)
    (case c_is_row => k_is)
    (case k_is_row => k_is)
    (case a_wrong_shape => k_is)
    (case l_wrong_shape => k_is)
    (case c_wrong_shape => k_is)
    (case k_wrong_shape => k_is)
    (case a__law_source => k_is)
    (case l__law_source => k_is)
    (case c__law_source => k_is)
    (case k__law_source => k_is)
    (case a__law_pick => k_is)
    (case l__law_pick => k_is)
    (case c__law_pick => k_is)
    (case k__law_pick => k_is)
    (case a__law_of => k_is)
    (case l__law_of => k_is)
    (case c__law_of => k_is)
    (case k__law_of => k_is)
    (case a__law_mixed => k_is)
    (case l__law_mixed => k_is)
    (case c__law_mixed => k_is)
    (case k__law_mixed => k_is)
    (case a__law_names => k_is)
    (case l__law_names => k_is)
    (case c__law_names => k_is)
    (case k__law_names => k_is)
    (case a__law_shapes => k_is)
    (case l__law_shapes => k_is)
    (case c__law_shapes => k_is)
    (case k__law_shapes => k_is)
    (case a__law_is_word => k_is)
    (case l__law_is_word => k_is)
    (case c__law_is_word => k_is)
    (case k__law_is_word => k_is)
    (case a__law_is_listing => k_is)
    (case l__law_is_listing => k_is)
    (case c__law_is_listing => k_is)
    (case k__law_is_listing => k_is)
    (case a__law_is_row => k_is)
    (case l__law_is_row => k_is)
    (case c__law_is_row => k_is)
    (case k__law_is_row => k_is)
    (case a__law_bent => k_is)
    (case l__law_bent => k_is)
    (case c__law_bent => k_is)
    (case k__law_bent => k_is)
    (case a__law_drawn_shapes => k_is)
    (case l__law_drawn_shapes => k_is)
    (case c__law_drawn_shapes => k_is)
    (case k__law_drawn_shapes => k_is)
    (case a__law_drawn_joints => k_is)
    (case l__law_drawn_joints => k_is)
    (case c__law_drawn_joints => k_is)
    (case k__law_drawn_joints => k_is)
    (case a__law_missing => k_is)
    (case l__law_missing => k_is)
    (case c__law_missing => k_is)
    (case k__law_missing => k_is)
    (case a__law_wrong_bag => k_is)
    (case l__law_wrong_bag => k_is)
    (case c__law_wrong_bag => k_is)
    (case k__law_wrong_bag => k_is)
    (case a__law_refused => k_is)
    (case l__law_refused => k_is)
    (case c__law_refused => k_is)
    (case k__law_refused => k_is)
    (case a__law_told_right => k_is)
    (case l__law_told_right => k_is)
    (case c__law_told_right => k_is)
    (case k__law_told_right => k_is)
    (case hc__law_told_right => kernel_rfl)
    (case n_T0 => kernel_rfl)
    (case a_law => k_is)
    (case l_law => k_is)
    (case c_law => k_is)
    (case k_law => k_is)
    (case a_first_wrong_books => k_is)
    (case l_first_wrong_books => k_is)
    (case c_first_wrong_books => k_is)
    (case k_first_wrong_books => k_is)
    (case a_first_wrong_bags => k_is)
    (case l_first_wrong_bags => k_is)
    (case c_first_wrong_bags => k_is)
    (case k_first_wrong_bags => k_is)
    (case z_LookupError => k_is)
    (case z_ValueError => k_is)
    (case z_abs => k_is)
    (case z_all => k_is)
    (case z_enumerate => k_is)
    (case z_int => k_is)
    (case z_isinstance => k_is)
    (case z_len => k_is)
    (case z_list => k_is)
    (case z_max => k_is)
    (case z_range => k_is)
    (case z_repr => k_is)
    (case z_str => k_is)
    (case z_super => k_is)
    (case z_tuple => k_is)
    (case s_LETTERS => k_is)
    (case s_DIGITS => k_is)
    (case a_BushError => k_is)
    (case x_BushError => k_is)
    (case fi_BushError => k_is)
    (case a_NameMissing => k_is)
    (case x_NameMissing => k_is)
    (case fi_NameMissing => k_is)
    (case a_BadBook => k_is)
    (case x_BadBook => k_is)
    (case sa_BadBook => k_is)
    (case kc_BadBook => k_is)
    (case ex_BadBook => k_is)
    (case ty_BadBook => k_is)
    (case sb_BadBook => k_is)
    (case ga_BadBook => k_is)
    (case gg_BadBook => k_is)
    (case hd_BadBook => k_is)
    (case is_BadBook => k_is)
    (case mr_BadBook => k_is)
    (case em_BadBook => kernel_rfl)
    (case i_BadBook => k_is)
    (case t_BadBook => k_is)
    (case no_BadBook_path => k_is)
    (case l_BadBook => k_is)
    (case c_BadBook => k_is)
    (case lc_BadBook => k_is)
    (case lv_BadBook => rfl)
    (case lf_BadBook => decide +kernel)
    (case le_BadBook => k_is)
    (case a_BadBag => k_is)
    (case x_BadBag => k_is)
    (case sa_BadBag => k_is)
    (case kc_BadBag => k_is)
    (case ex_BadBag => k_is)
    (case ty_BadBag => k_is)
    (case sb_BadBag => k_is)
    (case ga_BadBag => k_is)
    (case gg_BadBag => k_is)
    (case hd_BadBag => k_is)
    (case is_BadBag => k_is)
    (case mr_BadBag => k_is)
    (case em_BadBag => kernel_rfl)
    (case i_BadBag => k_is)
    (case t_BadBag => k_is)
    (case no_BadBag_path => k_is)
    (case l_BadBag => k_is)
    (case c_BadBag => k_is)
    (case lc_BadBag => k_is)
    (case lv_BadBag => rfl)
    (case lf_BadBag => decide +kernel)
    (case le_BadBag => k_is)
    (case a_UnknownName => k_is)
    (case x_UnknownName => k_is)
    (case sa_UnknownName => k_is)
    (case kc_UnknownName => k_is)
    (case ex_UnknownName => k_is)
    (case ty_UnknownName => k_is)
    (case sb_UnknownName => k_is)
    (case ga_UnknownName => k_is)
    (case gg_UnknownName => k_is)
    (case hd_UnknownName => k_is)
    (case is_UnknownName => k_is)
    (case mr_UnknownName => k_is)
    (case em_UnknownName => kernel_rfl)
    (case i_UnknownName => k_is)
    (case t_UnknownName => k_is)
    (case no_UnknownName_name => k_is)
    (case l_UnknownName => k_is)
    (case c_UnknownName => k_is)
    (case lc_UnknownName => k_is)
    (case lv_UnknownName => rfl)
    (case lf_UnknownName => decide +kernel)
    (case le_UnknownName => k_is)
    (case op => k_is)
    (case nt => decide +kernel)
    (case ko_NoneType => kernel_rfl)
    (case kn_NoneType => kernel_rfl)
    (case ko_int => kernel_rfl)
    (case kn_int => kernel_rfl)
    (case ko_list => kernel_rfl)
    (case kn_list => kernel_rfl)
    (case ko_tuple => kernel_rfl)
    (case kn_tuple => kernel_rfl)
    (case go_NoneType => kernel_rfl)
    (case gn_NoneType => kernel_rfl)
    (case go_int => kernel_rfl)
    (case gn_int => kernel_rfl)
    (case go_list => kernel_rfl)
    (case gn_list => kernel_rfl)
    (case go_tuple => kernel_rfl)
    (case gn_tuple => kernel_rfl)
    (case go_Book => kernel_rfl)
    (case gn_Book => kernel_rfl)

