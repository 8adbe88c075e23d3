import PyProof.Rows.All
import Wide.All
import OpenK.AllK
import Wide.FinOn
import HandS.ForMost
import HandS.Evl
import HandS.ExcInit
import HandS.ExcField
import HandS.ExcOwn
import HandS.WordsExc
import KE.KExcSuper
import KE.KSuper
import HandS.EndBits
import HandS.Deep
import HandS.Sort
import HandS.TupAny
import HandS.IsInst
import HandS.StrMore
import HandS.Text
import HandS.RaiseMore
import HandS.Nested
import HandS.Star
import HandS.CallLocal
import PyProof.ReprRoads
import KE.KExcIs
import HandS.ExcValue
import HandS.Style
import HandS.Steps
import PyProof.ExcBaseAll.LookupError
import PyProof.ExcBaseAll.ValueError
import PySem.Challenge.RW_bushcoins_k00_errors
set_option Elab.async false
set_option linter.all false
set_option maxRecDepth 100000
set_option maxHeartbeats 4000000
/-! Core 1: plain data, what of the heap is data (S), what grows, states by data. -/
namespace Bc
open PySem L2
/-- plain data -/
inductive D where
  | none | bool (b : Bool) | int (i : Int) | str (s : Str) | list (l : List D) | tuple (l : List D) | dict (l : List (Key × D)) | obj (C : Addr) (l : List (Str × D)) | exc (C : Addr) (l : List (Str × D)) | ref (a : Addr)
/-- an exception's object, before it is raised -/
abbrev excR0 (C t1 : Addr) (d : Option Addr) : Obj := { cls := .ref C, dict := d, data := .fields #[.ref t1, .none, .none, .none, .bool false, .none] }
mutual
def Dt (S : Hp) : D → V → Prop
  | .none, v => v = .non
  | .bool b, v => v = .bl b
  | .int i, v => v = .int i
  | .str s, v => v = .str s
  | .ref a, v => v = .ref a
  | .list ds, v => ∃ a xs, v = .ref a ∧ S a = some (.lst xs) ∧ DtL S ds xs
  | .tuple ds, v => ∃ a xs, v = .ref a ∧ S a = some (.tup xs) ∧ DtL S ds xs
  | .dict kvs, v => ∃ a ks, v = .ref a ∧ S a = some (.dK ks) ∧ DtK S kvs ks
  | .obj C fs, v => ∃ a dx vs, v = .ref a ∧ S a = some (.ins C dx vs) ∧ DtF S fs vs
  | .exc C fs, v => ∃ a t1, v = .ref a ∧ ((fs = [] ∧ S a = some (.frz (excR0 C t1 Option.none) (.own a))) ∨ ∃ d vs, d ≠ a ∧ S a = some (.frz (excR0 C t1 (some d)) (.own a)) ∧ S d = some (.xd vs) ∧ DtF S fs vs)
def DtL (S : Hp) : List D → List V → Prop
  | [], xs => xs = []
  | d :: ds, xs => ∃ x ys, xs = x :: ys ∧ Dt S d x ∧ DtL S ds ys
def DtK (S : Hp) : List (Key × D) → List (Key × V) → Prop
  | [], xs => xs = []
  | (k, d) :: ds, xs => ∃ x ys, xs = (k, x) :: ys ∧ Dt S d x ∧ DtK S ds ys
def DtF (S : Hp) : List (Str × D) → List (Str × V) → Prop
  | [], xs => xs = []
  | (k, d) :: ds, xs => ∃ x ys, xs = (k, x) :: ys ∧ Dt S d x ∧ DtF S ds ys
end
mutual
theorem Dt.mono {S S' : Hp} (e : Same S S') : ∀ (d : D) (v : V), Dt S d v → Dt S' d v
  | .none, v, h => by simpa only [Dt] using h
  | .bool b, v, h => by simpa only [Dt] using h
  | .int i, v, h => by simpa only [Dt] using h
  | .str s, v, h => by simpa only [Dt] using h
  | .ref a, v, h => by simpa only [Dt] using h
  | .list ds, v, h => by
    simp only [Dt] at h ⊢
    obtain ⟨a, xs, e1, e2, h⟩ := h
    exact ⟨a, xs, e1, e _ _ e2, DtL.mono e ds xs h⟩
  | .tuple ds, v, h => by
    simp only [Dt] at h ⊢
    obtain ⟨a, xs, e1, e2, h⟩ := h
    exact ⟨a, xs, e1, e _ _ e2, DtL.mono e ds xs h⟩
  | .dict ds, v, h => by
    simp only [Dt] at h ⊢
    obtain ⟨a, xs, e1, e2, h⟩ := h
    exact ⟨a, xs, e1, e _ _ e2, DtK.mono e ds xs h⟩
  | .obj C ds, v, h => by
    simp only [Dt] at h ⊢
    obtain ⟨a, dx, xs, e1, e2, h⟩ := h
    exact ⟨a, dx, xs, e1, e _ _ e2, DtF.mono e ds xs h⟩
  | .exc C ds, v, h => by
    simp only [Dt] at h ⊢
    obtain ⟨a, t1, e1, ⟨e2, e3⟩ | ⟨d, vs, e2, e3, e4, h⟩⟩ := h
    · exact ⟨a, t1, e1, .inl ⟨e2, e _ _ e3⟩⟩
    · exact ⟨a, t1, e1, .inr ⟨d, vs, e2, e _ _ e3, e _ _ e4, DtF.mono e ds vs h⟩⟩
theorem DtL.mono {S S' : Hp} (e : Same S S') : ∀ (d : List D) (v : List V), DtL S d v → DtL S' d v
  | [], v, h => by simpa only [DtL] using h
  | d :: ds, v, h => by
    simp only [DtL] at h ⊢
    obtain ⟨x, ys, e1, h1, h2⟩ := h
    exact ⟨x, ys, e1, Dt.mono e d x h1, DtL.mono e ds ys h2⟩
theorem DtK.mono {S S' : Hp} (e : Same S S') : ∀ (d : List (Key × D)) (v : List (Key × V)), DtK S d v → DtK S' d v
  | [], v, h => by simpa only [DtK] using h
  | (k, d) :: ds, v, h => by
    simp only [DtK] at h ⊢
    obtain ⟨x, ys, e1, h1, h2⟩ := h
    exact ⟨x, ys, e1, Dt.mono e d x h1, DtK.mono e ds ys h2⟩
theorem DtF.mono {S S' : Hp} (e : Same S S') : ∀ (d : List (Str × D)) (v : List (Str × V)), DtF S d v → DtF S' d v
  | [], v, h => by simpa only [DtF] using h
  | (k, d) :: ds, v, h => by
    simp only [DtF] at h ⊢
    obtain ⟨x, ys, e1, h1, h2⟩ := h
    exact ⟨x, ys, e1, Dt.mono e d x h1, DtF.mono e ds ys h2⟩
end
section
variable {S S' H H' : Hp}
theorem dtl_nil : DtL S [] [] := by simp only [DtL]
theorem dtl_cons {d : D} {x : V} {ds : List D} {xs : List V} (h : Dt S d x) (t : DtL S ds xs) : DtL S (d :: ds) (x :: xs) := by
  simp only [DtL]
  exact ⟨x, xs, rfl, h, t⟩
theorem DtL.len : ∀ {ds : List D} {xs : List V}, DtL S ds xs → ds.length = xs.length
  | [], xs, h => by simp only [DtL] at h; rw [h]; rfl
  | d :: ds, xs, h => by
    simp only [DtL] at h
    obtain ⟨x, ys, rfl, _, h⟩ := h
    rw [List.length_cons, List.length_cons, DtL.len h]
theorem DtL.get : ∀ {ds : List D} {xs : List V} {i : Nat} {d : D}, DtL S ds xs → ds[i]? = some d → ∃ x, xs[i]? = some x ∧ Dt S d x
  | [], xs, i, d, h, e => by simp at e
  | d :: ds, xs, 0, d', h, e => by
    simp only [DtL] at h
    obtain ⟨x, ys, rfl, h1, _⟩ := h
    simp at e
    subst e
    exact ⟨x, rfl, h1⟩
  | d :: ds, xs, i + 1, d', h, e => by
    simp only [DtL] at h
    obtain ⟨x, ys, rfl, _, h⟩ := h
    simpa using DtL.get h (by simpa using e)
theorem DtL.get' {ds : List D} {xs : List V} {i : Nat} {x : V} (h : DtL S ds xs) (e : xs[i]? = some x) : ∃ d, ds[i]? = some d ∧ Dt S d x := by
  obtain ⟨hi, _⟩ := List.getElem?_eq_some_iff.mp e
  rw [← h.len] at hi
  obtain ⟨y, e2, hy⟩ := h.get (i := i) (d := ds[i]) (by simp [hi])
  rw [e] at e2
  cases e2
  exact ⟨_, by simp [hi], hy⟩
theorem DtL.append : ∀ {ds es : List D} {xs ys : List V}, DtL S ds xs → DtL S es ys → DtL S (ds ++ es) (xs ++ ys)
  | [], es, xs, ys, h, k => by simp only [DtL] at h; subst h; exact k
  | d :: ds, es, xs, ys, h, k => by
    simp only [DtL] at h
    obtain ⟨x, zs, rfl, h1, h⟩ := h
    exact dtl_cons h1 (DtL.append h k)
theorem DtL.take : ∀ {ds : List D} {xs : List V} (n : Nat), DtL S ds xs → DtL S (ds.take n) (xs.take n)
  | ds, xs, 0, h => by simpa using dtl_nil
  | [], xs, n + 1, h => by simp only [DtL] at h; subst h; simpa using dtl_nil
  | d :: ds, xs, n + 1, h => by
    simp only [DtL] at h
    obtain ⟨x, zs, rfl, h1, h⟩ := h
    exact dtl_cons h1 (DtL.take n h)
theorem DtL.drop : ∀ {ds : List D} {xs : List V} (n : Nat), DtL S ds xs → DtL S (ds.drop n) (xs.drop n)
  | ds, xs, 0, h => h
  | [], xs, n + 1, h => by simp only [DtL] at h; subst h; simpa using dtl_nil
  | d :: ds, xs, n + 1, h => by
    simp only [DtL] at h
    obtain ⟨x, zs, rfl, h1, h⟩ := h
    exact DtL.drop n h
theorem DtL.rev {ds : List D} {xs : List V} (h : DtL S ds xs) : DtL S ds.reverse xs.reverse := by
  induction ds generalizing xs with
  | nil => simp only [DtL] at h; subst h; exact dtl_nil
  | cons d ds ih =>
    simp only [DtL] at h
    obtain ⟨x, zs, rfl, h1, h⟩ := h
    rw [List.reverse_cons, List.reverse_cons]
    exact (ih h).append (dtl_cons h1 dtl_nil)
theorem DtL.set : ∀ {ds : List D} {xs : List V} (n : Nat) {d : D} {x : V}, DtL S ds xs → Dt S d x → DtL S (ds.set n d) (xs.set n x)
  | [], xs, n, _, _, h, _ => by simp only [DtL] at h; subst h; simpa using dtl_nil
  | d :: ds, xs, 0, _, _, h, k => by
    simp only [DtL] at h
    obtain ⟨x, zs, rfl, h1, h⟩ := h
    exact dtl_cons k h
  | d :: ds, xs, n + 1, _, _, h, k => by
    simp only [DtL] at h
    obtain ⟨x, zs, rfl, h1, h⟩ := h
    exact dtl_cons h1 (DtL.set n h k)
theorem DtL.erase : ∀ {ds : List D} {xs : List V} (n : Nat), DtL S ds xs → DtL S (ds.eraseIdx n) (xs.eraseIdx n)
  | [], xs, n, h => by simp only [DtL] at h; subst h; simpa using dtl_nil
  | d :: ds, xs, 0, h => by
    simp only [DtL] at h
    obtain ⟨x, zs, rfl, h1, h⟩ := h
    exact h
  | d :: ds, xs, n + 1, h => by
    simp only [DtL] at h
    obtain ⟨x, zs, rfl, h1, h⟩ := h
    exact dtl_cons h1 (DtL.erase n h)
end

/-! ### the source of draws -/
def SrcAt (H : Hp) (a c : Addr) : Prop := ∃ (ns : List Int) (l m t : Int), H a = some (.dK [(Sum.inr "cells", .ref c), (Sum.inr "left", .int l), (Sum.inr "mixed", .int m), (Sum.inr "turn", .int t)]) ∧ H c = some (.lst (ns.map V.int)) ∧ ns.length ≤ 63
abbrev Fp := Option (Addr × Addr)
/-- what a def may change -/
def fp (F : Fp) (x : Addr) : Prop := ∃ a c, F = some (a, c) ∧ (x = a ∨ x = c)
structure Okw (F : Fp) (S H : Hp) : Prop where
  s : Same S H
  src : ∀ a c, F = some (a, c) → S a = Option.none ∧ S c = Option.none ∧ SrcAt H a c
theorem Okw.nfp {F : Fp} {S H : Hp} (w : Okw F S H) {x : Addr} {o : HO} (h : S x = some o) : ¬ fp F x := by
  rintro ⟨a, c, e, z⟩
  obtain ⟨h1, h2, _⟩ := w.src a c e
  rcases z with rfl | rfl
  · rw [h] at h1; cases h1
  · rw [h] at h2; cases h2
/-- from (S, H) to (S', H'): all data stays, what is new in the data was not in the heap, nothing but F's own changes -/
structure Gr (F : Fp) (S H S' H' : Hp) : Prop where
  s : Same S S'
  h : Same S' H'
  n : ∀ x o, H x = some o → S' x = S x
  k : ∀ x o, ¬ fp F x → H x = some o → H' x = some o
  m : ∀ x o, H x = some o → ∃ o', H' x = some o'
  src : ∀ a c, F = some (a, c) → SrcAt H a c → SrcAt H' a c
section
variable {F : Fp} {S H S' H' S1 H1 S2 H2 : Hp}
theorem Gr.refl (h : Same S H) : Gr F S H S H := ⟨fun _ _ e => e, h, fun _ _ _ => rfl, fun _ _ _ e => e, fun _ o e => ⟨o, e⟩, fun _ _ _ h => h⟩
theorem Gr.trans (a : Gr F S H S1 H1) (b : Gr F S1 H1 S2 H2) : Gr F S H S2 H2 where
  s := a.s.trans b.s
  h := b.h
  n := fun x o e => by
    obtain ⟨o', e'⟩ := a.m x o e
    rw [b.n x o' e', a.n x o e]
  k := fun x o hx e => b.k x o hx (a.k x o hx e)
  m := fun x o e => by
    obtain ⟨o', e'⟩ := a.m x o e
    exact b.m x o' e'
  src := fun p c e h => b.src p c e (a.src p c e h)
theorem Gr.ok (g : Gr F S H S' H') (w : Okw F S H) : Okw F S' H' := ⟨g.h, fun a c e => by
  obtain ⟨h1, h2, h3⟩ := w.src a c e
  obtain ⟨ns, l, m, t, e1, e2, _⟩ := id h3
  exact ⟨by rw [g.n _ _ e1]; exact h1, by rw [g.n _ _ e2]; exact h2, g.src a c e h3⟩⟩
theorem Okw.base (w : Okw F S H) : Okw none S H := ⟨w.s, fun _ _ e => nomatch e⟩
theorem nfp0 (x : Addr) : ¬ fp Option.none x := fun ⟨_, _, e, _⟩ => nomatch e
/-- where nothing was changed, F's own isn't either -/
theorem Gr.up (g : Gr Option.none S H S' H') : Gr F S H S' H' := ⟨g.s, g.h, g.n, fun x o _ e => g.k x o (nfp0 x) e, g.m, fun a c _ ⟨ns, l, m, t, e1, e2, e3⟩ => ⟨ns, l, m, t, g.k _ _ (nfp0 _) e1, g.k _ _ (nfp0 _) e2, e3⟩⟩
/-- a new object that is no data yet -/
theorem Gr.new (w : Same S H) {p : Addr} {o : HO} (hp : H p = Option.none) : Gr F S H S (upd H p o) :=
  Gr.up ⟨fun _ _ e => e, fun x u e => by rw [upd_ne (ne_of_none (w x u e) hp)]; exact w x u e, fun _ _ _ => rfl, fun x u _ e => by rw [upd_ne (ne_of_none e hp)]; exact e, fun x u e => ⟨u, by rw [upd_ne (ne_of_none e hp)]; exact e⟩, fun _ _ e _ => nomatch e⟩
/-- .. that is data -/
theorem Gr.newD (w : Same S H) {p : Addr} {o : HO} (hp : H p = Option.none) : Gr F S H (upd S p o) (upd H p o) := by
  have hs : S p = Option.none := Same.free w hp
  refine Gr.up ⟨fun x u e => by rw [upd_ne (ne_of_none e hs)]; exact e, fun x u e => ?_, fun x u e => by rw [upd_ne (ne_of_none e hp)], fun x u _ e => by rw [upd_ne (ne_of_none e hp)]; exact e, fun x u e => ⟨u, by rw [upd_ne (ne_of_none e hp)]; exact e⟩, fun _ _ e _ => nomatch e⟩
  by_cases hx : x = p
  · subst hx
    rw [upd_same] at e ⊢
    exact e
  · rw [upd_ne hx] at e ⊢
    exact w x u e
/-- an object made on the way becomes data -/
theorem Gr.freeze (g : Gr F S H S' H') {p : Addr} {o : HO} (hp : H p = Option.none) (h' : H' p = some o) : Gr F S H (upd S' p o) H' where
  s := fun x u e => by
    by_cases hx : x = p
    · subst hx
      have := g.h _ _ (g.s _ _ e)
      rw [h'] at this
      cases this
      exact upd_same
    · rw [upd_ne hx]
      exact g.s _ _ e
  h := fun x u e => by
    by_cases hx : x = p
    · subst hx
      rw [upd_same] at e
      cases e
      exact h'
    · rw [upd_ne hx] at e
      exact g.h _ _ e
  n := fun x u e => by
    rw [upd_ne (ne_of_none e hp)]
    exact g.n x u e
  k := g.k
  m := g.m
  src := g.src
/-- an object made on the way is changed -/
theorem Gr.mut (g : Gr F S H S' H') {p : Addr} {o u : HO} (hp : H p = Option.none) (hs : S' p = Option.none) (h' : H' p = some u) : Gr F S H S' (upd H' p o) where
  s := g.s
  h := fun x v e => by
    rw [upd_ne (ne_of_none e hs)]
    exact g.h _ _ e
  n := g.n
  k := fun x v hx e => by
    rw [upd_ne (ne_of_none e hp)]
    exact g.k x v hx e
  m := fun x v e => by
    rw [upd_ne (ne_of_none e hp)]
    exact g.m x v e
  src := fun a c e z => by
    obtain ⟨ns, l, m, t, e1, e2, e3⟩ := id z
    obtain ⟨ns', l', m', t', f1, f2, f3⟩ := g.src a c e z
    exact ⟨ns', l', m', t', by rw [upd_ne (ne_of_none e1 hp)]; exact f1, by rw [upd_ne (ne_of_none e2 hp)]; exact f2, f3⟩
end

/-! ### states -/
/-- what a slot holds: anything; data; a list of the def's own that may change; the source -/
inductive Sl where
  | un | v (d : D) | own (l : List D) | src
  | ob (a dx C : Addr) (fs : List (Str × D))
  | xc (W : WX) (PX : Value → Option (List (Str × D)) → Prop) (l : List (Option D)) | fz (a : Addr) (fs : List (Str × D))
/-- an exception's dict (data by now), if it has one -/
def XdAt (S : Hp) (d : Option Addr) : Option (List (Str × D)) → Prop
  | Option.none => d = Option.none
  | some l => ∃ a vs, d = some a ∧ S a = some (.xd vs) ∧ DtF S l vs
theorem XdAt.mono {S S' : Hp} (e : Same S S') {d : Option Addr} {fs : Option (List (Str × D))} (h : XdAt S d fs) : XdAt S' d fs := by
  cases fs with
  | none => exact h
  | some l =>
    obtain ⟨a, vs, e1, e2, h⟩ := h
    exact ⟨a, vs, e1, e _ _ e2, h.mono e⟩
/-- from (S, H) to (S', H'), where the def's own may have changed: H0 is the entry -/
structure Gw (F : Fp) (H0 S H S' H' : Hp) : Prop where
  s : Same S S'
  h : Same S' H'
  n : ∀ x o, H0 x = some o → S' x = S x
  k : ∀ x o u, ¬ fp F x → H0 x = some o → H x = some u → H' x = some u
  m : ∀ x o, H0 x = some o → ∃ o', H' x = some o'
  src : ∀ a c, F = some (a, c) → SrcAt H a c → SrcAt H' a c
theorem Gw.trans {F : Fp} {H0 S H S1 H1 S2 H2 : Hp} (a : Gw F H0 S H S1 H1) (b : Gw F H0 S1 H1 S2 H2) : Gw F H0 S H S2 H2 :=
  ⟨a.s.trans b.s, b.h, fun x o e => (b.n x o e).trans (a.n x o e), fun x o u f e z => b.k x o u f e (a.k x o u f e z), b.m, fun p c e z => b.src p c e (a.src p c e z)⟩
theorem Gr.w {F : Fp} {H0 S H S' H' : Hp} (g : Gr F S H S' H') (hd : ∀ x o, H0 x = some o → ∃ o', H x = some o') : Gw F H0 S H S' H' :=
  ⟨g.s, g.h, fun x o e => (hd x o e).elim fun o' e' => g.n x o' e', fun x o u f _ z => g.k x u f z, fun x o e => (hd x o e).elim fun o' e' => g.m x o' e', g.src⟩
theorem Gw.gr {F : Fp} {S0 H0 S H S' H' : Hp} (g : Gr F S0 H0 S H) (k : Gw F H0 S H S' H') : Gr F S0 H0 S' H' :=
  ⟨g.s.trans k.s, k.h, fun x o e => (k.n x o e).trans (g.n x o e), fun x o f e => k.k x o o f e (g.k x o f e), k.m, fun a c e z => k.src a c e (g.src a c e z)⟩
theorem Gw.ok {F : Fp} {H0 S H S' H' : Hp} (k : Gw F H0 S H S' H') (w : Okw F S H) (fh : ∀ x, fp F x → ∃ o, H0 x = some o) : Okw F S' H' := ⟨k.h, fun a c e => by
  obtain ⟨h1, h2, h3⟩ := w.src a c e
  obtain ⟨o1, e1⟩ := fh a ⟨a, c, e, .inl rfl⟩
  obtain ⟨o2, e2⟩ := fh c ⟨a, c, e, .inr rfl⟩
  exact ⟨by rw [k.n _ _ e1]; exact h1, by rw [k.n _ _ e2]; exact h2, k.src a c e h3⟩⟩
/-- one own object of the def becomes data -/
theorem Gw.frz {F : Fp} {H0 S H : Hp} {p : Addr} {o : HO} (w : Same S H) (h1 : H p = some o) (h2 : S p = Option.none) (h3 : H0 p = Option.none) (hd : ∀ x o, H0 x = some o → ∃ o', H x = some o') : Gw F H0 S H (upd S p o) H :=
  ⟨fun x u e => by rw [upd_ne (ne_of_none e h2)]; exact e, fun x u e => by
    by_cases hx : x = p
    · subst hx
      rw [upd_same] at e
      cases e
      exact h1
    · rw [upd_ne hx] at e
      exact w x u e, fun x o e => upd_ne (ne_of_none e h3), fun _ _ _ _ _ e => e, hd, fun _ _ _ e => e⟩
/-- .. or is changed -/
theorem Gw.mut {F : Fp} {H0 S H : Hp} {p : Addr} {o u : HO} (w : Same S H) (h1 : H p = some u) (h2 : S p = Option.none) (h3 : H0 p = Option.none) (nf : ¬ fp F p) (hd : ∀ x o, H0 x = some o → ∃ o', H x = some o') : Gw F H0 S H S (upd H p o) :=
  ⟨fun _ _ e => e, fun x v e => by rw [upd_ne (ne_of_none e h2)]; exact w x v e, fun _ _ _ => rfl, fun x v v' _ e e' => by rw [upd_ne (ne_of_none e h3)]; exact e', fun x v e => by
    rw [upd_ne (ne_of_none e h3)]
    exact hd x v e, fun a c e z => by
    obtain ⟨ns, l, m, t, z3, z4, z5⟩ := z
    have n1 : a ≠ p := fun z => nf ⟨a, c, e, .inl z.symm⟩
    have n2 : c ≠ p := fun z => nf ⟨a, c, e, .inr z.symm⟩
    exact ⟨ns, l, m, t, by rw [upd_ne n1]; exact z3, by rw [upd_ne n2]; exact z4, z5⟩⟩
/-- an exception that leaves from here on finds its way W: of the slots, those in l are told -/
structure XcOk (F : Fp) (S H H0 : Hp) (W : WX) (PX : Value → Option (List (Str × D)) → Prop) (l : List (Option D)) : Prop where
  hd : ∀ x o, H0 x = some o → ∃ o', H x = some o'
  go : ∀ (S' H' : Hp) (c : Value) (d : Option Addr) (fs : Option (List (Str × D))) (σ : L2.St), Gw F H0 S H S' H' → PX c fs → XdAt S' d fs → σ.length = l.length → (∀ (i : Nat) (x : D), l[i]? = some (some x) → ∃ y, σ[i]? = some (some y) ∧ Dt S' x y) → W c d σ H'
theorem XcOk.mono {F : Fp} {S H H0 S1 H1 : Hp} {W : WX} {PX : Value → Option (List (Str × D)) → Prop} {l : List (Option D)} (h : XcOk F S H H0 W PX l) (g : Gw F H0 S H S1 H1) : XcOk F S1 H1 H0 W PX l :=
  ⟨g.m, fun S2 H2 c d fs σ g2 => h.go S2 H2 c d fs σ (g.trans g2)⟩
def SlOk (F : Fp) (S H H0 : Hp) : Sl → Option V → Prop
  | .un, _ => True
  | .v d, x => ∃ y, x = some y ∧ Dt S d y
  | .own ds, x => ∃ p xs, x = some (.ref p) ∧ H p = some (.lst xs) ∧ S p = Option.none ∧ H0 p = Option.none ∧ DtL S ds xs
  | .src, x => ∃ a c, F = some (a, c) ∧ x = some (.ref a)
  | .ob a dx C fs, x => ∃ vs, x = some (.ref a) ∧ H a = some (.ins C dx vs) ∧ H dx = some (.own a) ∧ S a = Option.none ∧ S dx = Option.none ∧ H0 a = Option.none ∧ H0 dx = Option.none ∧ DtF S fs vs
  | .xc W PX l, _ => XcOk F S H H0 W PX l
  | .fz a fs, _ => ∃ vs, S a = some (.xd vs) ∧ DtF S fs vs
structure StD (F : Fp) (S H H0 : Hp) (σ : L2.St) (Δ : List Sl) : Prop where
  len : σ.length = Δ.length
  ok : ∀ (i : Nat) (s : Sl), Δ[i]? = some s → ∃ x, σ[i]? = some x ∧ SlOk F S H H0 s x
  nd : ∀ (i j : Nat) ds es p, Δ[i]? = some (.own ds) → Δ[j]? = some (.own es) → σ[i]? = some (some (.ref p)) → σ[j]? = some (some (.ref p)) → i = j
  fh : ∀ x, fp F x → ∃ o, H0 x = some o
section
variable {F : Fp} {S H S' H' H0 : Hp} {σ : L2.St} {Δ : List Sl}
theorem SlOk.mono {s : Sl} {x : Option V} (hf : ∀ x, fp F x → ∃ o, H0 x = some o) (g : Gr F S H S' H') (h : SlOk F S H H0 s x) : SlOk F S' H' H0 s x := by
  cases s with
  | un => trivial
  | v d =>
    obtain ⟨y, e, h⟩ := h
    exact ⟨y, e, h.mono g.s⟩
  | own ds =>
    obtain ⟨p, xs, e, e1, e2, e3, h⟩ := h
    refine ⟨p, xs, e, g.k _ _ (fun z => ?_) e1, by rw [g.n _ _ e1]; exact e2, e3, h.mono g.s⟩
    obtain ⟨o, q⟩ := hf p z
    rw [e3] at q
    cases q
  | src => exact h
  | ob a dx C fs =>
    obtain ⟨vs, e, e1, e2, e3, e4, e5, e6, h⟩ := h
    have nf : ∀ y, H0 y = Option.none → ¬ fp F y := fun y q z => by
      obtain ⟨o, q'⟩ := hf y z
      rw [q] at q'
      cases q'
    exact ⟨vs, e, g.k _ _ (nf a e5) e1, g.k _ _ (nf dx e6) e2, by rw [g.n _ _ e1]; exact e3, by rw [g.n _ _ e2]; exact e4, e5, e6, h.mono g.s⟩
  | xc W PX l => exact XcOk.mono h (g.w h.hd)
  | fz a fs =>
    obtain ⟨vs, e, h⟩ := h
    exact ⟨vs, g.s _ _ e, h.mono g.s⟩
theorem StD.mono (t : StD F S H H0 σ Δ) (g : Gr F S H S' H') : StD F S' H' H0 σ Δ := ⟨t.len, fun i s e => by
  obtain ⟨x, e1, h⟩ := t.ok i s e
  exact ⟨x, e1, h.mono t.fh g⟩, t.nd, t.fh⟩
theorem StD.set (t : StD F S H H0 σ Δ) {i : Nat} {s : Sl} {v : V} (h : SlOk F S H H0 s (some v)) (hn : ∀ (ds : List D), s = Sl.own ds → ∀ (j : Nat) (es : List D) (p : Addr), Δ[j]? = some (Sl.own es) → σ[j]? = some (some (V.ref p)) → v = V.ref p → False) : StD F S H H0 (σ.set i (some v)) (Δ.set i s) := by
  refine ⟨by simp [t.len], fun j s' e => ?_, fun j k ds es p e1 e2 f1 f2 => ?_, t.fh⟩
  · by_cases hj : j = i
    · subst hj
      have hl : j < Δ.length := by
        have := (List.getElem?_eq_some_iff.mp e).1
        simpa using this
      rw [List.getElem?_set_self hl] at e
      cases e
      exact ⟨_, List.getElem?_set_self (by rw [t.len]; exact hl), h⟩
    · rw [List.getElem?_set_ne (Ne.symm hj)] at e ⊢
      exact t.ok j s' e
  · by_cases hj : j = i
    · by_cases hk : k = i
      · rw [hj, hk]
      · subst hj
        exfalso
        have hl : j < Δ.length := by
          have := (List.getElem?_eq_some_iff.mp e1).1
          simpa using this
        rw [List.getElem?_set_self hl] at e1
        rw [List.getElem?_set_self (by rw [t.len]; exact hl)] at f1
        rw [List.getElem?_set_ne (Ne.symm hk)] at e2 f2
        cases e1
        cases f1
        exact hn ds rfl k es p e2 f2 rfl
    · by_cases hk : k = i
      · subst hk
        exfalso
        have hl : k < Δ.length := by
          have := (List.getElem?_eq_some_iff.mp e2).1
          simpa using this
        rw [List.getElem?_set_self hl] at e2
        rw [List.getElem?_set_self (by rw [t.len]; exact hl)] at f2
        rw [List.getElem?_set_ne (Ne.symm hj)] at e1 f1
        cases e2
        cases f2
        exact hn es rfl j ds p e1 f1 rfl
      · rw [List.getElem?_set_ne (Ne.symm hj)] at e1 f1
        rw [List.getElem?_set_ne (Ne.symm hk)] at e2 f2
        exact t.nd j k ds es p e1 e2 f1 f2
theorem StD.setV (t : StD F S H H0 σ Δ) {i : Nat} {d : D} {v : V} (h : Dt S d v) : StD F S H H0 (σ.set i (some v)) (Δ.set i (.v d)) := t.set ⟨v, rfl, h⟩ fun _ e => nomatch e
/-- a list just made -/
theorem StD.setOwn (t : StD F S H H0 σ Δ) (g : Gr F S H S' H') {i : Nat} {p : Addr} {xs : List V} {ds : List D} (hp : H p = Option.none) (h0 : H0 p = Option.none) (h' : H' p = some (.lst xs)) (hs : S' p = Option.none) (hd : DtL S' ds xs) :
    StD F S' H' H0 (σ.set i (some (.ref p))) (Δ.set i (.own ds)) :=
  (t.mono g).set ⟨p, xs, rfl, h', hs, h0, hd⟩ fun es _ j fs q e1 e2 e3 => by
    cases e3
    obtain ⟨x, f1, q', ys, f2, f3, _⟩ := t.ok j _ e1
    rw [e2] at f1
    cases f1
    cases f2
    rw [hp] at f3
    cases f3
theorem StD.get (t : StD F S H H0 σ Δ) {i : Nat} {d : D} (e : Δ[i]? = some (.v d)) : ∃ y, σ[i]? = some (some y) ∧ Dt S d y := by
  obtain ⟨x, e1, y, e2, h⟩ := t.ok i _ e
  subst e2
  exact ⟨y, e1, h⟩
theorem StD.wipe (t : StD F S H H0 σ Δ) (i : Nat) : StD F S H H0 (σ.set i Option.none) (Δ.set i .un) := by
  refine ⟨by simp [t.len], fun j s' e => ?_, fun j k ds es p e1 e2 f1 f2 => ?_, t.fh⟩
  · by_cases hj : j = i
    · subst hj
      have hl : j < Δ.length := by
        have := (List.getElem?_eq_some_iff.mp e).1
        simpa using this
      rw [List.getElem?_set_self hl] at e
      cases e
      exact ⟨_, List.getElem?_set_self (by rw [t.len]; exact hl), trivial⟩
    · rw [List.getElem?_set_ne (Ne.symm hj)] at e ⊢
      exact t.ok j s' e
  · by_cases hj : j = i
    · subst hj
      exfalso
      have hl : j < Δ.length := by
        have := (List.getElem?_eq_some_iff.mp e1).1
        simpa using this
      rw [List.getElem?_set_self hl] at e1
      cases e1
    · by_cases hk : k = i
      · subst hk
        exfalso
        have hl : k < Δ.length := by
          have := (List.getElem?_eq_some_iff.mp e2).1
          simpa using this
        rw [List.getElem?_set_self hl] at e2
        cases e2
      · rw [List.getElem?_set_ne (Ne.symm hj)] at e1 f1
        rw [List.getElem?_set_ne (Ne.symm hk)] at e2 f2
        exact t.nd j k ds es p e1 e2 f1 f2
end
end Bc

/-! Core 2: what readings evaluate to, by data. -/
namespace Bc
open PySem L2
section
variable (F : Fp)
/-- an expression; a test; arguments; a list or tuple that is read; a new list -/
def EvR (te : TE) (Δ : List Sl) (P : D → Prop) : Prop := ∀ (H0 S H : Hp) (σ : L2.St), Okw F S H → StD F S H H0 σ Δ → ∀ Q : VK, (∀ d v S' H', P d → Gr F S H S' H' → Dt S' d v → Q v H') → te σ H Q
def EvT (tt : TT) (Δ : List Sl) (P : Bool → Prop) : Prop := ∀ (H0 S H : Hp) (σ : L2.St), Okw F S H → StD F S H H0 σ Δ → ∀ Q : Bool → Hp → Prop, (∀ b S' H', P b → Gr F S H S' H' → Q b H') → tt σ H Q
def EvA (ta : TA) (Δ : List Sl) (P : List D → Prop) : Prop := ∀ (H0 S H : Hp) (σ : L2.St), Okw F S H → StD F S H H0 σ Δ → ∀ Q : List V → Hp → Prop, (∀ ds vs S' H', P ds → Gr F S H S' H' → DtL S' ds vs → Q vs H') → ta σ H Q
def EvO (to : TO) (Δ : List Sl) (P : Option Int → Prop) : Prop := ∀ (H0 S H : Hp) (σ : L2.St), Okw F S H → StD F S H H0 σ Δ → ∀ Q : Option Int → Hp → Prop, (∀ o S' H', P o → Gr F S H S' H' → Q o H') → to σ H Q
def mkS (b : Bool) (xs : List V) : HO := if b then .tup xs else .lst xs
def EvS (b : Bool) (te : TE) (Δ : List Sl) (P : List D → Prop) : Prop := ∀ (H0 S H : Hp) (σ : L2.St), Okw F S H → StD F S H H0 σ Δ → ∀ Q : VK, (∀ ds p xs S' H', P ds → Gr F S H S' H' → ¬ fp F p → H' p = some (mkS b xs) → DtL S' ds xs → Q (.ref p) H') → te σ H Q
def EvF (te : TE) (Δ : List Sl) (P : List D → Prop) : Prop := ∀ (H0 S H : Hp) (σ : L2.St), Okw F S H → StD F S H H0 σ Δ → ∀ Q : VK, (∀ ds p xs S' H', P ds → Gr F S H S' H' → H p = Option.none → H' p = some (.lst xs) → S' p = Option.none → DtL S' ds xs → Q (.ref p) H') → te σ H Q
end
section
variable {F : Fp} {te ta tb : TE} {Δ : List Sl} {P P' : D → Prop} {d x y : D}
abbrev Ev1 (F : Fp) (te : TE) (Δ : List Sl) (d : D) : Prop := EvR F te Δ fun x => x = d
theorem EvR.imp (h : EvR F te Δ P) (i : ∀ d, P d → P' d) : EvR F te Δ P' := fun H0 S H σ w t Q k => h H0 S H σ w t Q fun d v S' H' p g q => k d v S' H' (i d p) g q
theorem EvR.to1 (h : EvR F te Δ P) (i : ∀ x, P x → x = d) : Ev1 F te Δ d := h.imp i
theorem Ev1.eq (h : Ev1 F te Δ x) (e : x = d) : Ev1 F te Δ d := e ▸ h
theorem EvT.imp {tt : TT} {P P' : Bool → Prop} (h : EvT F tt Δ P) (i : ∀ b, P b → P' b) : EvT F tt Δ P' := fun H0 S H σ w t Q k => h H0 S H σ w t Q fun b S' H' p g => k b S' H' (i b p) g
theorem EvA.imp {ta : TA} {P P' : List D → Prop} (h : EvA F ta Δ P) (i : ∀ b, P b → P' b) : EvA F ta Δ P' := fun H0 S H σ w t Q k => h H0 S H σ w t Q fun b v S' H' p g q => k b v S' H' (i b p) g q
theorem EvF.imp {P P' : List D → Prop} (h : EvF F te Δ P) (i : ∀ b, P b → P' b) : EvF F te Δ P' := fun H0 S H σ w t Q k => h H0 S H σ w t Q fun ds p xs S' H' p' g h1 h2 h3 h4 => k ds p xs S' H' (i ds p') g h1 h2 h3 h4
theorem EvS.imp {b : Bool} {P P' : List D → Prop} (h : EvS F b te Δ P) (i : ∀ b, P b → P' b) : EvS F b te Δ P' := fun H0 S H σ w t Q k => h H0 S H σ w t Q fun ds p xs S' H' p' g h1 h2 h3 => k ds p xs S' H' (i ds p') g h1 h2 h3
/-! values -/
theorem ev_var {i : Nat} (e : Δ[i]? = some (.v d)) : Ev1 F (tVar i) Δ d := fun H0 S H σ w t Q k => by
  obtain ⟨y, e1, h⟩ := t.get e
  exact ⟨y, e1, k d y S H rfl (Gr.refl w.s) h⟩
theorem ev_int {i : Int} : Ev1 F (tC (.int i)) Δ (.int i) := fun _ S H σ w t Q k => k _ _ S H rfl (Gr.refl w.s) (by simp only [Dt])
theorem ev_str {i : Str} : Ev1 F (tC (.str i)) Δ (.str i) := fun _ S H σ w t Q k => k _ _ S H rfl (Gr.refl w.s) (by simp only [Dt])
theorem ev_bl {i : Bool} : Ev1 F (tC (.bl i)) Δ (.bool i) := fun _ S H σ w t Q k => k _ _ S H rfl (Gr.refl w.s) (by simp only [Dt])
theorem ev_non : Ev1 F (tC .non) Δ .none := fun _ S H σ w t Q k => k _ _ S H rfl (Gr.refl w.s) (by simp only [Dt])
theorem ev_ref {a : Addr} : Ev1 F (tC (.ref a)) Δ (.ref a) := fun _ S H σ w t Q k => k _ _ S H rfl (Gr.refl w.s) (by simp only [Dt])
/-! operators -/
def OpS (F : Fp) (r : R2) (f : D → D → D → Prop) : Prop := ∀ (S H : Hp) (x y d : D) (u v : V) (Q : VK), Okw F S H → Dt S x u → Dt S y v → f x y d → (∀ w S' H', Gr F S H S' H' → Dt S' d w → Q w H') → r u v H Q
theorem ev_op {r : R2} {f : D → D → D → Prop} {P1 P2 : D → Prop} (hr : OpS F r f) (ha : EvR F ta Δ P1) (hb : EvR F tb Δ P2) (h : ∀ x y, P1 x → P2 y → ∃ d, f x y d ∧ P d) : EvR F (tOp r ta tb) Δ P := fun H0 S H σ w t Q k => by
  refine ha H0 S H σ w t _ fun x u S1 H1 p1 g1 hx => ?_
  refine hb H0 S1 H1 σ (g1.ok w) (t.mono g1) _ fun y v S2 H2 p2 g2 hy => ?_
  obtain ⟨d, hf, hd⟩ := h x y p1 p2
  exact hr S2 H2 x y d u v Q (g2.ok (g1.ok w)) (hx.mono g2.s) hy hf fun w S3 H3 g3 q => k d w S3 H3 hd ((g1.trans g2).trans g3) q
theorem ev_op1 {r : R2} {f : D → D → D → Prop} (hr : OpS F r f) (ha : Ev1 F ta Δ x) (hb : Ev1 F tb Δ y) (h : f x y d) : Ev1 F (tOp r ta tb) Δ d := ev_op hr ha hb fun _ _ e1 e2 => ⟨d, by rw [e1, e2]; exact h, rfl⟩
theorem OpS.or {r r' : R2} {f f' : D → D → D → Prop} (h : OpS F r f) (h' : OpS F r' f') : OpS F (fun x y H Q => r x y H Q ∨ r' x y H Q) (fun x y d => f x y d ∨ f' x y d) := fun S H x y d u v Q w hx hy hf k => by
  rcases hf with hf | hf
  · exact .inl (h S H x y d u v Q w hx hy hf k)
  · exact .inr (h' S H x y d u v Q w hx hy hf k)
/-! arguments, displays -/
theorem ea_nil : EvA F tNil Δ fun ds => ds = [] := fun _ S H σ w t Q k => k _ _ S H rfl (Gr.refl w.s) (by simp only [DtL])
theorem ea_cons {tr : TA} {Pr : List D → Prop} (h : EvR F te Δ P) (hr : EvA F tr Δ Pr) : EvA F (tCons te tr) Δ fun ds => ∃ d r, ds = d :: r ∧ P d ∧ Pr r := fun H0 S H σ w t Q k => by
  refine h H0 S H σ w t _ fun d v S1 H1 p1 g1 hd => ?_
  refine hr H0 S1 H1 σ (g1.ok w) (t.mono g1) _ fun ds vs S2 H2 p2 g2 hds => ?_
  exact k _ _ S2 H2 ⟨d, ds, rfl, p1, p2⟩ (g1.trans g2) (dtl_cons (hd.mono g2.s) hds)
theorem ea_cons1 {tr : TA} {ds : List D} (h : Ev1 F te Δ d) (hr : EvA F tr Δ fun r => r = ds) : EvA F (tCons te tr) Δ fun r => r = d :: ds := (ea_cons h hr).imp fun b ⟨_, _, e, e1, e2⟩ => by rw [e, e1, e2]
theorem ev_tupP {t : TA} {Pa : List D → Prop} (h : EvA F t Δ Pa) (hl : ∀ ds, Pa ds → ds.length ≤ sizeLine) : EvR F (tTup t) Δ fun d => ∃ ds, Pa ds ∧ d = .tuple ds := fun H0 S H σ w tt Q k => by
  refine h H0 S H σ w tt _ fun ds vs S1 H1 p1 g1 hd => ?_
  refine ⟨by rw [← hd.len]; exact hl ds p1, fun p hp => ?_⟩
  refine k (.tuple ds) (.ref p) _ _ ⟨ds, p1, rfl⟩ (g1.trans (Gr.newD g1.h hp)) ?_
  simp only [Dt]
  exact ⟨p, vs, rfl, upd_same, hd.mono (Gr.newD (F := F) (o := .tup vs) g1.h hp).s⟩
theorem ev_tup {t : TA} {ds : List D} (h : EvA F t Δ fun r => r = ds) (hl : ds.length ≤ sizeLine := by first | decide | (simp only [List.length_cons, List.length_nil]; decide)) : Ev1 F (tTup t) Δ (.tuple ds) := (ev_tupP h fun _ e => by rw [e]; exact hl).imp fun d ⟨_, e, e2⟩ => by rw [e2, e]
theorem ef_lstP {t : TA} {Pa : List D → Prop} (h : EvA F t Δ Pa) (hl : ∀ ds, Pa ds → ds.length ≤ sizeLine) : EvF F (tLst t) Δ Pa := fun H0 S H σ w tt Q k => by
  refine h H0 S H σ w tt _ fun ds vs S1 H1 p1 g1 hd => ?_
  refine ⟨by rw [← hd.len]; exact hl ds p1, fun p hp => ?_⟩
  have hn : H p = Option.none := by
    cases e : H p with
    | none => rfl
    | some o =>
      obtain ⟨o', e'⟩ := g1.m p o e
      rw [hp] at e'
      cases e'
  exact k ds p vs S1 _ p1 (g1.trans (Gr.new g1.h hp)) hn upd_same (Same.free g1.h hp) hd
theorem ef_lst {t : TA} {ds : List D} (h : EvA F t Δ fun r => r = ds) (hl : ds.length ≤ sizeLine := by first | decide | (simp only [List.length_cons, List.length_nil]; decide)) : EvF F (tLst t) Δ fun r => r = ds := ef_lstP h fun _ e => by rw [e]; exact hl
/-- a new list as a value -/
theorem EvF.val {Pa : List D → Prop} (h : EvF F te Δ Pa) : EvR F te Δ fun d => ∃ ds, Pa ds ∧ d = .list ds := fun H0 S H σ w t Q k =>
  h H0 S H σ w t Q fun ds p xs S' H' p1 g hp h' hs hd => k (.list ds) (.ref p) _ H' ⟨ds, p1, rfl⟩ (g.freeze hp h') (by
    simp only [Dt]
    exact ⟨p, xs, rfl, upd_same, hd.mono (fun x u e => by rw [upd_ne (ne_of_none e hs)]; exact e)⟩)
theorem EvF.val1 {ds : List D} (h : EvF F te Δ fun r => r = ds) : Ev1 F te Δ (.list ds) := h.val.imp fun d ⟨_, e, e2⟩ => by rw [e2, e]
/-- .. as what is read -/
theorem EvF.seq {Pa : List D → Prop} (h : EvF F te Δ Pa) (hf : True) : EvS F false te Δ Pa := fun H0 S H σ w t Q k =>
  h H0 S H σ w t Q fun ds p xs S' H' p1 g hp h' hs hd => k ds p xs S' H' p1 g (fun z => by
    obtain ⟨a, c, e, z⟩ := z
    obtain ⟨_, _, ns, l, m, tt, e1, e2, _⟩ := w.src a c e
    rcases z with rfl | rfl
    · rw [hp] at e1; cases e1
    · rw [hp] at e2; cases e2) h' hd
theorem es_list {ds : List D} (h : Ev1 F te Δ (.list ds)) : EvS F false te Δ fun r => r = ds := fun H0 S H σ w t Q k => by
  refine h H0 S H σ w t _ fun d v S' H' e g hd => ?_
  subst e
  simp only [Dt] at hd
  obtain ⟨a, xs, rfl, e1, h1⟩ := hd
  exact k ds a xs S' H' rfl g ((g.ok w).nfp e1) (g.h _ _ e1) h1
theorem es_tuple {ds : List D} (h : Ev1 F te Δ (.tuple ds)) : EvS F true te Δ fun r => r = ds := fun H0 S H σ w t Q k => by
  refine h H0 S H σ w t _ fun d v S' H' e g hd => ?_
  subst e
  simp only [Dt] at hd
  obtain ⟨a, xs, rfl, e1, h1⟩ := hd
  exact k ds a xs S' H' rfl g ((g.ok w).nfp e1) (g.h _ _ e1) h1
theorem es_own {i : Nat} {ds : List D} (e : Δ[i]? = some (.own ds)) : EvS F false (tVar i) Δ fun r => r = ds := fun H0 S H σ w t Q k => by
  obtain ⟨x, e1, p, xs, rfl, h1, h2, h3, h4⟩ := t.ok i _ e
  exact ⟨_, e1, k ds p xs S H rfl (Gr.refl w.s) (fun z => by
    obtain ⟨o, q⟩ := t.fh p z
    rw [h3] at q
    cases q) h1 h4⟩
/-! tests -/
theorem et_test {Pb : Bool → Prop} (h : EvR F te Δ fun d => ∃ b, d = .bool b ∧ Pb b) : EvT F (tTest te) Δ Pb := fun H0 S H σ w t Q k =>
  h H0 S H σ w t _ fun d v S' H' ⟨b, e, p⟩ g hd => by
    subst e
    simp only [Dt] at hd
    exact ⟨b, hd, k b S' H' p g⟩
theorem et_B {Pb : Bool → Prop} (h : EvR F te Δ fun d => ∃ b, d = .bool b ∧ Pb b) : EvT F (tB te) Δ Pb := fun H0 S H σ w t Q k =>
  h H0 S H σ w t _ fun d v S' H' ⟨b, e, p⟩ g hd => by
    subst e
    simp only [Dt] at hd
    exact ⟨b, hd, k b S' H' p g⟩
theorem et_test1 {b : Bool} (h : Ev1 F te Δ (.bool b)) : EvT F (tTest te) Δ fun c => c = b := et_test (h.imp fun d e => ⟨b, e, rfl⟩)
theorem et_B1 {b : Bool} (h : Ev1 F te Δ (.bool b)) : EvT F (tB te) Δ fun c => c = b := et_B (h.imp fun d e => ⟨b, e, rfl⟩)
theorem et_and {t u : TT} {P1 P2 : Bool → Prop} (h1 : EvT F t Δ P1) (h2 : P1 true → EvT F u Δ P2) : EvT F (tAnd t u) Δ fun b => (b = false ∧ P1 false) ∨ (P1 true ∧ P2 b) := fun H0 S H σ w tt Q k => by
  refine h1 H0 S H σ w tt _ fun b S1 H1 p1 g1 => ?_
  cases b with
  | true =>
    show u σ H1 Q
    exact h2 p1 H0 S1 H1 σ (g1.ok w) (tt.mono g1) Q fun c S2 H2 p2 g2 => k c S2 H2 (.inr ⟨p1, p2⟩) (g1.trans g2)
  | false => exact k false S1 H1 (.inl ⟨rfl, p1⟩) g1
theorem et_or {t u : TT} {P1 P2 : Bool → Prop} (h1 : EvT F t Δ P1) (h2 : P1 false → EvT F u Δ P2) : EvT F (tOr t u) Δ fun b => (b = true ∧ P1 true) ∨ (P1 false ∧ P2 b) := fun H0 S H σ w tt Q k => by
  refine h1 H0 S H σ w tt _ fun b S1 H1 p1 g1 => ?_
  cases b with
  | false =>
    show u σ H1 Q
    exact h2 p1 H0 S1 H1 σ (g1.ok w) (tt.mono g1) Q fun c S2 H2 p2 g2 => k c S2 H2 (.inr ⟨p1, p2⟩) (g1.trans g2)
  | true => exact k true S1 H1 (.inl ⟨rfl, p1⟩) g1
theorem et_not {t : TT} {P1 : Bool → Prop} (h1 : EvT F t Δ P1) : EvT F (tNot t) Δ fun b => P1 (!b) := fun H0 S H σ w tt Q k =>
  h1 H0 S H σ w tt _ fun b S1 H1 p1 g1 => k (!b) S1 H1 (by show P1 (!(!b)); rw [Bool.not_not]; exact p1) g1
theorem et_and1 {t u : TT} {a b : Bool} (h1 : EvT F t Δ fun c => c = a) (h2 : a = true → EvT F u Δ fun c => c = b) : EvT F (tAnd t u) Δ fun c => c = (a && b) := (et_and h1 fun e => h2 e.symm).imp fun c h => by
  rcases h with ⟨rfl, e⟩ | ⟨e, rfl⟩
  · rw [← e]; rfl
  · rw [← e]; rfl
theorem et_or1 {t u : TT} {a b : Bool} (h1 : EvT F t Δ fun c => c = a) (h2 : a = false → EvT F u Δ fun c => c = b) : EvT F (tOr t u) Δ fun c => c = (a || b) := (et_or h1 fun e => h2 e.symm).imp fun c h => by
  rcases h with ⟨rfl, e⟩ | ⟨e, rfl⟩
  · rw [← e]; rfl
  · rw [← e]; rfl
theorem et_not1 {t : TT} {a : Bool} (h1 : EvT F t Δ fun c => c = a) : EvT F (tNot t) Δ fun c => c = !a := (et_not h1).imp fun c e => by rw [← e, Bool.not_not]
theorem EvT.eq {t : TT} {a b : Bool} (h : EvT F t Δ fun c => c = a) (e : a = b) : EvT F t Δ fun c => c = b := e ▸ h
theorem ev_andV {a b : Bool} (h1 : Ev1 F ta Δ (.bool a)) (h2 : a = true → Ev1 F tb Δ (.bool b)) : Ev1 F (tAndV ta tb) Δ (.bool (a && b)) := fun H0 S H σ w t Q k => by
  refine h1 H0 S H σ w t _ fun d v S1 H1 e g1 hd => ?_
  subst e
  simp only [Dt] at hd
  refine ⟨a, hd, ?_⟩
  cases a with
  | true =>
    show tb σ H1 Q
    exact h2 rfl H0 S1 H1 σ (g1.ok w) (t.mono g1) Q fun d v S2 H2 e g2 hd => k d v S2 H2 e (g1.trans g2) hd
  | false => exact k _ _ S1 H1 rfl g1 (by simp only [Dt, Bool.false_and])
theorem ev_orV {a b : Bool} (h1 : Ev1 F ta Δ (.bool a)) (h2 : a = false → Ev1 F tb Δ (.bool b)) : Ev1 F (tOrV ta tb) Δ (.bool (a || b)) := fun H0 S H σ w t Q k => by
  refine h1 H0 S H σ w t _ fun d v S1 H1 e g1 hd => ?_
  subst e
  simp only [Dt] at hd
  refine ⟨a, hd, ?_⟩
  cases a with
  | false =>
    show tb σ H1 Q
    exact h2 rfl H0 S1 H1 σ (g1.ok w) (t.mono g1) Q fun d v S2 H2 e g2 hd => k d v S2 H2 e (g1.trans g2) hd
  | true => exact k _ _ S1 H1 rfl g1 (by simp only [Dt, Bool.true_or])
theorem ev_notV {a : Bool} (h1 : Ev1 F ta Δ (.bool a)) : Ev1 F (tNotV ta) Δ (.bool (!a)) := fun H0 S H σ w t Q k =>
  h1 H0 S H σ w t _ fun d v S1 H1 e g1 hd => by
    subst e
    simp only [Dt] at hd
    exact ⟨a, hd, k _ _ S1 H1 rfl g1 (by simp only [Dt])⟩
theorem ev_if {t : TT} {Pb : Bool → Prop} (h : EvT F t Δ Pb) (h1 : Pb true → EvR F ta Δ P) (h2 : Pb false → EvR F tb Δ P) : EvR F (tIf t ta tb) Δ P := fun H0 S H σ w tt Q k => by
  refine h H0 S H σ w tt _ fun b S1 H1 p1 g1 => ?_
  cases b with
  | true =>
    show ta σ H1 Q
    exact h1 p1 H0 S1 H1 σ (g1.ok w) (tt.mono g1) Q fun d v S2 H2 e g2 hd => k d v S2 H2 e (g1.trans g2) hd
  | false =>
    show tb σ H1 Q
    exact h2 p1 H0 S1 H1 σ (g1.ok w) (tt.mono g1) Q fun d v S2 H2 e g2 hd => k d v S2 H2 e (g1.trans g2) hd
end
/-! ### statements -/
structure Po where
  nx : List Sl → Prop
  rt : D → Prop
  bk : List Sl → Prop := fun _ => False
  ct : List Sl → Prop := fun _ => False
  ro : D → List Sl → Prop := fun _ _ => True
/-- v is d (fr: a new list) -/
structure Giv (fr : Bool) (F : Fp) (S0 H0 : Hp) (d : D) (v : V) (S H : Hp) : Prop where
  g : Gr F S0 H0 S H
  vl : fr = false → Dt S d v
  f : fr = true → ∃ ds p xs, d = .list ds ∧ v = .ref p ∧ H p = some (.lst xs) ∧ S p = Option.none ∧ H0 p = Option.none ∧ DtL S ds xs
/-- from the entry (S0, H0); B: data that stays -/
structure Gb (F : Fp) (S0 H0 B S H : Hp) : Prop where
  g : Gr F S0 H0 S H
  b : Same B S
theorem Gb.step {F : Fp} {S0 H0 B S H S' H' : Hp} (x : Gb F S0 H0 B S H) (g : Gr F S H S' H') : Gb F S0 H0 B S' H' := ⟨x.g.trans g, x.b.trans g.s⟩
structure Re (F : Fp) (fr : Bool) (S0 H0 B : Hp) (Po : Po) (E : Ends) : Prop where
  nx : ∀ Δ S H σ, Po.nx Δ → Okw F S H → Gb F S0 H0 B S H → StD F S H H0 σ Δ → E.nx σ H
  rt : ∀ d v Δ S H σ, Po.rt d → Po.ro d Δ → Okw F S H → StD F S H H0 σ Δ → Giv fr F S0 H0 d v S H → E.rt v H
  bk : ∀ Δ S H σ, Po.bk Δ → Okw F S H → Gb F S0 H0 B S H → StD F S H H0 σ Δ → E.bk σ H
  ct : ∀ Δ S H σ, Po.ct Δ → Okw F S H → Gb F S0 H0 B S H → StD F S H H0 σ Δ → E.ct σ H
def Run (F : Fp) (fr : Bool) (ts : TS) (Δ : List Sl) (po : Po) : Prop := ∀ (S0 H0 B S H : Hp) (σ : L2.St) (E : Ends), Okw F S H → Gb F S0 H0 B S H → StD F S H H0 σ Δ → Re F fr S0 H0 B po E → ts E σ H
section
variable {F : Fp} {fr : Bool} {te ta tb : TE} {ts t u : TS} {Δ : List Sl} {P P' : D → Prop} {d x y : D} {po : Po}
theorem Re.next {S0 H0 B : Hp} {E : Ends} (r : Re F fr S0 H0 B po E) {N : List Sl → Prop} {f : L2.St → Hp → Prop} (h : ∀ Δ S H σ, N Δ → Okw F S H → Gb F S0 H0 B S H → StD F S H H0 σ Δ → f σ H) : Re F fr S0 H0 B { po with nx := N } { E with nx := f } := ⟨h, r.rt, r.bk, r.ct⟩
theorem run_seqM {N : List Sl → Prop} (h : Run F fr t Δ { po with nx := N }) (k : ∀ Δ', N Δ' → Run F fr u Δ' po) : Run F fr (tSeq t u) Δ po := fun S0 H0 B S H σ E w g st r =>
  h S0 H0 B S H σ { E with nx := u E } w g st (r.next fun Δ' S' H' σ' n w' g' st' => k Δ' n S0 H0 B S' H' σ' E w' g' st' r)
theorem run_assoc {v : TS} (h : Run F fr (tSeq t (tSeq u v)) Δ po) : Run F fr (tSeq (tSeq t u) v) Δ po := h
theorem run_next (h : po.nx Δ) : Run F fr tNext Δ po := fun S0 H0 B S H σ E w g st r => r.nx Δ S H σ h w g st
theorem run_nextS (h : Run F fr u Δ po) : Run F fr (tSeq tNext u) Δ po := h
theorem run_asg {i : Nat} (h : EvR F te Δ P) (k : ∀ d, P d → po.nx (Δ.set i (.v d))) : Run F fr (tAsg te (gName i)) Δ po := fun S0 H0 B S H σ E w g st r =>
  h H0 S H σ w st _ fun d v S' H' p g' hd => r.nx _ S' H' _ (k d p) (g'.ok w) (g.step g') ((st.mono g').setV hd)
theorem run_asgS {i : Nat} (h : EvR F te Δ P) (k : ∀ d, P d → Run F fr u (Δ.set i (.v d)) po) : Run F fr (tSeq (tAsg te (gName i)) u) Δ po :=
  run_seqM (N := fun Δ' => ∃ d, P d ∧ Δ' = Δ.set i (.v d)) (run_asg h fun d p => ⟨d, p, rfl⟩) fun Δ' ⟨d, p, e⟩ => e ▸ k d p
theorem run_set {i : Nat} (h : Ev1 F te Δ d) (k : Run F fr u (Δ.set i (.v d)) po) : Run F fr (tSeq (tAsg te (gName i)) u) Δ po := run_asgS h fun _ e => e ▸ k
theorem run_set1 {i : Nat} (h : Ev1 F te Δ d) (k : po.nx (Δ.set i (.v d))) : Run F fr (tAsg te (gName i)) Δ po := run_asg h fun _ e => e ▸ k
/-- a new list becomes the def's own -/
theorem run_asgF {i : Nat} {Pa : List D → Prop} (h : EvF F te Δ Pa) (k : ∀ ds, Pa ds → po.nx (Δ.set i (.own ds))) : Run F fr (tAsg te (gName i)) Δ po := fun S0 H0 B S H σ E w g st r =>
  h H0 S H σ w st _ fun ds p xs S' H' q g' hp h' hs hd => r.nx _ S' H' _ (k ds q) (g'.ok w) (g.step g') (st.setOwn g' hp (by
    cases e : H0 p with
    | none => rfl
    | some o =>
      obtain ⟨o', e'⟩ := g.g.m p o e
      rw [hp] at e'
      cases e') h' hs hd)
theorem run_asgFS {i : Nat} {Pa : List D → Prop} (h : EvF F te Δ Pa) (k : ∀ ds, Pa ds → Run F fr u (Δ.set i (.own ds)) po) : Run F fr (tSeq (tAsg te (gName i)) u) Δ po :=
  run_seqM (N := fun Δ' => ∃ d, Pa d ∧ Δ' = Δ.set i (.own d)) (run_asgF h fun d p => ⟨d, p, rfl⟩) fun Δ' ⟨d, p, e⟩ => e ▸ k d p
theorem run_setF {i : Nat} {ds : List D} (h : EvF F te Δ fun r => r = ds) (k : Run F fr u (Δ.set i (.own ds)) po) : Run F fr (tSeq (tAsg te (gName i)) u) Δ po := run_asgFS h fun _ e => e ▸ k
theorem run_if {c : TT} {Pb : Bool → Prop} (h : EvT F c Δ Pb) (h1 : Pb true → Run F fr t Δ po) (h2 : Pb false → Run F fr u Δ po) : Run F fr (tIfS c t u) Δ po := fun S0 H0 B S H σ E w g st r =>
  h H0 S H σ w st _ fun b S' H' p g' => by
    cases b with
    | true => exact h1 p S0 H0 B S' H' σ E (g'.ok w) (g.step g') (st.mono g') r
    | false => exact h2 p S0 H0 B S' H' σ E (g'.ok w) (g.step g') (st.mono g') r
theorem run_ifS {c : TT} {Pb : Bool → Prop} {v : TS} (h : EvT F c Δ Pb) (h1 : Pb true → Run F fr (tSeq t v) Δ po) (h2 : Pb false → Run F fr (tSeq u v) Δ po) : Run F fr (tSeq (tIfS c t u) v) Δ po := fun S0 H0 B S H σ E w g st r =>
  h H0 S H σ w st _ fun b S' H' p g' => by
    cases b with
    | true => exact h1 p S0 H0 B S' H' σ E (g'.ok w) (g.step g') (st.mono g') r
    | false => exact h2 p S0 H0 B S' H' σ E (g'.ok w) (g.step g') (st.mono g') r
theorem run_ret (h : EvR F te Δ P) (k : ∀ d, P d → po.rt d) (ko : ∀ d, P d → po.ro d Δ := by intros; exact True.intro) : Run F false (tRet te) Δ po := fun S0 H0 B S H σ E w g st r =>
  h H0 S H σ w st _ fun d v S' H' p g' hd => r.rt d v Δ S' H' σ (k d p) (ko d p) (g'.ok w) (st.mono g') ⟨g.g.trans g', fun _ => hd, fun e => nomatch e⟩
theorem run_retS (h : EvR F te Δ P) (k : ∀ d, P d → po.rt d) (ko : ∀ d, P d → po.ro d Δ := by intros; exact True.intro) : Run F false (tSeq (tRet te) u) Δ po := run_ret (po := { po with nx := fun _ => False }) h k ko |> fun z => run_seqM z fun _ n => n.elim
theorem run_ret1 (h : Ev1 F te Δ d) (k : po.rt d) (ko : po.ro d Δ := by exact True.intro) : Run F false (tRet te) Δ po := run_ret h (fun _ e => e ▸ k) fun _ e => e ▸ ko
theorem run_ret1S (h : Ev1 F te Δ d) (k : po.rt d) (ko : po.ro d Δ := by exact True.intro) : Run F false (tSeq (tRet te) u) Δ po := run_retS h (fun _ e => e ▸ k) fun _ e => e ▸ ko
theorem run_retF {Pa : List D → Prop} (h : EvF F te Δ Pa) (k : ∀ ds, Pa ds → po.rt (.list ds)) (ko : ∀ ds, Pa ds → po.ro (.list ds) Δ := by intros; exact True.intro) : Run F true (tRet te) Δ po := fun S0 H0 B S H σ E w g st r =>
  h H0 S H σ w st _ fun ds p xs S' H' q g' hp h' hs hd => r.rt (.list ds) _ Δ S' H' σ (k ds q) (ko ds q) (g'.ok w) (st.mono g') ⟨g.g.trans g', fun e => (nomatch e), fun _ => ⟨ds, p, xs, rfl, rfl, h', hs, (by
    cases e : H0 p with
    | none => rfl
    | some o =>
      obtain ⟨o', e'⟩ := g.g.m p o e
      rw [hp] at e'
      cases e'), hd⟩⟩
theorem run_retFS {Pa : List D → Prop} (h : EvF F te Δ Pa) (k : ∀ ds, Pa ds → po.rt (.list ds)) (ko : ∀ ds, Pa ds → po.ro (.list ds) Δ := by intros; exact True.intro) : Run F true (tSeq (tRet te) u) Δ po := run_retF (po := { po with nx := fun _ => False }) h k ko |> fun z => run_seqM z fun _ n => n.elim
theorem run_brk (h : po.bk Δ) : Run F fr tBreak Δ po := fun S0 H0 B S H σ E w g st r => r.bk Δ S H σ h w g st
theorem run_cont (h : po.ct Δ) : Run F fr tCont Δ po := fun S0 H0 B S H σ E w g st r => r.ct Δ S H σ h w g st
theorem run_contS (h : po.ct Δ) : Run F fr (tSeq tCont u) Δ po := fun S0 H0 B S H σ E w g st r => r.ct Δ S H σ h w g st
theorem run_retN (h : po.rt .none) (ko : po.ro .none Δ := by exact True.intro) : Run F false tRetN Δ po := fun S0 H0 B S H σ E w g st r => r.rt .none .non Δ S H σ h ko w st ⟨g.g, fun _ => by simp only [Dt], fun e => (nomatch e)⟩
theorem run_drop (h : EvR F te Δ P) (k : po.nx Δ) : Run F fr (tDrop te) Δ po := fun S0 H0 B S H σ E w g st r =>
  h H0 S H σ w st _ fun d v S' H' p g' hd => r.nx _ S' H' _ k (g'.ok w) (g.step g') (st.mono g')
/-- the def's own list becomes data -/
theorem StD.frz {S H S0 H0 B : Hp} {σ : L2.St} {i : Nat} {ds : List D} (st : StD F S H H0 σ Δ) (w : Okw F S H) (g : Gb F S0 H0 B S H) (e : Δ[i]? = some (.own ds)) : ∃ S', Okw F S' H ∧ Gb F S0 H0 B S' H ∧ StD F S' H H0 σ (Δ.set i (.v (.list ds))) := by
  obtain ⟨x, e1, p, xs, rfl, h1, h2, h3, h4⟩ := st.ok i _ e
  have hi : i < Δ.length := (List.getElem?_eq_some_iff.mp e).1
  have sm : Same S (upd S p (.lst xs)) := fun x u e => by rw [upd_ne (ne_of_none e h2)]; exact e
  refine ⟨upd S p (.lst xs), ⟨(g.g.freeze h3 h1).h, fun a c ef => ?_⟩, ⟨g.g.freeze h3 h1, g.b.trans sm⟩, ⟨by simp [st.len], fun j s' ej => ?_, fun j k es fs q f1 f2 f3 f4 => ?_, st.fh⟩⟩
  · obtain ⟨q1, q2, q3⟩ := w.src a c ef
    have n1 : a ≠ p := fun z => by
      obtain ⟨o, q⟩ := st.fh a ⟨a, c, ef, .inl rfl⟩
      rw [z, h3] at q
      cases q
    have n2 : c ≠ p := fun z => by
      obtain ⟨o, q⟩ := st.fh c ⟨a, c, ef, .inr rfl⟩
      rw [z, h3] at q
      cases q
    exact ⟨by rw [upd_ne n1]; exact q1, by rw [upd_ne n2]; exact q2, q3⟩
  · by_cases hj : j = i
    · subst hj
      rw [List.getElem?_set_self hi] at ej
      cases ej
      refine ⟨_, e1, _, rfl, ?_⟩
      simp only [Dt]
      exact ⟨p, xs, rfl, upd_same, h4.mono sm⟩
    · rw [List.getElem?_set_ne (Ne.symm hj)] at ej
      obtain ⟨x, f1, f2⟩ := st.ok j s' ej
      refine ⟨x, f1, ?_⟩
      cases s' with
      | un => trivial
      | v d =>
        obtain ⟨y, z1, z2⟩ := f2
        exact ⟨y, z1, z2.mono sm⟩
      | src => exact f2
      | ob a dx C fs =>
        obtain ⟨vs, z1, z2, z3, z4, z5, z6, z7, z8⟩ := f2
        have n1 : a ≠ p := fun z => by rw [z, h1] at z2; cases z2
        have n2 : dx ≠ p := fun z => by rw [z, h1] at z3; cases z3
        exact ⟨vs, z1, z2, z3, by rw [upd_ne n1]; exact z4, by rw [upd_ne n2]; exact z5, z6, z7, z8.mono sm⟩
      | xc W PX l => exact XcOk.mono f2 (Gw.frz w.s h1 h2 h3 f2.hd)
      | fz a fs =>
        obtain ⟨vs, z1, z2⟩ := f2
        exact ⟨vs, sm _ _ z1, z2.mono sm⟩
      | own es =>
        obtain ⟨q, ys, rfl, y1, y2, y3, y4⟩ := f2
        refine ⟨q, ys, rfl, y1, ?_, y3, y4.mono sm⟩
        rw [upd_ne (fun z => hj ?_)]
        · exact y2
        · subst z
          exact st.nd j i es ds q ej e f1 e1
  · have n1 : j ≠ i := fun z => by
      subst z
      rw [List.getElem?_set_self hi] at f1
      cases f1
    have n2 : k ≠ i := fun z => by
      subst z
      rw [List.getElem?_set_self hi] at f2
      cases f2
    rw [List.getElem?_set_ne (Ne.symm n1)] at f1
    rw [List.getElem?_set_ne (Ne.symm n2)] at f2
    exact st.nd j k es fs q f1 f2 f3 f4
/-- the def's own list is handed back -/
theorem run_retO {i : Nat} {ds : List D} (e : Δ[i]? = some (.own ds)) (k : po.rt (.list ds)) (ko : ∀ Δ', Δ' = Δ ∨ Δ' = Δ.set i (.v (.list ds)) → po.ro (.list ds) Δ' := by intros; exact True.intro) : Run F fr (tRet (tVar i)) Δ po := fun S0 H0 B S H σ E w g st r => by
  cases fr with
  | true =>
    obtain ⟨x, e1, p, xs, rfl, h1, h2, h3, h4⟩ := st.ok i _ e
    exact ⟨_, e1, r.rt (.list ds) _ Δ S H σ k (ko Δ (.inl rfl)) w st ⟨g.g, fun e => (nomatch e), fun _ => ⟨ds, p, xs, rfl, rfl, h1, h2, h3, h4⟩⟩⟩
  | false =>
    obtain ⟨S', w', g', st'⟩ := st.frz w g e
    have hi : i < Δ.length := (List.getElem?_eq_some_iff.mp e).1
    obtain ⟨x, e1, y, rfl, h⟩ := st'.ok i (.v (.list ds)) (List.getElem?_set_self hi)
    exact ⟨_, e1, r.rt (.list ds) _ (Δ.set i (.v (.list ds))) S' H σ k (ko _ (.inr rfl)) w' st' ⟨g'.g, fun _ => h, fun e => (nomatch e)⟩⟩
theorem run_frz {i : Nat} {ds : List D} (e : Δ[i]? = some (.own ds)) (h : Run F fr t (Δ.set i (.v (.list ds))) po) : Run F fr t Δ po := fun S0 H0 B S H σ E w g st r => by
  obtain ⟨S', w', g', st'⟩ := st.frz w g e
  exact h S0 H0 B S' H σ E w' g' st' r
end
end Bc

/-! Core 3: what loops walk, targets, loops, comprehensions, calls and promises. -/
namespace Bc
open PySem L2
/-- J walks ds, while data stays -/
structure WalkD (F : Fp) (J : It) (S : Hp) (ds : List D) : Prop where
  go : ∀ i S' H', Same S S' → Okw F S' H' → i < ds.length → J.go i H'
  yld : ∀ i S' H' x H'', Same S S' → Okw F S' H' → i < ds.length → J.yld i H' x H'' → ∃ d S'', ds[i]? = some d ∧ Gr F S' H' S'' H'' ∧ Dt S'' d x
  stop : ∀ i S' H', Same S S' → Okw F S' H' → ds.length ≤ i → J.stop i H'
def EvI (F : Fp) (wi : TI) (Δ : List Sl) (P : List D → Prop) : Prop := ∀ (H0 S H : Hp) (σ : L2.St), Okw F S H → StD F S H H0 σ Δ → ∀ R : It → Hp → Prop, (∀ ds J S' H', P ds → Gr F S H S' H' → WalkD F J S' ds → R J H') → wi σ H R
section
variable {F : Fp} {fr : Bool} {K : PySem.W.Frag} {te tl : TE} {Δ : List Sl} {po : Po}
theorem walk_list {S : Hp} {a : Addr} {xs : List V} {ds : List D} (e : S a = some (.lst xs)) (h : DtL S ds xs) : WalkD F (Itl K a) S ds where
  go := fun i S' H' s w hi => by
    rw [h.len] at hi
    exact ⟨xs, xs[i], SqL.of (w.s _ _ (s _ _ e)), by simp [hi]⟩
  yld := fun i S' H' x H'' s w hlt y => by
    obtain ⟨e1, y⟩ := y
    subst e1
    have q := y xs (SqL.of (w.s _ _ (s _ _ e)))
    obtain ⟨d, e2, hd⟩ := h.get' q
    exact ⟨d, S', e2, Gr.refl w.s, hd.mono s⟩
  stop := fun i S' H' s w hi => ⟨xs, SqL.of (w.s _ _ (s _ _ e)), by rw [← h.len]; exact hi⟩
theorem walk_tup {S : Hp} {a : Addr} {xs : List V} {ds : List D} (e : S a = some (.tup xs)) (h : DtL S ds xs) : WalkD F (Itt K a) S ds where
  go := fun i S' H' s w hi => by
    rw [h.len] at hi
    exact ⟨xs, xs[i], SqT.of (w.s _ _ (s _ _ e)), by simp [hi]⟩
  yld := fun i S' H' x H'' s w hlt y => by
    obtain ⟨e1, y⟩ := y
    subst e1
    have q := y xs (SqT.of (w.s _ _ (s _ _ e)))
    obtain ⟨d, e2, hd⟩ := h.get' q
    exact ⟨d, S', e2, Gr.refl w.s, hd.mono s⟩
  stop := fun i S' H' s w hi => ⟨xs, SqT.of (w.s _ _ (s _ _ e)), by rw [← h.len]; exact hi⟩
/-- a list, a tuple, a text: whatever it is -/
def iAny (K : PySem.W.Frag) (tl : TE) : TI := fun σ H R => tl σ H fun x H1 => (∃ a, x = .ref a ∧ (∃ xs, SqL K H1 a xs) ∧ R (Itl K a) H1) ∨ (∃ a, x = .ref a ∧ (∃ xs, SqT K H1 a xs) ∧ R (Itt K a) H1) ∨ (∃ z, x = .str z ∧ R (Its z) H1)
theorem pi_any {X : Cx} {tg l : Expr} {tl : TE} (hl : PE X l tl) : PI X tg l (iAny X.K tl) := by
  refine ⟨fun pins s σ H R I h => ?_⟩
  refine thn (hl.run pins s σ H _ I h) fun v s1 ⟨x, H1, I1, r1, q1⟩ => ?_
  rcases q1 with ⟨a, e, ⟨xs, hq⟩, q⟩ | ⟨a, e, ⟨xs, hq⟩, q⟩ | ⟨z, e, q⟩
  · subst e
    cases r1
    obtain ⟨its, rv, p, hz⟩ := I1.list hq
    refine wpAny_pyIter_list p.isList ?_
    refine ⟨s1.heap.objs.size, [s1.heap.objs.size], _, _, H1, rfl, I1.kept (t' := s1.toks) fun b o e => Heap.get?_push_of_some _ e, turn_list a _, ⟨_, Heap.get?_push_size _ rfl, rfl, rfl⟩, fun b hb => ?_, q⟩
    have e : b = s1.heap.objs.size := by simpa using hb
    subst e
    exact I1.fpOk (Nat.le_refl _) (I1.hok.fresh (Nat.le_refl _))
  · subst e
    cases r1
    obtain ⟨its, rv, p, hz⟩ := I1.tuple hq
    refine wpAny_pyIter_tuple (show s1.heap.IsTuple a its.toArray from p) ?_
    refine ⟨s1.heap.objs.size, [s1.heap.objs.size], _, _, H1, rfl, I1.kept (t' := s1.toks) fun b o e => Heap.get?_push_of_some _ e, turn_tuple a _, ⟨_, Heap.get?_push_size _ rfl, rfl, rfl⟩, fun b hb => ?_, q⟩
    have e : b = s1.heap.objs.size := by simpa using hb
    subst e
    exact I1.fpOk (Nat.le_refl _) (I1.hok.fresh (Nat.le_refl _))
  · subst e
    obtain ⟨t, rfl⟩ := r1
    cases ha : z.cps.all (· < 128)
    · exact wpAny_pyIter_wide ha (pi_one (tk := s1.toks) I1 _ (turn_str _ z t "str_iterator" (.inr rfl)) ⟨_, Heap.get?_push_size _ rfl, rfl, rfl⟩ q)
    · exact wpAny_pyIter_ascii ha (pi_one (tk := s1.toks) I1 _ (turn_str _ z t "str_ascii_iterator" (.inl rfl)) ⟨_, Heap.get?_push_size _ rfl, rfl, rfl⟩ q)
theorem ei_list {ds : List D} (h : Ev1 F tl Δ (.list ds)) : EvI F (iAny K tl) Δ fun r => r = ds := fun H0 S H σ w t R k =>
  h H0 S H σ w t _ fun d v S' H' e g hd => by
    subst e
    simp only [Dt] at hd
    obtain ⟨a, xs, rfl, e1, h1⟩ := hd
    exact .inl ⟨a, rfl, ⟨xs, SqL.of (g.h _ _ e1)⟩, k ds _ S' H' rfl g (walk_list e1 h1)⟩
theorem ei_listP {P : List D → Prop} (h : EvR F tl Δ fun d => ∃ ds, P ds ∧ d = .list ds) : EvI F (iAny K tl) Δ P := fun H0 S H σ w t R k =>
  h H0 S H σ w t _ fun d v S' H' ⟨ds, p, e⟩ g hd => by
    subst e
    simp only [Dt] at hd
    obtain ⟨a, xs, rfl, e1, h1⟩ := hd
    exact .inl ⟨a, rfl, ⟨xs, SqL.of (g.h _ _ e1)⟩, k ds _ S' H' p g (walk_list e1 h1)⟩
theorem ei_tup {ds : List D} (h : Ev1 F tl Δ (.tuple ds)) : EvI F (iAny K tl) Δ fun r => r = ds := fun H0 S H σ w t R k =>
  h H0 S H σ w t _ fun d v S' H' e g hd => by
    subst e
    simp only [Dt] at hd
    obtain ⟨a, xs, rfl, e1, h1⟩ := hd
    exact .inr (.inl ⟨a, rfl, ⟨xs, SqT.of (g.h _ _ e1)⟩, k ds _ S' H' rfl g (walk_tup e1 h1)⟩)
def signs (z : Str) : List D := z.cps.toList.map fun c => D.str ⟨#[c]⟩
theorem ei_str {z : Str} (h : Ev1 F tl Δ (.str z)) : EvI F (iAny K tl) Δ fun r => r = signs z := fun H0 S H σ w t R k =>
  h H0 S H σ w t _ fun d v S' H' e g hd => by
    subst e
    simp only [Dt] at hd
    refine .inr (.inr ⟨z, hd, k _ _ S' H' rfl g ⟨fun i S2 H2 s w hi => ?_, fun i S2 H2 x H3 s w hlt y => ?_, fun i S2 H2 s w hi => ?_⟩⟩)
    · show i < z.cps.size
      simpa [signs] using hi
    · obtain ⟨e1, c, ec, ex⟩ := y
      subst e1
      refine ⟨.str ⟨#[c]⟩, S2, ?_, Gr.refl w.s, by simp only [Dt]; exact ex⟩
      simp [signs, ec]
    · show z.cps.size ≤ i
      simpa [signs] using hi
def rngD (lo : Int) (n : Nat) : List D := (List.range n).map fun i => D.int (lo + (i : Nat))
theorem walk_rng {S : Hp} {lo : Int} {n : Nat} : WalkD F (Itr lo n) S (rngD lo n) where
  go := fun i S' H' s w hi => by
    show i < n
    simpa [rngD] using hi
  yld := fun i S' H' x H'' s w hlt y => by
    obtain ⟨e1, e2⟩ := y
    subst e1
    have hi : i < n := by simpa [rngD] using hlt
    refine ⟨.int (lo + (i : Nat)), S', ?_, Gr.refl w.s, by simp only [Dt]; exact e2⟩
    simp [rngD, hi]
  stop := fun i S' H' s w hi => by
    show n ≤ i
    simpa [rngD] using hi
theorem ei_rngP {ta : TA} {P : Int → Prop} (h : EvA F ta Δ fun ds => ∃ n : Int, P n ∧ ds = [.int n]) (hb : ∀ n, P n → -(2 ^ 62) ≤ n ∧ n < 2 ^ 62) : EvI F (iRng1 ta) Δ fun r => ∃ n : Int, P n ∧ r = rngD 0 n.toNat := fun H0 S H σ w t R k =>
  h H0 S H σ w t _ fun ds vs S' H' ⟨n, p, e⟩ g hd => by
    subst e
    simp only [DtL, Dt] at hd
    obtain ⟨x, ys, rfl, rfl, rfl⟩ := hd
    exact ⟨n, rfl, (hb n p).1, (hb n p).2, k _ _ S' H' ⟨n, p, rfl⟩ g walk_rng⟩
theorem ei_rng {ta : TA} {n : Int} (h : EvA F ta Δ fun ds => ds = [.int n]) (hb : -(2 ^ 62) ≤ n ∧ n < 2 ^ 62) : EvI F (iRng1 ta) Δ fun r => r = rngD 0 n.toNat := fun H0 S H σ w t R k =>
  h H0 S H σ w t _ fun ds vs S' H' e g hd => by
    subst e
    simp only [DtL, Dt] at hd
    obtain ⟨x, ys, rfl, rfl, rfl⟩ := hd
    exact ⟨n, rfl, hb.1, hb.2, k _ _ S' H' rfl g walk_rng⟩
theorem ei_rng2 {ta : TA} {i j : Int} (h : EvA F ta Δ fun ds => ds = [.int i, .int j]) (hb : -(2 ^ 62) ≤ i ∧ i < 2 ^ 62 ∧ -(2 ^ 62) ≤ j ∧ j < 2 ^ 62) : EvI F (iRng2 ta) Δ fun r => r = rngD i (j - i).toNat := fun H0 S H σ w t R k =>
  h H0 S H σ w t _ fun ds vs S' H' e g hd => by
    subst e
    simp only [DtL, Dt] at hd
    obtain ⟨x, ys, rfl, rfl, y, zs, rfl, rfl, rfl⟩ := hd
    exact ⟨i, j, rfl, hb, k _ _ S' H' rfl g walk_rng⟩
/-! targets: which slots, what they hold -/
def Off (js : List Nat) (σ σ' : L2.St) : Prop := σ'.length = σ.length ∧ ∀ i, i ∉ js → σ'[i]? = σ[i]?
def EvG (F : Fp) (g : TG) (d : D) (Δ : List Sl) (js : List Nat) (Δ' : List Sl) : Prop := ∀ (H0 S H : Hp) (σ : L2.St) (v : V), Okw F S H → StD F S H H0 σ Δ → Dt S d v → ∀ Q : L2.St → Hp → Prop, (∀ σ', StD F S H H0 σ' Δ' → Off js σ σ' → Q σ' H) → g v σ H Q
theorem eg_name {j : Nat} {d : D} : EvG F (gName j) d Δ [j] (Δ.set j (.v d)) := fun H0 S H σ v w t hd Q k =>
  k _ (t.setV hd) ⟨by simp, fun i hi => List.getElem?_set_ne (by simpa using Ne.symm (by simpa using hi))⟩
/-- several targets -/
def EvGs (F : Fp) (g : TGs) (ds : List D) (Δ : List Sl) (js : List Nat) (Δ' : List Sl) : Prop := ∀ (H0 S H : Hp) (σ : L2.St) (vs : List V), Okw F S H → StD F S H H0 σ Δ → DtL S ds vs → ∀ Q : L2.St → Hp → Prop, (∀ σ', StD F S H H0 σ' Δ' → Off js σ σ' → Q σ' H) → g vs σ H Q
theorem egs_nil : EvGs F gNil [] Δ [] Δ := fun H0 S H σ vs w t hd Q k => by
  simp only [DtL] at hd
  exact ⟨hd, k σ t ⟨rfl, fun _ _ => rfl⟩⟩
theorem egs_cons {g : TG} {gs : TGs} {d : D} {ds : List D} {js ks : List Nat} {Δ1 Δ2 : List Sl} (h : EvG F g d Δ js Δ1) (hs : EvGs F gs ds Δ1 ks Δ2) : EvGs F (gCons g gs) (d :: ds) Δ (js ++ ks) Δ2 := fun H0 S H σ vs w t hd Q k => by
  simp only [DtL] at hd
  obtain ⟨x, ys, rfl, h1, h2⟩ := hd
  refine ⟨x, ys, rfl, h H0 S H σ x w t h1 _ fun σ1 t1 o1 => ?_⟩
  refine hs H0 S H σ1 ys w t1 h2 Q fun σ2 t2 o2 => k σ2 t2 ⟨o2.1.trans o1.1, fun i hi => ?_⟩
  rw [List.mem_append, not_or] at hi
  rw [o2.2 i hi.2, o1.2 i hi.1]
theorem eg_tup {gs : TGs} {ds : List D} {js : List Nat} {n : Nat} {Δ' : List Sl} (hl : ds.length = n) (h : EvGs F gs ds Δ js Δ') : EvG F (gTup K n gs) (.tuple ds) Δ js Δ' := fun H0 S H σ v w t hd Q k => by
  simp only [Dt] at hd
  obtain ⟨a, xs, rfl, e, h1⟩ := hd
  exact ⟨a, xs, rfl, SqT.of (w.s _ _ e), by rw [← h1.len]; exact hl, h H0 S H σ xs w t h1 Q k⟩
theorem run_asgG {g : TG} {d : D} {js : List Nat} {Δ' : List Sl} (h : Ev1 F te Δ d) (hg : EvG F g d Δ js Δ') (k : po.nx Δ') : Run F fr (tAsg te g) Δ po := fun S0 H0 B S H σ E w gb st r =>
  h H0 S H σ w st _ fun d' v S' H' e g' hd => by
    subst e
    exact hg H0 S' H' σ v (g'.ok w) (st.mono g') hd _ fun σ' t' _ => r.nx _ S' H' _ k (g'.ok w) (gb.step g') t'
theorem run_asgGS {g : TG} {u : TS} {d : D} {js : List Nat} {Δ' : List Sl} (h : Ev1 F te Δ d) (hg : EvG F g d Δ js Δ') (k : Run F fr u Δ' po) : Run F fr (tSeq (tAsg te g) u) Δ po :=
  run_seqM (N := fun z => z = Δ') (run_asgG h hg rfl) fun _ e => e ▸ k
/-- a, b = x, y -/
theorem run_par {i j : Nat} {ta : TA} {Pa : List D → Prop} {u : TS} (h : EvA F ta Δ Pa) (k : ∀ ds, Pa ds → ∃ x y, ds = [x, y] ∧ Run F fr u ((Δ.set i (.v x)).set j (.v y)) po) : Run F fr (tSeq (tPar i j ta) u) Δ po := fun S0 H0 B S H σ E w gb st r =>
  h H0 S H σ w st _ fun ds vs S' H' p g' hd => by
    obtain ⟨x, y, e, k⟩ := k ds p
    subst e
    simp only [DtL] at hd
    obtain ⟨v, ys, rfl, hv, z, zs, rfl, hz, rfl⟩ := hd
    refine ⟨v, z, rfl, ?_⟩
    exact k S0 H0 B S' H' _ E (g'.ok w) (gb.step g') (((st.mono g').setV hv).setV hz) r
/-- a = [.., ..] and b = .. at once, a new list the def's own -/
theorem run_parF1 {i j : Nat} {tb : TE} {u : TS} {Pa : List D → Prop} {Pb : D → Prop} (h : EvF F te Δ Pa) (hb : EvR F tb Δ Pb) (hj : j < Δ.length) (hij : i ≠ j) (k : ∀ ds d, Pa ds → Pb d → Run F fr u ((Δ.set j (.v d)).set i (.own ds)) po) : Run F fr (tSeq (tPar i j (tCons te (tCons tb tNil))) u) Δ po := fun S0 H0 B S H σ E w gb st r =>
  h H0 S H σ w st _ fun ds p xs S1 H1 q g1 hp h1 hs hd => by
    refine hb H0 S1 H1 σ (g1.ok w) (st.mono g1) _ fun d v S2 H2 pd g2 hv => ?_
    refine ⟨.ref p, v, rfl, ?_⟩
    have nf : ¬ fp F p := fun z => by
      obtain ⟨o, e⟩ := st.fh p z
      obtain ⟨o', e'⟩ := gb.g.m _ _ e
      rw [hp] at e'
      cases e'
    have h0 : H0 p = Option.none := by
      cases e : H0 p with
      | none => rfl
      | some o =>
        obtain ⟨o', e'⟩ := gb.g.m p o e
        rw [hp] at e'
        cases e'
    have st2 : StD F S2 H2 H0 (σ.set j (some v)) (Δ.set j (.v d)) := ((st.mono g1).mono g2).setV hv
    have st3 : StD F S2 H2 H0 ((σ.set j (some v)).set i (some (.ref p))) ((Δ.set j (.v d)).set i (.own ds)) := st2.set ⟨p, xs, rfl, g2.k _ _ nf h1, by rw [g2.n _ _ h1]; exact hs, h0, hd.mono g2.s⟩ fun es _ m fs q' e1 e2 e3 => by
      cases e3
      by_cases hm : m = j
      · subst hm
        rw [List.getElem?_set_self hj] at e1
        cases e1
      · rw [List.getElem?_set_ne (Ne.symm hm)] at e1 e2
        obtain ⟨x, f1, q', ys, f2, f3, _⟩ := st.ok m _ e1
        rw [e2] at f1
        cases f1
        cases f2
        rw [hp] at f3
        cases f3
    have e : (σ.set i (some (.ref p))).set j (some v) = (σ.set j (some v)).set i (some (.ref p)) := List.set_comm _ _ hij
    show u E ((σ.set i (some (.ref p))).set j (some v)) H2
    rw [e]
    exact k ds d q pd S0 H0 B S2 H2 _ E (g2.ok (g1.ok w)) ((gb.step g1).step g2) st3 r
/-! loops -/
theorem run_forP {wi : TI} {g : TG} {tb : TS} {Pd : List D → Prop} (h : EvI F wi Δ Pd) (I : List D → Nat → List Sl → Prop) (h0 : ∀ ds, Pd ds → I ds 0 Δ)
    (hs : ∀ ds i d Δ', Pd ds → ds[i]? = some d → I ds i Δ' → ∃ js Δ'', EvG F g d Δ' js Δ'' ∧ Run F fr tb Δ'' { nx := I ds (i + 1), ct := I ds (i + 1), bk := po.nx, rt := po.rt, ro := po.ro }) (hd : ∀ ds Δ', Pd ds → I ds ds.length Δ' → po.nx Δ') :
    Run F fr (tFor wi g tb) Δ po := fun S0 H0 B S H σ E w gb st r => by
  refine h H0 S H σ w st _ fun ds J S1 H1 p g1 W => ?_
  refine ⟨fun i m σ' H' => m = ds.length - i ∧ i ≤ ds.length ∧ ∃ Δ' S', I ds i Δ' ∧ Okw F S' H' ∧ Gb F S0 H0 B S' H' ∧ Same S1 S' ∧ StD F S' H' H0 σ' Δ', ⟨ds.length, rfl, Nat.zero_le _, Δ, S1, h0 ds p, g1.ok w, gb.step g1, Same.refl _, st.mono g1⟩, ?_⟩
  rintro i m σ' H' ⟨rfl, hi, Δ', S', hI, w', gb', sm, st'⟩
  by_cases hlt : i < ds.length
  · refine .inr ⟨W.go i S' H' sm w' hlt, fun σ2 H2 => ∃ Δ2 S2, I ds (i + 1) Δ2 ∧ Okw F S2 H2 ∧ Gb F S0 H0 B S2 H2 ∧ Same S1 S2 ∧ StD F S2 H2 H0 σ2 Δ2, fun σ2 H2 z => ⟨ds.length - (i + 1), by omega, rfl, hlt, z⟩, fun x H2 y => ?_⟩
    obtain ⟨d, S2, e, g2, hx⟩ := W.yld i S' H' x H2 sm w' hlt y
    obtain ⟨js, Δ2, hg, hr⟩ := hs ds i d Δ' p e hI
    refine hg H0 S2 H2 σ' x (g2.ok w') (st'.mono g2) hx _ fun σ2 st2 _ => ?_
    refine hr S0 H0 S1 S2 H2 σ2 _ (g2.ok w') ⟨(gb'.step g2).g, sm.trans g2.s⟩ st2 ⟨?_, ?_, ?_, ?_⟩
    · exact fun Δ3 S3 H3 σ3 n w3 gb3 st3 => ⟨Δ3, S3, n, w3, ⟨gb3.g, ((gb.step g1).b.trans gb3.b)⟩, gb3.b, st3⟩
    · exact r.rt
    · exact fun Δ3 S3 H3 σ3 n w3 gb3 st3 => r.nx Δ3 S3 H3 σ3 n w3 ⟨gb3.g, ((gb.step g1).b.trans gb3.b)⟩ st3
    · exact fun Δ3 S3 H3 σ3 n w3 gb3 st3 => ⟨Δ3, S3, n, w3, ⟨gb3.g, ((gb.step g1).b.trans gb3.b)⟩, gb3.b, st3⟩
  · have e : i = ds.length := by omega
    subst e
    exact .inl ⟨W.stop _ S' H' sm w' (Nat.le_refl _), r.nx Δ' S' H' σ' (hd ds Δ' p hI) w' gb' st'⟩
theorem run_for {wi : TI} {g : TG} {tb : TS} {ds : List D} (h : EvI F wi Δ fun r => r = ds) (I : Nat → List Sl → Prop) (h0 : I 0 Δ)
    (hs : ∀ i d Δ', ds[i]? = some d → I i Δ' → ∃ js Δ'', EvG F g d Δ' js Δ'' ∧ Run F fr tb Δ'' { nx := I (i + 1), ct := I (i + 1), bk := po.nx, rt := po.rt, ro := po.ro }) (hd : ∀ Δ', I ds.length Δ' → po.nx Δ') :
    Run F fr (tFor wi g tb) Δ po := run_forP h (fun _ => I) (fun _ _ => h0) (fun ds' i d Δ' e1 e2 z => by subst e1; exact hs i d Δ' e2 z) fun ds' Δ' e z => by subst e; exact hd Δ' z
theorem run_while {c : TT} {tb : TS} (I : List Sl → Prop) (μ : List Sl → Nat) (h0 : I Δ)
    (hs : ∀ Δ', I Δ' → ∃ P : Bool → Prop, EvT F c Δ' P ∧ (P true → Run F fr tb Δ' { nx := fun z => I z ∧ μ z < μ Δ', ct := fun z => I z ∧ μ z < μ Δ', bk := po.nx, rt := po.rt, ro := po.ro }) ∧ (P false → po.nx Δ')) : Run F fr (tWhile c tb) Δ po := fun S0 H0 B S H σ E w gb st r => by
  refine ⟨fun m σ' H' => ∃ Δ' S', m = μ Δ' ∧ I Δ' ∧ Okw F S' H' ∧ Gb F S0 H0 B S' H' ∧ StD F S' H' H0 σ' Δ', ⟨μ Δ, Δ, S, rfl, h0, w, gb, st⟩, ?_⟩
  rintro m σ' H' ⟨Δ', S', rfl, hI, w', gb', st'⟩
  obtain ⟨P, hc, ht, hf⟩ := hs Δ' hI
  refine hc H0 S' H' σ' w' st' _ fun b S2 H2 p g2 => ?_
  cases b with
  | false => exact r.nx Δ' S2 H2 σ' (hf p) (g2.ok w') (gb'.step g2) (st'.mono g2)
  | true =>
    refine ⟨fun σ3 H3 => ∃ Δ3 S3, (I Δ3 ∧ μ Δ3 < μ Δ') ∧ Okw F S3 H3 ∧ Gb F S0 H0 B S3 H3 ∧ StD F S3 H3 H0 σ3 Δ3, fun σ3 H3 ⟨Δ3, S3, ⟨i3, l3⟩, w3, gb3, st3⟩ => ⟨μ Δ3, l3, Δ3, S3, rfl, i3, w3, gb3, st3⟩, ?_⟩
    exact ht p S0 H0 B S2 H2 σ' _ (g2.ok w') (gb'.step g2) (st'.mono g2) ⟨fun Δ3 S3 H3 σ3 n w3 gb3 st3 => ⟨Δ3, S3, n, w3, gb3, st3⟩, r.rt, r.nx, fun Δ3 S3 H3 σ3 n w3 gb3 st3 => ⟨Δ3, S3, n, w3, gb3, st3⟩⟩
/-! comprehensions -/
def wipeD (Δ : List Sl) : List Nat → List Sl
  | [] => Δ
  | v :: vs => (wipeD Δ vs).set v .un
theorem StD.wipes {S H H0 : Hp} {σ : L2.St} (t : StD F S H H0 σ Δ) : ∀ vs : List Nat, StD F S H H0 (L2.wipe σ vs) (wipeD Δ vs)
  | [] => t
  | v :: vs => (StD.wipes t vs).wipe v
theorem wipe_get {σ : L2.St} {i : Nat} : ∀ {vs : List Nat}, (wipe σ vs)[i]? = if i ∈ vs then (if i < σ.length then some Option.none else Option.none) else σ[i]?
  | [] => by simp [wipe]
  | v :: vs => by
    unfold wipe
    by_cases h : i = v
    · subst h
      by_cases hl : i < σ.length
      · rw [List.getElem?_set_self (by rw [wipe_length]; exact hl)]
        simp [hl]
      · rw [List.getElem?_eq_none (by simp [wipe_length]; omega)]
        simp [hl]
    · rw [List.getElem?_set_ne (Ne.symm h), wipe_get (vs := vs)]
      simp [h]
theorem wipe_off {σ σ' : L2.St} {js vs : List Nat} (o : Off js σ σ') (hj : ∀ j ∈ js, j ∈ vs) : wipe σ' vs = wipe σ vs := by
  refine List.ext_getElem? fun i => ?_
  rw [wipe_get, wipe_get]
  by_cases h : i ∈ vs
  · simp [h, o.1]
  · simp only [h, if_false]
    exact o.2 i fun z => h (hj i z)
theorem wipe_wipe {σ : L2.St} {vs : List Nat} : wipe (wipe σ vs) vs = wipe σ vs := by
  refine List.ext_getElem? fun i => ?_
  rw [wipe_get, wipe_get]
  by_cases h : i ∈ vs <;> simp [h, wipe_length]
theorem ef_lcP {wi : TI} {g : TG} {tt : TT} {vs : List Nat} {Pd Pr : List D → Prop} (h : EvI F wi Δ Pd) (hz : ∀ ds, Pd ds → ds.length ≤ sizeLine) (J : List D → Nat → List D → Prop) (h0 : ∀ ds, Pd ds → J ds 0 [])
    (hs : ∀ ds i d acc, Pd ds → ds[i]? = some d → J ds i acc → acc.length ≤ i → ∃ js Δ', EvG F g d (wipeD Δ vs) js Δ' ∧ (∀ j ∈ js, j ∈ vs) ∧ ∃ Pt : Bool → Prop, EvT F tt Δ' Pt ∧ (Pt false → J ds (i + 1) acc) ∧ (Pt true → EvR F te Δ' fun e => J ds (i + 1) (acc ++ [e])))
    (hd : ∀ ds acc, Pd ds → J ds ds.length acc → Pr acc) : EvF F (tLc wi g tt te vs) Δ Pr := fun H0 S H σ w st Q k => by
  refine h H0 S H σ w st _ fun ds Jt S1 H1 p g1 W => ?_
  intro L hL
  have hLH : H L = Option.none := by
    cases e : H L with
    | none => rfl
    | some o =>
      obtain ⟨o', e'⟩ := g1.m L o e
      rw [hL] at e'
      cases e'
  have nfL : ¬ fp F L := fun z => by
    obtain ⟨a, c, ef, z⟩ := z
    obtain ⟨_, _, ns, l, m, t, e1, e2, _⟩ := (g1.ok w).src a c ef
    rcases z with rfl | rfl
    · rw [hL] at e1; cases e1
    · rw [hL] at e2; cases e2
  refine ⟨fun i m H' => m = ds.length - i ∧ i ≤ ds.length ∧ ∃ acc xs S', J ds i acc ∧ acc.length ≤ i ∧ Okw F S' H' ∧ Gr F S H S' H' ∧ Same S1 S' ∧ H' L = some (.lst xs) ∧ S' L = Option.none ∧ DtL S' acc xs,
    ⟨ds.length, rfl, Nat.zero_le _, [], [], S1, h0 ds p, Nat.le_refl _, (Gr.new (F := F) g1.h hL).ok (g1.ok w), g1.trans (Gr.new g1.h hL), Same.refl _, upd_same, Same.free g1.h hL, dtl_nil⟩, ?_⟩
  rintro i m H' ⟨rfl, hi, acc, xs, S', hJ, hla, w', g', sm, hx, hsx, hdl⟩
  by_cases hlt : i < ds.length
  · refine .inr ⟨W.go i S' H' sm w' hlt, fun H2 => ∃ acc xs S', J ds (i + 1) acc ∧ acc.length ≤ i + 1 ∧ Okw F S' H2 ∧ Gr F S H S' H2 ∧ Same S1 S' ∧ H2 L = some (.lst xs) ∧ S' L = Option.none ∧ DtL S' acc xs, fun H2 z => ⟨ds.length - (i + 1), by omega, rfl, hlt, z⟩, fun x H2 y => ?_⟩
    obtain ⟨d, S2, e, g2, hxd⟩ := W.yld i S' H' x H2 sm w' hlt y
    obtain ⟨js, Δ2, hg, hjs, Pt, hT, hF, hE⟩ := hs ds i d acc p e hJ hla
    have stw : StD F S2 H2 H0 (wipe σ vs) (wipeD Δ vs) := ((st.mono g').mono g2).wipes vs
    refine hg H0 S2 H2 (wipe σ vs) x (g2.ok w') stw hxd _ fun σ2 st2 off => ?_
    refine ⟨by rw [wipe_off off hjs, wipe_wipe], ?_⟩
    refine hT H0 S2 H2 σ2 (g2.ok w') st2 _ fun b S3 H3 pb g3 => ?_
    have gg := (g'.trans g2).trans g3
    have h3 : H3 L = some (.lst xs) := g3.k _ _ nfL (g2.k _ _ nfL hx)
    have s3 : S3 L = Option.none := by rw [g3.n _ _ (g2.k _ _ nfL hx), g2.n _ _ hx]; exact hsx
    cases b with
    | false => exact ⟨acc, xs, S3, hF pb, by omega, g3.ok (g2.ok w'), gg, (sm.trans g2.s).trans g3.s, h3, s3, (hdl.mono g2.s).mono g3.s⟩
    | true =>
      refine hE pb H0 S3 H3 σ2 (g3.ok (g2.ok w')) (st2.mono g3) _ fun ed v S4 H4 pe g4 hv => ?_
      have h4 : H4 L = some (.lst xs) := g4.k _ _ nfL h3
      have s4 : S4 L = Option.none := by rw [g4.n _ _ h3]; exact s3
      have hlen : xs.length = acc.length := hdl.len.symm
      refine ⟨xs, h4, ?_, acc ++ [ed], xs ++ [v], S4, pe, by simp; omega, ?_, (gg.trans g4).mut hLH s4 h4, ((sm.trans g2.s).trans g3.s).trans g4.s, upd_same, s4, (((hdl.mono g2.s).mono g3.s).mono g4.s).append (dtl_cons hv dtl_nil)⟩
      · have := hz ds p
        omega
      · have w4 := g4.ok (g3.ok (g2.ok w'))
        exact ((gg.trans g4).mut hLH s4 h4).ok w
  · have e : i = ds.length := by omega
    subst e
    exact .inl ⟨W.stop _ S' H' sm w' (Nat.le_refl _), k acc L xs S' H' (hd ds acc p hJ) g' hLH hx hsx hdl⟩
end
end Bc

/-! Core 4: promises by data, calls, a def's body. -/
namespace Bc
open PySem L2 PySem.Spec PyProof.Rows
/-- the arguments: the source ahead of them, or data alone -/
def ArgOk (src : Bool) (F : Fp) (S : Hp) (vs : List V) (ds : List D) : Prop :=
  match src with
  | true => ∃ a c us, F = some (a, c) ∧ vs = .ref a :: us ∧ DtL S ds us
  | false => F = Option.none ∧ DtL S ds vs
def SpD (src fr : Bool) (R : List D → D → Prop) : Sp := fun vs H Q _ => ∃ F S ds, Okw F S H ∧ ArgOk src F S vs ds ∧ (∃ d, R ds d) ∧ ∀ d v S' H', R ds d → Giv fr F S H d v S' H' → Q v H'
structure FnT (P : Program) (w : World) (K : PySem.W.Frag) (mg : Str → Option Value) (base : Heap) (k : Nat) (x : Str) (ps : List Str) (sp : Sp) : Prop where
  ex : ∃ f fd, mg x = some (.ref f) ∧ PySem.W.keepIn K (.ref f) = true ∧ Binds K fd ps [] ∧ FnOk P w K mg base CX0 k f fd ps sp
section
variable {F : Fp} {fr : Bool} {Δ : List Sl} {ta : TA} {R : List D → D → Prop} {E : XK}
theorem ev_call {Pa : List D → Prop} (h : EvA F ta Δ Pa) (hR : ∀ ds, Pa ds → ∃ d, R ds d) : EvR F (tCall (SpD false false R) [] E ta) Δ fun d => ∃ ds, Pa ds ∧ R ds d := fun H0 S H σ w t Q k =>
  h H0 S H σ w t _ fun ds vs S' H' p g hd => by
    rw [List.append_nil]
    exact ⟨Option.none, S', ds, (g.ok w).base, ⟨rfl, hd⟩, hR ds p, fun d v S2 H2 r gv => k d v S2 H2 ⟨ds, p, r⟩ (g.trans gv.g.up) (gv.vl rfl)⟩
theorem ev_call1 {ds : List D} {d : D} (h : EvA F ta Δ fun r => r = ds) (hR : R ds d) (hu : ∀ e, R ds e → e = d) : Ev1 F (tCall (SpD false false R) [] E ta) Δ d :=
  (ev_call h fun _ e => e ▸ ⟨d, hR⟩).imp fun e ⟨_, e1, e2⟩ => hu e (e1 ▸ e2)
theorem ef_call {Pa : List D → Prop} (h : EvA F ta Δ Pa) (hR : ∀ ds, Pa ds → ∃ d, R ds d) : EvF F (tCall (SpD false true R) [] E ta) Δ fun es => ∃ ds, Pa ds ∧ R ds (.list es) := fun H0 S H σ w t Q k =>
  h H0 S H σ w t _ fun ds vs S' H' p g hd => by
    rw [List.append_nil]
    refine ⟨Option.none, S', ds, (g.ok w).base, ⟨rfl, hd⟩, hR ds p, fun d v S2 H2 r gv => ?_⟩
    obtain ⟨es, q, xs, e1, e2, e3, e4, e5, e6⟩ := gv.f rfl
    subst e1
    subst e2
    refine k es q xs S2 H2 ⟨ds, p, r⟩ (g.trans gv.g.up) ?_ e3 e4 e6
    cases e : H q with
    | none => rfl
    | some o =>
      obtain ⟨o', e'⟩ := g.m q o e
      rw [e5] at e'
      cases e'
theorem ev_callS {i : Nat} {Pa : List D → Prop} (hi : Δ[i]? = some .src) (h : EvA F ta Δ Pa) (hR : ∀ ds, Pa ds → ∃ d, R ds d) : EvR F (tCall (SpD true false R) [] E (tCons (tVar i) ta)) Δ fun d => ∃ ds, Pa ds ∧ R ds d := fun H0 S H σ w t Q k => by
  obtain ⟨x, e1, a, c, e2, rfl⟩ := t.ok i _ hi
  refine ⟨_, e1, h H0 S H σ w t _ fun ds vs S' H' p g hd => ?_⟩
  show SpD true false R (.ref a :: vs ++ []) H' Q E
  rw [List.append_nil]
  exact ⟨F, S', ds, g.ok w, ⟨a, c, vs, e2, rfl, hd⟩, hR ds p, fun d v S2 H2 r gv => k d v S2 H2 ⟨ds, p, r⟩ (g.trans gv.g) (gv.vl rfl)⟩
theorem ef_callS {i : Nat} {Pa : List D → Prop} (hi : Δ[i]? = some .src) (h : EvA F ta Δ Pa) (hR : ∀ ds, Pa ds → ∃ d, R ds d) : EvF F (tCall (SpD true true R) [] E (tCons (tVar i) ta)) Δ fun es => ∃ ds, Pa ds ∧ R ds (.list es) := fun H0 S H σ w t Q k => by
  obtain ⟨x, e1, a, c, e2, rfl⟩ := t.ok i _ hi
  refine ⟨_, e1, h H0 S H σ w t _ fun ds vs S' H' p g hd => ?_⟩
  show SpD true true R (.ref a :: vs ++ []) H' Q E
  rw [List.append_nil]
  refine ⟨F, S', ds, g.ok w, ⟨a, c, vs, e2, rfl, hd⟩, hR ds p, fun d v S2 H2 r gv => ?_⟩
  obtain ⟨es, q, xs, z1, z2, e3, e4, e5, e6⟩ := gv.f rfl
  subst z1
  subst z2
  refine k es q xs S2 H2 ⟨ds, p, r⟩ (g.trans gv.g) ?_ e3 e4 e6
  cases e : H q with
  | none => rfl
  | some o =>
    obtain ⟨o', e'⟩ := g.m q o e
    rw [e5] at e'
    cases e'
end
section
variable {X : Cx} {k : Nat} {x : Str} {ps : List Str} {sp : Sp} {e : Expr} {es : List Expr} {t : TA} {p pos : Pos}
theorem pe_callT (G : FnT X.prog X.w X.K X.mg X.base k x ps sp) (hr : Room k X.A) (ha : PA X (e :: es) t) (hg : Gl X x := by rfl)
    (hdb : (x == ("__debug__" : Str)) = false := by decide) (he : starEach (e :: es) X.env = (false, eval e X.env) :: starEach es X.env := by rfl) (hpl : (backTo pos (starEach es X.env)).any (·.1) = false := by rfl) :
    PE X (.Call (.Name x p) (e :: es) [] pos) (tCall sp [] E0 t) := by
  obtain ⟨f, fd, h1, h2, h3, h4⟩ := G.ex
  exact pe_call h4 hr hg h1 h2 h3 .nil pass0 ha hdb he hpl
theorem pe_callT0 (G : FnT X.prog X.w X.K X.mg X.base k x ps sp) (hr : Room k X.A) (hg : Gl X x := by rfl) (hdb : (x == ("__debug__" : Str)) = false := by decide) :
    PE X (.Call (.Name x p) [] [] pos) (tCall sp [] E0 tNil) := by
  obtain ⟨f, fd, h1, h2, h3, h4⟩ := G.ex
  exact pe_call0 h4 hr hg h1 h2 h3 .nil pass0 hdb
end
/-- the slots at the entry -/
def ini (src : Bool) (n : Nat) (ds : List D) : List Sl := (if src then [Sl.src] else []) ++ (ds.map Sl.v ++ List.replicate (n - ds.length - (if src then 1 else 0)) Sl.un)
theorem okL {S : Hp} {F : Fp} {H H0 : Hp} : ∀ {ds : List D} {vs : List V} {i : Nat} {s : Sl}, DtL S ds vs → (ds.map Sl.v)[i]? = some s → ∃ x, (vs.map some)[i]? = some x ∧ SlOk F S H H0 s x := fun {ds vs i s} h e => by
  rw [List.getElem?_map] at e
  cases q : ds[i]? with
  | none => rw [q] at e; cases e
  | some d =>
    rw [q] at e
    cases e
    obtain ⟨x, e2, hx⟩ := h.get q
    exact ⟨some x, by rw [List.getElem?_map, e2]; rfl, x, rfl, hx⟩
theorem no_own {ds : List D} {m i : Nat} {l : List D} (h : (ds.map Sl.v ++ List.replicate m Sl.un)[i]? = some (.own l)) : False := by
  have := List.mem_of_getElem? h
  rw [List.mem_append, List.mem_map, List.mem_replicate] at this
  rcases this with ⟨d, _, e⟩ | ⟨_, e⟩ <;> cases e
theorem st_ini {src : Bool} {F : Fp} {S H : Hp} {N : List Str} {vs : List V} {ds : List D} (w : Okw F S H) (a : ArgOk src F S vs ds) (hl : vs.length ≤ N.length) : StD F S H H (L2.start N vs) (ini src N.length ds) := by
  have fh : ∀ x, fp F x → ∃ o, H x = some o := fun x ⟨a, c, e, z⟩ => by
    obtain ⟨_, _, ns, l, m, t, e1, e2, _⟩ := w.src a c e
    rcases z with rfl | rfl
    · exact ⟨_, e1⟩
    · exact ⟨_, e2⟩
  cases src with
  | false =>
    obtain ⟨_, hd⟩ := a
    have e : ini false N.length ds = ds.map Sl.v ++ List.replicate (N.length - ds.length) Sl.un := by simp [ini]
    rw [e]
    refine ⟨by simp [L2.start, hd.len], fun i s q => ?_, fun i j l m p q _ _ _ => (no_own q).elim, fh⟩
    unfold L2.start
    by_cases hi : i < ds.length
    · rw [List.getElem?_append_left (by simpa using hi)] at q
      rw [List.getElem?_append_left (by simpa [← hd.len] using hi)]
      exact okL hd q
    · rw [List.getElem?_append_right (by simpa using hi)] at q
      rw [List.getElem?_append_right (by simp [← hd.len]; omega)]
      have hm := List.mem_of_getElem? q
      have hlt := (List.getElem?_eq_some_iff.mp q).1
      rw [List.mem_replicate] at hm
      simp only [List.length_map, List.length_replicate] at hlt ⊢
      rw [hm.2]
      refine ⟨Option.none, ?_, trivial⟩
      rw [List.getElem?_replicate, if_pos]
      rw [← hd.len]
      exact hlt
  | true =>
    obtain ⟨a0, c, us, eF, rfl, hd⟩ := a
    have e : ini true N.length ds = Sl.src :: (ds.map Sl.v ++ List.replicate (N.length - ds.length - 1) Sl.un) := by simp [ini]
    have e2 : L2.start N (.ref a0 :: us) = some (.ref a0) :: (us.map some ++ List.replicate (N.length - us.length - 1) Option.none) := by
      simp only [L2.start, List.map_cons, List.length_cons, List.cons_append, Nat.sub_sub]
    rw [e, e2]
    refine ⟨by simp [hd.len], fun i s q => ?_, fun i j l m p q q2 _ _ => ?_, fh⟩
    · cases i with
      | zero =>
        simp only [List.getElem?_cons_zero, Option.some.injEq] at q
        subst q
        exact ⟨_, rfl, a0, c, eF, rfl⟩
      | succ i =>
        rw [List.getElem?_cons_succ] at q
        rw [List.getElem?_cons_succ]
        by_cases hi : i < ds.length
        · rw [List.getElem?_append_left (by simpa using hi)] at q
          rw [List.getElem?_append_left (by simpa [← hd.len] using hi)]
          exact okL hd q
        · rw [List.getElem?_append_right (by simpa using hi)] at q
          rw [List.getElem?_append_right (by simp [← hd.len]; omega)]
          have hm := List.mem_of_getElem? q
          have hlt := (List.getElem?_eq_some_iff.mp q).1
          rw [List.mem_replicate] at hm
          simp only [List.length_map, List.length_replicate] at hlt ⊢
          rw [hm.2]
          refine ⟨Option.none, ?_, trivial⟩
          rw [List.getElem?_replicate, if_pos]
          rw [← hd.len]
          exact hlt
    · cases i with
      | zero => simp at q
      | succ i => exact (no_own (by simpa using q)).elim
section
variable {P : Program} {w : World} {K : PySem.W.Frag} {mg : Str → Option Value} {base : Heap}
theorem arg_len {src : Bool} {F : Fp} {S : Hp} {vs : List V} {ds : List D} (a : ArgOk src F S vs ds) : vs.length = ds.length + (if src then 1 else 0) := by
  cases src with
  | false => obtain ⟨_, hd⟩ := a; rw [hd.len]; rfl
  | true => obtain ⟨_, _, us, _, rfl, hd⟩ := a; rw [hd.len]; rfl
theorem ok_D {x qual : Str} {st : Stmt} {f : Addr} {fd : FuncData} {N ps : List Str} {k : Nat} {src fr : Bool} {R : List D → D → Prop} (Fu : Fun K x qual st f fd) (S : FnScope N ps (defScope st)) (hl : ∀ ds d, R ds d → ds.length + (if src then 1 else 0) = ps.length)
    (hbody : ∀ (cdv : Value) (A : Around) (outer : List Env) (s : Shared) (H : Hp) (E : XK), Room k (A.deeper (envOfC qual (defScope st) s.heap.objs.size f cdv)) →
      ∃ t, PSs (cxOf CX0 P w K mg base N qual (defScope st) f cdv A outer s H E).nox (defBody st) t ∧ ∀ F ds, (src = false → F = Option.none) → (∃ d, R ds d) → Run F fr t (ini src N.length ds) { nx := fun _ => fr = false ∧ R ds .none, rt := R ds }) :
    FnOk P w K mg base CX0 (k + 1) f fd ps (SpD src fr R) := by
  have hps : ps.length ≤ N.length := by
    have := congrArg List.length S.pre
    rw [List.length_take] at this
    omega
  refine Fu.ok S (fun vs H Q E h => ?_) (fun cdv A outer s H vs Q E hr h => ?_)
  · obtain ⟨F, S', ds, _, a, ⟨d, r⟩, _⟩ := h
    rw [arg_len a]
    exact hl ds d r
  · obtain ⟨F, S', ds, w', a, ⟨d, r⟩, hk⟩ := h
    obtain ⟨t, ht, hrun⟩ := hbody cdv A outer s H E hr
    refine ⟨t, ht, hrun F ds (fun e => by subst e; exact a.1) ⟨d, r⟩ S' H S' S' H _ _ w' ⟨Gr.refl w'.s, Same.refl _⟩ (st_ini w' a (by rw [arg_len a, hl ds d r]; exact hps)) ⟨?_, ?_, fun _ _ _ _ z => z.elim, fun _ _ _ _ z => z.elim⟩⟩
    · exact fun Δ S2 H2 σ n w2 g2 _ => hk .none .non S2 H2 n.2 ⟨g2.g, fun _ => by simp only [Dt], fun e => by rw [n.1] at e; cases e⟩
    · exact fun d v _ S2 H2 _ q _ _ _ gv => hk d v S2 H2 q gv
end
end Bc

/-! Core G: promises where no repr is under way (guards = []): wanted by repr of lists and tuples. -/
namespace Bc
open PySem L2 PySem.Spec PyProof.Rows
structure FnOkG (P : Program) (w : World) (K : PySem.W.Frag) (mg : Str → Option Value) (base : Heap) (k : Nat) (f : Addr) (fd : FuncData) (ps : List Str) (sp : Sp) : Prop where
  len : ∀ vs H Q E, sp vs H Q E → vs.length = ps.length
  run : ∀ (A : Around) (outer : List Env) (s : Shared) (H : Hp) (args : Args) (us : List Value) (vs : List V) (Q : VK) (E : XK), A.guards = some [] → Room k A → Env0 P w K mg base A outer s H → BindsTo s fd args (ps.zip us) → Vals vs us → sp vs H Q E →
    codeAny (model P w) A (.call (.ref f) args) (CR CX0 outer P w H s Q E) s
theorem FnOkG.of {P : Program} {w : World} {K : PySem.W.Frag} {mg : Str → Option Value} {base : Heap} {k : Nat} {f : Addr} {fd : FuncData} {ps : List Str} {sp : Sp} (G : FnOk P w K mg base CX0 k f fd ps sp) : FnOkG P w K mg base k f fd ps sp :=
  ⟨G.len, fun A o s H args us vs Q E _ hr => G.run A o s H args us vs Q E hr⟩
structure FnTG (P : Program) (w : World) (K : PySem.W.Frag) (mg : Str → Option Value) (base : Heap) (k : Nat) (x : Str) (ps : List Str) (sp : Sp) : Prop where
  ex : ∃ f fd, mg x = some (.ref f) ∧ PySem.W.keepIn K (.ref f) = true ∧ Binds K fd ps [] ∧ FnOkG P w K mg base k f fd ps sp
theorem FnT.toG {P : Program} {w : World} {K : PySem.W.Frag} {mg : Str → Option Value} {base : Heap} {k : Nat} {x : Str} {ps : List Str} {sp : Sp} (T : FnT P w K mg base k x ps sp) : FnTG P w K mg base k x ps sp := by
  obtain ⟨f, fd, a, b, c, d⟩ := T.ex
  exact ⟨f, fd, a, b, c, .of d⟩
theorem FnT.mono {P : Program} {w : World} {K : PySem.W.Frag} {mg : Str → Option Value} {base : Heap} {k j : Nat} {x : Str} {ps : List Str} {sp : Sp} (T : FnT P w K mg base j x ps sp) (h : j ≤ k) : FnT P w K mg base k x ps sp := by
  obtain ⟨f, fd, a, b, c, d⟩ := T.ex
  exact ⟨f, fd, a, b, c, d.mono h⟩
section
variable {P : Program} {w : World} {K : PySem.W.Frag} {mg : Str → Option Value} {base : Heap} {k : Nat} {f : Addr} {fd : FuncData} {ps : List Str} {sp : Sp}
theorem bodyG {x qual : Str} {st : Stmt} {N : List Str} (Fu : Fun K x qual st f fd) (Sc : FnScope N ps (defScope st)) (len : ∀ vs H Q E, sp vs H Q E → vs.length = ps.length)
    (hbody : ∀ (cdv : Value) (A : Around) (outer : List Env) (s : Shared) (H : Hp) (vs : List V) (Q : VK) (E : XK), A.guards = some [] → Room k (A.deeper (envOfC qual (defScope st) s.heap.objs.size f cdv)) → sp vs H Q E →
      ∃ t, PSs (cxOf CX0 P w K mg base N qual (defScope st) f cdv A outer s H E).nox (defBody st) t ∧ t { nx := fun _ H' => Q .non H', rt := Q } (L2.start N vs) H) : FnOkG P w K mg base (k + 1) f fd ps sp := by
  obtain ⟨oc, od, kV, doc, pm, an, cdv, ct, osl, rfl, lk, hcd⟩ := Fu.ex
  refine ⟨len, fun A outer s0 H args us vs Q E gA rm env0 hb rel hsp => ?_⟩
  have nvs := len _ _ _ _ hsp
  have inK : K.In s0.heap := env0.mod.kin.keeps fun b o z => (env0.bs b o z).1
  have lim := env0.mod.nolimit.keeps fun b o z => (env0.bs b o z).1
  have kinds : ∀ y ∈ ps.zip us, (defScope st).names.lookup y.1 = some .local ∨ ((defScope st).names.lookup y.1 = some .cell ∧ ((cellsFrom (s0.heap.objs.size + 1) (defScope st).names []).lookup y.1).isSome = true) := by
    rintro ⟨n, v⟩ hy
    cases Sc.par n (List.of_mem_zip hy).1 with
    | inl q => exact Or.inl q
    | inr q => exact Or.inr ⟨q, PySem.W.cellsFrom_some _ _ _ (Or.inl q)⟩
  refine codeAny_call_function rm.depth (inK _ _ lk) rfl Sc.co Sc.gen rfl (PySem.W.codeRec_of inK hcd) (hb _ _ _ _ ?_)
  refine wpAny_newFunctionEnv_cells Sc.kind kinds ?_
  intro env ee s1 ic
  subst ee
  refine ⟨lim.keeps ic.toInCall.keep, codeAny_func ?_⟩
  obtain ⟨t, tk, tq⟩ := hbody cdv A outer s0 H vs Q E gA (rm.deeper _) hsp
  have I1 : Inv (cxOf CX0 P w K mg base N qual (defScope st) f cdv A outer s0 H E) [] (L2.start N vs) H s1 := inv_start Sc rm.hd env0 nvs rel ic
  refine wpAny_mono (tk.nox.run [] s1 (L2.start N vs) H _ I1 tq) (fun fl s2 hs => ?_) fun e s2 hs => hs
  cases fl with
  | ret u =>
    obtain ⟨v, _, H', J, rv, q⟩ := hs
    exact ⟨v, H', J.os, J.bare, J.base, J.hok, rv, q⟩
  | next =>
    obtain ⟨_, H', J, q⟩ := hs
    exact ⟨V.non, H', J.os, J.bare, J.base, J.hok, (rfl : RelV V.non Value.none), q⟩
  | brk =>
    obtain ⟨_, _, _, z⟩ := hs
    exact False.elim z
  | cont =>
    obtain ⟨_, _, _, z⟩ := hs
    exact False.elim z
theorem ok_DG {x qual : Str} {st : Stmt} {N : List Str} {src fr : Bool} {R : List D → D → Prop} (Fu : Fun K x qual st f fd) (S : FnScope N ps (defScope st)) (hl : ∀ ds d, R ds d → ds.length + (if src then 1 else 0) = ps.length)
    (hbody : ∀ (cdv : Value) (A : Around) (outer : List Env) (s : Shared) (H : Hp) (E : XK), A.guards = some [] → Room k (A.deeper (envOfC qual (defScope st) s.heap.objs.size f cdv)) →
      ∃ t, PSs (cxOf CX0 P w K mg base N qual (defScope st) f cdv A outer s H E).nox (defBody st) t ∧ ∀ F ds, (src = false → F = Option.none) → (∃ d, R ds d) → Run F fr t (ini src N.length ds) { nx := fun _ => fr = false ∧ R ds .none, rt := R ds }) :
    FnOkG P w K mg base (k + 1) f fd ps (SpD src fr R) := by
  have hps : ps.length ≤ N.length := by
    have := congrArg List.length S.pre
    rw [List.length_take] at this
    omega
  refine bodyG Fu S (fun vs H Q E h => ?_) (fun cdv A outer s H vs Q E gA hr h => ?_)
  · obtain ⟨F, S', ds, _, a, ⟨d, r⟩, _⟩ := h
    rw [arg_len a]
    exact hl ds d r
  · obtain ⟨F, S', ds, w', a, ⟨d, r⟩, hk⟩ := h
    obtain ⟨t, ht, hrun⟩ := hbody cdv A outer s H E gA hr
    refine ⟨t, ht, hrun F ds (fun e => by subst e; exact a.1) ⟨d, r⟩ S' H S' S' H _ _ w' ⟨Gr.refl w'.s, Same.refl _⟩ (st_ini w' a (by rw [arg_len a, hl ds d r]; exact hps)) ⟨?_, ?_, fun _ _ _ _ z => z.elim, fun _ _ _ _ z => z.elim⟩⟩
    · exact fun Δ S2 H2 σ n w2 g2 _ => hk .none .non S2 H2 n.2 ⟨g2.g, fun _ => by simp only [Dt], fun e => by rw [n.1] at e; cases e⟩
    · exact fun d v _ S2 H2 _ q _ _ _ gv => hk d v S2 H2 q gv
end
section
variable {X : Cx} {k : Nat} {x : Str} {ps : List Str} {sp : Sp} {e : Expr} {es : List Expr} {t : TA} {p pos : Pos}
theorem run_G {f : Addr} {fd : FuncData} {pins : List (Addr × Obj)} {σ : L2.St} {H : Hp} {s : Shared} {Q : VK} {us : List Value} {vs : List V} (G : FnOkG X.prog X.w X.K X.mg X.base k f fd ps sp) (hg : X.A.guards = some []) (hr : Room k X.A) (hb : Binds X.K fd ps [])
    (I : Inv X pins σ H s) (r : Vals vs us) (h : sp vs H Q E0) : wpAny (model X.prog X.w) X.A (call (.ref f) us) (EP X pins σ Q) X.xe s := by
  have hl : (us ++ []).length = ps.length := by rw [List.append_nil, ← r.length]; exact G.len _ _ _ _ h
  have bt := hb s us I.kIn hl
  rw [List.append_nil] at bt
  refine wpAny_call (codeAny_mono (G.run X.A X.stack s H ⟨us, []⟩ us vs Q E0 hg hr I.env0 bt r h) fun res s' hq => ?_)
  cases res with
  | error e => exact False.elim hq
  | ok fl =>
    cases fl with
    | ret u => exact I.after hq
    | next => exact False.elim hq
    | brk => exact False.elim hq
    | cont => exact False.elim hq
theorem pe_callG (G : FnTG X.prog X.w X.K X.mg X.base k x ps sp) (gd : X.A.guards = some []) (hr : Room k X.A) (ha : PA X (e :: es) t) (hg : Gl X x := by rfl)
    (hdb : (x == ("__debug__" : Str)) = false := by decide) (he : starEach (e :: es) X.env = (false, eval e X.env) :: starEach es X.env := by rfl) (hpl : (backTo pos (starEach es X.env)).any (·.1) = false := by rfl) :
    PE X (.Call (.Name x p) (e :: es) [] pos) (tCall sp [] E0 t) := by
  obtain ⟨f, fd, h1, h2, h3, h4⟩ := G.ex
  refine ⟨fun pins s σ H Q I h => wpAny_Call_Name_kw (ld_glob I hg h1 ?_ hdb)⟩
  refine PySem.W.callWith_K (h₀ := X.base) I.ok.mod.kin h2 (thn (ha.run pos pins s σ H _ I h) fun us s1 hv => ?_) he hpl
  obtain ⟨vs, H1, I1, r, q⟩ := hv
  rw [List.append_nil] at q
  exact ⟨I1.kIn, run_G h4 gd hr h3 I1 r q⟩
theorem pe_callG0 (G : FnTG X.prog X.w X.K X.mg X.base k x ps sp) (gd : X.A.guards = some []) (hr : Room k X.A) (hg : Gl X x := by rfl) (hdb : (x == ("__debug__" : Str)) = false := by decide) :
    PE X (.Call (.Name x p) [] [] pos) (tCall sp [] E0 tNil) := by
  obtain ⟨f, fd, h1, h2, h3, h4⟩ := G.ex
  refine ⟨fun pins s σ H Q I h => wpAny_Call_Name_kw (ld_glob I hg h1 ?_ hdb)⟩
  exact PySem.W.callWith_K0 I.kIn h2 (run_G (us := []) h4 gd hr h3 I .nil h)
end
/-! ### the law's call -/
/-- sys.modules stands where it stood -/
def SysB (h : Heap) : Prop := ∃ mm, h.Ns sysModules mm
/-- law's promise: a list of at most 63 ints, True comes out -/
def spLaw (K : PySem.W.Frag) : Sp := fun vs H Q _ => ∃ (a : Addr) (ns : List Int), vs = [.ref a] ∧ SqL K H a (ns.map V.int) ∧ ns.length ≤ 63 ∧ ∀ H', Q (.bl true) H'
theorem law_callG {P : Program} {w : World} {K : PySem.W.Frag} {mg mb : Str → Option Value} {k : Nat} {fa a : Addr} {fd : FuncData} {x : Str} {s : Shared} {vs : List Value} {ns : List Int}
    (inK : K.In s.heap) (hns : s.heap.Ns mainGlobals mg) (hb : s.heap.Ns builtinsNs mb) (hbb : ∀ x : Str, x ≠ "__name__" → mb x = bootBuiltins x) (lim : s.heap.NoLimit) (hg : s.gens = #[])
    (ha : s.heap.get? a = some { cls := .type "list", data := .seq vs.toArray }) (hi : IntsAre vs ns) (hl : ns.length ≤ 63) (hr : Room k callerA) (hsb : SysB s.heap)
    (G : ∀ base : Heap, K.In base → base.Ns mainGlobals mg → SysB base → FnOkG P w K mg base k fa fd [x] (spLaw K)) (hbind : ∀ (s : Shared) (u : Value), BindsTo s fd ⟨[u], []⟩ [(x, u)]) :
    codeAny (model P w) callerA (.call (.ref fa) ⟨[.ref a], []⟩) (fun r s' => r = .ok (.ret (.bool true)) ∧ OldK s.heap s'.heap ∧ s'.os = s.os ∧ AllBare s'.gens) s := by
  have rv := vals_ints hi
  have nl := hi.length
  have hl2 : ns.length ≤ sizeLine := Nat.le_trans hl (by decide)
  -- an abstract heap that tracks nothing but the script, locked
  suffices core : ∀ H : Hp, Only H → SqL K H a (ns.map V.int) → HOk P w H s.heap → (∀ b u, H b = some u → b = a ∧ K.lookup a = Option.none) →
      codeAny (model P w) callerA (.call (.ref fa) ⟨[.ref a], []⟩) (fun r s' => r = .ok (.ret (.bool true)) ∧ OldK s.heap s'.heap ∧ s'.os = s.os ∧ AllBare s'.gens) s by
    cases hk : K.lookup a with
    | some o =>
      have z := inK a o hk
      rw [ha] at z
      cases z
      refine core (fun _ => Option.none) (fun _ => Or.inl rfl) (Or.inr ⟨_, vs.toArray, _, hk, rfl, rfl, rfl, ?_, by simpa using rv⟩) (fun b u z => by cases z) fun b u z => by cases z
      rw [List.size_toArray, nl]
      exact hl2
    | none =>
      have at1 : ∀ b u, (if b = a then some (HO.frz { cls := .type "list", data := .seq vs.toArray } (.lst (ns.map V.int))) else Option.none) = some u → b = a ∧ u = HO.frz { cls := .type "list", data := .seq vs.toArray } (.lst (ns.map V.int)) := fun b u z => by
        by_cases hb : b = a
        · rw [if_pos hb] at z
          exact ⟨hb, (Option.some.inj z).symm⟩
        · rw [if_neg hb] at z
          cases z
      refine core (fun b => if b = a then some (.frz { cls := .type "list", data := .seq vs.toArray } (.lst (ns.map V.int))) else Option.none) (fun b => ?_) (Or.inl (Or.inr ⟨_, if_pos rfl⟩)) (fun b u z => ?_) fun b u z => ⟨(at1 b u z).1, hk⟩
      · by_cases hb : b = a
        · exact Or.inr ⟨_, _, if_pos hb⟩
        · exact Or.inl (if_neg hb)
      · obtain ⟨e1, e2⟩ := at1 b u z
        subst e1
        subst e2
        exact ⟨ha, by rw [List.length_map]; exact hl2, vs, _, rv, ha⟩
  intro H only sq hok own
  have free_of : ∀ {b : Addr} {o : Obj}, s.heap.get? b = some o → b ≠ a ∨ K.lookup a ≠ Option.none → H b = Option.none := fun {b o} _ z => by
    cases q : H b with
    | none => rfl
    | some u =>
      obtain ⟨z1, z2⟩ := own b u q
      rcases z with z | z
      · exact absurd z1 z
      · exact absurd z2 z
  have ns_of : ∀ {b : Addr} {m : Str → Option Value}, s.heap.Ns b m → (hidT s.heap H).Ns b m := fun {b m} ⟨o, es, ep, e, d, r⟩ => by
    refine ⟨o, es, ep, hidT_get e (free_of e (.inl fun z => ?_)), d, r⟩
    rw [z, ha] at e
    cases e
    cases d
  have inB : K.In (hidT s.heap H) := fun b o e => hidT_get (inK b o e) (by
    by_cases hb : b = a
    · exact free_of (inK b o e) (.inr fun z => by rw [← hb, e] at z; cases z)
    · exact free_of (inK b o e) (.inl hb))
  have hM : Mod K mg (hidT s.heap H) := ⟨inB, ns_of hns, ⟨mb, ns_of hb, hbb⟩, lim.elim fun mc h => ⟨mc, ns_of h.1, h.2⟩⟩
  have env0 : Env0 P w K mg (hidT s.heap H) callerA [] s H := ⟨rfl, hM, fun b o e => of_hidT e, Nat.le_of_eq (hidT_size _ _), trivial, fun b z => (List.not_mem_nil z).elim, hok, .of_eq hg⟩
  refine codeAny_mono ((G _ inB (ns_of hns) (hsb.elim fun mm z => ⟨mm, ns_of z⟩)).run callerA [] s H ⟨[.ref a], []⟩ [.ref a] [.ref a] (fun v _ => v = .bl true) E0 rfl hr env0 (hbind s (.ref a)) (.cons rfl .nil) ⟨a, ns, rfl, sq, hl, fun _ => rfl⟩) fun r s' h => ?_
  match r, h with
  | .ok (.ret u), h =>
    obtain ⟨v, H', os, bare, un, hok', rel, q⟩ := h
    obtain rfl : v = .bl true := q
    obtain rfl : u = Value.bool true := rel
    refine ⟨rfl, OldK.of_keep fun b o e => ?_, os, bare⟩
    cases q : H b with
    | none => exact un.keep b o e q (fun z => (List.not_mem_nil z).elim) (by simp)
    | some u =>
      rcases only b with z | ⟨ob, xs, z⟩
      · rw [q] at z
        cases z
      · obtain ⟨f1, _⟩ := hok b _ z
        obtain ⟨f2, _⟩ := hok' b _ (un.frzs b ob _ z)
        rw [e] at f1
        cases f1
        exact f2
theorem walk_G {l : PySem.W.OpenLaw} {k : Nat} {q : Program} {loose : List Str} {XP : (Str → Option Value) → Heap → Prop} {YP : World → Heap → Prop} {d : DefRec} {K : Params → PySem.W.Frag} {x : Str}
    (hn : l.most = some 63) (hdf : d.params.defaults = []) (hr : Room k callerA) (hi : importsNone q = true) (hY : ∀ (w : World) (h : Heap), YP w h → (K w.params).In h)
    (F : ∀ (w : World) (mg : Str → Option Value) (fa : Addr) (h : Heap), (K w.params).In h → h.Ns mainGlobals mg → mg d.name = some (.ref fa) →
      ∃ fd : FuncData, (∀ (s : Shared) (u : Value), BindsTo s fd ⟨[u], []⟩ [(x, u)]) ∧ ∀ base : Heap, (K w.params).In base → base.Ns mainGlobals mg → SysB base → FnOkG l.prog w (K w.params) mg base k fa fd [x] (spLaw (K w.params))) :
    PySem.W.WalkO q loose XP YP l.row.toRowW d [] (fun f vs => PySem.call f vs) := by
  refine Att.attach_call hn hdf fun w s₀ s₁ mg mb fa o pm cd doc a vs ns Gd Y ho hd hcd hmg hobj hints hlen hg => ?_
  have KX := hY w _ Y
  obtain ⟨fd, hb, hF⟩ := F w mg fa _ KX Gd.T.g hmg
  exact law_callG KX Gd.T.g Gd.T.b Gd.T.builtins Gd.T.nolimit hg hobj hints hlen hr ⟨_, (Gd.T.seer hi).mods.choose_spec.1⟩ hF hb
end Bc

/-! Core 5: operators and built-ins, whatever the kinds of their values. -/
namespace Bc
open PySem L2 PySem.Spec PyProof.Rows
/-! ### data as the library's -/
mutual
def D.py : D → PyData
  | .none => .none
  | .bool b => .bool b
  | .int i => .int i
  | .str s => .str s
  | .list l => .list (pyL l)
  | .tuple l => .tuple (pyL l)
  | .dict _ => .none
  | .obj _ _ => .none
  | .exc _ _ => .none
  | .ref _ => .none
def pyL : List D → List PyData
  | [] => []
  | d :: ds => d.py :: pyL ds
end
mutual
def D.isPy : D → Bool
  | .none => true
  | .bool _ => true
  | .int _ => true
  | .str _ => true
  | .list l => isPyL l
  | .tuple l => isPyL l
  | .dict _ => false
  | .obj _ _ => false
  | .exc _ _ => false
  | .ref _ => false
def isPyL : List D → Bool
  | [] => true
  | d :: ds => d.isPy && isPyL ds
end
mutual
theorem Dt.dp {K : PySem.W.Frag} {S H : Hp} (e : Same S H) : ∀ (d : D) (v : V), d.isPy = true → Dt S d v → Dp K H v d.py
  | .none, v, _, h => by simp only [Dt] at h; subst h; exact .non
  | .bool b, v, _, h => by simp only [Dt] at h; subst h; exact .bl b
  | .int b, v, _, h => by simp only [Dt] at h; subst h; exact .int b
  | .str b, v, _, h => by simp only [Dt] at h; subst h; exact .str b
  | .ref a, v, q, _ => by simp [D.isPy] at q
  | .dict a, v, q, _ => by simp [D.isPy] at q
  | .obj C a, v, q, _ => by simp [D.isPy] at q
  | .exc C a, v, q, _ => by simp [D.isPy] at q
  | .list ds, v, q, h => by
    simp only [Dt] at h
    simp only [D.isPy] at q
    obtain ⟨a, xs, rfl, e1, h1⟩ := h
    exact .lst (SqL.of (e _ _ e1)) (DtL.dp e ds xs q h1)
  | .tuple ds, v, q, h => by
    simp only [Dt] at h
    simp only [D.isPy] at q
    obtain ⟨a, xs, rfl, e1, h1⟩ := h
    exact .tup (SqT.of (e _ _ e1)) (DtL.dp e ds xs q h1)
theorem DtL.dp {K : PySem.W.Frag} {S H : Hp} (e : Same S H) : ∀ (ds : List D) (xs : List V), isPyL ds = true → DtL S ds xs → DpAll K H xs (pyL ds)
  | [], xs, _, h => by simp only [DtL] at h; subst h; exact .nil
  | d :: ds, xs, q, h => by
    simp only [DtL] at h
    simp only [isPyL, Bool.and_eq_true] at q
    obtain ⟨x, ys, rfl, h1, h2⟩ := h
    exact .cons (Dt.dp e d x q.1 h1) (DtL.dp e ds ys q.2 h2)
end
section
variable {X : Cx} {K : PySem.W.Frag} {F : Fp}
/-! ### + -/
abbrev rAddP (K : PySem.W.Frag) : R2 := fun x y H Q => (rI0 fun i j => .int (i + j)) x y H Q ∨ ((∃ i j, x = .str i ∧ y = .str j ∧ i.length + j.length ≤ sizeLine ∧ Q (.str (i ++ j)) H) ∨ (rCat x y H Q ∨ rCatA K x y H Q))
theorem pAdd : OpR X (binaryOp .Add) (rAddP X.K) := op_add.or (op_add_str.or (op_cat.or op_catA))
def addF : D → D → D → Prop
  | .int i, .int j, d => d = .int (i + j)
  | .str a, .str b, d => a.length + b.length ≤ sizeLine ∧ d = .str (a ++ b)
  | .list a, .list b, d => a.length + b.length ≤ sizeLine ∧ d = .list (a ++ b)
  | .tuple a, .tuple b, d => a.length + b.length ≤ sizeLine ∧ d = .tuple (a ++ b)
  | _, _, _ => False
theorem sAdd : OpS F (rAddP K) addF := fun S H x y d u v Q w hx hy hf k => by
  unfold addF at hf
  split at hf
  · rename_i d i j
    simp only [Dt] at hx hy
    subst hx hy hf
    exact .inl ⟨i, j, rfl, rfl, k _ _ _ (Gr.refl w.s) (by simp only [Dt])⟩
  · rename_i d i j
    simp only [Dt] at hx hy
    obtain ⟨hz, rfl⟩ := hf
    subst hx hy
    exact .inr (.inl ⟨i, j, rfl, rfl, hz, k _ _ _ (Gr.refl w.s) (by simp only [Dt])⟩)
  · rename_i d a b
    obtain ⟨hz, rfl⟩ := hf
    simp only [Dt] at hx hy
    obtain ⟨p, xs, rfl, e1, h1⟩ := hx
    obtain ⟨q, ys, rfl, e2, h2⟩ := hy
    refine .inr (.inr (.inl ⟨p, q, xs, ys, rfl, rfl, w.s _ _ e1, w.s _ _ e2, by rw [← h1.len, ← h2.len]; exact hz, fun r hr => ?_⟩))
    refine k _ _ _ (Gr.newD w.s hr) ?_
    simp only [Dt]
    exact ⟨r, xs ++ ys, rfl, upd_same, (h1.append h2).mono (Gr.newD (F := F) (o := .lst (xs ++ ys)) w.s hr).s⟩
  · rename_i d a b
    obtain ⟨hz, rfl⟩ := hf
    simp only [Dt] at hx hy
    obtain ⟨p, xs, rfl, e1, h1⟩ := hx
    obtain ⟨q, ys, rfl, e2, h2⟩ := hy
    refine .inr (.inr (.inr ⟨p, q, xs, ys, rfl, rfl, SqT.of (w.s _ _ e1), SqT.of (w.s _ _ e2), by rw [← h1.len, ← h2.len]; exact hz, fun z => ?_, fun z1 z2 => ?_, fun z1 z2 r hr => ?_⟩))
    · subst z
      refine k _ _ _ (Gr.refl w.s) ?_
      have : a = [] := List.eq_nil_of_length_eq_zero (by rw [h1.len]; rfl)
      subst this
      simp only [Dt, List.nil_append]
      exact ⟨q, ys, rfl, e2, h2⟩
    · subst z2
      refine k _ _ _ (Gr.refl w.s) ?_
      have : b = [] := List.eq_nil_of_length_eq_zero (by rw [h2.len]; rfl)
      subst this
      simp only [Dt, List.append_nil]
      exact ⟨p, xs, rfl, e1, h1⟩
    · refine k _ _ _ (Gr.newD w.s hr) ?_
      simp only [Dt]
      exact ⟨r, xs ++ ys, rfl, upd_same, (h1.append h2).mono (Gr.newD (F := F) (o := .tup (xs ++ ys)) w.s hr).s⟩
  · exact hf.elim
/-! ### other arithmetic -/
def intF (C : Int → Int → Prop) (g : Int → Int → Int) : D → D → D → Prop
  | .int i, .int j, d => C i j ∧ d = .int (g i j)
  | _, _, _ => False
theorem sInt {C : Int → Int → Prop} {g : Int → Int → Int} : OpS F (rI C fun i j => .int (g i j)) (intF C g) := fun S H x y d u v Q w hx hy hf k => by
  unfold intF at hf
  split at hf
  · rename_i d i j
    simp only [Dt] at hx hy
    obtain ⟨hc, rfl⟩ := hf
    subst hx hy
    exact ⟨i, j, rfl, rfl, hc, k _ _ _ (Gr.refl w.s) (by simp only [Dt])⟩
  · exact hf.elim
theorem sInt0 {g : Int → Int → Int} : OpS F (rI0 fun i j => .int (g i j)) (intF (fun _ _ => True) g) := fun S H x y d u v Q w hx hy hf k => by
  unfold intF at hf
  split at hf
  · rename_i d i j
    simp only [Dt] at hx hy
    obtain ⟨hc, rfl⟩ := hf
    subst hx hy
    exact ⟨i, j, rfl, rfl, k _ _ _ (Gr.refl w.s) (by simp only [Dt])⟩
  · exact hf.elim
/-- int * int, text * int, list * int -/
abbrev rMulP : R2 := fun x y H Q => (rI CMul fun i j => .int (i * j)) x y H Q ∨ ((∃ z n, x = .str z ∧ y = .int n ∧ MulOk z n ∧ Q (.str (Txt.mul z n)) H) ∨ rRep x y H Q)
theorem op_mulStr : OpR X (binaryOp .Mult) (fun x y H Q => ∃ z n, x = .str z ∧ y = .int n ∧ MulOk z n ∧ Q (.str (Txt.mul z n)) H) := by
  intro pins s σ H x y v u Q I rx ry h
  obtain ⟨z, n, rfl, rfl, hok, q⟩ := h
  obtain ⟨t, rfl⟩ := rx
  obtain ⟨t', rfl⟩ := ry
  exact SB.mul hok fun t2 k => ⟨.str _, H, I.tok k, ⟨t2, rfl⟩, q⟩
theorem pMul : OpR X (binaryOp .Mult) rMulP := op_mul.or (op_mulStr.or op_rep)
def mulF : D → D → D → Prop
  | .int i, .int j, d => CMul i j ∧ d = .int (i * j)
  | .str z, .int n, d => MulOk z n ∧ d = .str (Txt.mul z n)
  | .list l, .int n, d => -(2 ^ 63) ≤ n ∧ n < 2 ^ 63 ∧ l.length * n.toNat ≤ sizeLine ∧ d = .list (List.replicate n.toNat l).flatten
  | _, _, _ => False
theorem DtL.rep {S : Hp} {ds : List D} {xs : List V} (h : DtL S ds xs) : ∀ n : Nat, DtL S (List.replicate n ds).flatten (List.replicate n xs).flatten
  | 0 => by simpa using dtl_nil
  | n + 1 => by
    rw [List.replicate_succ, List.replicate_succ, List.flatten_cons, List.flatten_cons]
    exact h.append (DtL.rep h n)
theorem sMul : OpS F rMulP mulF := fun S H x y d u v Q w hx hy hf k => by
  unfold mulF at hf
  split at hf
  · rename_i d i j
    simp only [Dt] at hx hy
    obtain ⟨hc, rfl⟩ := hf
    subst hx hy
    exact .inl ⟨i, j, rfl, rfl, hc, k _ _ _ (Gr.refl w.s) (by simp only [Dt])⟩
  · rename_i d i j
    simp only [Dt] at hx hy
    obtain ⟨hc, rfl⟩ := hf
    subst hx hy
    exact .inr (.inl ⟨i, j, rfl, rfl, hc, k _ _ _ (Gr.refl w.s) (by simp only [Dt])⟩)
  · rename_i d l n
    obtain ⟨h1, h2, h3, rfl⟩ := hf
    simp only [Dt] at hx hy
    obtain ⟨p, xs, rfl, e1, hd⟩ := hx
    subst hy
    refine .inr (.inr ⟨p, n, xs, rfl, rfl, w.s _ _ e1, h1, h2, by rw [← hd.len]; exact h3, fun r hr => ?_⟩)
    refine k _ _ _ (Gr.newD w.s hr) ?_
    simp only [Dt]
    exact ⟨r, _, rfl, upd_same, (hd.rep n.toNat).mono (Gr.newD (F := F) (o := .lst (List.replicate n.toNat xs).flatten) w.s hr).s⟩
  · exact hf.elim
/-! ### comparisons -/
def eqF (neg : Bool) (x y d : D) : Prop := x.isPy = true ∧ y.isPy = true ∧ SeqAt.shaped x.py = true ∧ SeqAt.shaped y.py = true ∧ d = .bool (if neg then !PyData.eqv x.py y.py else PyData.eqv x.py y.py)
theorem sEq : OpS F (rEqD K) (eqF false) := fun S H x y d u v Q w hx hy ⟨p1, p2, s1, s2, e⟩ k => by
  subst e
  exact ⟨x.py, y.py, Dt.dp w.s x u p1 hx, Dt.dp w.s y v p2 hy, s1, s2, k _ _ _ (Gr.refl w.s) (by simp only [Dt]; rfl)⟩
theorem sNe : OpS F (rNeD K) (eqF true) := fun S H x y d u v Q w hx hy ⟨p1, p2, s1, s2, e⟩ k => by
  subst e
  exact ⟨x.py, y.py, Dt.dp w.s x u p1 hx, Dt.dp w.s y v p2 hy, s1, s2, k _ _ _ (Gr.refl w.s) (by simp only [Dt]; rfl)⟩
abbrev rLtP : R2 := fun x y H Q => (rI0 fun i j => .bl (decide (i < j))) x y H Q ∨ (∃ i j, x = .str i ∧ y = .str j ∧ Q (.bl (decide (i.cps.toList < j.cps.toList))) H)
theorem pLt : OpR X (compareOp .Lt) rLtP := op_lt.or op_lt_str
abbrev rLeP : R2 := fun x y H Q => (rI0 fun i j => .bl (decide (i ≤ j))) x y H Q ∨ (∃ i j, x = .str i ∧ y = .str j ∧ Q (.bl (!decide (j.cps.toList < i.cps.toList))) H)
theorem pLe : OpR X (compareOp .LtE) rLeP := op_le.or op_le_str
def ltF : D → D → D → Prop
  | .int i, .int j, d => d = .bool (decide (i < j))
  | .str i, .str j, d => d = .bool (decide (i.cps.toList < j.cps.toList))
  | _, _, _ => False
def leF : D → D → D → Prop
  | .int i, .int j, d => d = .bool (decide (i ≤ j))
  | .str i, .str j, d => d = .bool (!decide (j.cps.toList < i.cps.toList))
  | _, _, _ => False
theorem sLt : OpS F rLtP ltF := fun S H x y d u v Q w hx hy hf k => by
  unfold ltF at hf
  split at hf
  · rename_i d i j
    simp only [Dt] at hx hy
    subst hx hy hf
    exact .inl ⟨i, j, rfl, rfl, k _ _ _ (Gr.refl w.s) (by simp only [Dt])⟩
  · rename_i d i j
    simp only [Dt] at hx hy
    subst hx hy hf
    exact .inr ⟨i, j, rfl, rfl, k _ _ _ (Gr.refl w.s) (by simp only [Dt])⟩
  · exact hf.elim
theorem sLe : OpS F rLeP leF := fun S H x y d u v Q w hx hy hf k => by
  unfold leF at hf
  split at hf
  · rename_i d i j
    simp only [Dt] at hx hy
    subst hx hy hf
    exact .inl ⟨i, j, rfl, rfl, k _ _ _ (Gr.refl w.s) (by simp only [Dt])⟩
  · rename_i d i j
    simp only [Dt] at hx hy
    subst hx hy hf
    exact .inr ⟨i, j, rfl, rfl, k _ _ _ (Gr.refl w.s) (by simp only [Dt])⟩
  · exact hf.elim
def cmpF (g : Int → Int → Bool) : D → D → D → Prop
  | .int i, .int j, d => d = .bool (g i j)
  | _, _, _ => False
theorem sCmp {g : Int → Int → Bool} : OpS F (rI0 fun i j => .bl (g i j)) (cmpF g) := fun S H x y d u v Q w hx hy hf k => by
  unfold cmpF at hf
  split at hf
  · rename_i d i j
    simp only [Dt] at hx hy
    subst hx hy hf
    exact ⟨i, j, rfl, rfl, k _ _ _ (Gr.refl w.s) (by simp only [Dt])⟩
  · exact hf.elim
/-- x is None -/
def D.isN : D → Bool
  | .none => true
  | _ => false
def isNF (neg : Bool) (x y d : D) : Prop := y = .none ∧ d = .bool (x.isN != neg)
theorem dt_none {S : Hp} {x : D} {u : V} (h : Dt S x u) : decide (u = .non) = x.isN := by
  cases x <;> simp only [Dt] at h <;> first
    | (subst h; rfl)
    | (obtain ⟨a, xs, rfl, _⟩ := h; rfl)
    | (obtain ⟨a, dx, xs, rfl, _⟩ := h; rfl)
theorem sIsN : OpS F (fun x y H Q => y = .non ∧ Q (.bl (decide (x = .non))) H) (isNF false) := fun S H x y d u v Q w hx hy ⟨e1, e2⟩ k => by
  subst e1 e2
  simp only [Dt] at hy
  refine ⟨hy, ?_⟩
  rw [dt_none hx]
  exact k _ _ _ (Gr.refl w.s) (by simp only [Dt]; cases x.isN <;> rfl)
theorem sNotN : OpS F (fun x y H Q => y = .non ∧ Q (.bl (!decide (x = .non))) H) (isNF true) := fun S H x y d u v Q w hx hy ⟨e1, e2⟩ k => by
  subst e1 e2
  simp only [Dt] at hy
  refine ⟨hy, ?_⟩
  rw [dt_none hx]
  exact k _ _ _ (Gr.refl w.s) (by simp only [Dt]; cases x.isN <;> rfl)
/-! ### in: a sign in a text, data in a list, a key in a dict -/
abbrev rInP (K : PySem.W.Frag) (neg : Bool) : R2 := fun x y H Q =>
  (∃ (c : Nat) (z : Str), x = .str ⟨#[c]⟩ ∧ y = .str z ∧ Q (.bl (if neg then !decide (c ∈ z.cps.toList) else decide (c ∈ z.cps.toList))) H) ∨
  ((∃ d ds, Dp K H x d ∧ Dp K H y (.list ds) ∧ SeqAt.shaped d = true ∧ SeqAt.shaped (.list ds) = true ∧ Q (.bl (if neg then !(ds.any fun z => PyData.eqv z d) else ds.any fun z => PyData.eqv z d)) H) ∨
  (∃ a o, y = .ref a ∧ DGet H a x o ∧ Q (.bl (if neg then !o.isSome else o.isSome)) H))
theorem pIn (hu : X.A.units + 65 < cLine) : OpR X (compareOp .In) (rInP X.K false) := by
  intro pins s σ H x y v u Q I rx ry h
  rcases h with h | h | ⟨a, o, rfl, g, q⟩
  · exact op_in_sign pins s σ H x y v u Q I rx ry h
  · exact op_inD hu pins s σ H x y v u Q I rx ry h
  · obtain rfl : u = Value.ref a := ry
    exact d_in (by omega) I g rx fun s3 I3 => ⟨.bl o.isSome, H, I3, rfl, q⟩
theorem pNotIn (hu : X.A.units + 65 < cLine) : OpR X (compareOp .NotIn) (rInP X.K true) := by
  intro pins s σ H x y v u Q I rx ry h
  rcases h with h | h | ⟨a, o, rfl, g, q⟩
  · exact op_notIn_sign pins s σ H x y v u Q I rx ry h
  · exact op_notInD hu pins s σ H x y v u Q I rx ry h
  · obtain rfl : u = Value.ref a := ry
    exact d_notIn (by omega) I g rx fun s3 I3 => ⟨.bl (!o.isSome), H, I3, rfl, q⟩
def keyD : D → Option Key
  | .int i => some (.inl i)
  | .str z => some (.inr z)
  | _ => Option.none
def inF (neg : Bool) : D → D → D → Prop
  | .str x, .str z, d => ∃ c, x = ⟨#[c]⟩ ∧ d = .bool (if neg then !decide (c ∈ z.cps.toList) else decide (c ∈ z.cps.toList))
  | x, .list ds, d => x.isPy = true ∧ isPyL ds = true ∧ SeqAt.shaped x.py = true ∧ SeqAt.shaped (.list (pyL ds)) = true ∧ d = .bool (if neg then !((pyL ds).any fun z => PyData.eqv z x.py) else (pyL ds).any fun z => PyData.eqv z x.py)
  | x, .dict kvs, d => ∃ k, keyD x = some k ∧ d = .bool (if neg then !(kvs.any fun q => decide (q.1 = k)) else kvs.any fun q => decide (q.1 = k))
  | _, _, _ => False
theorem DtK.has {S : Hp} {k : Key} : ∀ {kvs : List (Key × D)} {ks : List (Key × V)}, DtK S kvs ks → (valV ks k).isSome = kvs.any fun q => decide (q.1 = k)
  | [], ks, h => by simp only [DtK] at h; subst h; rfl
  | (k1, d) :: r, ks, h => by
    simp only [DtK] at h
    obtain ⟨x, ys, rfl, h1, h2⟩ := h
    by_cases e : k1 = k
    · subst e
      rw [valV_pos rfl]
      simp
    · rw [show valV ((k1, x) :: ys) k = valV ys k by simp [valV, List.find?_cons, e], DtK.has h2]
      simp [e]
theorem DtK.val {S : Hp} {k : Key} : ∀ {kvs : List (Key × D)} {ks : List (Key × V)} {d : D}, DtK S kvs ks → (kvs.find? fun q => decide (q.1 = k)).map (·.2) = some d → ∃ x, valV ks k = some x ∧ Dt S d x
  | [], ks, d, h, e => by cases e
  | (k1, d1) :: r, ks, d, h, e => by
    simp only [DtK] at h
    obtain ⟨x, ys, rfl, h1, h2⟩ := h
    by_cases q : k1 = k
    · subst q
      rw [valV_pos rfl]
      simp at e
      subst e
      exact ⟨x, rfl, h1⟩
    · rw [show valV ((k1, x) :: ys) k = valV ys k by simp [valV, List.find?_cons, q]]
      refine DtK.val h2 ?_
      simpa [List.find?_cons, q] using e
theorem dt_key {S : Hp} {x : D} {u : V} {k : Key} (h : Dt S x u) (e : keyD x = some k) : u = kV k := by
  cases x <;> simp only [keyD] at e <;> first | (cases e; done) | (cases e; simp only [Dt] at h; subst h; rfl)
theorem sIn {neg : Bool} : OpS F (rInP K neg) (inF neg) := fun S H x y d u v Q w hx hy hf k => by
  unfold inF at hf
  split at hf
  · rename_i d x z
    obtain ⟨c, rfl, rfl⟩ := hf
    simp only [Dt] at hx hy
    subst hx hy
    exact .inl ⟨c, z, rfl, rfl, k _ _ _ (Gr.refl w.s) (by simp only [Dt])⟩
  · rename_i l
    obtain ⟨p1, p2, s1, s2, rfl⟩ := hf
    exact .inr (.inl ⟨_, pyL l, Dt.dp w.s _ u p1 hx, Dt.dp w.s (.list l) v p2 hy, s1, s2, k _ _ _ (Gr.refl w.s) (by simp only [Dt])⟩)
  · rename_i x kvs d
    obtain ⟨q, e1, rfl⟩ := hf
    simp only [Dt] at hy
    obtain ⟨a, ks, rfl, e2, h2⟩ := hy
    have eu := dt_key hx e1
    subst eu
    refine .inr (.inr ⟨a, _, rfl, DGet.k (w.s _ _ e2), ?_⟩)
    rw [h2.has]
    exact k _ _ _ (Gr.refl w.s) (by simp only [Dt])
  · exact hf.elim
/-! ### items -/
def ixF : D → D → D → Prop
  | .list ds, .int i, d => atI ds i = some d
  | .tuple ds, .int i, d => atI ds i = some d
  | .str z, .int i, d => z.length ≤ sizeLine ∧ ∃ c, atI z.cps.toList i = some c ∧ d = .str ⟨#[c]⟩
  | _, _, _ => False
theorem atI_map {S : Hp} {ds : List D} {xs : List V} {i : Int} {d : D} (h : DtL S ds xs) (e : atI ds i = some d) : ∃ x, atI xs i = some x ∧ Dt S d x := by
  unfold atI at e ⊢
  rw [← h.len]
  cases q : ixN ds.length i with
  | none => rw [q] at e; cases e
  | some j =>
    rw [q] at e
    exact h.get e
theorem sIx : OpS F (rIx K) ixF := fun S H x y d u v Q w hx hy hf k => by
  unfold ixF at hf
  split at hf
  · rename_i d ds i
    simp only [Dt] at hx hy
    obtain ⟨p, xs, rfl, e1, h1⟩ := hx
    subst hy
    obtain ⟨x, e2, hd⟩ := atI_map h1 hf
    exact .inl ⟨p, xs, i, x, rfl, rfl, SqL.of (w.s _ _ e1), e2, k _ _ _ (Gr.refl w.s) hd⟩
  · rename_i d ds i
    simp only [Dt] at hx hy
    obtain ⟨p, xs, rfl, e1, h1⟩ := hx
    subst hy
    obtain ⟨x, e2, hd⟩ := atI_map h1 hf
    exact .inr (.inl ⟨p, xs, i, x, rfl, rfl, SqT.of (w.s _ _ e1), e2, k _ _ _ (Gr.refl w.s) hd⟩)
  · rename_i d z i
    obtain ⟨hz, c, e, rfl⟩ := hf
    simp only [Dt] at hx hy
    subst hx hy
    exact .inr (.inr ⟨z, i, c, rfl, rfl, hz, e, k _ _ _ (Gr.refl w.s) (by simp only [Dt])⟩)
  · exact hf.elim
/-- of what is read -/
theorem ev_ixS {b : Bool} {ta tb : TE} {Δ : List Sl} {Ps : List D → Prop} {Pi P : D → Prop} (h : EvS F b ta Δ Ps) (hi : EvR F tb Δ Pi) (hk : ∀ ds y, Ps ds → Pi y → ∃ i d, y = .int i ∧ atI ds i = some d ∧ P d) : EvR F (tOp (rIx K) ta tb) Δ P := fun H0 S H σ w t Q k => by
  refine h H0 S H σ w t _ fun ds p xs S1 H1 q g1 nf h1 hd => ?_
  refine hi H0 S1 H1 σ (g1.ok w) (t.mono g1) _ fun y v S2 H2 qy g2 hy => ?_
  obtain ⟨i, d, e1, e2, pd⟩ := hk ds y q qy
  subst e1
  simp only [Dt] at hy
  subst hy
  obtain ⟨x, e3, hx⟩ := atI_map (hd.mono g2.s) e2
  have z := g2.k _ _ nf h1
  cases b with
  | true => exact .inr (.inl ⟨p, xs, i, x, rfl, rfl, SqT.of z, e3, k _ _ _ _ pd (g1.trans g2) hx⟩)
  | false => exact .inl ⟨p, xs, i, x, rfl, rfl, SqL.of z, e3, k _ _ _ _ pd (g1.trans g2) hx⟩
/-! ### slices -/
abbrev rSlP (K : PySem.W.Frag) : V → Option Int → Option Int → Hp → VK → Prop := fun x lo hi H Q => rSlL K x lo hi H Q ∨ (rSlT K x lo hi H Q ∨ rSlS x lo hi H Q)
theorem pSl : SlR X (rSlP X.K) := sl_list.or (sl_tup.or sl_str)
def cutD (xs : List D) (lo hi : Option Int) : List D := (xs.drop (HT.sIx xs.length 0 lo)).take (HT.sIx xs.length xs.length hi - HT.sIx xs.length 0 lo)
theorem DtL.cut {S : Hp} {ds : List D} {xs : List V} (h : DtL S ds xs) (lo hi : Option Int) : DtL S (cutD ds lo hi) (cutV xs lo hi) := by
  unfold cutD cutV
  rw [← h.len]
  exact (h.drop _).take _
def slF (x : D) (lo hi : Option Int) (d : D) : Prop := match x with
  | .list ds => d = .list (cutD ds lo hi)
  | .tuple ds => ¬ (HT.sIx ds.length 0 lo = 0 ∧ HT.sIx ds.length ds.length hi = ds.length) ∧ d = .tuple (cutD ds lo hi)
  | .str z => z.length ≤ sizeLine ∧ d = .str (cutS z lo hi)
  | _ => False
theorem eo_none {Δ : List Sl} : EvO F tNoPart Δ fun o => o = Option.none := fun H0 S H σ w t Q k => k _ _ _ rfl (Gr.refl w.s)
theorem eo_some {te : TE} {Δ : List Sl} {i : Int} (h : Ev1 F te Δ (.int i)) : EvO F (tPart te) Δ fun o => o = some i := fun H0 S H σ w t Q k =>
  h H0 S H σ w t _ fun d v S' H' e g hd => by
    subst e
    simp only [Dt] at hd
    exact ⟨i, hd, k _ _ _ rfl g⟩
theorem eo_someP {te : TE} {Δ : List Sl} {P : Int → Prop} (h : EvR F te Δ fun d => ∃ i, d = .int i ∧ P i) : EvO F (tPart te) Δ fun o => ∃ i, o = some i ∧ P i := fun H0 S H σ w t Q k =>
  h H0 S H σ w t _ fun d v S' H' ⟨i, e, p⟩ g hd => by
    subst e
    simp only [Dt] at hd
    exact ⟨i, hd, k _ _ _ ⟨i, rfl, p⟩ g⟩
theorem ev_sl {te : TE} {tl th : TO} {Δ : List Sl} {x : D} {Pl Ph : Option Int → Prop} {P : D → Prop} (h : Ev1 F te Δ x) (hl : EvO F tl Δ Pl) (hh : EvO F th Δ Ph) (hk : ∀ lo hi, Pl lo → Ph hi → ∃ d, slF x lo hi d ∧ P d) : EvR F (tSl (rSlP K) te tl th) Δ P := fun H0 S H σ w t Q k => by
  refine h H0 S H σ w t _ fun d v S1 H1 e g1 hd => ?_
  subst e
  refine hl H0 S1 H1 σ (g1.ok w) (t.mono g1) _ fun lo S2 H2 pl g2 => ?_
  refine hh H0 S2 H2 σ (g2.ok (g1.ok w)) ((t.mono g1).mono g2) _ fun hi S3 H3 ph g3 => ?_
  obtain ⟨r, hf, pr⟩ := hk lo hi pl ph
  have w3 := g3.ok (g2.ok (g1.ok w))
  have hd3 := (hd.mono g2.s).mono g3.s
  have gg := (g1.trans g2).trans g3
  unfold slF at hf
  split at hf
  · rename_i ds
    subst hf
    simp only [Dt] at hd3
    obtain ⟨a, xs, rfl, e1, h1⟩ := hd3
    refine .inl ⟨a, xs, rfl, SqL.of (w3.s _ _ e1), fun p hp => k _ _ _ _ pr (gg.trans (Gr.newD w3.s hp)) ?_⟩
    simp only [Dt]
    exact ⟨p, _, rfl, upd_same, (h1.cut lo hi).mono (Gr.newD (F := F) (o := .lst (cutV xs lo hi)) w3.s hp).s⟩
  · rename_i ds
    obtain ⟨hn, rfl⟩ := hf
    simp only [Dt] at hd3
    obtain ⟨a, xs, rfl, e1, h1⟩ := hd3
    refine .inr (.inl ⟨a, xs, rfl, SqT.of (w3.s _ _ e1), by rw [← h1.len]; exact hn, fun p hp => k _ _ _ _ pr (gg.trans (Gr.newD w3.s hp)) ?_⟩)
    simp only [Dt]
    exact ⟨p, _, rfl, upd_same, (h1.cut lo hi).mono (Gr.newD (F := F) (o := .tup (cutV xs lo hi)) w3.s hp).s⟩
  · rename_i z
    obtain ⟨hz, rfl⟩ := hf
    simp only [Dt] at hd3
    subst hd3
    exact .inr (.inr ⟨z, rfl, hz, k _ _ _ _ pr gg (by simp only [Dt])⟩)
  · exact hf.elim
theorem ev_sl1 {te : TE} {tl th : TO} {Δ : List Sl} {x d : D} {lo hi : Option Int} (h : Ev1 F te Δ x) (hl : EvO F tl Δ fun o => o = lo) (hh : EvO F th Δ fun o => o = hi) (hk : slF x lo hi d) : Ev1 F (tSl (rSlP K) te tl th) Δ d :=
  ev_sl h hl hh fun a b e1 e2 => ⟨d, by rw [e1, e2]; exact hk, rfl⟩
/-! ### calls of built-ins -/
def CallS (F : Fp) (r : List V → Hp → VK → Prop) (f : List D → D → Prop) : Prop := ∀ (S H : Hp) (ds : List D) (d : D) (vs : List V) (Q : VK), Okw F S H → DtL S ds vs → f ds d → (∀ w S' H', Gr F S H S' H' → Dt S' d w → Q w H') → r vs H Q
theorem ev_cb {r : List V → Hp → VK → Prop} {f : List D → D → Prop} {ta : TA} {Δ : List Sl} {Pa : List D → Prop} {P : D → Prop} (hr : CallS F r f) (h : EvA F ta Δ Pa) (hk : ∀ ds, Pa ds → ∃ d, f ds d ∧ P d) : EvR F (tCB r ta) Δ P := fun H0 S H σ w t Q k =>
  h H0 S H σ w t _ fun ds vs S' H' p g hd => by
    obtain ⟨d, hf, pd⟩ := hk ds p
    exact hr S' H' ds d vs Q (g.ok w) hd hf fun u S2 H2 g2 hu => k d u S2 H2 pd (g.trans g2) hu
theorem ev_cb1 {r : List V → Hp → VK → Prop} {f : List D → D → Prop} {ta : TA} {Δ : List Sl} {ds : List D} {d : D} (hr : CallS F r f) (h : EvA F ta Δ fun x => x = ds) (hk : f ds d) : Ev1 F (tCB r ta) Δ d := ev_cb hr h fun _ e => ⟨d, by rw [e]; exact hk, rfl⟩
abbrev rLenP (K : PySem.W.Frag) : List V → Hp → VK → Prop := fun xs H Q => (∃ x n, xs = [x] ∧ LenV K x H n ∧ Q (.int n) H)
theorem pLen : CallR X (.builtin "len") (rLenP X.K) := call_len
def lenF : List D → D → Prop
  | [.list l], d => d = .int l.length
  | [.tuple l], d => d = .int l.length
  | [.str z], d => z.length ≤ sizeLine ∧ d = .int z.length
  | _, _ => False
theorem sLen : CallS F (rLenP K) lenF := fun S H ds d vs Q w hd hf k => by
  unfold lenF at hf
  split at hf
  · rename_i l
    subst hf
    simp only [DtL, Dt] at hd
    obtain ⟨x, ys, rfl, ⟨a, xs, rfl, e1, h1⟩, rfl⟩ := hd
    exact ⟨_, l.length, rfl, .inl ⟨xs, SqL.of (w.s _ _ e1), h1.len⟩, k _ _ _ (Gr.refl w.s) (by simp only [Dt])⟩
  · rename_i l
    subst hf
    simp only [DtL, Dt] at hd
    obtain ⟨x, ys, rfl, ⟨a, xs, rfl, e1, h1⟩, rfl⟩ := hd
    exact ⟨_, l.length, rfl, .inr ⟨xs, SqT.of (w.s _ _ e1), h1.len⟩, k _ _ _ (Gr.refl w.s) (by simp only [Dt])⟩
  · rename_i z
    obtain ⟨hz, rfl⟩ := hf
    simp only [DtL, Dt] at hd
    obtain ⟨x, ys, rfl, rfl, rfl⟩ := hd
    exact ⟨_, z.length, rfl, ⟨hz, rfl⟩, k _ _ _ (Gr.refl w.s) (by simp only [Dt])⟩
  · exact hf.elim
/-- len of what is read -/
theorem ev_lenS {b : Bool} {te : TE} {Δ : List Sl} {Ps : List D → Prop} (h : EvS F b te Δ Ps) : EvR F (tCB (rLenP K) (tCons te tNil)) Δ fun d => ∃ ds : List D, Ps ds ∧ d = .int ds.length := fun H0 S H σ w t Q k => by
  refine h H0 S H σ w t _ fun ds p xs S1 H1 q g1 nf h1 hd => ?_
  cases b with
  | true => exact ⟨_, ds.length, rfl, .inr ⟨xs, SqT.of h1, hd.len⟩, k _ _ _ _ ⟨ds, q, rfl⟩ g1 (by simp only [Dt])⟩
  | false => exact ⟨_, ds.length, rfl, .inl ⟨xs, SqL.of h1, hd.len⟩, k _ _ _ _ ⟨ds, q, rfl⟩ g1 (by simp only [Dt])⟩
theorem ev_lenO {i : Nat} {Δ : List Sl} {ds : List D} (h : Δ[i]? = some (.own ds)) : Ev1 F (tCB (rLenP K) (tCons (tVar i) tNil)) Δ (.int ds.length) := (ev_lenS (es_own h)).imp fun d ⟨_, e1, e2⟩ => by rw [e2, e1]
abbrev rIntP : List V → Hp → VK → Prop := fun xs H Q => ((∃ i, xs = [.int i] ∧ Q (.int i) H) ∨ ∃ k, xs = [.bl k] ∧ Q (.int (if k then 1 else 0)) H) ∨ (∃ a n, xs = [.str a] ∧ PySem.intText? a = some n ∧ a.length ≤ 640 ∧ Q (.int n) H)
theorem pInt : CallR X (.type "int") rIntP := CallR.or call_int1 call_int_str
def intOf : List D → D → Prop
  | [.int i], d => d = .int i
  | [.bool b], d => d = .int (if b then 1 else 0)
  | [.str z], d => z.length ≤ 640 ∧ ∃ n, PySem.intText? z = some n ∧ d = .int n
  | _, _ => False
theorem sIntC : CallS F rIntP intOf := fun S H ds d vs Q w hd hf k => by
  unfold intOf at hf
  split at hf
  · rename_i i
    subst hf
    simp only [DtL, Dt] at hd
    obtain ⟨x, ys, rfl, rfl, rfl⟩ := hd
    exact .inl (.inl ⟨i, rfl, k _ _ _ (Gr.refl w.s) (by simp only [Dt])⟩)
  · rename_i b
    subst hf
    simp only [DtL, Dt] at hd
    obtain ⟨x, ys, rfl, rfl, rfl⟩ := hd
    exact .inl (.inr ⟨b, rfl, k _ _ _ (Gr.refl w.s) (by simp only [Dt])⟩)
  · rename_i z
    obtain ⟨hz, n, e, rfl⟩ := hf
    simp only [DtL, Dt] at hd
    obtain ⟨x, ys, rfl, rfl, rfl⟩ := hd
    exact .inr ⟨z, n, rfl, e, hz, k _ _ _ (Gr.refl w.s) (by simp only [Dt])⟩
  · exact hf.elim
abbrev rStrP : List V → Hp → VK → Prop := fun xs H Q => (∃ i, xs = [.int i] ∧ i.natAbs.log2 < 1920 ∧ Q (.str (toString i)) H) ∨ (∃ a, xs = [.str a] ∧ Q (.str a) H)
theorem pStr : CallR X (.type "str") rStrP := CallR.or call_str_int SkE.call_str_str
def strOfF : List D → D → Prop
  | [.int i], d => i.natAbs.log2 < 1920 ∧ d = .str (toString i)
  | [.str z], d => d = .str z
  | _, _ => False
theorem sStrC : CallS F rStrP strOfF := fun S H ds d vs Q w hd hf k => by
  unfold strOfF at hf
  split at hf
  · rename_i i
    obtain ⟨hz, rfl⟩ := hf
    simp only [DtL, Dt] at hd
    obtain ⟨x, ys, rfl, rfl, rfl⟩ := hd
    exact .inl ⟨i, rfl, hz, k _ _ _ (Gr.refl w.s) (by simp only [Dt])⟩
  · rename_i z
    subst hf
    simp only [DtL, Dt] at hd
    obtain ⟨x, ys, rfl, rfl, rfl⟩ := hd
    exact .inr ⟨z, rfl, k _ _ _ (Gr.refl w.s) (by simp only [Dt])⟩
  · exact hf.elim
/-! list(x), tuple(x) -/
abbrev rListP (K : PySem.W.Frag) : List V → Hp → VK → Prop := fun xs H Q => ∃ p ys, xs = [.ref p] ∧ (SqL K H p ys ∨ SqT K H p ys) ∧ ∀ l, H l = Option.none → Q (.ref l) (upd H l (.lst ys))
theorem pList : CallR X (.type "list") (rListP X.K) := call_list_of
theorem ef_list {b : Bool} {te : TE} {Δ : List Sl} {Ps : List D → Prop} (h : EvS F b te Δ Ps) : EvF F (tCB (rListP K) (tCons te tNil)) Δ Ps := fun H0 S H σ w t Q k => by
  refine h H0 S H σ w t _ fun ds p xs S1 H1 q g1 nf h1 hd => ?_
  refine ⟨p, xs, rfl, (by cases b with | true => exact .inr (SqT.of h1) | false => exact .inl (SqL.of h1)), fun l hl => ?_⟩
  refine k ds l xs S1 _ q (g1.trans (Gr.new g1.h hl)) ?_ upd_same (Same.free g1.h hl) hd
  cases e : H l with
  | none => rfl
  | some o =>
    obtain ⟨o', e'⟩ := g1.m l o e
    rw [hl] at e'
    cases e'
abbrev rTupP (K : PySem.W.Frag) : List V → Hp → VK → Prop := fun xs H Q => ∃ p ys, xs = [.ref p] ∧ ((SqL K H p ys ∧ ∀ l, H l = Option.none → Q (.ref l) (upd H l (.tup ys))) ∨ (SqT K H p ys ∧ Q (.ref p) H))
theorem pTuple : CallR X (.type "tuple") (rTupP X.K) := call_tuple_of
def tupF : List D → D → Prop
  | [.list l], d => d = .tuple l
  | [.tuple l], d => d = .tuple l
  | _, _ => False
theorem sTup : CallS F (rTupP K) tupF := fun S H ds d vs Q w hd hf k => by
  unfold tupF at hf
  split at hf
  · rename_i l
    subst hf
    simp only [DtL, Dt] at hd
    obtain ⟨x, ys, rfl, ⟨a, xs, rfl, e1, h1⟩, rfl⟩ := hd
    refine ⟨a, xs, rfl, .inl ⟨SqL.of (w.s _ _ e1), fun p hp => k _ _ _ (Gr.newD w.s hp) ?_⟩⟩
    simp only [Dt]
    exact ⟨p, xs, rfl, upd_same, h1.mono (Gr.newD (F := F) (o := .tup xs) w.s hp).s⟩
  · rename_i l
    subst hf
    simp only [DtL, Dt] at hd
    obtain ⟨x, ys, rfl, ⟨a, xs, rfl, e1, h1⟩, rfl⟩ := hd
    refine ⟨a, xs, rfl, .inr ⟨SqT.of (w.s _ _ e1), k _ _ _ (Gr.refl w.s) ?_⟩⟩
    simp only [Dt]
    exact ⟨a, xs, rfl, e1, h1⟩
  · exact hf.elim
/-! isinstance(x, T), T a built-in class -/
def D.ty : D → String
  | .none => "NoneType"
  | .bool _ => "bool"
  | .int _ => "int"
  | .str _ => "str"
  | .list _ => "list"
  | .tuple _ => "tuple"
  | .dict _ => "dict"
  | _ => "?"
theorem dt_ty {S H : Hp} (e : Same S H) {d : D} {v : V} (h : Dt S d v) (hd : d.ty ≠ "?") : TyX K H v (.type d.ty) := by
  cases d <;> simp only [Dt] at h
  · subst h; exact .base .non
  · subst h; exact .base (.bl _)
  · subst h; exact .base (.int _)
  · subst h; exact .base (.str _)
  · obtain ⟨a, xs, rfl, e1, _⟩ := h; exact .base (.lst (e _ _ e1))
  · obtain ⟨a, xs, rfl, e1, _⟩ := h; exact .base (.tup (e _ _ e1))
  · obtain ⟨a, xs, rfl, e1, _⟩ := h; exact .base (.dK (e _ _ e1))
  all_goals exact absurd rfl hd
end
end Bc

/-! Core 6: short words for texts, globals, tests. -/
namespace Bc
open PySem L2 PySem.Spec PyProof.Rows
/-! texts as lists of code points -/
def txt (l : List Nat) : Str := ⟨l.toArray⟩
theorem txt_len (l : List Nat) : (txt l).length = l.length := by simp [txt, Str.length]
theorem txt_list (l : List Nat) : (txt l).cps.toList = l := by simp [txt]
theorem txt_eta (z : Str) : txt z.cps.toList = z := by simp [txt]
theorem txt_app (a b : List Nat) : txt a ++ txt b = txt (a ++ b) := by
  show Str.mk _ = Str.mk _
  simp [txt]
theorem txt_inj {a b : List Nat} (h : txt a = txt b) : a = b := by
  have := congrArg (fun z => z.cps.toList) h
  simpa [txt] using this
section
variable {X : Cx} {K : PySem.W.Frag} {F : Fp} {Δ : List Sl} {fr : Bool}
theorem pe_gs {x z : Str} {pos : Pos} (h : ∃ t, X.mg x = some (.str z t)) (hg : Gl X x := by rfl) (hd : (x == ("__debug__" : Str)) = false := by decide) : PE X (.Name x pos) (tC (.str z)) := by
  obtain ⟨t, h⟩ := h
  exact pe_glob hg h ⟨t, rfl⟩ hd
/-- a test, by its value -/
theorem et1 {te : TE} {b : Bool} (h : Ev1 F te Δ (.bool b)) : EvT F (tTest te) Δ fun c => c = b := et_test1 h
theorem run_if1 {c : TT} {b : Bool} {t u : TS} {po : Po} (h : EvT F c Δ fun x => x = b) (h1 : b = true → Run F fr t Δ po) (h2 : b = false → Run F fr u Δ po) : Run F fr (tIfS c t u) Δ po := run_if h (fun e => h1 e.symm) fun e => h2 e.symm
theorem run_if1S {c : TT} {b : Bool} {t u v : TS} {po : Po} (h : EvT F c Δ fun x => x = b) (h1 : b = true → Run F fr (tSeq t v) Δ po) (h2 : b = false → Run F fr (tSeq u v) Δ po) : Run F fr (tSeq (tIfS c t u) v) Δ po := run_ifS h (fun e => h1 e.symm) fun e => h2 e.symm

abbrev rEqP (K : PySem.W.Frag) : R2 := fun x y H Q => rEq x y H Q ∨ rEqD K x y H Q
abbrev rNeP (K : PySem.W.Frag) : R2 := fun x y H Q => rNe x y H Q ∨ rNeD K x y H Q
theorem pEq (hu : X.A.units + 65 < cLine) : OpR X (compareOp .Eq) (rEqP X.K) := op_eq.or (op_eqD (by omega))
theorem pNe (hu : X.A.units + 65 < cLine) : OpR X (compareOp .NotEq) (rNeP X.K) := op_ne.or (op_neD (by omega))
variable {te ta tb : TE} {i j : Int} {a b : List Nat} {x y d : D}
theorem ev_addI (ha : Ev1 F ta Δ (.int i)) (hb : Ev1 F tb Δ (.int j)) : Ev1 F (tOp (rAddP K) ta tb) Δ (.int (i + j)) := ev_op1 sAdd ha hb rfl
theorem ev_subI (ha : Ev1 F ta Δ (.int i)) (hb : Ev1 F tb Δ (.int j)) : Ev1 F (tOp (rI0 fun i j => .int (i - j)) ta tb) Δ (.int (i - j)) := ev_op1 sInt0 ha hb ⟨trivial, rfl⟩
theorem ev_mulI (ha : Ev1 F ta Δ (.int i)) (hb : Ev1 F tb Δ (.int j)) (h : CMul i j) : Ev1 F (tOp rMulP ta tb) Δ (.int (i * j)) := ev_op1 sMul ha hb ⟨h, rfl⟩
theorem ev_addS (ha : Ev1 F ta Δ (.str (txt a))) (hb : Ev1 F tb Δ (.str (txt b))) (hl : a.length + b.length ≤ sizeLine) : Ev1 F (tOp (rAddP K) ta tb) Δ (.str (txt (a ++ b))) := ev_op1 sAdd ha hb ⟨by rw [txt_len, txt_len]; exact hl, by rw [txt_app]⟩
theorem ev_addL {l m : List D} (ha : Ev1 F ta Δ (.list l)) (hb : Ev1 F tb Δ (.list m)) (hl : l.length + m.length ≤ sizeLine) : Ev1 F (tOp (rAddP K) ta tb) Δ (.list (l ++ m)) := ev_op1 sAdd ha hb ⟨hl, rfl⟩
theorem ev_addT {l m : List D} (ha : Ev1 F ta Δ (.tuple l)) (hb : Ev1 F tb Δ (.tuple m)) (hl : l.length + m.length ≤ sizeLine) : Ev1 F (tOp (rAddP K) ta tb) Δ (.tuple (l ++ m)) := ev_op1 sAdd ha hb ⟨hl, rfl⟩
theorem ev_ltI (ha : Ev1 F ta Δ (.int i)) (hb : Ev1 F tb Δ (.int j)) : Ev1 F (tOp rLtP ta tb) Δ (.bool (decide (i < j))) := ev_op1 sLt ha hb rfl
theorem ev_leI (ha : Ev1 F ta Δ (.int i)) (hb : Ev1 F tb Δ (.int j)) : Ev1 F (tOp rLeP ta tb) Δ (.bool (decide (i ≤ j))) := ev_op1 sLe ha hb rfl
theorem ev_gtI (ha : Ev1 F ta Δ (.int i)) (hb : Ev1 F tb Δ (.int j)) : Ev1 F (tOp (rI0 fun i j => .bl (decide (j < i))) ta tb) Δ (.bool (decide (j < i))) := ev_op1 sCmp ha hb rfl
theorem ev_geI (ha : Ev1 F ta Δ (.int i)) (hb : Ev1 F tb Δ (.int j)) : Ev1 F (tOp (rI0 fun i j => .bl (decide (j ≤ i))) ta tb) Δ (.bool (decide (j ≤ i))) := ev_op1 sCmp ha hb rfl
theorem sEqL {f : D → D → D → Prop} (h : OpS F rEq f) : OpS F (rEqP K) f := fun S H x y d u v Q w hx hy hf k => .inl (h S H x y d u v Q w hx hy hf k)
def scF (neg : Bool) : D → D → D → Prop
  | .int i, .int j, d => d = .bool (decide (i = j) != neg)
  | .str i, .str j, d => d = .bool (decide (i = j) != neg)
  | .bool i, .bool j, d => d = .bool (decide (i = j) != neg)
  | _, _, _ => False
theorem sScE : OpS F (rEqP K) (scF false) := fun S H x y d u v Q w hx hy hf k => by
  unfold scF at hf
  refine .inl ?_
  split at hf
  all_goals first
    | exact hf.elim
    | (simp only [Dt] at hx hy
       subst hx hy hf
       refine ⟨rfl, k _ _ _ (Gr.refl w.s) ?_⟩
       simp [Dt])
theorem sScN : OpS F (rNeP K) (scF true) := fun S H x y d u v Q w hx hy hf k => by
  unfold scF at hf
  refine .inl ?_
  split at hf
  all_goals first
    | exact hf.elim
    | (simp only [Dt] at hx hy
       subst hx hy hf
       refine ⟨rfl, k _ _ _ (Gr.refl w.s) ?_⟩
       simp [Dt])
theorem sEqDP : OpS F (rEqP K) (eqF false) := fun S H x y d u v Q w hx hy hf k => .inr (sEq S H x y d u v Q w hx hy hf k)
theorem sNeDP : OpS F (rNeP K) (eqF true) := fun S H x y d u v Q w hx hy hf k => .inr (sNe S H x y d u v Q w hx hy hf k)
theorem ev_eqI (ha : Ev1 F ta Δ (.int i)) (hb : Ev1 F tb Δ (.int j)) : Ev1 F (tOp (rEqP K) ta tb) Δ (.bool (decide (i = j))) := ev_op1 sScE ha hb (by simp [scF])
theorem ev_neI (ha : Ev1 F ta Δ (.int i)) (hb : Ev1 F tb Δ (.int j)) : Ev1 F (tOp (rNeP K) ta tb) Δ (.bool (!decide (i = j))) := ev_op1 sScN ha hb (by simp [scF])
theorem ev_eqZ {u v : Str} (ha : Ev1 F ta Δ (.str u)) (hb : Ev1 F tb Δ (.str v)) : Ev1 F (tOp (rEqP K) ta tb) Δ (.bool (decide (u = v))) := ev_op1 sScE ha hb (by simp [scF])
theorem ev_neZ {u v : Str} (ha : Ev1 F ta Δ (.str u)) (hb : Ev1 F tb Δ (.str v)) : Ev1 F (tOp (rNeP K) ta tb) Δ (.bool (!decide (u = v))) := ev_op1 sScN ha hb (by simp [scF])
/-- data that == may look at -/
def D.eqOk (d : D) : Prop := d.isPy = true ∧ SeqAt.shaped d.py = true
def D.eqb (x y : D) : Bool := PyData.eqv x.py y.py
theorem ev_eqD (ha : Ev1 F ta Δ x) (hb : Ev1 F tb Δ y) (hx : x.eqOk) (hy : y.eqOk) : Ev1 F (tOp (rEqP K) ta tb) Δ (.bool (x.eqb y)) := ev_op1 sEqDP ha hb ⟨hx.1, hy.1, hx.2, hy.2, rfl⟩
theorem ev_neD (ha : Ev1 F ta Δ x) (hb : Ev1 F tb Δ y) (hx : x.eqOk) (hy : y.eqOk) : Ev1 F (tOp (rNeP K) ta tb) Δ (.bool (!x.eqb y)) := ev_op1 sNeDP ha hb ⟨hx.1, hy.1, hx.2, hy.2, rfl⟩
theorem ev_isN (ha : Ev1 F ta Δ x) : Ev1 F (tOp (fun x y H Q => y = .non ∧ Q (.bl (decide (x = .non))) H) ta (tC .non)) Δ (.bool x.isN) := ev_op1 sIsN ha ev_non ⟨rfl, by cases x.isN <;> rfl⟩
theorem ev_notN (ha : Ev1 F ta Δ x) : Ev1 F (tOp (fun x y H Q => y = .non ∧ Q (.bl (!decide (x = .non))) H) ta (tC .non)) Δ (.bool (!x.isN)) := ev_op1 sNotN ha ev_non ⟨rfl, by cases x.isN <;> rfl⟩
theorem ev_inT {c : Nat} (ha : Ev1 F ta Δ (.str ⟨#[c]⟩)) (hb : Ev1 F tb Δ (.str (txt b))) : Ev1 F (tOp (rInP K false) ta tb) Δ (.bool (decide (c ∈ b))) := ev_op1 sIn ha hb ⟨c, rfl, by rw [txt_list]; rfl⟩
theorem ev_ninT {c : Nat} (ha : Ev1 F ta Δ (.str ⟨#[c]⟩)) (hb : Ev1 F tb Δ (.str (txt b))) : Ev1 F (tOp (rInP K true) ta tb) Δ (.bool (!decide (c ∈ b))) := ev_op1 sIn ha hb ⟨c, rfl, by rw [txt_list]; rfl⟩
theorem sz (h : a.length ≤ 100000) : (txt a).length ≤ sizeLine := by
  rw [txt_len]
  exact Nat.le_trans h (by decide)
theorem ev_lenT (h : Ev1 F te Δ (.str (txt a))) (hl : a.length ≤ 100000) : Ev1 F (tCB (rLenP K) (tCons te tNil)) Δ (.int (a.length : Nat)) := (ev_cb1 sLen (ea_cons1 h ea_nil) ⟨sz hl, rfl⟩).eq (by rw [txt_len])
theorem ev_lenL {l : List D} (h : Ev1 F te Δ (.list l)) : Ev1 F (tCB (rLenP K) (tCons te tNil)) Δ (.int (l.length : Nat)) := ev_cb1 sLen (ea_cons1 h ea_nil) rfl
theorem ev_lenU {l : List D} (h : Ev1 F te Δ (.tuple l)) : Ev1 F (tCB (rLenP K) (tCons te tNil)) Δ (.int (l.length : Nat)) := ev_cb1 sLen (ea_cons1 h ea_nil) rfl
theorem ev_ixT {q c : Nat} (ha : Ev1 F ta Δ (.str (txt a))) (hb : Ev1 F tb Δ (.int (q : Nat))) (hl : a.length ≤ 100000) (hc : a[q]? = some c) : Ev1 F (tOp (rIx K) ta tb) Δ (.str ⟨#[c]⟩) :=
  ev_op1 sIx ha hb ⟨sz hl, c, by rw [txt_list]; exact atI_nat hc, rfl⟩
theorem ev_ixL {l : List D} {q : Nat} (ha : Ev1 F ta Δ (.list l)) (hb : Ev1 F tb Δ (.int (q : Nat))) (hc : l[q]? = some d) : Ev1 F (tOp (rIx K) ta tb) Δ d := ev_op1 sIx ha hb (atI_nat hc)
theorem ev_ixU {l : List D} {q : Nat} (ha : Ev1 F ta Δ (.tuple l)) (hb : Ev1 F tb Δ (.int (q : Nat))) (hc : l[q]? = some d) : Ev1 F (tOp (rIx K) ta tb) Δ d := ev_op1 sIx ha hb (atI_nat hc)
theorem ev_ixLa {l : List D} (ha : Ev1 F ta Δ (.list l)) (hb : Ev1 F tb Δ (.int i)) (hc : atI l i = some d) : Ev1 F (tOp (rIx K) ta tb) Δ d := ev_op1 sIx ha hb hc
theorem ev_ixUa {l : List D} (ha : Ev1 F ta Δ (.tuple l)) (hb : Ev1 F tb Δ (.int i)) (hc : atI l i = some d) : Ev1 F (tOp (rIx K) ta tb) Δ d := ev_op1 sIx ha hb hc
theorem cutS_txt {p q : Nat} (hp : p ≤ a.length) (hq : q ≤ a.length) : cutS (txt a) (some (p : Int)) (some (q : Int)) = txt ((a.drop p).take (q - p)) := by
  unfold cutS
  rw [txt_list, HT.sIx_nat, HT.sIx_nat, txt_len, Nat.min_eq_left hp, Nat.min_eq_left hq]
  rfl
theorem ev_slT {tl th : TE} {p q : Nat} (h : Ev1 F te Δ (.str (txt a))) (hl : Ev1 F tl Δ (.int (p : Nat))) (hh : Ev1 F th Δ (.int (q : Nat))) (hz : a.length ≤ 100000) (hp : p ≤ a.length) (hq : q ≤ a.length) :
    Ev1 F (tSl (rSlP K) te (tPart tl) (tPart th)) Δ (.str (txt ((a.drop p).take (q - p)))) := ev_sl1 h (eo_some hl) (eo_some hh) ⟨sz hz, by rw [cutS_txt hp hq]⟩
/-! chains -/
theorem ev_chain {r r' : R2} {f f' : D → D → D → Prop} {tc : TE} {z : D} {k k' : Bool} (hr : OpS F r f) (hr' : OpS F r' f') (ha : Ev1 F ta Δ x) (hb : Ev1 F tb Δ y) (hc : Ev1 F tc Δ z) (h1 : f x y (.bool k)) (h2 : f' y z (.bool k')) : Ev1 F (tChain r r' ta tb tc) Δ (.bool (k && k')) := fun H0 S H σ w t Q q => by
  refine ha H0 S H σ w t _ fun d u S1 H1 e1 g1 hu => ?_
  subst e1
  refine hb H0 S1 H1 σ (g1.ok w) (t.mono g1) _ fun d v S2 H2 e2 g2 hv => ?_
  subst e2
  refine hr S2 H2 _ _ _ u v _ (g2.ok (g1.ok w)) (hu.mono g2.s) hv h1 fun bz S3 H3 g3 hb3 => ?_
  simp only [Dt] at hb3
  refine ⟨k, hb3, ?_⟩
  cases k with
  | false =>
    show Q (.bl false) H3
    exact q _ _ S3 H3 rfl ((g1.trans g2).trans g3) (by simp only [Dt, Bool.false_and])
  | true =>
    show tc σ H3 _
    refine hc H0 S3 H3 σ (g3.ok (g2.ok (g1.ok w))) (((t.mono g1).mono g2).mono g3) _ fun d c S4 H4 e4 g4 hcc => ?_
    subst e4
    exact hr' S4 H4 _ _ _ v c Q (g4.ok (g3.ok (g2.ok (g1.ok w)))) ((hv.mono g3.s).mono g4.s) hcc h2 fun o S5 H5 g5 ho => q _ o S5 H5 rfl ((((g1.trans g2).trans g3).trans g4).trans g5) (by simpa only [Bool.true_and] using ho)
end
end Bc

/-! Core 7: in a range; methods of texts; the own list changed; dicts that are written. -/
namespace Bc
open PySem L2 PySem.Spec PyProof.Rows
section
variable {X : Cx} {K : PySem.W.Frag} {F : Fp} {Δ : List Sl} {fr : Bool}
abbrev rRng (neg : Bool) : R2 := fun x y H Q => ∃ i a lo hi, x = V.int i ∧ y = V.ref a ∧ H a = some (.rng lo hi) ∧ Q (.bl (if neg then !decide (lo ≤ i ∧ i < hi) else decide (lo ≤ i ∧ i < hi))) H
theorem pInRng : OpR X (compareOp .In) (rRng false) := op_in_rng
theorem pNotInRng : OpR X (compareOp .NotIn) (rRng true) := by
  intro pins s σ H x y v u Q I rx ry h
  obtain ⟨i, a, lo, hi, rfl, rfl, ha, q⟩ := h
  obtain ⟨k, rfl⟩ := rx
  obtain rfl : u = Value.ref a := ry
  obtain ⟨t1, t2, t3, ob⟩ := I.hok a _ ha
  show wpAny _ _ (do return Value.bool (!(← contains (Value.ref a) (Value.int i k)))) _ _ s
  have mt := q_contains a lo hi i t1 t2 t3 k
  refine wpAny_bind (wpAny_contains_slot (T := "range") ⟨_, ob, rfl⟩ F.slot_range_contains (call_meets F.slot_range_contains ⟨_, ob, rfl⟩ F.entry_range_contains (F.args_range_contains_2 _ _) mt ⟨ob, wpAny_truthy_bool ?_⟩))
  refine wpAny_pure ⟨.bl _, H, I, rfl, ?_⟩
  rw [place1]
  exact q
abbrev rRange2 : List V → Hp → VK → Prop := fun vs H Q => ∃ i j, vs = [V.int i, V.int j] ∧ ∀ p, H p = Option.none → Q (.ref p) (upd H p (.rng i j))
theorem ev_rng {neg : Bool} {ta tb tc : TE} {i lo hi : Int} (ha : Ev1 F ta Δ (.int i)) (hb : Ev1 F tb Δ (.int lo)) (hc : Ev1 F tc Δ (.int hi)) :
    Ev1 F (tOp (rRng neg) ta (tCB rRange2 (tCons tb (tCons tc tNil)))) Δ (.bool (if neg then !decide (lo ≤ i ∧ i < hi) else decide (lo ≤ i ∧ i < hi))) := fun H0 S H σ w t Q k => by
  refine ha H0 S H σ w t _ fun d u S1 H1 e1 g1 hu => ?_
  subst e1
  simp only [Dt] at hu
  subst hu
  refine hb H0 S1 H1 σ (g1.ok w) (t.mono g1) _ fun d v S2 H2 e2 g2 hv => ?_
  subst e2
  simp only [Dt] at hv
  subst hv
  refine hc H0 S2 H2 σ (g2.ok (g1.ok w)) ((t.mono g1).mono g2) _ fun d z S3 H3 e3 g3 hz => ?_
  subst e3
  simp only [Dt] at hz
  subst hz
  refine ⟨lo, hi, rfl, fun p hp => ⟨i, p, lo, hi, rfl, rfl, upd_same, ?_⟩⟩
  exact k _ _ S3 _ rfl (((g1.trans g2).trans g3).trans (Gr.new g3.h hp)) (by simp only [Dt])
/-! methods of texts -/
theorem ev_bm0 {T : String} {r : V → List V → Hp → VK → Prop} {te : TE} {x d : D} (h : Ev1 F te Δ x) (hr : ∀ S H v Q, Okw F S H → Dt S x v → (∀ S' H' w, Gr F S H S' H' → Dt S' d w → Q w H') → tyV K T v H ∧ r v [] H Q) : Ev1 F (tBM0 K T r te) Δ d := fun H0 S H σ w t Q k =>
  h H0 S H σ w t _ fun y v S1 H1 e g1 hv => by
    subst e
    exact hr S1 H1 v Q (g1.ok w) hv fun S2 H2 u g2 hu => k _ _ S2 H2 rfl (g1.trans g2) hu
theorem ev_alnum {te : TE} {z : Str} (h : Ev1 F te Δ (.str z)) : Ev1 F (tBM0 K "str" (fun x xs H Q => ∃ a, x = .str a ∧ xs = [] ∧ True ∧ Q (.bl (Txt.isalnum a)) H) te) Δ (.bool (Txt.isalnum z)) :=
  ev_bm0 h fun S H v Q w hv k => by
    simp only [Dt] at hv
    subst hv
    exact ⟨rfl, z, rfl, rfl, trivial, k S H _ (Gr.refl w.s) (by simp only [Dt])⟩
theorem ev_digit {te : TE} {z : Str} (h : Ev1 F te Δ (.str z)) : Ev1 F (tBM0 K "str" (fun x xs H Q => ∃ a, x = .str a ∧ xs = [] ∧ True ∧ Q (.bl (Txt.isdigit a)) H) te) Δ (.bool (Txt.isdigit z)) :=
  ev_bm0 h fun S H v Q w hv k => by
    simp only [Dt] at hv
    subst hv
    exact ⟨rfl, z, rfl, rfl, trivial, k S H _ (Gr.refl w.s) (by simp only [Dt])⟩
theorem ev_strip {te ta : TE} {z y : Str} (h : Ev1 F te Δ (.str z)) (ha : Ev1 F ta Δ (.str y)) (hl : z.length ≤ sizeLine) :
    Ev1 F (tBM K "str" (fun x xs H Q => ∃ a b, x = .str a ∧ xs = [.str b] ∧ a.length ≤ sizeLine ∧ Q (.str (Txt.stripChars a b)) H) te (tCons ta tNil)) Δ (.str (Txt.stripChars z y)) := fun H0 S H σ w t Q k => by
  refine h H0 S H σ w t _ fun d v S1 H1 e1 g1 hv => ?_
  subst e1
  simp only [Dt] at hv
  subst hv
  refine ⟨rfl, ?_⟩
  refine ha H0 S1 H1 σ (g1.ok w) (t.mono g1) _ fun d u S2 H2 e2 g2 hu => ?_
  subst e2
  simp only [Dt] at hu
  subst hu
  exact ⟨z, y, rfl, rfl, hl, k _ _ S2 H2 rfl (g1.trans g2) (by simp only [Dt])⟩
/-! the own list grows -/
theorem run_app {i : Nat} {te : TE} {po : Po} {ds : List D} {P : D → Prop} (hi : Δ[i]? = some (.own ds)) (h : EvR F te Δ P) (hl : ds.length < sizeLine) (k : ∀ d, P d → po.nx (Δ.set i (.own (ds ++ [d])))) :
    Run F fr (tDrop (tBM K "list" rAppend (tVar i) (tCons te tNil))) Δ po := fun S0 H0 B S H σ E w gb st r => by
  obtain ⟨x, e1, p, xs, rfl, h1, h2, h3, h4⟩ := st.ok i _ hi
  refine ⟨_, e1, Or.inl ⟨rfl, xs, SqL.of h1⟩, ?_⟩
  refine h H0 S H σ w st _ fun d v S1 H1 pd g1 hv => ?_
  have nf : ¬ fp F p := fun z => by
    obtain ⟨o, q⟩ := st.fh p z
    rw [h3] at q
    cases q
  have q1 := g1.k _ _ nf h1
  have q2 : S1 p = Option.none := by rw [g1.n _ _ h1]; exact h2
  refine ⟨p, xs, v, rfl, rfl, q1, by rw [← h4.len]; exact hl, ?_⟩
  have gg := (gb.step g1).g.mut h3 q2 q1 (o := .lst (xs ++ [v]))
  have st1 := st.mono g1
  have w2 : Okw F S1 (upd H1 p (.lst (xs ++ [v]))) := ⟨gg.h, fun a c e => by
    obtain ⟨z1, z2, ns, l, m, t, z3, z4, z5⟩ := (g1.ok w).src a c e
    have n1 : a ≠ p := fun z => nf ⟨a, c, e, .inl z.symm⟩
    have n2 : c ≠ p := fun z => nf ⟨a, c, e, .inr z.symm⟩
    exact ⟨z1, z2, ns, l, m, t, by rw [upd_ne n1]; exact z3, by rw [upd_ne n2]; exact z4, z5⟩⟩
  refine r.nx _ S1 _ σ (k d pd) w2 ⟨gg, (gb.step g1).b⟩ ⟨by simp [st.len], fun j s' ej => ?_, fun j l es fs q f1 f2 f3 f4 => ?_, st.fh⟩
  · by_cases hj : j = i
    · subst hj
      have hlt : j < Δ.length := (List.getElem?_eq_some_iff.mp hi).1
      rw [List.getElem?_set_self hlt] at ej
      cases ej
      exact ⟨_, e1, p, _, rfl, upd_same, q2, h3, (h4.mono g1.s).append (dtl_cons hv dtl_nil)⟩
    · rw [List.getElem?_set_ne (Ne.symm hj)] at ej
      obtain ⟨y, f1, f2⟩ := st1.ok j s' ej
      refine ⟨y, f1, ?_⟩
      cases s' with
      | un => trivial
      | v d => exact f2
      | src => exact f2
      | ob a dx C fs =>
        obtain ⟨vs, z1, z2, z3, z4, z5, z6, z7, z8⟩ := f2
        have n1 : a ≠ p := fun z => by rw [z, q1] at z2; cases z2
        have n2 : dx ≠ p := fun z => by rw [z, q1] at z3; cases z3
        exact ⟨vs, z1, by rw [upd_ne n1]; exact z2, by rw [upd_ne n2]; exact z3, z4, z5, z6, z7, z8⟩
      | xc W PX l => exact XcOk.mono f2 (Gw.mut (g1.ok w).s q1 q2 h3 nf f2.hd)
      | fz a fs => exact f2
      | own es =>
        obtain ⟨q, ys, rfl, y1, y2, y3, y4⟩ := f2
        refine ⟨q, ys, rfl, ?_, y2, y3, y4⟩
        rw [upd_ne (fun z => hj ?_)]
        · exact y1
        · subst z
          exact st.nd j i es ds q ej hi f1 e1
  · have hlt : i < Δ.length := (List.getElem?_eq_some_iff.mp hi).1
    by_cases hj : j = i
    · by_cases hk : l = i
      · rw [hj, hk]
      · subst hj
        rw [List.getElem?_set_ne (Ne.symm hk)] at f2
        exact st.nd j l ds fs q hi f2 f3 f4
    · rw [List.getElem?_set_ne (Ne.symm hj)] at f1
      by_cases hk : l = i
      · subst hk
        exact st.nd j l es ds q f1 hi f3 f4
      · rw [List.getElem?_set_ne (Ne.symm hk)] at f2
        exact st.nd j l es fs q f1 f2 f3 f4
theorem run_appS {i : Nat} {te : TE} {u : TS} {po : Po} {ds : List D} {P : D → Prop} (hi : Δ[i]? = some (.own ds)) (h : EvR F te Δ P) (hl : ds.length < sizeLine) (k : ∀ d, P d → Run F fr u (Δ.set i (.own (ds ++ [d]))) po) :
    Run F fr (tSeq (tDrop (tBM K "list" rAppend (tVar i) (tCons te tNil))) u) Δ po :=
  run_seqM (N := fun Δ' => ∃ d, P d ∧ Δ' = Δ.set i (.own (ds ++ [d]))) (run_app hi h hl fun d p => ⟨d, p, rfl⟩) fun Δ' ⟨d, p, e⟩ => e ▸ k d p
theorem run_app1S {i : Nat} {te : TE} {u : TS} {po : Po} {ds : List D} {d : D} (hi : Δ[i]? = some (.own ds)) (h : Ev1 F te Δ d) (hl : ds.length < sizeLine) (k : Run F fr u (Δ.set i (.own (ds ++ [d]))) po) :
    Run F fr (tSeq (tDrop (tBM K "list" rAppend (tVar i) (tCons te tNil))) u) Δ po := run_appS hi h hl fun _ e => e ▸ k
/-! x in ['..', ..]: keys that are texts -/
theorem ev_isi {te : TE} {d : D} {T : String} {b : Bool} (h : Ev1 F te Δ d) (hd : d.ty ≠ "?") (hb : kitB d.ty T = some b) : Ev1 F (tCB (rIsi K) (tCons te (tCons (tC (.ty T)) tNil))) Δ (.bool b) := fun H0 S H σ w t Q k => by
  refine h H0 S H σ w t _ fun y v S1 H1 e g1 hv => ?_
  subst e
  exact ⟨v, .ty T, .type y.ty, .type T, b, rfl, .ty T, dt_ty (g1.ok w).s hv hd, kit_ty hb, k _ _ S1 H1 rfl g1 (by simp only [Dt])⟩
/-! dicts -/
inductive EvP (F : Fp) (Δ : List Sl) : List (TE × TE) → List (Key × D) → Prop where
  | nil : EvP F Δ [] []
  | s {x : Str} {tv : TE} {d : D} {r : List (TE × TE)} {ds : List (Key × D)} : Ev1 F tv Δ d → EvP F Δ r ds → EvP F Δ ((tC (.str x), tv) :: r) ((Sum.inr x, d) :: ds)
  | i {x : Int} {tv : TE} {d : D} {r : List (TE × TE)} {ds : List (Key × D)} : Ev1 F tv Δ d → EvP F Δ r ds → EvP F Δ ((tC (.int x), tv) :: r) ((Sum.inl x, d) :: ds)
theorem merge_app : ∀ (kvs acc : List (Key × V)), ((acc ++ kvs).map (·.1)).Nodup → mergeK acc kvs = acc ++ kvs
  | [], acc, _ => by simp [mergeK]
  | (k, v) :: r, acc, h => by
    have e : putK acc k v = acc ++ [(k, v)] := by
      unfold putK
      rw [if_neg]
      intro z
      rw [List.any_eq_true] at z
      obtain ⟨p, hp, q⟩ := z
      have q := of_decide_eq_true q
      rw [List.map_append, List.nodup_append] at h
      exact h.2.2 p.1 (List.mem_map_of_mem hp) k (by simp) q
    show mergeK (putK acc k v) r = _
    rw [e, merge_app r (acc ++ [(k, v)]) (by simpa using h)]
    simp
theorem dtk_keys {S : Hp} : ∀ {kvs : List (Key × D)} {ks : List (Key × V)}, DtK S kvs ks → ks.map (·.1) = kvs.map (·.1)
  | [], ks, h => by simp only [DtK] at h; subst h; rfl
  | (k, d) :: r, ks, h => by
    simp only [DtK] at h
    obtain ⟨x, ys, rfl, _, h2⟩ := h
    simp [dtk_keys h2]
theorem ev_pairs {trs : List (TE × TE)} {kvs : List (Key × D)} (h : EvP F Δ trs kvs) : ∀ (H0 S H : Hp) (σ : L2.St), Okw F S H → StD F S H H0 σ Δ → ∀ Q : List (V × V) → Hp → Prop, (∀ ks S' H', Gr F S H S' H' → DtK S' kvs ks → Q (ks.map fun kv => (kV kv.1, kv.2)) H') → tPairs trs σ H Q := by
  induction h with
  | nil => exact fun H0 S H σ w t Q k => k [] S H (Gr.refl w.s) (by simp only [DtK])
  | s hv hr ih =>
    intro H0 S H σ w t Q k
    refine hv H0 S H σ w t _ fun d v S1 H1 e g1 hd => ?_
    subst e
    refine ih H0 S1 H1 σ (g1.ok w) (t.mono g1) _ fun ks S2 H2 g2 hk => ?_
    exact k ((Sum.inr _, v) :: ks) S2 H2 (g1.trans g2) (by simp only [DtK]; exact ⟨v, ks, rfl, hd.mono g2.s, hk⟩)
  | i hv hr ih =>
    intro H0 S H σ w t Q k
    refine hv H0 S H σ w t _ fun d v S1 H1 e g1 hd => ?_
    subst e
    refine ih H0 S1 H1 σ (g1.ok w) (t.mono g1) _ fun ks S2 H2 g2 hk => ?_
    exact k ((Sum.inl _, v) :: ks) S2 H2 (g1.trans g2) (by simp only [DtK]; exact ⟨v, ks, rfl, hd.mono g2.s, hk⟩)
theorem ev_disp {trs : List (TE × TE)} {kvs : List (Key × D)} (h : EvP F Δ trs kvs) (hl : kvs.length ≤ 15) (hn : (kvs.map (·.1)).Nodup) : Ev1 F (tDisp trs) Δ (.dict kvs) := fun H0 S H σ w t Q k => by
  intro p hp
  have g0 : Gr F S H S (upd H p (.dK [])) := Gr.new w.s hp
  refine ev_pairs h H0 S _ σ (g0.ok w) (t.mono g0) _ fun ks S1 H1 g1 hk => ?_
  have nf : ¬ fp F p := fun z => by
    obtain ⟨o, q⟩ := (fun ⟨a, c, e, z⟩ => by
      obtain ⟨_, _, ns, l, m, t, e1, e2, _⟩ := w.src a c e
      rcases z with rfl | rfl
      · exact ⟨_, e1⟩
      · exact ⟨_, e2⟩ : fp F p → ∃ o, H p = some o) z
    rw [hp] at q
    cases q
  have h1 := g1.k _ _ nf upd_same
  have lk : ks.length = kvs.length := by
    have := congrArg List.length (dtk_keys hk)
    simpa using this
  refine ⟨h1, ks, rfl, by rw [lk]; exact hl, ?_⟩
  rw [merge_app ks [] (by simpa [dtk_keys hk] using hn), List.nil_append]
  have s1 : S1 p = Option.none := by rw [g1.n _ _ upd_same]; exact Same.free w.s hp
  have gm := (g0.trans g1).mut hp s1 h1 (o := .dK ks)
  refine k _ _ _ _ rfl (gm.freeze hp upd_same) ?_
  simp only [Dt]
  exact ⟨p, ks, rfl, upd_same, DtK.mono (fun x u e => by rw [upd_ne (ne_of_none e s1)]; exact e) _ _ hk⟩
theorem ev_get2 {td ty tx : TE} {kvs : List (Key × D)} {x e d : D} {k : Key} (h : Ev1 F td Δ (.dict kvs)) (hx : Ev1 F ty Δ x) (hk : keyD x = some k) (he : Ev1 F tx Δ e) (hd : ((kvs.find? fun q => decide (q.1 = k)).map (·.2)).getD e = d) : Ev1 F (tDGet2 td ty tx) Δ d := fun H0 S H σ w t Q q => by
  refine h H0 S H σ w t _ fun y u S1 H1 e1 g1 hu => ?_
  subst e1
  simp only [Dt] at hu
  obtain ⟨a, ks, rfl, z1, z2⟩ := hu
  refine ⟨a, rfl, .inl ⟨ks, .inl (g1.h _ _ z1)⟩, ?_⟩
  refine hx H0 S1 H1 σ (g1.ok w) (t.mono g1) _ fun y v S2 H2 e2 g2 hv => ?_
  subst e2
  refine he H0 S2 H2 σ (g2.ok (g1.ok w)) ((t.mono g1).mono g2) _ fun y z S3 H3 e3 g3 hz => ?_
  subst e3
  have gg := (g1.trans g2).trans g3
  have a3 := g3.h _ _ (g3.s _ _ (g2.s _ _ z1))
  have k3 : DtK S3 kvs ks := DtK.mono g3.s _ _ (DtK.mono g2.s _ _ z2)
  refine ⟨_, by rw [dt_key hv hk]; exact DGet.k a3, ?_⟩
  cases e : (kvs.find? fun q => decide (q.1 = k)).map (·.2) with
  | some d' =>
    rw [e] at hd
    obtain ⟨x', f1, f2⟩ := k3.val e
    rw [f1]
    exact q _ x' S3 H3 hd gg f2
  | none =>
    rw [e] at hd
    have hn : valV ks k = Option.none := by
      have := k3.has (k := k)
      cases f : valV ks k with
      | none => rfl
      | some x' =>
        rw [f] at this
        have this := this.symm
        rw [show (some x').isSome = true from rfl, List.any_eq_true] at this
        obtain ⟨p, hp, hq⟩ := this
        rw [Option.map_eq_none_iff, List.find?_eq_none] at e
        exact absurd hq (e p hp)
    rw [hn]
    exact q _ z S3 H3 hd gg hz
end
end Bc

/-! Core 8: comprehensions that are known item by item. -/
namespace Bc
open PySem L2 PySem.Spec PyProof.Rows
section
variable {X : Cx} {K : PySem.W.Frag} {F : Fp} {Δ : List Sl} {fr : Bool}
theorem et_yes : EvT F tYes Δ fun b => b = true := fun H0 S H σ w t Q k => k true S H rfl (Gr.refl w.s)
theorem ef_lcM {wi : TI} {g : TG} {tt : TT} {te : TE} {vs : List Nat} {ds : List D} (h : EvI F wi Δ fun r => r = ds) (hz : ds.length ≤ sizeLine) (f : D → Option D)
    (hs : ∀ (i : Nat) (d : D), ds[i]? = some d → ∃ js Δ', EvG F g d (wipeD Δ vs) js Δ' ∧ (∀ j ∈ js, j ∈ vs) ∧ ∃ b : Bool, EvT F tt Δ' (fun c => c = b) ∧ (b = false → f d = Option.none) ∧ (b = true → ∃ e, f d = some e ∧ Ev1 F te Δ' e)) :
    EvF F (tLc wi g tt te vs) Δ fun r => r = ds.filterMap f := by
  refine ef_lcP h (fun _ e => e ▸ hz) (fun ds' i acc => acc = (ds'.take i).filterMap f) (fun ds' _ => by simp) (fun ds' i d acc e hi ha _ => ?_) fun ds' acc e ha => by subst e; rw [ha, List.take_length]
  subst e
  obtain ⟨js, Δ', hg, hj, b, ht, h0, h1⟩ := hs i d hi
  have hl := (List.getElem?_eq_some_iff.mp hi)
  have tk : ds'.take (i + 1) = ds'.take i ++ [d] := by rw [List.take_succ, hi]; rfl
  refine ⟨js, Δ', hg, hj, fun c => c = b, ht, fun e => ?_, fun e => ?_⟩
  · rw [ha, tk, List.filterMap_append]
    simp [h0 e.symm]
  · obtain ⟨x, e1, e2⟩ := h1 e.symm
    refine e2.imp fun y ey => ?_
    rw [ha, tk, List.filterMap_append, ey]
    simp [e1]
theorem ef_map {wi : TI} {g : TG} {te : TE} {vs : List Nat} {ds : List D} (h : EvI F wi Δ fun r => r = ds) (hz : ds.length ≤ sizeLine) (f : D → D)
    (hs : ∀ (i : Nat) (d : D), ds[i]? = some d → ∃ js Δ', EvG F g d (wipeD Δ vs) js Δ' ∧ (∀ j ∈ js, j ∈ vs) ∧ Ev1 F te Δ' (f d)) : EvF F (tLc wi g tYes te vs) Δ fun r => r = ds.map f := by
  have := ef_lcM (tt := tYes) h hz (fun d => some (f d)) fun i d e => by
    obtain ⟨js, Δ', a, b, c⟩ := hs i d e
    exact ⟨js, Δ', a, b, true, et_yes, (nomatch ·), fun _ => ⟨_, rfl, c⟩⟩
  rw [show ds.filterMap (fun d => some (f d)) = ds.map f by simp] at this
  exact this
/-- each item is one of some, as many as are walked -/
theorem ef_each {wi : TI} {g : TG} {te : TE} {vs : List Nat} {Pd : List D → Prop} {P : D → Prop} (h : EvI F wi Δ Pd) (hz : ∀ ds, Pd ds → ds.length ≤ sizeLine)
    (hs : ∀ (ds : List D) (i : Nat) (d : D), Pd ds → ds[i]? = some d → ∃ js Δ', EvG F g d (wipeD Δ vs) js Δ' ∧ (∀ j ∈ js, j ∈ vs) ∧ EvR F te Δ' P) : EvF F (tLc wi g tYes te vs) Δ fun r => ∃ ds, Pd ds ∧ r.length = ds.length ∧ ∀ d ∈ r, P d := by
  refine ef_lcP h hz (fun ds' i acc => acc.length = i ∧ ∀ d ∈ acc, P d) (fun ds' _ => ⟨rfl, fun _ h => (List.not_mem_nil h).elim⟩) (fun ds' i d acc e hi ha _ => ?_) fun ds' acc e ha => ⟨ds', e, ha.1, ha.2⟩
  obtain ⟨js, Δ', hg, hj, he⟩ := hs ds' i d e hi
  refine ⟨js, Δ', hg, hj, fun c => c = true, et_yes, (nomatch ·), fun _ => he.imp fun x hx => ⟨by simp [ha.1], fun y hy => ?_⟩⟩
  rw [List.mem_append, List.mem_singleton] at hy
  rcases hy with hy | rfl
  · exact ha.2 y hy
  · exact hx
/-! == of data -/
theorem eqb_nil : ∀ l : List D, D.eqb (.list l) (.list []) = l.isEmpty
  | [] => rfl
  | _ :: _ => rfl
mutual
theorem eqb_refl : ∀ d : D, PyData.eqv d.py d.py = true
  | .none => rfl
  | .bool b => by simp [D.py, PyData.eqv]
  | .int b => by simp [D.py, PyData.eqv]
  | .str b => by simp [D.py, PyData.eqv]
  | .list l => by simp only [D.py, PyData.eqv]; exact eqbL_refl l
  | .tuple l => by simp only [D.py, PyData.eqv]; exact eqbL_refl l
  | .dict _ => rfl
  | .obj _ _ => rfl
  | .exc _ _ => rfl
  | .ref _ => rfl
theorem eqbL_refl : ∀ l : List D, PyData.eqvAll (pyL l) (pyL l) = true
  | [] => rfl
  | d :: ds => by simp only [pyL, PyData.eqvAll, eqb_refl d, eqbL_refl ds, Bool.and_true]
end
/-! what == may look at: by depth and signs -/
mutual
def D.okn : Nat → D → Bool
  | _, .none => true
  | _, .bool _ => true
  | _, .int _ => true
  | _, .str s => s.cps.all (· < 0x110000)
  | 0, .list _ => false
  | n + 1, .list l => oknL n l
  | 0, .tuple _ => false
  | n + 1, .tuple l => oknL n l
  | _, .dict _ => false
  | _, .obj _ _ => false
  | _, .exc _ _ => false
  | _, .ref _ => false
def oknL : Nat → List D → Bool
  | _, [] => true
  | n, d :: ds => d.okn n && oknL n ds
end
mutual
theorem okn_py : ∀ (n : Nat) (d : D), d.okn n = true → d.isPy = true ∧ d.py.canLay0 = true ∧ d.py.depth ≤ n
  | n, .none, _ => by cases n <;> exact ⟨rfl, rfl, Nat.zero_le _⟩
  | n, .bool _, _ => by cases n <;> exact ⟨rfl, rfl, Nat.zero_le _⟩
  | n, .int _, _ => by cases n <;> exact ⟨rfl, rfl, Nat.zero_le _⟩
  | n, .str s, h => by
    have h : s.cps.all (· < 0x110000) = true := by cases n <;> simpa only [D.okn] using h
    exact ⟨rfl, h, Nat.zero_le _⟩
  | 0, .list _, h => by simp [D.okn] at h
  | n + 1, .list l, h => by
    simp only [D.okn] at h
    obtain ⟨a, b, c⟩ := oknL_py n l h
    exact ⟨a, b, Nat.succ_le_succ c⟩
  | 0, .tuple _, h => by simp [D.okn] at h
  | n + 1, .tuple l, h => by
    simp only [D.okn] at h
    obtain ⟨a, b, c⟩ := oknL_py n l h
    exact ⟨a, b, Nat.succ_le_succ c⟩
  | n, .dict _, h => by cases n <;> simp [D.okn] at h
  | n, .obj _ _, h => by cases n <;> simp [D.okn] at h
  | n, .exc _ _, h => by cases n <;> simp [D.okn] at h
  | n, .ref _, h => by cases n <;> simp [D.okn] at h
theorem oknL_py : ∀ (n : Nat) (l : List D), oknL n l = true → isPyL l = true ∧ PyData.canLayAll0 (pyL l) = true ∧ PyData.depthAll (pyL l) ≤ n
  | n, [], _ => ⟨rfl, rfl, Nat.zero_le _⟩
  | n, d :: ds, h => by
    simp only [oknL, Bool.and_eq_true] at h
    obtain ⟨a, b, c⟩ := okn_py n d h.1
    obtain ⟨a', b', c'⟩ := oknL_py n ds h.2
    exact ⟨by simp [isPyL, a, a'], by simp [pyL, PyData.canLayAll0, b, b'], Nat.max_le.mpr ⟨c, c'⟩⟩
end
theorem D.okn_ok {d : D} (h : d.okn 64 = true) : d.eqOk := by
  obtain ⟨a, b, c⟩ := okn_py 64 d h
  exact ⟨a, by simp [SeqAt.shaped, b, c]⟩
theorem oknL_of {n : Nat} : ∀ {l : List D}, (∀ d ∈ l, d.okn n = true) → oknL n l = true
  | [], _ => rfl
  | d :: ds, h => by
    have h1 := h d (List.mem_cons_self)
    have h2 : oknL n ds = true := oknL_of fun x hx => h x (List.mem_cons_of_mem _ hx)
    simp only [oknL, h1, h2, Bool.and_true]
theorem okn_txt {n : Nat} {l : List Nat} (h : ∀ c ∈ l, c < 128) : (D.str (txt l)).okn n = true := by
  cases n <;> (simp only [D.okn, txt, List.all_toArray, List.all_eq_true, decide_eq_true_eq]; exact fun c hc => Nat.lt_trans (h c hc) (by decide))
end
end Bc

/-! Core 9: the rules with the written part named (within comprehensions the context is another one). -/
namespace Bc
open PySem L2 PySem.Spec PyProof.Rows
section
variable {X : Cx} {K : PySem.W.Frag}
theorem qAdd (hK : X.K = K := by rfl) : OpR X (binaryOp .Add) (rAddP K) := by subst hK; exact pAdd
theorem qEq (hu : X.A.units + 65 < cLine) (hK : X.K = K := by rfl) : OpR X (compareOp .Eq) (rEqP K) := by subst hK; exact pEq hu
theorem qNe (hu : X.A.units + 65 < cLine) (hK : X.K = K := by rfl) : OpR X (compareOp .NotEq) (rNeP K) := by subst hK; exact pNe hu
theorem qIn (hu : X.A.units + 65 < cLine) (hK : X.K = K := by rfl) : OpR X (compareOp .In) (rInP K false) := by subst hK; exact pIn hu
theorem qNotIn (hu : X.A.units + 65 < cLine) (hK : X.K = K := by rfl) : OpR X (compareOp .NotIn) (rInP K true) := by subst hK; exact pNotIn hu
theorem qIx (hK : X.K = K := by rfl) : IxR X (rIx K) := by subst hK; exact ix_seq
theorem qSl (hK : X.K = K := by rfl) : SlR X (rSlP K) := by subst hK; exact pSl
theorem qLen (hK : X.K = K := by rfl) : CallR X (.builtin "len") (rLenP K) := by subst hK; exact pLen
theorem qList (hK : X.K = K := by rfl) : CallR X (.type "list") (rListP K) := by subst hK; exact pList
theorem qTuple (hK : X.K = K := by rfl) : CallR X (.type "tuple") (rTupP K) := by subst hK; exact pTuple
theorem qIsi (hK : X.K = K := by rfl) : CallR X (.builtin "isinstance") (rIsi K) := by subst hK; exact call_isi
theorem qi_any {tg l : Expr} {tl : TE} (hl : PE X l tl) (hK : X.K = K := by rfl) : PI X tg l (iAny K tl) := by subst hK; exact pi_any hl
theorem qBm0 {o : Expr} {to : TE} {name : Str} {apos cpos : Pos} {T id : String} {r : V → List V → Hp → VK → Prop} (pa : PlainAttrs T) (slot : Slot T name id) (hty : typeOf (.builtin id) = pure (.type "method_descriptor")) (hm : MtR X id r) (ho : PE X o to) (hK : X.K = K := by rfl)
    (hbase : attributeBase o name X.env (eval o X.env) = eval o X.env := by rfl) (hline : (apos.endLine == cpos.line) = true := by rfl) : PE X (.Call (.Attribute o name apos) [] [] cpos) (tBM0 K T r to) := by
  subst hK
  exact pe_bm0 pa slot hty hm ho hbase hline
theorem qBm {o e : Expr} {es : List Expr} {to : TE} {t : TA} {name : Str} {apos cpos : Pos} {T id : String} {r : V → List V → Hp → VK → Prop} (pa : PlainAttrs T) (slot : Slot T name id) (hty : typeOf (.builtin id) = pure (.type "method_descriptor")) (hm : MtR X id r) (ho : PE X o to) (ha : PA X (e :: es) t) (hK : X.K = K := by rfl)
    (hbase : attributeBase o name X.env (eval o X.env) = eval o X.env := by rfl)
    (hfew : ((backTo cpos (starEach (e :: es) X.env)).all (fun x => !x.1) && (backToKw cpos (keywordEach [] X.env)).all (fun x => x.1.isSome) && decide ((e :: es).length + ([] : List Keyword).length + (if ([] : List Keyword).isEmpty then 0 else 1) < 30)) = true := by rfl)
    (hline : (apos.endLine == cpos.line) = true := by rfl) (hs : starEach (e :: es) X.env = (false, eval e X.env) :: starEach es X.env := by rfl) (hplain : (backTo cpos (starEach es X.env)).any (·.1) = false := by rfl) :
    PE X (.Call (.Attribute o name apos) (e :: es) [] cpos) (tBM K T r to t) := by
  subst hK
  exact pe_bm pa slot hty hm ho ha hbase hfew hline hs hplain
theorem qg_tup {es : List Expr} {k : Nat} {t : TGs} {n : Nat} {pos : Pos} (hc : X.calm = true) (h : PGs X es t) (hK : X.K = K := by rfl) (hn : (assignEach es X.env).length = n := by rfl) (hst : (assignEach es X.env).findIdx? (·.1) = Option.none := by rfl) : PG X (.Tuple es k pos) (gTup K n t) := by
  subst hK
  exact pg_tup hc h hn hst
end
end Bc

/-! Core I: an own exception whose __init__ says super().__init__('..') and stores its parameters. -/
namespace Bc
namespace XI
open PySem PySem.W PySem.Calls PyProof.Rows PySem.HandSPX
/-- what the written part says of an exception class -/
structure XCls (K : Frag) (C : Addr) (B newId initId : String) (bmB : List Value) : Prop where
  F : ExcBaseFacts B newId initId bmB
  X : KxsFacts B initId
  cls : ∃ nm q N bs bm sn sub ab col dd k0 k1 k2 k3 k5, K.lookup C = some (excClassObj nm q C N bs bm true sn sub ab col dd k0 k1 k2 k3 k5 newId) ∧ (∀ X, bm.contains (.type X) = bmB.contains (.type X)) ∧ ∀ self, refuseLoop self "__setattr__" (.ref C :: bm) = pure ()
  ob : bmB.contains (.type "object") = true
  sa : findIn K (.ref C) "__setattr__" = some (some (.builtin "object.__setattr__"))
  kC : keepIn K (.ref C) = true
  exC : subIn K (.ref C) (.type "BaseException") = some true
  tyC : typeIn K (.ref C) = some (.type "type")
  sB : subIn K (.ref C) (.type B) = some true
abbrev exR (C t1 : Addr) (d : Option Addr) : Obj := { cls := .ref C, dict := d, data := .fields #[.ref t1, .none, .none, .none, .bool false, .none] }
def AsgL : List Stmt → List (Str × Str) → Prop
  | [], fs => fs = []
  | st :: r, fs => ∃ a p s, fs = (a, p) :: s ∧ (∃ q1 q2 q3 q4, st = .Assign [.Attribute (.Name "self" q1) a q2] (.Name p q3) q4) ∧ AsgL r s
/-- self.path = tuple(path) -/
def PathL (scope : Scope) (rest : List Stmt) : Prop := (∃ q1 q2 q3 q4 q5 q6, rest = [.Assign [.Attribute (.Name "self" q1) "path" q2] (.Call (.Name "tuple" q5) [.Name "path" q3] [] q6) q4]) ∧ scope.names.lookup ("tuple" : Str) = some .globalImplicit
/-- the text of __init__ -/
structure XIn (P : Program) (K : Frag) (C fI : Addr) (initId : String) (ps : List Str) (fs : List (Str × Str)) (pt : Bool) : Prop where
  iC : findIn K (.ref C) "__init__" = some (some (.ref fI))
  tI : typeIn K (.ref fI) = some (.type "function")
  noN : ∀ p ∈ fs, findIn K (.ref C) p.1 = some none
  fn : ∃ (oc : Value) (od : Option Addr) (qual : Str) (params : Arguments) (scope : Scope) (cc cda D : Addr) (dV kV doc pm ct : Value) (an : Option Addr) (osl : Array (Option Value)) (p0 p1 p2 p3 p4 p5 : Pos) (msg : Str) (j : Nat) (rest : List Stmt) (cdD : ClassData),
    K.lookup fI = some ⟨oc, od, .func (fnX "__init__" qual params (.Expr (.Call (.Attribute (.Call (.Name "super" p0) [] [] p1) "__init__" p2) [.Constant (.str msg) j p3] [] p4) p5 :: rest) scope [("__class__", cc)] dV kV doc pm an (.ref cda) ct), osl⟩ ∧
    codeIn K (.ref cda) qual = true ∧ (if pt = true then PathL scope rest else AsgL rest fs) ∧
    (p2.endLine == p4.line) = true ∧ (∃ ar, (params.posonlyargs ++ params.args).head? = some ar ∧ ar.arg = "self") ∧
    scope.kind = .function ∧ scope.isCoroutine = false ∧ scope.isGenerator = false ∧ scope.names.lookup ("super" : Str) = some .globalImplicit ∧ scope.names.lookup ("__class__" : Str) = some .free ∧ (∀ x ∈ ("self" : Str) :: ps, scope.names.lookup x = some .local) ∧ (∀ x ∈ scope.names, x.2 ≠ .cell) ∧
    (∃ ccl cdd vs ccs file tf, K.lookup cda = some ⟨ccl, cdd, .fields vs, ccs⟩ ∧ vs[2]? = some (.str file tf) ∧ ((P.main.file : Str) == file) = true) ∧
    (∃ cl cld csl, K.lookup cc = some ⟨cl, cld, .cell (some (.ref D)), csl⟩) ∧ clsIn K D = some cdD ∧ mroIn K C (.ref D) = some true ∧ ks_superIn K C D "__init__" = some (some (.builtin initId)) ∧
    (∀ us : List Value, us.length = ps.length + 1 → bindArgs (fnX "__init__" qual params (.Expr (.Call (.Attribute (.Call (.Name "super" p0) [] [] p1) "__init__" p2) [.Constant (.str msg) j p3] [] p4) p5 :: rest) scope [("__class__", cc)] dV kV doc pm an (.ref cda) ct) ⟨us, []⟩ = pure ((("self" : Str) :: ps).zip us))
  nodup : (("self" : Str) :: ps).Nodup
  mem : ∀ p ∈ fs, p.2 ∈ ps
  few : fs.length ≤ 900
  ndbg : ∀ p ∈ fs, (p.2 == ("__debug__" : Str)) = false
  nda : (fs.map (·.1)).Nodup
  notop : (P.main.scope.names.lookup ("super" : Str)).isSome = false
  pth : pt = true → ps = [("path" : Str)] ∧ fs = [(("path" : Str), ("path" : Str))]
  opq : nsIn K cStatics "thirdparty.any" = some none
section
open Builtin Builtin.ObjectAttr
variable {prog : Program} {w : World} {A : Around} {E : Value → Shared → Prop} {R : Result → Shared → Prop} {hp : Heap} {g : Array GenState} {d : Drawn} {t : Nat} {os : OsState} {K : Frag} {C fI : Addr} {B newId initId : String} {bmB : List Value}
theorem osa_x {name : Str} {tk : Tok} {v : Value} {x : Addr} {ox : Obj} {od : Option Obj} {cd : ClassData}
    (X : K.In hp) (I : InstAt hp x ox C od) (hcd : clsIn K C = some cd) (hob : cd.mro.contains (.type "object") = true) (hpass : refuseLoop (.ref x) "__setattr__" cd.mro = pure ()) (ha : findIn K (.ref C) name = some none)
    (hq : wpAny (model prog w) A.in1 (storeInOwnDict (.ref x) (.ref C) (.str name tk) name v false)
      (fun fin s' => match fin with | .done f => R (.ok f) s' | .again c' => c'.quiet = true ∧ codeAny (model prog w) A c' R s') (fun e s' => R (.error e) s') ⟨hp, g, d, t, os⟩) :
    codeAny (model prog w) A (.call (.builtin "object.__setattr__") ⟨[.ref x, .str name tk, v], []⟩) R ⟨hp, g, d, t, os⟩ := by
  have SF := PySem.F.store_object
  have hne : cd.mro.isEmpty = false := by
    cases h : cd.mro with
    | nil => rw [h] at hob; cases hob
    | cons a l => rfl
  have sub : Looks (model prog w) hp (isInstance (.ref x) (.type "object")) true := I.type.andThen (looks_mroIn X (by unfold mroIn; rw [hcd, Option.bind_some, hne, if_neg (by decide), hob]))
  refine codeAny_call_builtin SF.slot.plain SF.entry (@check_slot (model prog w) _ _ ⟨hp, g, d, t, os⟩ "object.__setattr__" "object" "__setattr__" (.ref x) [.str name tk, v] [] _ SF.kind SF.split sub (SF.args (.ref x) (.str name tk) v) ?_)
  have hmr : Looks (model prog w) hp (mroOf (.ref C)) cd.mro := (looks_clsIn X hcd).andThen .now
  have L3 : Looks (model prog w) hp (storeTaker? none) none := .now
  rw [osa_eq, refuse_eq]
  refine wpAny_bind (wpAny_bind (I.type.at (wpAny_bind (hmr.at ?_))))
  rw [hpass]
  refine wpAny_pure (wpAny_bind (I.type.at (wpAny_bind ((looks_findIn X ha).at (wpAny_bind (L3.at ?_))))))
  exact hq
theorem osa_new {name : Str} {tk : Tok} {v : Value} {x : Addr} {fv : Array Value} {cd : ClassData}
    (X : K.In hp) (hx : hp.get? x = some { cls := .ref C, data := .fields fv }) (hcd : clsIn K C = some cd) (hob : cd.mro.contains (.type "object") = true) (hpass : refuseLoop (.ref x) "__setattr__" cd.mro = pure ()) (hh : cd.hasDict = true) (ha : findIn K (.ref C) name = some none)
    (hq : ∀ h' tk' dx, (∀ b o, b ≠ x → hp.get? b = some o → h'.get? b = some o) → hp.objs.size ≤ dx → dx ≠ x → h'.get? x = some { cls := .ref C, dict := some dx, data := .fields fv } →
      h'.Ns1 dx (fun y => if y = name then some v else none) → R (.ok (.ret .none)) ⟨h', g, d, tk', os⟩) :
    codeAny (model prog w) A (.call (.builtin "object.__setattr__") ⟨[.ref x, .str name tk, v], []⟩) R ⟨hp, g, d, t, os⟩ := by
  have I : InstAt hp x { cls := .ref C, dict := none, data := .fields fv } C none := ⟨hx, rfl, rfl, trivial⟩
  have hxs : x ≠ hp.objs.size := Nat.ne_of_lt (Heap.lt_size hx)
  refine osa_x X I hcd hob hpass ha ?_
  have hcls : Looks (model prog w) hp (classData C) cd := looks_clsIn X hcd
  obtain ⟨nm, bs, mro, ns, qn, hd, sn, sb, ab, col, del⟩ := cd
  dsimp only at hh
  subst hh
  unfold storeInOwnDict ownDictForStores
  repeat (first | with_reducible refine HandSPX.store_in_new ?_ ?_ | with_reducible refine wpAny_loadPart_at hx ?_ | with_reducible refine hcls.at ?_ | wp_step)
  · exact ⟨_, #[], _, (Heap.get?_update_ne _ _ _ _ hxs.symm).trans (Heap.get?_push_at rfl rfl), rfl, fun e he => absurd he (by simp), fun _ => rfl⟩
  · intro h' tk' hn' hs
    have hx₁ : (hp.push { cls := .type "dict", data := .dict #[] }).get? x = some { cls := .ref C, data := .fields fv } := Heap.get?_push_of_some _ hx
    refine hq h' tk' hp.objs.size (fun b o hb ho => ?_) (Nat.le_refl _) hxs.symm ?_ hn'
    · exact (hs.2 b (Nat.ne_of_lt (Heap.lt_size ho))).trans ((Heap.get?_update_ne _ _ _ _ hb).trans (Heap.get?_push_of_some _ ho))
    · exact (hs.2 x hxs).trans (Heap.get?_update_self _ hx₁ rfl)
theorem osa_old {name : Str} {tk : Tok} {v : Value} {x dx : Addr} {fv : Array Value} {cd : ClassData} {m0 : Str → Option Value} {nl : List Str}
    (X : K.In hp) (hx : hp.get? x = some { cls := .ref C, dict := some dx, data := .fields fv }) (hns : hp.Ns1 dx m0) (hw : Within m0 nl) (hz : nl.length ≤ 1000) (hcd : clsIn K C = some cd) (hob : cd.mro.contains (.type "object") = true) (hpass : refuseLoop (.ref x) "__setattr__" cd.mro = pure ()) (hh : cd.hasDict = true)
    (ha : findIn K (.ref C) name = some none)
    (hq : ∀ h' tk', (∀ b o, b ≠ dx → hp.get? b = some o → h'.get? b = some o) → h'.Ns1 dx (fun y => if y = name then some v else m0 y) → R (.ok (.ret .none)) ⟨h', g, d, tk', os⟩) :
    codeAny (model prog w) A (.call (.builtin "object.__setattr__") ⟨[.ref x, .str name tk, v], []⟩) R ⟨hp, g, d, t, os⟩ := by
  obtain ⟨oD, esD, epD, hoD, hdD, _⟩ := hns.count hw
  have I : InstAt hp x { cls := .ref C, dict := some dx, data := .fields fv } C (some oD) := ⟨hx, rfl, rfl, hoD⟩
  refine osa_x X I hcd hob hpass ha ?_
  have hcls : Looks (model prog w) hp (classData C) cd := looks_clsIn X hcd
  obtain ⟨nm, bs, mro, ns, qn, hd, sn, sb, ab, col, del⟩ := cd
  dsimp only at hh
  subst hh
  unfold storeInOwnDict ownDictForStores
  repeat (first | with_reducible refine PySem.OEX.store_in_old hns hw hz ?_ | with_reducible refine wpAny_loadPart_at hx ?_ | with_reducible refine hcls.at ?_ | wp_step)
  intro h' tk' hn' hs
  exact hq h' tk' (fun b o hb ho => (hs.2 b hb).trans ho) hn'
end
/-! ### the stores -/
/-- midway: the fields so far (the last one first); the frame L -/
structure Mid (h0 h : Heap) (L x C : Addr) (m : Str → Option Value) (fs : List (Str × Value)) : Prop where
  keep : ∀ b o, b ≠ x → h0.get? b = some o → h.get? b = some o
  ns : h.Ns L m
  lx : L ≠ x
  sz : h0.objs.size ≤ h.objs.size
  obj : ∃ t1, (fs = [] ∧ h.get? x = some (exR C t1 none)) ∨ ∃ dx, h0.objs.size ≤ dx ∧ L ≠ dx ∧ dx ≠ x ∧ h.get? x = some (exR C t1 (some dx)) ∧ h.Ns1 dx fun y => fs.lookup y
def Got (m : Str → Option Value) : List (Str × Str) → List (Str × Value) → Prop
  | [], vs => vs = []
  | p :: s, vs => ∃ v r, vs = (p.1, v) :: r ∧ m p.2 = some v ∧ Got m s r
theorem lookup_put (f y : Str) (v : Value) (fs : List (Str × Value)) : ((f, v) :: fs).lookup y = if y = f then some v else fs.lookup y := by
  by_cases h : y = f
  · subst h
    simp [List.lookup]
  · have e : (y == f) = false := by simpa using h
    rw [if_neg h]
    simp [List.lookup, e]
theorem within_lookup (fs : List (Str × Value)) : Within (fun y => fs.lookup y) (fs.map (·.1)) := fun y hy => by
  induction fs with
  | nil => exact absurd rfl hy
  | cons p fs ih =>
    obtain ⟨f, v⟩ := p
    have hy2 : ((f, v) :: fs).lookup y ≠ none := hy
    rw [lookup_put] at hy2
    by_cases e : y = f
    · rw [e]; exact List.mem_cons_self ..
    · rw [if_neg e] at hy2
      have hy := hy2
      exact List.mem_cons_of_mem _ (ih hy)
section
variable {prog : Program} {w : World} {A : Around} {E : Value → Shared → Prop} {h0 : Heap} {g : Array GenState} {d : Drawn} {os : OsState} {K : Frag} {C L x : Addr} {B newId initId : String} {bmB : List Value} {env : Env} {m : Str → Option Value}
theorem stores (T : XCls K C B newId initId bmB) (X0 : K.In h0) (hx0 : K.lookup x = none) (hk : env.scope.kind = .function) (hL : env.locals = L) (hself : env.kindOf "self" = some .local) (mself : m "self" = some (.ref x)) :
    ∀ (sts : List Stmt) (fs : List (Str × Str)) (done : List (Str × Value)) (h : Heap) (t : Nat) (Q : Flow → Shared → Prop), AsgL sts fs → (∀ p ∈ fs, findIn K (.ref C) p.1 = some none ∧ env.kindOf p.2 = some .local ∧ (p.2 == ("__debug__" : Str)) = false ∧ ∃ v, m p.2 = some v) → done.length + fs.length ≤ 900 → Mid h0 h L x C m done →
      (∀ h' t' vs, Mid h0 h' L x C m (vs.reverse ++ done) → Got m fs vs → Q .next ⟨h', g, d, t', os⟩) →
      wpAny (model prog w) A (execs sts env) Q E ⟨h, g, d, t, os⟩
  | [], fs, done, h, t, Q, ha, hf, hl, M, hq => by
    subst ha
    exact wpAny_execs_nil (hq h t [] M rfl)
  | st :: sts, fs, done, h, t, Q, ha, hf, hl, M, hq => by
    obtain ⟨a, p, s, rfl, ⟨q1, q2, q3, q4, rfl⟩, ha⟩ := ha
    obtain ⟨no, hp, hdb, v, hv⟩ := hf (a, p) (List.mem_cons_self ..)
    obtain ⟨nm, q, N, bs, bm, sn, sub, ab, col, dd, k0, k1, k2, k3, k5, hC, hT, hpass⟩ := T.cls
    have hcl : clsIn K C = some { name := nm, bases := bs, mro := .ref C :: bm, ns := N, qualname := q, hasDict := true, slotNames := sn, subclasses := sub, abstract := ab, collection := col, hasDel := false } := by unfold clsIn; rw [hC] <;> rfl
    have hob : (Value.ref C :: bm).contains (.type "object") = true := by
      rw [List.contains_cons, hT "object", T.ob, Bool.or_true]
    have X : K.In h := fun b o e => M.keep b o (fun z => by rw [z, hx0] at e; cases e) (X0 b o e)
    have ns := M.ns
    rw [← hL] at ns
    refine wpAny_execs_cons (plainObj_wpAny_Assign_Attribute (wpAny_Name (wpAny_loadName_local hk hp ns hv (wpAny_Name (wpAny_loadName_local hk hself ns mself ?_) (by decide))) hdb))
    obtain ⟨t1, ⟨rfl, hx⟩ | ⟨dx, hdb2, hLd, hdx, hx, hns⟩⟩ := M.obj
    · refine set_plain X (ox := exR C t1 none) (od := none) ⟨hx, rfl, rfl, trivial⟩ T.sa ?_
      refine osa_new X hx hcl hob (hpass _) rfl no fun h' tk' dx k dn dne hx' hn' => ?_
      obtain ⟨oL, esL, epL, hoL, hrL⟩ := id M.ns
      have hLlt : L < h.objs.size := Heap.lt_size hoL
      have hd' : dx < h'.objs.size := by
        obtain ⟨o, _, _, e, _⟩ := id hn'
        exact Heap.lt_size e
      refine stores T X0 hx0 hk hL hself mself sts s [(a, v)] h' tk' Q ha (fun p hp => hf p (List.mem_cons_of_mem _ hp)) (by simp at hl ⊢; omega) ⟨fun b o hb e => k b o hb (M.keep b o hb e), ⟨oL, esL, epL, k _ _ M.lx hoL, hrL⟩, M.lx, Nat.le_trans M.sz (Nat.le_trans dn (Nat.le_of_lt hd')), t1, .inr ⟨dx, Nat.le_trans M.sz dn, Nat.ne_of_lt (Nat.lt_of_lt_of_le hLlt dn), dne, hx', ?_⟩⟩ fun h2 t2 vs M2 f2 => ?_
      · simpa only [lookup_put, List.lookup_nil] using hn'
      · exact hq h2 t2 ((a, v) :: vs) (by simpa using M2) ⟨v, vs, rfl, hv, f2⟩
    · refine set_plain X (ox := exR C t1 (some dx)) (od := some hns.choose) ⟨hx, rfl, rfl, hns.choose_spec.choose_spec.choose_spec.1⟩ T.sa ?_
      refine osa_old X hx hns (within_lookup done) (by rw [List.length_map]; simp at hl; omega) hcl hob (hpass _) rfl no fun h' tk' k hn' => ?_
      obtain ⟨oL, esL, epL, hoL, hrL⟩ := id M.ns
      have hd' : dx < h'.objs.size := by
        obtain ⟨o, _, _, e, _⟩ := id hn'
        exact Heap.lt_size e
      refine stores T X0 hx0 hk hL hself mself sts s ((a, v) :: done) h' tk' Q ha (fun p hp => hf p (List.mem_cons_of_mem _ hp)) (by simp at hl ⊢; omega) ⟨fun b o hb e => k b o (fun z => ?_) (M.keep b o hb e), ⟨oL, esL, epL, k _ _ hLd hoL, hrL⟩, M.lx, Nat.le_trans hdb2 (Nat.le_of_lt hd'), t1, .inr ⟨dx, hdb2, hLd, hdx, k _ _ (Ne.symm hdx) hx, ?_⟩⟩ fun h2 t2 vs M2 f2 => ?_
      · have := Heap.lt_size e
        rw [z] at this
        exact absurd this (Nat.not_lt.mpr hdb2)
      · simpa only [lookup_put] using hn'
      · exact hq h2 t2 ((a, v) :: vs) (by simpa using M2) ⟨v, vs, rfl, hv, f2⟩
end

theorem mc_eq {o c : Expr} {m : Str} {apos pos : Pos} {env : Env} {e1 : starEach [c] env = [(false, eval c env)]} (h : (apos.endLine == pos.line) = true) :
    eval (.Call (.Attribute o m apos) [c] [] pos) env = (do
      let ov ← attributeBase o m env (eval o env)
      standAt apos.atName
      let (f, first) ← holding [ov] (getMethod ov m (do return (← importBound o env).getD true))
      callWith pos f first (backTo pos (starEach [c] env)) []) := by
  rw [arm_eval_Call]
  have hf : methodCallForm ([c].length + ([] : List Keyword).length) (backTo pos (starEach [c] env)) (backToKw pos (keywordEach [] env)) = true := by
    rw [e1]
    rfl
  unfold methodCall calleeOf methodCallPos
  rw [hf]
  simp only [h, Bool.not_true, Bool.false_or, if_true, pure_bind]
  rfl
/-- a made exception: its dict, if it has fields -/
structure Made (h h' : Heap) (e C : Addr) (dd : Option Addr) (vs : List (Str × Value)) : Prop where
  keep : ∀ b o, b ≠ e → h.get? b = some o → h'.get? b = some o
  obj : ∃ t1, h'.get? e = some (exR C t1 dd)
  dct : match dd with | none => vs = [] | some dx => h.objs.size ≤ dx ∧ dx ≠ e ∧ h'.Ns1 dx fun y => vs.reverse.lookup y
section
variable {prog : Program} {w : World} {A : Around} {E : Value → Shared → Prop} {R : Result → Shared → Prop} {s : Shared} {K : Frag} {C fI x : Addr} {B newId initId : String} {bmB : List Value} {ps : List Str} {fs : List (Str × Str)} {mg mb : Str → Option Value}
def s0p (h h' : Heap) (x u : Addr) (its : Array Value) (v : Value) : Prop := (h.IsTuple u its ∧ v = .ref u) ∨ (h.IsList u its ∧ ∃ t, v = .ref t ∧ h.objs.size ≤ t ∧ t ≠ x ∧ h'.get? t = some { cls := .type "tuple", data := .seq its })
/-- what the fields hold; a path is told as a tuple -/
def GotP (h h' : Heap) (x : Addr) (pt : Bool) (m : Str → Option Value) (fs : List (Str × Str)) (vs : List (Str × Value)) : Prop :=
  if pt = true then ∃ u its v, m "path" = some (.ref u) ∧ vs = [(("path" : Str), v)] ∧ s0p h h' x u its v else Got m fs vs
theorem gotp_of {h h' : Heap} {x : Addr} {m : Str → Option Value} {fs : List (Str × Str)} {vs : List (Str × Value)} (G : Got m fs vs) : GotP h h' x false m fs vs := by
  unfold GotP
  rw [if_neg (by decide)]
  exact G
theorem ns_ne {h : Heap} {a x C t : Addr} {dd : Option Addr} {m : Str → Option Value} (n : h.Ns a m) (e : h.get? x = some (exR C t dd)) : a ≠ x := fun z => by
  obtain ⟨o, es, ep, q, r, _⟩ := n
  rw [z, e] at q
  cases q
  cases r
theorem ns_keeps {h h' : Heap} {a x : Addr} {m : Str → Option Value} (n : h.Ns a m) (k : ∀ b o, b ≠ x → h.get? b = some o → h'.get? b = some o) (hx : a ≠ x) : h'.Ns a m := by
  obtain ⟨o, es, ep, q, r⟩ := n
  exact ⟨o, es, ep, k _ _ hx q, r⟩
theorem init_raw {pt : Bool} (T : XCls K C B newId initId bmB) (I : XIn prog K C fI initId ps fs pt) {t0 : Addr} {us : List Value} (hus : us.length = ps.length) (X : K.In s.heap) (hg : s.heap.Ns mainGlobals mg) (gs : mg "super" = none) (hb : s.heap.Ns builtinsNs mb) (bs : mb "super" = some (.type "super"))
    (gt : pt = true → mg "tuple" = none ∧ mb "tuple" = some (.type "tuple") ∧ ∃ u its, us = [.ref u] ∧ (s.heap.IsTuple u its ∨ (s.heap.IsList u its ∧ its.size ≤ sizeLine)))
    (hlim : s.heap.NoLimit) (hx : s.heap.get? x = some (exR C t0 none)) (hnx : K.lookup x = none) (hroom : A.depth < recursionLimit)
    (hq : ∀ h' tk dd vs, Made s.heap h' x C dd vs → GotP s.heap h' x pt (fun y => ((("self" : Str) :: ps).zip (.ref x :: us)).reverse.lookup y) fs vs → R (.ok (.ret .none)) { s with heap := h', toks := tk }) :
    codeAny (model prog w) A (.call (.ref fI) ⟨.ref x :: us, []⟩) R s := by
  obtain ⟨oc, od, qual, params, scope, cc, cda, D, dV, kV, doc, pm, ct, an, osl, p0, p1, p2, p3, p4, p5, msg, j, rest, cdD, lk, hcd, hasg, hpos, ⟨ar, har, hself⟩, sk, sco, sgen, ssup, scls, sloc, snoc, ⟨ccl, cdd, cvs, ccs, file, tf, lcda, hvs, hfile⟩, ⟨cl, cld, csl, lcc⟩, hD, hsub, hsuper, hbind⟩ := I.fn
  obtain ⟨nm, q, N, bs', bm, sn, sub, ab, col, dd, k0, k1, k2, k3, k5, hC, hT, hpass⟩ := T.cls
  refine ks_codeAny_call_defAt hroom (X _ _ lk) rfl hlim (codeRec_of X hcd) rfl (BindsTo.of_eq (hbind _ (by simp [hus]))) snoc (fun y hy => sloc _ (List.of_mem_zip (show (y.1, y.2) ∈ _ from hy)).1) (fun h₀ hns hk₀ => ?_) sco sgen sk
  have hLx : s.heap.objs.size ≠ x := Nat.ne_of_gt (Heap.lt_size hx)
  obtain ⟨hp, g, d, tk, os⟩ := s
  dsimp only at hns hk₀ hx hg hb X hlim hLx hq ⊢
  have X₀ : K.In h₀ := fun b o e => hk₀ b o (X b o e)
  have hx₀ := hk₀ _ _ hx
  have hg₀ := hg.keeps hk₀
  have hb₀ := hb.keeps hk₀
  have nself : (fun y => ((("self" : Str) :: ps).zip (.ref x :: us)).reverse.lookup y) "self" = some (.ref x) := NdefX.zip_look (i := 0) I.nodup rfl rfl
  show _root_.PySem.wpAt (model prog w) (A.deeper (ksEnv qual scope hp.objs.size fI (.ref cda) cc)) (.func _ (ksEnv qual scope hp.objs.size fI (.ref cda) cc)) (execs _ (ksEnv qual scope hp.objs.size fI (.ref cda) cc)) _ _ _
  refine ks_wpAt_execs_cons (ks_wpAt_Expr_any (ks_wpAt_MethodCall ?_ (mc_eq (e1 := rfl) hpos)) (hi := by unfold interactive; rw [show (ksEnv qual scope hp.objs.size fI (.ref cda) cc).scope.kind = .function from sk]; rfl))
  obtain ⟨oD, hD1, hD2⟩ : ∃ oD, h₀.get? D = some oD ∧ oD.data = .cls cdD := by
    unfold clsIn at hD
    split at hD
    · rename_i c d cd' sl ho
      cases hD
      exact ⟨_, X₀ _ _ ho, rfl⟩
    · cases hD
  have inst : ∀ {h : Heap} {t1 : Addr}, h.get? x = some (exR C t1 none) → InstAt h x (exR C t1 none) C none := fun e => ⟨e, rfl, rfl, trivial⟩
  refine ks_wpAt_super_base (env := ksEnv qual scope hp.objs.size fI (.ref cda) cc) ssup scls rfl rfl (X₀ _ _ lk) rfl har rfl (X₀ _ _ lcda) rfl hvs hfile I.notop ?_
  refine ks_loadName_global sk ssup (loadGlobal_builtin (env := ksEnv qual scope hp.objs.size fI (.ref cda) cc) hg₀ gs hb₀ bs ⟨rfl, ?_⟩)
  refine wpAny_loadName_free sk scls rfl ⟨_, X₀ _ _ lcc, rfl⟩ ?_
  rw [hself]
  refine wpAny_loadName_local (env := ksEnv qual scope hp.objs.size fI (.ref cda) cc) sk (sloc _ (List.mem_cons_self ..)) hns nself ?_
  refine ks_wpAny_isType_cls hD1 hD2 ⟨rfl, ?_⟩
  refine ks_wpAny_call_super hD1 hD2 hx₀ rfl (fun c e => by cases e) (looks_mroIn X₀ hsub) (fun h1 e1 k1 => ?_)
  have X1 : K.In h1 := fun b o e => k1 b o (X₀ b o e)
  have hx1 := k1 _ _ hx₀
  have hcl : clsIn K C = some { name := nm, bases := bs', mro := .ref C :: bm, ns := N, qualname := q, hasDict := true, slotNames := sn, subclasses := sub, abstract := ab, collection := col, hasDel := false } := by unfold clsIn; rw [hC] <;> rfl
  have hf : alongIn K "__init__" (((Value.ref C :: bm).dropWhile (· != .ref D)).drop 1) = some (some (.builtin initId)) := by
    unfold ks_superIn at hsuper
    rw [hcl] at hsuper
    exact hsuper
  have hI : Looks (model prog w) h1 (isInstance (.ref x) (.type B)) true := (inst hx1).type.andThen (looks_subIn X1 T.sB)
  refine kxs_getMethod T.X e1 (looks_opaque X1 I.opq) (l₀ := .ref C :: bm) (fun A Q E s k q => wpAny_bind ((looks_clsIn X1 hcl) A _ E s k (wpAny_pure q))) rfl X1 hf hI (ks_ne X1 (inst hx1) hcl) rfl ?_
  have k2 : ∀ b o, h1.get? b = some o → (h1.push (kxs_mw initId x)).get? b = some o := fun b o e => Heap.get?_push_of_some _ e
  have hu2 : (h1.push (kxs_mw initId x)).get? h1.objs.size = some (kxs_mw initId x) := Heap.get?_push_at rfl rfl
  have hx2 := k2 _ _ hx1
  refine kxs_callWith (i := initId) (x := x) rfl ?_
  show wpAny _ _ (evalArgs _ true (backTo p4 (starEach (.Constant (.str msg) j p3 :: []) _)) []) _ _ _
  refine evalArgs_plain (spliced_more (Calls.Constant_str (spliced_none ⟨hu2, ?_⟩)))
  show wpAny _ _ (call (.ref h1.objs.size) [.str msg _]) _ _ _
  have X2 : K.In (h1.push (kxs_mw initId x)) := fun b o e => k2 b o (X1 b o e)
  refine wpAny_call (codeAny_of_tree ?_)
  show wpAny _ _ (callAny (.ref h1.objs.size) ⟨[.str msg _], []⟩) _ _ _
  simp only [callAny]
  refine wpAny_bind (wpAny_load hu2 ?_)
  simp only [kxs_mw, show (Value.type "method-wrapper" == Value.type "method" || Value.type "method-wrapper" == Value.type "builtin_function_or_method" || Value.type "method-wrapper" == Value.type "method-wrapper") = true by decide, if_true]
  refine KFB.if_so (by decide) ?_
  refine wpAny_bind (check_bound_init T.F.toExcCallFacts (X2 _ _ hC) hx2 rfl ?_)
  refine wpAny_bind (wpAny_pure (wpAny_pure ?_))
  refine ⟨plainId_quiet T.F.init.plain _, codeAny_builtin T.F.initEntry ?_⟩
  refine exc_init_tree (cls := .ref C) (t0 := t0) (dv := none) (c2 := .none) (c3 := .none) (b4 := .bool false) hx2 (by simp [sizeLine_eq]) fun h3 k3 e3 _ => ?_
  show _root_.PySem.wpAt _ _ _ _ _ _ _
  refine wpAt_of_wpAny ?_
  have kx : ∀ b o, b ≠ x → hp.get? b = some o → h3.get? b = some o := fun b o hb e => k3 b o hb (k2 b o (k1 b o (hk₀ b o e)))
  have kL : ∀ o, h₀.get? hp.objs.size = some o → h3.get? hp.objs.size = some o := fun o e => k3 _ o hLx (k2 _ o (k1 _ o e))
  obtain ⟨oL, esL, epL, hoL, hrL⟩ := id hns
  have hsz : hp.objs.size ≤ h3.objs.size := Nat.le_of_lt (Heap.lt_size (kL _ hoL))
  have fin : ∀ (h4 : Heap) (t4 : Nat) (vs : List (Str × Value)), Mid hp h4 hp.objs.size x C (fun y => ((("self" : Str) :: ps).zip (.ref x :: us)).reverse.lookup y) vs.reverse → GotP hp h4 x pt (fun y => ((("self" : Str) :: ps).zip (.ref x :: us)).reverse.lookup y) fs vs → R (.ok (.ret .none)) ⟨h4, g, d, t4, os⟩ := fun h4 t4 vs M4 G4 => by
    have M5 : ∃ dd, Made hp h4 x C dd vs := by
      obtain ⟨t1, ⟨e, hx4⟩ | ⟨dx, a1, a2, a3, a4, a5⟩⟩ := M4.obj
      · exact ⟨none, M4.keep, ⟨t1, hx4⟩, by simpa using e⟩
      · exact ⟨some dx, M4.keep, ⟨t1, a4⟩, a1, a3, a5⟩
    obtain ⟨dd, M5⟩ := M5
    exact hq h4 t4 dd vs M5 G4
  cases pt with
  | false =>
    have hasg : AsgL rest fs := hasg
    refine wpAny_mono (stores (env := ksEnv qual scope hp.objs.size fI (.ref cda) cc) (m := fun y => ((("self" : Str) :: ps).zip (.ref x :: us)).reverse.lookup y) T X hnx sk rfl (sloc _ (List.mem_cons_self ..)) nself rest fs [] h3 _ hasg ?_ (by simpa using I.few) ⟨kx, ⟨oL, esL, epL, kL _ hoL, hrL⟩, hLx, hsz, _, .inl ⟨rfl, e3⟩⟩ (Q := fun f s' => f = .next ∧ R (.ok (.ret .none)) s') fun h4 t4 vs M4 G4 => ⟨rfl, fin h4 t4 vs (by simpa using M4) (gotp_of G4)⟩) ?_ fun _ _ z => z
    · intro p hp'
      refine ⟨I.noN p hp', sloc _ (List.mem_cons_of_mem _ (I.mem p hp')), I.ndbg p hp', ?_⟩
      obtain ⟨i, hi⟩ := List.mem_iff_getElem?.mp (I.mem p hp')
      have hlt : i < us.length := by rw [hus]; exact (List.getElem?_eq_some_iff.mp hi).1
      exact ⟨us[i], NdefX.zip_look (i := i + 1) I.nodup (by simpa using hi) (by simp [hlt])⟩
    · rintro f s' ⟨rfl, z⟩
      exact z
  | true =>
    obtain ⟨⟨q1, q2, q3, q4, q5, q6, rfl⟩, stup⟩ := (show PathL scope rest from hasg)
    obtain ⟨eps, efs⟩ := I.pth rfl
    subst eps
    subst efs
    obtain ⟨gt1, bt1, u, its, eus, hu⟩ := gt rfl
    subst eus
    have mpath : (fun y => ((("self" : Str) :: [("path" : Str)]).zip [Value.ref x, Value.ref u]).reverse.lookup y) "path" = some (.ref u) := rfl
    have X3 : K.In h3 := fun b o e => kx b o (fun z => by rw [z, hnx] at e; cases e) (X b o e)
    have ux : u ≠ x := fun z => by
      rcases hu with ⟨o, ho, hc, _⟩ | ⟨⟨o, ho, hc, _⟩, _⟩
      · rw [z, hx] at ho
        cases ho
        cases hc
      · rw [z, hx] at ho
        cases ho
        cases hc
    have one : ∀ (h5 : Heap) (t5 : Nat) (v : Value), (∀ b o, h3.get? b = some o → h5.get? b = some o) → (∀ h4, (∀ b o, b ≠ x → h5.get? b = some o → h4.get? b = some o) → GotP hp h4 x true (fun y => ((("self" : Str) :: [("path" : Str)]).zip [Value.ref x, Value.ref u]).reverse.lookup y) [(("path" : Str), ("path" : Str))] [(("path" : Str), v)]) →
        wpAny (model prog w) (A.deeper (ksEnv qual scope hp.objs.size fI (.ref cda) cc)) (setAttr (.ref x) "path" v) (fun _ s' => R (.ok (.ret .none)) s') (fun _ _ => False) ⟨h5, g, d, t5, os⟩ := fun h5 t5 v k5 G5 => by
      have hob : (Value.ref C :: bm).contains (.type "object") = true := by
        rw [List.contains_cons, hT "object", T.ob, Bool.or_true]
      have X5 : K.In h5 := fun b o e => k5 b o (X3 b o e)
      have hx5 := k5 _ _ e3
      refine set_plain X5 (ox := exR C _ none) (od := none) ⟨hx5, rfl, rfl, trivial⟩ T.sa ?_
      refine osa_new X5 hx5 hcl hob (hpass _) rfl (I.noN _ (List.mem_cons_self ..)) fun h' tk' dx k dn dne hx' hn' => ?_
      have sz5 : hp.objs.size < h5.objs.size := Heap.lt_size (k5 _ _ (kL _ hoL))
      refine fin h' tk' [(("path" : Str), v)] ⟨fun b o hb e => k b o hb (k5 b o (kx b o hb e)), ⟨oL, esL, epL, k _ _ hLx (k5 _ _ (kL _ hoL)), hrL⟩, hLx, ?_, _, .inr ⟨dx, Nat.le_trans (Nat.le_of_lt sz5) dn, Nat.ne_of_lt (Nat.lt_of_lt_of_le sz5 dn), dne, hx', ?_⟩⟩ (G5 h' k)
      · obtain ⟨o, _, _, e, _⟩ := id hn'
        exact Nat.le_trans (Nat.le_of_lt sz5) (Nat.le_trans dn (Nat.le_of_lt (Heap.lt_size e)))
      · simpa only [List.reverse_cons, List.reverse_nil, List.nil_append, lookup_put, List.lookup_nil] using hn'
    have ns3 : h3.Ns hp.objs.size (fun y => ((("self" : Str) :: [("path" : Str)]).zip [Value.ref x, Value.ref u]).reverse.lookup y) := ⟨oL, esL, epL, kL _ hoL, hrL⟩
    have hg3 := ns_keeps hg kx (ns_ne hg hx)
    have hb3 := ns_keeps hb kx (ns_ne hb hx)
    have then_ : ∀ (h5 : Heap) (t5 : Nat) (v : Value), (∀ b o, h3.get? b = some o → h5.get? b = some o) → (∀ h4, (∀ b o, b ≠ x → h5.get? b = some o → h4.get? b = some o) → GotP hp h4 x true (fun y => ((("self" : Str) :: [("path" : Str)]).zip [Value.ref x, Value.ref u]).reverse.lookup y) [(("path" : Str), ("path" : Str))] [(("path" : Str), v)]) →
        wpAny (model prog w) (A.deeper (ksEnv qual scope hp.objs.size fI (.ref cda) cc)) (eval (.Name "self" q1) (ksEnv qual scope hp.objs.size fI (.ref cda) cc)) (fun ov s₂ => wpAny (model prog w) (A.deeper (ksEnv qual scope hp.objs.size fI (.ref cda) cc)) (setAttr ov "path" v) (fun _ s' => R (.ok (.ret .none)) s') (fun _ _ => False) s₂) (fun _ _ => False) ⟨h5, g, d, t5, os⟩ := fun h5 t5 v k5 G5 =>
      wpAny_Name (wpAny_loadName_local (env := ksEnv qual scope hp.objs.size fI (.ref cda) cc) sk (sloc _ (List.mem_cons_self ..)) (show h5.Ns hp.objs.size _ from ⟨oL, esL, epL, k5 _ _ (kL _ hoL), hrL⟩) nself (one h5 t5 v k5 G5)) (by decide)
    refine wpAny_mono (Q := fun f s' => f = .next ∧ R (.ok (.ret .none)) s') (wpAny_execs_cons (plainObj_wpAny_Assign_Attribute (wpAny_Call_Name_kw (wpAny_Name (ks_loadName_global sk stup (loadGlobal_builtin (env := ksEnv qual scope hp.objs.size fI (.ref cda) cc) hg3 gt1 hb3 bt1 (PyProof.Rows.callWith_type1 (spliced_more (wpAny_Name (wpAny_loadName_local (env := ksEnv qual scope hp.objs.size fI (.ref cda) cc) sk (sloc _ (List.mem_cons_of_mem _ (List.mem_cons_self ..))) ns3 mpath (spliced_none ?_)) (by decide)))))) (by decide))))) ?_ fun _ _ z => z
    · have h3z : ∀ b o, h3.get? b = some o → h3.get? b = some o := fun _ _ e => e
      have gp : ∀ h4 v, (s0p hp h4 x u its v) → GotP hp h4 x true (fun y => ((("self" : Str) :: [("path" : Str)]).zip [Value.ref x, Value.ref u]).reverse.lookup y) [(("path" : Str), ("path" : Str))] [(("path" : Str), v)] := fun h4 v z => by
        unfold GotP
        rw [if_pos rfl]
        exact ⟨u, its, v, rfl, rfl, z⟩
      rcases hu with hu | ⟨hu, hz⟩
      · have hu3 : h3.IsTuple u its := by
          obtain ⟨o, e, r⟩ := hu
          exact ⟨o, kx _ _ ux e, r⟩
        refine call_tuple_same (items := its) hu3 (wpAny_mono (then_ h3 _ (.ref u) h3z fun h4 _ => gp h4 _ (.inl ⟨hu, rfl⟩)) (fun v s' z => wpAny_mono z (fun _ s'' y => wpAny_execs_nil ⟨rfl, y⟩) fun _ _ z => z.elim) fun _ _ z => z.elim)
      · have hu3 : h3.IsList u its := by
          obtain ⟨o, e, r⟩ := hu
          exact ⟨o, kx _ _ ux e, r⟩
        refine call_tuple_list (items := its) hu3 (fun h6 k6 => ?_) hz
        have sz3 : hp.objs.size < h6.objs.size := Heap.lt_size (k6 _ _ (kL _ hoL))
        have tx : h6.objs.size ≠ x := fun z => by
          have := Heap.lt_size (k6 _ _ e3)
          rw [z] at this
          exact Nat.lt_irrefl _ this
        refine wpAny_mono (then_ _ _ (.ref h6.objs.size) (fun b o e => Heap.get?_push_of_some _ (k6 b o e)) fun h4 k4 => gp h4 _ (.inr ⟨hu, h6.objs.size, rfl, Nat.le_of_lt sz3, tx, k4 _ _ tx (Heap.get?_push_size _ rfl)⟩)) (fun v s' z => wpAny_mono z (fun _ s'' y => wpAny_execs_nil ⟨rfl, y⟩) fun _ _ z => z.elim) fun _ _ z => z.elim
    · rintro f s' ⟨rfl, z⟩
      exact z
theorem got_zip {m : Str → Option Value} : ∀ {ps : List Str} {us : List Value} {vs : List (Str × Value)}, us.length = ps.length → (∀ (i : Nat) (p : Str), ps[i]? = some p → m p = us[i]?) → Got m (ps.map fun p => (p, p)) vs → vs = ps.zip us
  | [], us, vs, h, _, g => g
  | p :: ps, [], vs, h, _, g => by cases h
  | p :: ps, u :: us, vs, h, hm, g => by
    obtain ⟨v, r, rfl, e, g⟩ := g
    have e2 := hm 0 p rfl
    simp only [List.getElem?_cons_zero] at e2
    rw [show m p = some v from e] at e2
    cases e2
    rw [got_zip (us := us) (by simpa using h) (fun i q hq => by simpa using hm (i + 1) q (by simpa using hq)) g]
    rfl
theorem made_raw {pt : Bool} (T : XCls K C B newId initId bmB) (I : XIn prog K C fI initId ps (ps.map fun p => (p, p)) pt) {us : List Value} (hus : us.length = ps.length) (X : K.In s.heap) (hg : s.heap.Ns mainGlobals mg) (gs : mg "super" = none) (hb : s.heap.Ns builtinsNs mb) (bs : mb "super" = some (.type "super"))
    (gt : pt = true → mg "tuple" = none ∧ mb "tuple" = some (.type "tuple") ∧ ∃ u its, us = [.ref u] ∧ (s.heap.IsTuple u its ∨ (s.heap.IsList u its ∧ its.size ≤ sizeLine)))
    (hlim : s.heap.NoLimit) (hroom : A.depth + 1 < recursionLimit) (hz : us.length ≤ 1000)
    (hq : ∀ h' tk e dd vs, s.heap.objs.size ≤ e → (∀ b o, s.heap.get? b = some o → h'.get? b = some o) → (∃ t1, h'.get? e = some (exR C t1 dd)) → (match dd with | none => vs = [] | some dx => s.heap.objs.size ≤ dx ∧ dx ≠ e ∧ h'.Ns1 dx fun y => vs.reverse.lookup y) →
      (pt = false → vs = ps.zip us) → (pt = true → ∃ u its v, us = [.ref u] ∧ vs = [(("path" : Str), v)] ∧ s0p s.heap h' e u its v) → R (.ok (.ret (.ref e))) { s with heap := h', toks := tk }) :
    codeAny (model prog w) A (.call (.ref C) ⟨us, []⟩) R s := by
  obtain ⟨nm, q, N, bs', bm, sn, sub, ab, col, dd, k0, k1, k2, k3, k5, hC, hT, hpass⟩ := T.cls
  obtain ⟨hp, g, dr, tk, os⟩ := s
  have k : ∀ b o, hp.get? b = some o → ((hp.push (kdv_tup us)).push (excO C hp.objs.size)).get? b = some o := fun b o e => Heap.get?_push_of_some _ (Heap.get?_push_of_some _ e)
  have hget : ((hp.push (kdv_tup us)).push (excO C hp.objs.size)).get? (hp.objs.size + 1) = some (excO C hp.objs.size) := by heap_get
  have hnx : K.lookup (hp.objs.size + 1) = none := by
    cases e : K.lookup (hp.objs.size + 1) with
    | none => rfl
    | some o =>
      have z : hp.get? (hp.objs.size + 1) = some o := X _ _ e
      exact absurd (Nat.lt_of_succ_lt (Heap.lt_size z)) (Nat.lt_irrefl _)
  refine call_own T.F hT (X _ _ hC) (looks_findIn X I.iC) (fun self => bind_fn X self I.tI) (by rw [sizeLine_eq]; omega) ?_
  have up : ∀ {v : Value} {u : Addr} {its : Array Value} {h' : Heap}, s0p ((hp.push (kdv_tup us)).push (excO C hp.objs.size)) h' (hp.objs.size + 1) u its v → (∃ o, hp.get? u = some o) → s0p hp h' (hp.objs.size + 1) u its v := fun {v u its h'} z ⟨o, e⟩ => by
    have e2 := k _ _ e
    rcases z with ⟨⟨o', q, r⟩, z⟩ | ⟨⟨o', q, r⟩, t, z1, z2, z3, z4⟩
    · rw [e2] at q
      cases q
      exact .inl ⟨⟨o, e, r⟩, z⟩
    · rw [e2] at q
      cases q
      refine .inr ⟨⟨o, e, r⟩, t, z1, ?_, z3, z4⟩
      rw [Heap.size_push, Heap.size_push] at z2
      omega
  refine init_raw (s := ⟨(hp.push (kdv_tup us)).push (excO C hp.objs.size), g, dr, tk, os⟩) T I (t0 := hp.objs.size) hus (X.keeps k) (hg.keeps k) gs (hb.keeps k) bs (fun e => ?_) (hlim.keeps k) hget hnx hroom fun h' tk' dd vs M G => ?_
  · obtain ⟨g1, g2, u, its, g3, g4⟩ := gt e
    refine ⟨g1, g2, u, its, g3, ?_⟩
    rcases g4 with ⟨o, e1, r⟩ | ⟨⟨o, e1, r⟩, hz⟩
    · exact .inl ⟨o, k _ _ e1, r⟩
    · exact .inr ⟨⟨o, k _ _ e1, r⟩, hz⟩
  have old : ∀ b o, hp.get? b = some o → h'.get? b = some o := fun b o e => M.keep b o (Nat.ne_of_lt (Nat.lt_succ_of_lt (Heap.lt_size e))) (k b o e)
  refine ⟨rfl, hq h' tk' (hp.objs.size + 1) dd vs (Nat.le_succ _) old M.obj ?_ (fun e => ?_) fun e => ?_⟩
  · have dct := M.dct
    cases dd with
    | none => exact dct
    | some dx =>
      obtain ⟨a1, a2, a3⟩ := dct
      have z : hp.objs.size + 1 + 1 ≤ dx := by
        have q := a1
        rw [Heap.size_push, Heap.size_push] at q
        exact q
      exact ⟨Nat.le_trans (Nat.le_trans (Nat.le_succ _) (Nat.le_succ _)) z, a2, a3⟩
  · subst e
    refine got_zip (m := fun y => ((("self" : Str) :: ps).zip (.ref (hp.objs.size + 1) :: us)).reverse.lookup y) hus (fun i p hi => ?_) ?_
    · have hlt : i < us.length := by rw [hus]; exact (List.getElem?_eq_some_iff.mp hi).1
      rw [List.getElem?_eq_getElem hlt]
      exact NdefX.zip_look (i := i + 1) I.nodup (by simpa using hi) (by simp [hlt])
    · unfold GotP at G
      rw [if_neg (by decide)] at G
      exact G
  · subst e
    unfold GotP at G
    rw [if_pos rfl] at G
    obtain ⟨u, its, v, e1, e2, e3⟩ := G
    obtain ⟨_, _, u', its', e4, e5⟩ := gt rfl
    obtain ⟨eps, _⟩ := I.pth rfl
    subst e4
    subst eps
    have e1 : some (Value.ref u') = some (.ref u) := e1
    cases e1
    refine ⟨u, its, v, rfl, e2, up e3 ?_⟩
    rcases e5 with ⟨o, e1, r⟩ | ⟨⟨o, e1, r⟩, _⟩
    · exact ⟨o, e1⟩
    · exact ⟨o, e1⟩
end
end XI
section
open PySem PySem.W PySem.Calls PyProof.Rows PySem.HandSPX L2
theorem lookup_zip_none {α : Type} {f : Str} : ∀ {ps : List Str} {us : List α}, f ∉ ps → (ps.zip us).lookup f = none
  | [], us, h => rfl
  | p :: ps, [], h => rfl
  | p :: ps, u :: us, h => by
    have e : (f == p) = false := by
      have : f ≠ p := fun z => h (by rw [z]; exact List.mem_cons_self ..)
      simpa using this
    rw [List.zip_cons_cons, List.lookup_cons, e]
    exact lookup_zip_none fun z => h (List.mem_cons_of_mem _ z)
theorem lookup_zip_some {α : Type} {f : Str} : ∀ {ps : List Str} {us : List α} {i : Nat} {u : α}, ps.Nodup → ps[i]? = some f → us[i]? = some u → (ps.zip us).lookup f = some u
  | [], us, i, u, _, h, _ => by simp at h
  | p :: ps, [], i, u, _, _, h => by simp at h
  | p :: ps, v :: us, 0, u, nd, h1, h2 => by
    simp at h1 h2
    subst h1
    subst h2
    simp [List.lookup]
  | p :: ps, v :: us, i + 1, u, nd, h1, h2 => by
    have hm : f ∈ ps := List.mem_of_getElem? (by simpa using h1)
    have e : (f == p) = false := by
      have : f ≠ p := fun z => (List.nodup_cons.mp nd).1 (by rw [← z]; exact hm)
      simpa using this
    rw [List.zip_cons_cons, List.lookup_cons, e]
    exact lookup_zip_some (i := i) (List.nodup_cons.mp nd).2 (by simpa using h1) (by simpa using h2)
theorem lookup_rev_none {f : Str} {l : List (Str × Value)} (h : ∀ v, (f, v) ∉ l) : l.reverse.lookup f = none := by
  cases e : l.reverse.lookup f with
  | none => rfl
  | some v => exact absurd (List.mem_reverse.mp (PySem.mem_of_lookup e)) (h v)
theorem rel_zip {ps : List Str} {vs : List V} {us : List Value} (nd : ps.Nodup) (r : Vals vs us) (hl : us.length = ps.length) (f : Str) : RelO ((ps.zip vs).lookup f) ((ps.zip us).reverse.lookup f) := by
  by_cases hf : f ∈ ps
  · obtain ⟨i, hi⟩ := List.mem_iff_getElem?.mp hf
    have hlt : i < us.length := by rw [hl]; exact (List.getElem?_eq_some_iff.mp hi).1
    have hv : vs[i]? = some (vs[i]'(by rw [r.length]; exact hlt)) := by simp
    obtain ⟨u, hu, rv⟩ := r.get hv
    rw [lookup_zip_some nd hi hv, NdefX.zip_look nd hi hu]
    exact rv
  · rw [lookup_zip_none hf, lookup_rev_none fun v hv => hf (List.of_mem_zip hv).1]
    trivial
theorem zip_nil {ps : List Str} {us : List Value} (h : us.length = ps.length) (e : ps.zip us = []) : ps = [] := by
  cases ps with
  | nil => rfl
  | cons p ps => cases us with
    | nil => cases h
    | cons u us => cases e
/-- C(e, ..): a new exception; its dict -/
def tMkX (C : Addr) (ps : List Str) (ta : TA) : L2.St → Hp → XK → Prop := fun σ H Q => ta σ H fun vs H1 => vs.length = ps.length ∧ (ps = [] → Q (.ref C) none H1) ∧ ∀ d, H1 d = none → Q (.ref C) (some d) (upd H1 d (.xd (ps.zip vs)))
structure XC (P : Program) (K : Frag) (mg : Str → Option Value) (x : Str) (C : Addr) (ps : List Str) : Prop where
  ex : ∃ fI B newId initId bmB, XI.XCls K C B newId initId bmB ∧ XI.XIn P K C fI initId ps (ps.map fun p => (p, p)) false
  gC : mg x = some (.ref C)
  gs : mg "super" = none
  few : ps.length ≤ 1000
variable {X : Cx} {x : Str} {C : Addr} {ps : List Str} {k : Nat} {p pos : Pos} {e : Expr} {es : List Expr} {ta : TA}
theorem pmk_X (T : XC X.prog X.K X.mg x C ps) (hr : Room k X.A) (ha : PA X (e :: es) ta) (hg : Gl X x := by rfl) (hdb : (x == ("__debug__" : Str)) = false := by decide)
    (he : starEach (e :: es) X.env = (false, eval e X.env) :: starEach es X.env := by rfl) (hpl : (backTo pos (starEach es X.env)).any (·.1) = false := by rfl) :
    PMk X (.Call (.Name x p) (e :: es) [] pos) (tMkX C ps ta) := by
  intro pins s σ H Q I h
  obtain ⟨fI, B, newId, initId, bmB, TC, TI⟩ := T.ex
  refine wpAny_Call_Name_kw (ld_glob I hg T.gC ?_ hdb)
  refine PySem.W.callWith_K (h₀ := X.base) I.ok.mod.kin TC.kC (thn (ha.run pos pins s σ H _ I h) fun us s1 hh => ?_) he hpl
  obtain ⟨vs, H1, I1, r1, hl, q0, q1⟩ := hh
  have hus : us.length = ps.length := by rw [← r1.length]; exact hl
  refine ⟨I1.kIn, ?_⟩
  show wpAny _ _ (call (.ref C) us) _ _ _
  obtain ⟨mb, hb1, hb2⟩ := I1.mod.blt
  have hlim := I1.nolimit
  have bk := I1.bk
  have kin := I1.kIn
  obtain ⟨hp, g, dr, tk, os⟩ := s1
  refine wpAny_call (XI.made_raw TC TI hus kin (I1.mod.glob.keeps bk) T.gs (hb1.keeps bk) ((hb2 "super" (by decide)).trans (by decide +kernel)) (fun z => by cases z) hlim (by have := hr.dp; omega) (by have := T.few; omega) fun h' tk' e dd ws hnew keep hoe hdd ew _ => ?_)
  have ew := ew rfl
  show MkP X pins σ Q (.ref e) ⟨h', g, dr, tk', os⟩
  obtain ⟨t1, hoe⟩ := hoe
  obtain ⟨G', g1, g2⟩ := restrict h' fun b => decide (b ≠ e)
  have gk : ∀ b, b ≠ e → G'.get? b = h'.get? b := fun b hb => g1 b (decide_eq_true hb)
  have ge : G'.get? e = none := g2 e (by simp)
  have old : ∀ b o, hp.get? b = some o → G'.get? b = some o := fun b o q => (gk b (Nat.ne_of_lt (Nat.lt_of_lt_of_le (Heap.lt_size q) hnew))).trans (keep b o q)
  have up : ∀ b o, G'.get? b = some o → h'.get? b = some o := fun b o q => by
    by_cases hb : b = e
    · rw [hb, ge] at q; cases q
    · exact (gk b hb).symm.trans q
  have ne : H1 e = none := I1.hok.fresh hnew
  cases dd with
  | none =>
    have J : Inv X pins σ H1 ⟨G', g, dr, tk', os⟩ := I1.kept (t' := tk') old
    have eps : ps = [] := zip_nil hus (ew ▸ hdd)
    exact ⟨e, _, _, ⟨G', g, dr, tk', os⟩, _, .ref C, none, rfl, J, up, ge, hoe, ⟨rfl, rfl⟩, rfl, rfl, ne, rfl, I1.bare, raises_own TC.exC TC.tyC, q0 eps⟩
  | some d =>
    obtain ⟨dbig, dne, hns⟩ := hdd
    rw [ew] at hns
    have ob : ObjOk X.prog X.w (upd H1 d (.xd (ps.zip vs))) G' d (.xd (ps.zip vs)) := ⟨_, hns.at (fun o q => (gk d dne).trans q), fun f => rel_zip (List.nodup_cons.mp TI.nodup).2 r1 hus f⟩
    have J : Inv X pins σ (upd H1 d (.xd (ps.zip vs))) ⟨G', g, dr, tk', os⟩ := I1.laid (t' := tk') old dbig ob
    exact ⟨e, _, _, ⟨G', g, dr, tk', os⟩, _, .ref C, some d, rfl, J, up, ge, hoe, ⟨rfl, rfl⟩, rfl, rfl, by rw [upd_ne (Ne.symm dne)]; exact ne, rfl, I1.bare, raises_own TC.exC TC.tyC, q1 d (I1.hok.fresh dbig)⟩
end
end Bc

/-! Core X: defs that raise, calls of them, try .. except .. as .. -/
namespace Bc
open PySem L2 PySem.Spec PyProof.Rows
abbrev FX := Option (List (Str × D))
abbrev RX1 := List D → Value → FX → Prop
def SpX (src fr : Bool) (R : List D → D → Prop) (RX : RX1) : Sp := fun vs H Q E => ∃ F S ds, Okw F S H ∧ ArgOk src F S vs ds ∧ ((∃ d, R ds d) ∨ ∃ c f, RX ds c f) ∧ (∀ d v S' H', R ds d → Giv fr F S H d v S' H' → Q v H') ∧
  ∀ c f d S' H', RX ds c f → Gr F S H S' H' → XdAt S' d f → E c d H'
/-- which slots are told -/
def Hm : List (Option D) → List Sl → Prop
  | [], Δ => Δ = []
  | Option.none :: l, Δ => ∃ s r, Δ = s :: r ∧ Hm l r
  | some d :: l, Δ => ∃ r, Δ = .v d :: r ∧ Hm l r
theorem Hm.len : ∀ {l : List (Option D)} {Δ : List Sl}, Hm l Δ → Δ.length = l.length
  | [], Δ, h => by rw [show Δ = [] from h]; rfl
  | Option.none :: l, Δ, h => by
    obtain ⟨s, r, rfl, h⟩ := h
    rw [List.length_cons, List.length_cons, h.len]
  | some d :: l, Δ, h => by
    obtain ⟨r, rfl, h⟩ := h
    rw [List.length_cons, List.length_cons, h.len]
theorem Hm.get : ∀ {l : List (Option D)} {Δ : List Sl} {i : Nat} {d : D}, Hm l Δ → l[i]? = some (some d) → Δ[i]? = some (.v d)
  | [], Δ, i, d, h, e => by simp at e
  | Option.none :: l, Δ, 0, d, h, e => by simp at e
  | Option.none :: l, Δ, i + 1, d, h, e => by
    obtain ⟨s, r, rfl, h⟩ := h
    simpa using Hm.get h (by simpa using e)
  | some x :: l, Δ, 0, d, h, e => by
    obtain ⟨r, rfl, h⟩ := h
    simp at e
    subst e
    rfl
  | some x :: l, Δ, i + 1, d, h, e => by
    obtain ⟨r, rfl, h⟩ := h
    simpa using Hm.get h (by simpa using e)
theorem hm_none : ∀ {Δ : List Sl} {n : Nat}, Δ.length = n → Hm (List.replicate n Option.none) Δ
  | [], n, h => by
    subst h
    rfl
  | s :: r, n, h => by
    subst h
    exact ⟨s, r, rfl, hm_none rfl⟩
section
variable {F : Fp} {fr : Bool} {Δ : List Sl} {ta : TA} {R : List D → D → Prop} {RX : RX1} {W : WX} {PX : Value → FX → Prop} {l : List (Option D)} {ix : Nat}
/-- an exception goes its way -/
theorem xc_go {H0 S H S' H' : Hp} {σ : L2.St} {c : Value} {d : Option Addr} {f : FX} (t : StD F S H H0 σ Δ) (hx : Δ[ix]? = some (.xc W PX l)) (hm : Hm l Δ) (hp : PX c f) (g : Gr F S H S' H') (a : XdAt S' d f) : W c d σ H' := by
  obtain ⟨x, _, h⟩ := t.ok ix _ hx
  have h : XcOk F S H H0 W PX l := h
  refine h.go S' H' c d f σ (g.w h.hd) hp a (by rw [t.len, hm.len]) fun i y e => ?_
  obtain ⟨z, e1, h1⟩ := t.get (hm.get e)
  exact ⟨z, e1, h1.mono g.s⟩
theorem ev_callX {Pa : List D → Prop} (hx : Δ[ix]? = some (.xc W PX l)) (hm : Hm l Δ) (h : EvA F ta Δ Pa) (hR : ∀ ds, Pa ds → (∃ d, R ds d) ∨ ∃ c f, RX ds c f) (hp : ∀ ds c f, Pa ds → RX ds c f → PX c f) :
    EvR F (tCallS (SpX false false R RX) (WE W) ta) Δ fun d => ∃ ds, Pa ds ∧ R ds d := fun H0 S H σ w t Q k =>
  h H0 S H σ w t _ fun ds vs S' H' p g hd =>
    ⟨Option.none, S', ds, (g.ok w).base, ⟨rfl, hd⟩, hR ds p, fun d v S2 H2 r gv => k d v S2 H2 ⟨ds, p, r⟩ (g.trans gv.g.up) (gv.vl rfl), fun c f d S2 H2 r g2 a => xc_go t hx hm (hp ds c f p r) (g.trans g2.up) a⟩
theorem ef_callX {Pa : List D → Prop} (hx : Δ[ix]? = some (.xc W PX l)) (hm : Hm l Δ) (h : EvA F ta Δ Pa) (hR : ∀ ds, Pa ds → (∃ d, R ds d) ∨ ∃ c f, RX ds c f) (hp : ∀ ds c f, Pa ds → RX ds c f → PX c f) :
    EvF F (tCallS (SpX false true R RX) (WE W) ta) Δ fun es => ∃ ds, Pa ds ∧ R ds (.list es) := fun H0 S H σ w t Q k =>
  h H0 S H σ w t _ fun ds vs S' H' p g hd => by
    refine ⟨Option.none, S', ds, (g.ok w).base, ⟨rfl, hd⟩, hR ds p, fun d v S2 H2 r gv => ?_, fun c f d S2 H2 r g2 a => xc_go t hx hm (hp ds c f p r) (g.trans g2.up) a⟩
    obtain ⟨es, q, xs, e1, e2, e3, e4, e5, e6⟩ := gv.f rfl
    subst e1
    subst e2
    refine k es q xs S2 H2 ⟨ds, p, r⟩ (g.trans gv.g.up) ?_ e3 e4 e6
    cases e : H q with
    | none => rfl
    | some o =>
      obtain ⟨o', e'⟩ := g.m q o e
      rw [e5] at e'
      cases e'
theorem ev_callX1 {ds : List D} {d : D} (hx : Δ[ix]? = some (.xc W PX l)) (hm : Hm l Δ) (h : EvA F ta Δ fun r => r = ds) (hR : R ds d) (hu : ∀ e, R ds e → e = d) (hp : ∀ c f, RX ds c f → PX c f) : Ev1 F (tCallS (SpX false false R RX) (WE W) ta) Δ d :=
  (ev_callX hx hm h (fun _ e => .inl (e ▸ ⟨d, hR⟩)) fun _ c f e r => hp c f (e ▸ r)).imp fun e ⟨_, e1, e2⟩ => hu e (e1 ▸ e2)
theorem dtf_zip {S : Hp} : ∀ {ps : List Str} {ds : List D} {vs : List V}, DtL S ds vs → DtF S (ps.zip ds) (ps.zip vs)
  | [], ds, vs, h => by simp [DtF]
  | p :: ps, [], vs, h => by
    simp only [DtL] at h
    subst h
    simp [DtF]
  | p :: ps, d :: ds, vs, h => by
    simp only [DtL] at h
    obtain ⟨x, ys, rfl, h1, h2⟩ := h
    simp only [List.zip_cons_cons, DtF]
    exact ⟨x, ps.zip ys, rfl, h1, dtf_zip h2⟩
/-- raise C(e, ..) -/
theorem run_raise {po : Po} {C : Addr} {ps : List Str} {Pa : List D → Prop} (hx : Δ[ix]? = some (.xc W PX l)) (hm : Hm l Δ) (h : EvA F ta Δ Pa) (hl : ∀ ds, Pa ds → ds.length = ps.length) (hne : ps ≠ []) (hp : ∀ ds, Pa ds → PX (.ref C) (some (ps.zip ds))) :
    Run F fr (fun _ σ H => tMkX C ps ta σ H fun cls d H' => W cls d σ H') Δ po := fun S0 H0 B S H σ E w g st r =>
  h H0 S H σ w st _ fun ds vs S' H' p g' hd => by
    refine ⟨by rw [← hd.len, hl ds p], fun e => absurd e hne, fun d hn => ?_⟩
    have hs : S' d = Option.none := Same.free g'.h hn
    refine xc_go st hx hm (hp ds p) (g'.trans (Gr.newD (o := .xd (ps.zip vs)) g'.h hn)) ⟨d, ps.zip vs, rfl, upd_same, ?_⟩
    exact DtF.mono (fun x u e => by rw [upd_ne (ne_of_none e hs)]; exact e) _ _ (dtf_zip hd)
end
theorem StD.put {F : Fp} {S H H0 : Hp} {σ : L2.St} {Δ : List Sl} (t : StD F S H H0 σ Δ) {i : Nat} {s : Sl} (h : ∀ x, SlOk F S H H0 s x) (hn : ∀ ds, s ≠ .own ds) : StD F S H H0 σ (Δ.set i s) := by
  refine ⟨by rw [t.len]; simp, fun j s' e => ?_, fun j k ds es p e1 e2 f1 f2 => ?_, t.fh⟩
  · have hj : j < Δ.length := by
      have := (List.getElem?_eq_some_iff.mp e).1
      simpa using this
    by_cases hji : j = i
    · subst hji
      rw [List.getElem?_set_self hj] at e
      cases e
      have hjs : j < σ.length := by rw [t.len]; exact hj
      exact ⟨σ[j], by simp [hjs], h _⟩
    · rw [List.getElem?_set_ne (Ne.symm hji)] at e
      exact t.ok j s' e
  · have hj : j ≠ i := fun z => by
      subst z
      have := (List.getElem?_eq_some_iff.mp e1).1
      rw [List.getElem?_set_self (by simpa using this)] at e1
      cases e1
      exact hn _ rfl
    have hk : k ≠ i := fun z => by
      subst z
      have := (List.getElem?_eq_some_iff.mp e2).1
      rw [List.getElem?_set_self (by simpa using this)] at e2
      cases e2
      exact hn _ rfl
    rw [List.getElem?_set_ne (Ne.symm hj)] at e1
    rw [List.getElem?_set_ne (Ne.symm hk)] at e2
    exact t.nd j k ds es p e1 e2 f1 f2
abbrev WOf (E : XK) : WX := fun c d _ H => E c d H
/-- the slots at the entry of a def that raises: the last one is the way out -/
def iniX (E : XK) (src : Bool) (n : Nat) (ds : List D) (PX : Value → FX → Prop) : List Sl := (ini src n ds).set (n - 1) (.xc (WOf E) PX (List.replicate n Option.none))
structure FnTX (P : Program) (w : World) (K : PySem.W.Frag) (mg : Str → Option Value) (base : Heap) (k : Nat) (x : Str) (ps : List Str) (sp : Sp) : Prop where
  ex : ∃ f fd, mg x = some (.ref f) ∧ PySem.W.keepIn K (.ref f) = true ∧ Binds K fd ps [] ∧ FnOk P w K mg base (L2.CX P w) k f fd ps sp
section
variable {P : Program} {w : World} {K : PySem.W.Frag} {mg : Str → Option Value} {base : Heap}
theorem ok_X {x qual : Str} {st : Stmt} {f : Addr} {fd : FuncData} {N ps : List Str} {k : Nat} {src fr : Bool} {R : List D → D → Prop} {RX : RX1} (Fu : Fun K x qual st f fd) (S : FnScope N ps (defScope st)) (hl : ∀ ds, ((∃ d, R ds d) ∨ ∃ c f, RX ds c f) → ds.length + (if src then 1 else 0) = ps.length)
    (hbody : ∀ (cdv : Value) (A : Around) (outer : List Env) (s : Shared) (H : Hp) (E : XK), Room k (A.deeper (envOfC qual (defScope st) s.heap.objs.size f cdv)) →
      Takes (cxOf (L2.CX P w) P w K mg base N qual (defScope st) f cdv A outer s H E) (WOf E) →
      ∃ t, PSs (cxOf (L2.CX P w) P w K mg base N qual (defScope st) f cdv A outer s H E) (defBody st) t ∧ ∀ F ds, (src = false → F = Option.none) → ((∃ d, R ds d) ∨ ∃ c f, RX ds c f) → Run F fr t (iniX E src N.length ds (RX ds)) { nx := fun _ => fr = false ∧ R ds .none, rt := R ds }) :
    FnOk P w K mg base (L2.CX P w) (k + 1) f fd ps (SpX src fr R RX) := by
  have hps : ps.length ≤ N.length := by
    have := congrArg List.length S.pre
    rw [List.length_take] at this
    omega
  refine Fu.okX S (fun vs H Q E h => ?_) (fun cdv A outer s H vs Q E hr h => ?_)
  · obtain ⟨F, S', ds, _, a, r, _⟩ := h
    rw [arg_len a]
    exact hl ds r
  · obtain ⟨F, S', ds, w', a, r, hk, hx⟩ := h
    obtain ⟨t, ht, hrun⟩ := hbody cdv A outer s H E hr (takes_of rfl rfl rfl rfl)
    have st0 := st_ini (N := N) w' a (by rw [arg_len a, hl ds r]; exact hps)
    have st1 : StD F S' H H (L2.start N vs) (iniX E src N.length ds (RX ds)) := st0.put (fun y => show XcOk F S' H H _ _ _ from
      ⟨fun x o e => ⟨o, e⟩, fun S2 H2 c d f σ g p a2 _ _ => hx c f d S2 H2 p ⟨g.s, g.h, g.n, fun x o nf e => g.k x o o nf e e, g.m, g.src⟩ a2⟩) (fun _ z => by cases z)
    refine ⟨t, ht, hrun F ds (fun e => by subst e; exact a.1) r S' H S' S' H _ _ w' ⟨Gr.refl w'.s, Same.refl _⟩ st1 ⟨?_, ?_, fun _ _ _ _ z => z.elim, fun _ _ _ _ z => z.elim⟩⟩
    · exact fun Δ S2 H2 σ n w2 g2 _ => hk .none .non S2 H2 n.2 ⟨g2.g, fun _ => by simp only [Dt], fun e => by rw [n.1] at e; cases e⟩
    · exact fun d v _ S2 H2 _ q _ _ _ gv => hk d v S2 H2 q gv
end
section
variable {X : Cx} {k : Nat} {x : Str} {ps : List Str} {sp : Sp} {e : Expr} {es : List Expr} {t : TA} {p pos : Pos} {W : WX}
theorem pe_callTX (tk : Takes X W) (G : FnTX X.prog X.w X.K X.mg X.base k x ps sp) (hr : Room k X.A) (ha : PA X (e :: es) t) (hg : Gl X x := by rfl)
    (hdb : (x == ("__debug__" : Str)) = false := by decide) (he : starEach (e :: es) X.env = (false, eval e X.env) :: starEach es X.env := by rfl) (hpl : (backTo pos (starEach es X.env)).any (·.1) = false := by rfl) :
    PE X (.Call (.Name x p) (e :: es) [] pos) (tCallS sp (WE W) t) := by
  obtain ⟨f, fd, h1, h2, h3, h4⟩ := G.ex
  exact pe_callS h4 hr hg h1 h2 h3 (fun σ => passAt tk σ) ha hdb he hpl
end
/-- the slots that a handler knows -/
def hdl (l : List (Option D)) : List Sl := l.map fun o => match o with | some d => .v d | Option.none => .un
theorem std_hdl {F : Fp} {S H H0 : Hp} {σ : L2.St} {l : List (Option D)} (fh : ∀ x, fp F x → ∃ o, H0 x = some o) (hl : σ.length = l.length) (h : ∀ (i : Nat) (x : D), l[i]? = some (some x) → ∃ y, σ[i]? = some (some y) ∧ Dt S x y) : StD F S H H0 σ (hdl l) := by
  refine ⟨by simp [hdl, hl], fun j s e => ?_, fun j k ds es p e1 _ _ _ => ?_, fh⟩
  · rw [hdl, List.getElem?_map, Option.map_eq_some_iff] at e
    obtain ⟨o, e1, e2⟩ := e
    cases o with
    | none =>
      subst e2
      have hj : j < σ.length := by rw [hl]; exact (List.getElem?_eq_some_iff.mp e1).1
      exact ⟨σ[j], by simp [hj], trivial⟩
    | some d =>
      subst e2
      obtain ⟨y, e3, h3⟩ := h j d e1
      exact ⟨_, e3, y, rfl, h3⟩
  · rw [hdl, List.getElem?_map, Option.map_eq_some_iff] at e1
    obtain ⟨o, _, e2⟩ := e1
    cases o <;> cases e2
theorem StD.gone {F : Fp} {S H H0 : Hp} {σ : L2.St} {Δ : List Sl} (t : StD F S H H0 σ Δ) (i : Nat) : StD F S H H0 (σ.set i Option.none) (Δ.set i .un) := by
  refine ⟨by simp [t.len], fun j s e => ?_, fun j k ds es p e1 e2 f1 f2 => ?_, t.fh⟩
  · by_cases hj : j = i
    · subst hj
      have hlt := (List.getElem?_eq_some_iff.mp e).1
      have hlt : j < Δ.length := by simpa using hlt
      rw [List.getElem?_set_self hlt] at e
      cases e
      exact ⟨_, List.getElem?_set_self (by rw [t.len]; exact hlt), trivial⟩
    · rw [List.getElem?_set_ne (Ne.symm hj)] at e ⊢
      exact t.ok j s e
  · have hj : j ≠ i := fun z => by
      subst z
      have := (List.getElem?_eq_some_iff.mp e1).1
      rw [List.getElem?_set_self (by simpa using this)] at e1
      cases e1
    have hk : k ≠ i := fun z => by
      subst z
      have := (List.getElem?_eq_some_iff.mp e2).1
      rw [List.getElem?_set_self (by simpa using this)] at e2
      cases e2
    rw [List.getElem?_set_ne (Ne.symm hj)] at e1 f1
    rw [List.getElem?_set_ne (Ne.symm hk)] at e2 f2
    exact t.nd j k ds es p e1 e2 f1 f2
def tTry (K : PySem.W.Frag) (c0 : Value) (i : Nat) (tb : WX → TS) (ts : Addr → Value → Option Addr → TS) (Wout : WX) : TS := fun D σ H => tb (wAs K c0 i ts Wout D) D σ H
theorem ps_tryA {X : Cx} {x n : Str} {c : Value} {i : Nat} {body suite : List Stmt} {b₀ : Stmt} {np pos pos' : Pos} {tb : WX → TS} {ts : Addr → Value → Option Addr → TS} {Wout : WX} (hs : X.stack = X.env :: X.outer) (hf : X.env.frame = some X.env.locals) (hN : X.N.Nodup) (hi : X.N[i]? = some n) (hln : X.env.kindOf n = some .local) (hc : Names X x c) (tk : Takes X Wout)
    (hb : ∀ (W : WX) (pn : List (Addr × Obj)) (xe : Value → Shared → Prop), Takes (X.tr pn xe) W → PassesOwn (model X.prog X.w) X.A X.env xe → PSs (X.tr pn xe) body (tb W))
    (hsu : ∀ (a : Addr) (oe : Obj) (cls : Value) (d : Option Addr) (pn : List (Addr × Obj)), Zc cls d oe → (∃ vs, oe.data = .fields vs) → PSs (X.suite a ((a, oe) :: pn)) (b₀ :: suite) (ts a cls d)) :
    PS X (.Try body [.ExceptHandler (some (.Name x np)) (some n) (b₀ :: suite) pos'] [] [] pos) (tTry X.K c i tb ts Wout) := ps_try_as hs hf hN hi hln hc tk hb hsu
section
variable {F : Fp} {fr : Bool} {Δ : List Sl} {po : Po} {K : PySem.W.Frag} {c0 : Value} {i ix : Nat} {tb : WX → TS} {ts : Addr → Value → Option Addr → TS} {Wout : WX}
/-- try: .. except c0 as x: .. (x in slot i; slot ix is the way out) -/
theorem run_try (PX : Value → FX → Prop) (l : List (Option D)) (hno : ∀ c, ¬ PX c Option.none) (hc : ∀ c f, PX c f → PySem.W.exmOne K c c0 = some true)
    (hb : ∀ W, Run F fr (tb W) (Δ.set ix (.xc W PX l)) { nx := fun Δ' => po.nx (Δ'.set ix .un), rt := po.rt, ro := fun d Δ' => po.ro d (Δ'.set ix .un), bk := fun Δ' => po.bk (Δ'.set ix .un), ct := fun Δ' => po.ct (Δ'.set ix .un) })
    (hs : ∀ a c dd fs, PX c (some fs) → Run F fr (ts a c (some dd)) (((hdl l).set i (.v (.ref a))).set ix (.fz dd fs)) { nx := fun Δ' => po.nx ((Δ'.set i .un).set ix .un), rt := po.rt, ro := fun d Δ' => po.ro d (Δ'.set ix .un), bk := fun Δ' => po.bk ((Δ'.set i .un).set ix .un), ct := fun Δ' => po.ct ((Δ'.set i .un).set ix .un) }) :
    Run F fr (tTry K c0 i tb ts Wout) Δ po := fun S0 H0 B S H σ E w gb st r => by
  have un : ∀ {S H : Hp} {σ : L2.St} {Δ' : List Sl}, StD F S H H0 σ Δ' → StD F S H H0 σ (Δ'.set ix .un) := fun t => t.put (fun _ => trivial) fun _ z => by cases z
  refine hb (wAs K c0 i ts Wout E) S0 H0 B S H σ E w gb (st.put (fun y => show XcOk F S H H0 _ _ _ from ⟨gb.g.m, ?_⟩) fun _ z => by cases z)
    ⟨fun Δ' S' H' σ' n w' g' t => r.nx _ S' H' σ' n w' g' (un t), fun d v Δ' S' H' σ' a b w' t gv => r.rt d v _ S' H' σ' a b w' (un t) gv, fun Δ' S' H' σ' n w' g' t => r.bk _ S' H' σ' n w' g' (un t), fun Δ' S' H' σ' n w' g' t => r.ct _ S' H' σ' n w' g' (un t)⟩
  intro S' H' c d f σ' gw px xd hlen hsl
  refine ⟨true, hc c f px, fun _ a ha => ?_, fun z => nomatch z⟩
  cases f with
  | none => exact absurd px (hno c)
  | some fs =>
    obtain ⟨dd, vs, rfl, hd, hf⟩ := xd
    have t1 : StD F S' H' H0 σ' (hdl l) := std_hdl st.fh hlen hsl
    have t2 : StD F S' H' H0 (σ'.set i (some (.ref a))) (((hdl l).set i (.v (.ref a))).set ix (.fz dd fs)) := (t1.setV (i := i) (v := .ref a) (d := .ref a) (by simp only [Dt])).put (fun y => show ∃ vs, _ from ⟨vs, hd, hf⟩) fun _ z => by cases z
    refine hs a c dd fs px S0 H0 B S' H' _ _ (gw.ok w st.fh) ⟨gw.gr gb.g, gb.b.trans gw.s⟩ t2 ⟨?_, fun d v Δ' S' H' σ' a b w' t gv => r.rt d v _ S' H' σ' a b w' (un t) gv, ?_, ?_⟩
    · exact fun Δ' S2 H2 σ2 n w2 g2 t => r.nx _ S2 H2 _ n w2 g2 (un (t.gone i))
    · exact fun Δ' S2 H2 σ2 n w2 g2 t => r.bk _ S2 H2 _ n w2 g2 (un (t.gone i))
    · exact fun Δ' S2 H2 σ2 n w2 g2 t => r.ct _ S2 H2 _ n w2 g2 (un (t.gone i))
/-- x.f, x the caught exception -/
theorem ev_xf {a C dd : Addr} {fs : List (Str × D)} {f : Str} {d : D} {te : TE} (hx : Δ[ix]? = some (.fz dd fs)) (h : Ev1 F te Δ (.ref a)) (hf : fs.lookup f = some d) : Ev1 F (tXf a (.ref C) (some dd) C f te) Δ d := fun H0 S H σ w t Q k =>
  h H0 S H σ w t _ fun y v S' H' e g hd => by
    subst e
    simp only [Dt] at hd
    refine ⟨hd, rfl, ?_⟩
    obtain ⟨x, _, vs, e1, e2⟩ := (t.mono g).ok ix _ hx
    have key : ∀ {fs : List (Str × D)} {vs : List (Str × V)}, DtF S' fs vs → fs.lookup f = some d → ∃ u, vs.lookup f = some u ∧ Dt S' d u := by
      intro fs
      induction fs with
      | nil => intro vs _ e; cases e
      | cons p fs ih =>
        intro vs h e
        obtain ⟨n, q⟩ := p
        simp only [DtF] at h
        obtain ⟨u, us, rfl, h1, h2⟩ := h
        rw [List.lookup_cons] at e ⊢
        by_cases hn : f = n
        · subst hn
          simp only [beq_self_eq_true] at e ⊢
          cases e
          exact ⟨u, rfl, h1⟩
        · have hn' : (f == n) = false := by simpa using hn
          rw [hn'] at e ⊢
          exact ih h2 e
    obtain ⟨u, e3, h3⟩ := key e2 hf
    exact ⟨dd, vs, u, rfl, g.h _ _ e1, e3, k d u S' H' rfl g h3⟩
end
end Bc

/-! Core O: objects that a def changes; expressions that change them. -/
namespace Bc
open PySem L2 PySem.Spec PyProof.Rows
abbrev FS := List (Str × D)
def Dm (H0 H : Hp) : Prop := ∀ x o, H0 x = some o → ∃ o', H x = some o'
section
variable (F : Fp)
def EvM (te : TE) (Δ : List Sl) (P : D → List Sl → Prop) : Prop := ∀ (H0 S H : Hp) (σ : L2.St), Okw F S H → StD F S H H0 σ Δ → Dm H0 H → ∀ Q : VK, (∀ d v S' H' Δ', P d Δ' → Okw F S' H' → Gw F H0 S H S' H' → StD F S' H' H0 σ Δ' → Dt S' d v → Q v H') → te σ H Q
def EvTM (tt : TT) (Δ : List Sl) (P : Bool → List Sl → Prop) : Prop := ∀ (H0 S H : Hp) (σ : L2.St), Okw F S H → StD F S H H0 σ Δ → Dm H0 H → ∀ Q : Bool → Hp → Prop, (∀ b S' H' Δ', P b Δ' → Okw F S' H' → Gw F H0 S H S' H' → StD F S' H' H0 σ Δ' → Q b H') → tt σ H Q
def EvAM (ta : TA) (Δ : List Sl) (P : List D → List Sl → Prop) : Prop := ∀ (H0 S H : Hp) (σ : L2.St), Okw F S H → StD F S H H0 σ Δ → Dm H0 H → ∀ Q : List V → Hp → Prop, (∀ ds vs S' H' Δ', P ds Δ' → Okw F S' H' → Gw F H0 S H S' H' → StD F S' H' H0 σ Δ' → DtL S' ds vs → Q vs H') → ta σ H Q
/-- a new list -/
def EvFM (te : TE) (Δ : List Sl) (P : List D → List Sl → Prop) : Prop := ∀ (H0 S H : Hp) (σ : L2.St), Okw F S H → StD F S H H0 σ Δ → Dm H0 H → ∀ Q : VK, (∀ ds p xs S' H' Δ', P ds Δ' → Okw F S' H' → Gw F H0 S H S' H' → StD F S' H' H0 σ Δ' → H p = Option.none → H' p = some (.lst xs) → S' p = Option.none → DtL S' ds xs → Q (.ref p) H') → te σ H Q
end
section
variable {F : Fp} {fr : Bool} {te ta tb : TE} {ts t u : TS} {tr : TA} {Δ : List Sl} {P : D → List Sl → Prop} {po : Po}
theorem EvM.imp {P' : D → List Sl → Prop} (h : EvM F te Δ P) (i : ∀ d Δ', P d Δ' → P' d Δ') : EvM F te Δ P' := fun H0 S H σ w t dm Q k => h H0 S H σ w t dm Q fun d v S' H' Δ' p => k d v S' H' Δ' (i d Δ' p)
theorem EvTM.imp {tt : TT} {P P' : Bool → List Sl → Prop} (h : EvTM F tt Δ P) (i : ∀ d Δ', P d Δ' → P' d Δ') : EvTM F tt Δ P' := fun H0 S H σ w t dm Q k => h H0 S H σ w t dm Q fun d S' H' Δ' p => k d S' H' Δ' (i d Δ' p)
theorem EvAM.imp {P P' : List D → List Sl → Prop} (h : EvAM F tr Δ P) (i : ∀ d Δ', P d Δ' → P' d Δ') : EvAM F tr Δ P' := fun H0 S H σ w t dm Q k => h H0 S H σ w t dm Q fun d v S' H' Δ' p => k d v S' H' Δ' (i d Δ' p)
theorem EvFM.imp {P P' : List D → List Sl → Prop} (h : EvFM F te Δ P) (i : ∀ d Δ', P d Δ' → P' d Δ') : EvFM F te Δ P' := fun H0 S H σ w t dm Q k => h H0 S H σ w t dm Q fun d p xs S' H' Δ' q => k d p xs S' H' Δ' (i d Δ' q)
/-- what changes nothing -/
theorem EvR.m {P : D → Prop} (h : EvR F te Δ P) : EvM F te Δ fun d Δ' => P d ∧ Δ' = Δ := fun H0 S H σ w t dm Q k => h H0 S H σ w t Q fun d v S' H' p g hd => k d v S' H' Δ ⟨p, rfl⟩ (g.ok w) (g.w dm) (t.mono g) hd
theorem EvT.m {tt : TT} {P : Bool → Prop} (h : EvT F tt Δ P) : EvTM F tt Δ fun d Δ' => P d ∧ Δ' = Δ := fun H0 S H σ w t dm Q k => h H0 S H σ w t Q fun d S' H' p g => k d S' H' Δ ⟨p, rfl⟩ (g.ok w) (g.w dm) (t.mono g)
theorem eam_nil : EvAM F tNil Δ fun ds Δ' => ds = [] ∧ Δ' = Δ := fun H0 S H σ w t dm Q k => k _ _ S H Δ ⟨rfl, rfl⟩ w ((Gr.refl w.s).w dm) t (by simp only [DtL])
theorem eam_cons {Pr : D → List Sl → List D → List Sl → Prop} (h : EvM F te Δ P) (hr : ∀ d Δ', P d Δ' → EvAM F tr Δ' (Pr d Δ')) : EvAM F (tCons te tr) Δ fun ds Δ'' => ∃ d Δ' r, ds = d :: r ∧ P d Δ' ∧ Pr d Δ' r Δ'' := fun H0 S H σ w t dm Q k => by
  refine h H0 S H σ w t dm _ fun d v S1 H1 Δ1 p1 w1 g1 t1 hd => ?_
  refine hr d Δ1 p1 H0 S1 H1 σ w1 t1 g1.m _ fun ds vs S2 H2 Δ2 p2 w2 g2 t2 hds => ?_
  exact k _ _ S2 H2 Δ2 ⟨d, Δ1, ds, rfl, p1, p2⟩ w2 (g1.trans g2) t2 (dtl_cons (hd.mono g2.s) hds)
theorem evm_tup {Pa : List D → List Sl → Prop} (h : EvAM F tr Δ Pa) (hl : ∀ ds Δ', Pa ds Δ' → ds.length ≤ sizeLine) : EvM F (tTup tr) Δ fun d Δ' => ∃ ds, Pa ds Δ' ∧ d = .tuple ds := fun H0 S H σ w t dm Q k => by
  refine h H0 S H σ w t dm _ fun ds vs S1 H1 Δ1 p1 w1 g1 t1 hd => ?_
  refine ⟨by rw [← hd.len]; exact hl ds Δ1 p1, fun p hp => ?_⟩
  have g2 : Gr F S1 H1 (upd S1 p (.tup vs)) (upd H1 p (.tup vs)) := Gr.newD g1.h hp
  refine k (.tuple ds) (.ref p) _ _ Δ1 ⟨ds, p1, rfl⟩ (g2.ok w1) (g1.trans (g2.w g1.m)) (t1.mono g2) ?_
  simp only [Dt]
  exact ⟨p, vs, rfl, upd_same, hd.mono g2.s⟩
theorem evm_op {r : R2} {f : D → D → D → Prop} {Pb : D → List Sl → D → List Sl → Prop} (hr : OpS F r f) (ha : EvM F ta Δ P) (hb : ∀ x Δ', P x Δ' → EvM F tb Δ' (Pb x Δ')) {P2 : D → List Sl → Prop} (h : ∀ x Δ1 y Δ2, P x Δ1 → Pb x Δ1 y Δ2 → ∃ d, f x y d ∧ P2 d Δ2) : EvM F (tOp r ta tb) Δ P2 := fun H0 S H σ w t dm Q k => by
  refine ha H0 S H σ w t dm _ fun x u S1 H1 Δ1 p1 w1 g1 t1 hx => ?_
  refine hb x Δ1 p1 H0 S1 H1 σ w1 t1 g1.m _ fun y v S2 H2 Δ2 p2 w2 g2 t2 hy => ?_
  obtain ⟨d, hf, hd⟩ := h x Δ1 y Δ2 p1 p2
  exact hr S2 H2 x y d u v Q w2 (hx.mono g2.s) hy hf fun w' S3 H3 g3 q => k d w' S3 H3 Δ2 hd (g3.ok w2) ((g1.trans g2).trans (g3.w g2.m)) (t2.mono g3) q
theorem evm_cb {r : List V → Hp → VK → Prop} {f : List D → D → Prop} {Pa : List D → List Sl → Prop} {P2 : D → List Sl → Prop} (hr : CallS F r f) (h : EvAM F tr Δ Pa) (hk : ∀ ds Δ', Pa ds Δ' → ∃ d, f ds d ∧ P2 d Δ') : EvM F (tCB r tr) Δ P2 := fun H0 S H σ w t dm Q k =>
  h H0 S H σ w t dm _ fun ds vs S1 H1 Δ1 p1 w1 g1 t1 hd => by
    obtain ⟨d, hf, p⟩ := hk ds Δ1 p1
    exact hr S1 H1 ds d vs Q w1 hd hf fun w' S3 H3 g3 q => k d w' S3 H3 Δ1 p (g3.ok w1) (g1.trans (g3.w g1.m)) (t1.mono g3) q
theorem etm_test {Pb : Bool → List Sl → Prop} (h : EvM F te Δ fun d Δ' => ∃ b, d = .bool b ∧ Pb b Δ') : EvTM F (tTest te) Δ Pb := fun H0 S H σ w t dm Q k =>
  h H0 S H σ w t dm _ fun d v S' H' Δ' ⟨b, e, p⟩ w' g t' hd => by
    subst e
    simp only [Dt] at hd
    exact ⟨b, hd, k b S' H' Δ' p w' g t'⟩
theorem etm_B {Pb : Bool → List Sl → Prop} (h : EvM F te Δ fun d Δ' => ∃ b, d = .bool b ∧ Pb b Δ') : EvTM F (tB te) Δ Pb := fun H0 S H σ w t dm Q k =>
  h H0 S H σ w t dm _ fun d v S' H' Δ' ⟨b, e, p⟩ w' g t' hd => by
    subst e
    simp only [Dt] at hd
    exact ⟨b, hd, k b S' H' Δ' p w' g t'⟩
theorem etm_not {tt : TT} {Pb : Bool → List Sl → Prop} (h : EvTM F tt Δ Pb) : EvTM F (tNot tt) Δ fun b Δ' => Pb (!b) Δ' := fun H0 S H σ w t dm Q k =>
  h H0 S H σ w t dm _ fun b S' H' Δ' p w' g t' => k (!b) S' H' Δ' (by show Pb (!(!b)) Δ'; rw [Bool.not_not]; exact p) w' g t'
/-! statements -/
theorem Gb.stepM {S0 H0 B S H S' H' : Hp} (x : Gb F S0 H0 B S H) (g : Gw F H0 S H S' H') : Gb F S0 H0 B S' H' := ⟨g.gr x.g, x.b.trans g.s⟩
theorem run_setM {i : Nat} (h : EvM F te Δ P) (k : ∀ d Δ', P d Δ' → Run F fr u (Δ'.set i (.v d)) po) : Run F fr (tSeq (tAsg te (gName i)) u) Δ po := fun S0 H0 B S H σ E w g st r =>
  h H0 S H σ w st g.g.m _ fun d v S' H' Δ' p w' g' t' hd => k d Δ' p S0 H0 B S' H' _ E w' (g.stepM g') (t'.setV hd) r
theorem run_set1M {i : Nat} (h : EvM F te Δ P) (k : ∀ d Δ', P d Δ' → po.nx (Δ'.set i (.v d))) : Run F fr (tAsg te (gName i)) Δ po := fun S0 H0 B S H σ E w g st r =>
  h H0 S H σ w st g.g.m _ fun d v S' H' Δ' p w' g' t' hd => r.nx _ S' H' _ (k d Δ' p) w' (g.stepM g') (t'.setV hd)
theorem run_dropM (h : EvM F te Δ P) (k : ∀ d Δ', P d Δ' → po.nx Δ') : Run F fr (tDrop te) Δ po := fun S0 H0 B S H σ E w g st r =>
  h H0 S H σ w st g.g.m _ fun d v S' H' Δ' p w' g' t' hd => r.nx _ S' H' _ (k d Δ' p) w' (g.stepM g') t'
theorem run_dropMS (h : EvM F te Δ P) (k : ∀ d Δ', P d Δ' → Run F fr u Δ' po) : Run F fr (tSeq (tDrop te) u) Δ po :=
  run_seqM (N := fun Δ' => ∃ d, P d Δ') (run_dropM h fun d Δ' p => ⟨d, p⟩) fun Δ' ⟨d, p⟩ => k d Δ' p
theorem run_retM (h : EvM F te Δ P) (k : ∀ d Δ', P d Δ' → po.rt d ∧ po.ro d Δ') : Run F false (tRet te) Δ po := fun S0 H0 B S H σ E w g st r =>
  h H0 S H σ w st g.g.m _ fun d v S' H' Δ' p w' g' t' hd => r.rt d v Δ' S' H' σ (k d Δ' p).1 (k d Δ' p).2 w' t' ⟨(g.stepM g').g, fun _ => hd, fun e => nomatch e⟩
theorem run_retMS (h : EvM F te Δ P) (k : ∀ d Δ', P d Δ' → po.rt d ∧ po.ro d Δ') : Run F false (tSeq (tRet te) u) Δ po := run_seqM (N := fun _ => False) (run_retM (po := { po with nx := fun _ => False }) h k) fun _ n => n.elim
theorem run_retFM {Pa : List D → List Sl → Prop} (h : EvFM F te Δ Pa) (k : ∀ ds Δ', Pa ds Δ' → po.rt (.list ds) ∧ po.ro (.list ds) Δ') : Run F true (tRet te) Δ po := fun S0 H0 B S H σ E w g st r =>
  h H0 S H σ w st g.g.m _ fun ds p xs S' H' Δ' q w' g' t' hp h' hs hd => r.rt (.list ds) _ Δ' S' H' σ (k ds Δ' q).1 (k ds Δ' q).2 w' t' ⟨(g.stepM g').g, fun e => (nomatch e), fun _ => ⟨ds, p, xs, rfl, rfl, h', hs, (by
    cases e : H0 p with
    | none => rfl
    | some o =>
      obtain ⟨o', e'⟩ := g.g.m p o e
      rw [hp] at e'
      cases e'), hd⟩⟩
theorem run_ifM {c : TT} {Pb : Bool → List Sl → Prop} (h : EvTM F c Δ Pb) (h1 : ∀ Δ', Pb true Δ' → Run F fr t Δ' po) (h2 : ∀ Δ', Pb false Δ' → Run F fr u Δ' po) : Run F fr (tIfS c t u) Δ po := fun S0 H0 B S H σ E w g st r =>
  h H0 S H σ w st g.g.m _ fun b S' H' Δ' p w' g' t' => by
    cases b with
    | true => exact h1 Δ' p S0 H0 B S' H' σ E w' (g.stepM g') t' r
    | false => exact h2 Δ' p S0 H0 B S' H' σ E w' (g.stepM g') t' r
theorem run_ifMS {c : TT} {Pb : Bool → List Sl → Prop} {v : TS} (h : EvTM F c Δ Pb) (h1 : ∀ Δ', Pb true Δ' → Run F fr (tSeq t v) Δ' po) (h2 : ∀ Δ', Pb false Δ' → Run F fr (tSeq u v) Δ' po) : Run F fr (tSeq (tIfS c t u) v) Δ po := fun S0 H0 B S H σ E w g st r =>
  h H0 S H σ w st g.g.m _ fun b S' H' Δ' p w' g' t' => by
    cases b with
    | true => exact h1 Δ' p S0 H0 B S' H' σ E w' (g.stepM g') t' r
    | false => exact h2 Δ' p S0 H0 B S' H' σ E w' (g.stepM g') t' r
theorem run_whileM {c : TT} {tb : TS} (I : List Sl → Prop) (μ : List Sl → Nat) (h0 : I Δ)
    (hs : ∀ Δ', I Δ' → ∃ P : Bool → List Sl → Prop, EvTM F c Δ' P ∧ (∀ Δ'', P true Δ'' → Run F fr tb Δ'' { nx := fun z => I z ∧ μ z < μ Δ', ct := fun z => I z ∧ μ z < μ Δ', bk := po.nx, rt := po.rt, ro := po.ro }) ∧ (∀ Δ'', P false Δ'' → po.nx Δ'')) : Run F fr (tWhile c tb) Δ po := fun S0 H0 B S H σ E w gb st r => by
  refine ⟨fun m σ' H' => ∃ Δ' S', m = μ Δ' ∧ I Δ' ∧ Okw F S' H' ∧ Gb F S0 H0 B S' H' ∧ StD F S' H' H0 σ' Δ', ⟨μ Δ, Δ, S, rfl, h0, w, gb, st⟩, ?_⟩
  rintro m σ' H' ⟨Δ', S', rfl, hI, w', gb', st'⟩
  obtain ⟨P, hc, ht, hf⟩ := hs Δ' hI
  refine hc H0 S' H' σ' w' st' gb'.g.m _ fun b S2 H2 Δ2 p w2 g2 t2 => ?_
  cases b with
  | false => exact r.nx Δ2 S2 H2 σ' (hf Δ2 p) w2 (gb'.stepM g2) t2
  | true =>
    refine ⟨fun σ3 H3 => ∃ Δ3 S3, (I Δ3 ∧ μ Δ3 < μ Δ') ∧ Okw F S3 H3 ∧ Gb F S0 H0 B S3 H3 ∧ StD F S3 H3 H0 σ3 Δ3, fun σ3 H3 ⟨Δ3, S3, ⟨i3, l3⟩, w3, gb3, st3⟩ => ⟨μ Δ3, l3, Δ3, S3, rfl, i3, w3, gb3, st3⟩, ?_⟩
    exact ht Δ2 p S0 H0 B S2 H2 σ' _ w2 (gb'.stepM g2) t2 ⟨fun Δ3 S3 H3 σ3 n w3 gb3 st3 => ⟨Δ3, S3, n, w3, gb3, st3⟩, r.rt, r.nx, fun Δ3 S3 H3 σ3 n w3 gb3 st3 => ⟨Δ3, S3, n, w3, gb3, st3⟩⟩
end
/-! ### objects -/
def Sl.isOb : Sl → Bool
  | .ob _ _ _ _ => true
  | _ => false
/-- no other object in the slots -/
def ob1 (i : Nat) (Δ : List Sl) : Bool := (Δ.set i .un).all fun s => !s.isOb
theorem ob1_ne {i j : Nat} {Δ : List Sl} {s : Sl} (h : ob1 i Δ = true) (e : Δ[j]? = some s) (hj : j ≠ i) : s.isOb = false := by
  have := List.all_eq_true.mp h s (List.mem_of_getElem? (i := j) (by rw [List.getElem?_set_ne (Ne.symm hj)]; exact e))
  simpa using this
def prot (H : Hp) (a dx : Addr) : Hp := fun b => if b = a ∨ b = dx then Option.none else H b
theorem prot_ne {H : Hp} {a dx b : Addr} (h1 : b ≠ a) (h2 : b ≠ dx) : prot H a dx b = H b := if_neg fun z => z.elim h1 h2
theorem prot_some {H : Hp} {a dx b : Addr} {o : HO} (h : prot H a dx b = some o) : b ≠ a ∧ b ≠ dx ∧ H b = some o := by
  unfold prot at h
  split at h
  · cases h
  · rename_i n
    exact ⟨fun z => n (.inl z), fun z => n (.inr z), h⟩
/-- a def or method whose first argument is an object of the class at C that it may change: R (fields ahead) arguments result (fields behind) -/
def SpO (C : Addr) (fr : Bool) (R : FS → List D → D → FS → Prop) : Sp := fun vs H Q _ => ∃ S a dx fsV fs us ds, vs = .ref a :: us ∧ Same S H ∧ H a = some (.ins C dx fsV) ∧ H dx = some (.own a) ∧ S a = Option.none ∧ S dx = Option.none ∧ DtF S fs fsV ∧ DtL S ds us ∧ (∃ d fs', R fs ds d fs') ∧
  ∀ d v fs' vs' S' H', R fs ds d fs' → Giv fr Option.none S (prot H a dx) d v S' H' → H' a = some (.ins C dx vs') → H' dx = some (.own a) → S' a = Option.none → S' dx = Option.none → DtF S' fs' vs' → Q v H'
section
variable {F : Fp} {S H H0 S' H' : Hp} {σ : L2.St} {Δ : List Sl} {i : Nat} {a dx C : Addr} {fs fs' : FS} {vs vs' : List (Str × V)}
/-- the object was changed by another def -/
theorem ob_gw (t : StD F S H H0 σ Δ) (hi : Δ[i]? = some (.ob a dx C fs)) (dm : Dm H0 H) (g : Gr Option.none S (prot H a dx) S' H') : Gw F H0 S H S' H' := by
  obtain ⟨_, _, vs, _, e1, e2, _, _, e5, e6, _⟩ := t.ok i _ hi
  have ne : ∀ x o, H0 x = some o → x ≠ a ∧ x ≠ dx := fun x o e => ⟨fun z => (by rw [z, e5] at e; cases e), fun z => (by rw [z, e6] at e; cases e)⟩
  refine ⟨g.s, g.h, fun x o e => ?_, fun x o u nf e e' => ?_, fun x o e => ?_, fun p c e z => ?_⟩
  · obtain ⟨n1, n2⟩ := ne x o e
    obtain ⟨o', e'⟩ := dm x o e
    exact g.n x o' (by rw [prot_ne n1 n2]; exact e')
  · obtain ⟨n1, n2⟩ := ne x o e
    exact g.k x u (nfp0 x) (by rw [prot_ne n1 n2]; exact e')
  · obtain ⟨n1, n2⟩ := ne x o e
    obtain ⟨o', e'⟩ := dm x o e
    exact g.m x o' (by rw [prot_ne n1 n2]; exact e')
  · obtain ⟨ns, l, m, tt, z1, z2, z3⟩ := z
    have k : ∀ {y : Addr} {u : HO}, H y = some u → (∀ D dy w, u ≠ .ins D dy w) → (∀ y, u ≠ .own y) → H' y = some u := fun {y u} hy h1 h2 => g.k y u (nfp0 y) (by
      rw [prot_ne (fun z => by rw [z, e1] at hy; cases hy; exact h1 _ _ _ rfl) fun z => by rw [z, e2] at hy; cases hy; exact h2 _ rfl]
      exact hy)
    exact ⟨ns, l, m, tt, k z1 (fun _ _ _ z => by cases z) (fun _ z => by cases z), k z2 (fun _ _ _ z => by cases z) (fun _ z => by cases z), z3⟩
theorem ob_std (t : StD F S H H0 σ Δ) (hi : Δ[i]? = some (.ob a dx C fs)) (h1 : ob1 i Δ = true) (gw : Gw F H0 S H S' H') (k : ∀ x o, x ≠ a → x ≠ dx → H x = some o → S' x = S x ∧ (¬ fp F x → H' x = some o)) (ea : H' a = some (.ins C dx vs')) (ed : H' dx = some (.own a)) (sa : S' a = Option.none) (sd : S' dx = Option.none) (hf : DtF S' fs' vs') :
    StD F S' H' H0 σ (Δ.set i (.ob a dx C fs')) := by
  obtain ⟨x, ex, vs, rfl, e1, e2, _, _, e5, e6, _⟩ := t.ok i _ hi
  have hlt : i < Δ.length := (List.getElem?_eq_some_iff.mp hi).1
  refine ⟨by simp [t.len], fun j s e => ?_, fun j l ds es p f1 f2 f3 f4 => ?_, t.fh⟩
  · by_cases hj : j = i
    · subst hj
      rw [List.getElem?_set_self hlt] at e
      cases e
      exact ⟨_, ex, vs', rfl, ea, ed, sa, sd, e5, e6, hf⟩
    · rw [List.getElem?_set_ne (Ne.symm hj)] at e
      obtain ⟨y, ey, h⟩ := t.ok j s e
      refine ⟨y, ey, ?_⟩
      have nob := ob1_ne h1 e hj
      cases s with
      | un => trivial
      | v d =>
        obtain ⟨z, q1, q2⟩ := h
        exact ⟨z, q1, q2.mono gw.s⟩
      | own l =>
        obtain ⟨p, xs, q1, q2, q3, q4, q5⟩ := h
        have n1 : p ≠ a := fun z => by rw [z, e1] at q2; cases q2
        have n2 : p ≠ dx := fun z => by rw [z, e2] at q2; cases q2
        have nf : ¬ fp F p := fun z => by
          obtain ⟨o, q⟩ := t.fh p z
          rw [q4] at q
          cases q
        obtain ⟨k1, k2⟩ := k p _ n1 n2 q2
        exact ⟨p, xs, q1, k2 nf, by rw [k1]; exact q3, q4, q5.mono gw.s⟩
      | src => exact h
      | ob => cases nob
      | xc W PX l => exact XcOk.mono h gw
      | fz b gs =>
        obtain ⟨ws, q1, q2⟩ := h
        exact ⟨ws, gw.s _ _ q1, q2.mono gw.s⟩
  · have n1 : j ≠ i := fun z => by
      subst z
      rw [List.getElem?_set_self hlt] at f1
      cases f1
    have n2 : l ≠ i := fun z => by
      subst z
      rw [List.getElem?_set_self hlt] at f2
      cases f2
    rw [List.getElem?_set_ne (Ne.symm n1)] at f1
    rw [List.getElem?_set_ne (Ne.symm n2)] at f2
    exact t.nd j l ds es p f1 f2 f3 f4
end
section
variable {F : Fp} {fr : Bool} {te ta tb tv : TE} {ts t u : TS} {tr : TA} {Δ : List Sl} {P : D → List Sl → Prop} {po : Po} {K : PySem.W.Frag} {i : Nat} {a dx C : Addr} {fs : FS} {R : FS → List D → D → FS → Prop} {E : XK} {m : Str}
/-- the promise at a call, the object in slot i -/
theorem spo_use {S0 S H H0 : Hp} {σ : L2.St} {us : List V} {ds : List D} {Q : VK} {fr : Bool} (w : Okw F S H) (t : StD F S H H0 σ Δ) (dm : Dm H0 H) (hi : Δ[i]? = some (.ob a dx C fs)) (h1 : ob1 i Δ = true) (hd : DtL S ds us) (hR : ∃ d fs', R fs ds d fs')
    (k : ∀ d v fs' S' H', R fs ds d fs' → Okw F S' H' → Gw F H0 S H S' H' → StD F S' H' H0 σ (Δ.set i (.ob a dx C fs')) → Giv fr Option.none S (prot H a dx) d v S' H' → Q v H') : SpO C fr R (.ref a :: us) H Q E := by
  obtain ⟨x, ex, vs, rfl, e1, e2, e3, e4, e5, e6, hf⟩ := t.ok i _ hi
  refine ⟨S, a, dx, vs, fs, us, ds, rfl, w.s, e1, e2, e3, e4, hf, hd, hR, fun d v fs' vs' S' H' r gv ea ed sa sd hf' => ?_⟩
  have gw := ob_gw t hi dm gv.g
  refine k d v fs' S' H' r (gw.ok w t.fh) gw (ob_std t hi h1 gw (fun x o n1 n2 e => ?_) ea ed sa sd hf') gv
  have e' : prot H a dx x = some o := by rw [prot_ne n1 n2]; exact e
  exact ⟨gv.g.n x o e', fun _ => gv.g.k x o (nfp0 x) e'⟩
theorem ob_var {S H H0 : Hp} {σ : L2.St} (t : StD F S H H0 σ Δ) (hi : Δ[i]? = some (.ob a dx C fs)) : ∃ vs, σ[i]? = some (some (.ref a)) ∧ H a = some (.ins C dx vs) ∧ DtF S fs vs := by
  obtain ⟨x, ex, vs, rfl, e1, _, _, _, _, _, hf⟩ := t.ok i _ hi
  exact ⟨vs, ex, e1, hf⟩
theorem dtf_lookup {S : Hp} {f : Str} : ∀ {fs : FS} {vs : List (Str × V)}, DtF S fs vs → (∀ d, fs.lookup f = some d → ∃ u, vs.lookup f = some u ∧ Dt S d u) ∧ (fs.lookup f = Option.none → vs.lookup f = Option.none)
  | [], vs, h => by
    simp only [DtF] at h
    subst h
    exact ⟨fun d e => (by cases e), fun _ => rfl⟩
  | (n, q) :: fs, vs, h => by
    simp only [DtF] at h
    obtain ⟨u, us, rfl, h1, h2⟩ := h
    obtain ⟨k1, k2⟩ := dtf_lookup (f := f) h2
    by_cases hn : f = n
    · subst hn
      refine ⟨fun d e => ?_, fun e => ?_⟩
      · simp only [List.lookup_cons, beq_self_eq_true] at e ⊢
        cases e
        exact ⟨u, rfl, h1⟩
      · simp only [List.lookup_cons, beq_self_eq_true] at e
        cases e
    · have hn' : (f == n) = false := by simpa using hn
      simp only [List.lookup_cons, hn']
      exact ⟨k1, k2⟩
/-- f(o, ..) -/
theorem evm_callO {Pa : List D → Prop} (hi : Δ[i]? = some (.ob a dx C fs)) (h1 : ob1 i Δ = true) (h : EvA F tr Δ Pa) (hR : ∀ ds, Pa ds → ∃ d fs', R fs ds d fs') : EvM F (tCall (SpO C false R) [] E (tCons (tVar i) tr)) Δ fun d Δ' => ∃ ds fs', Pa ds ∧ R fs ds d fs' ∧ Δ' = Δ.set i (.ob a dx C fs') := fun H0 S H σ w t dm Q k => by
  obtain ⟨vs, e1, _, _⟩ := ob_var t hi
  refine ⟨_, e1, h H0 S H σ w t _ fun ds us S1 H1 p g1 hd => ?_⟩
  show SpO C false R (.ref a :: us ++ []) H1 Q E
  rw [List.append_nil]
  refine spo_use (S0 := S) (g1.ok w) (t.mono g1) (fun x o e => (dm x o e).elim fun o' e' => g1.m x o' e') hi h1 hd (hR ds p) fun d v fs' S' H' r w' gw t' gv => k d v S' H' _ ⟨ds, fs', p, r, rfl⟩ w' ((g1.w dm).trans gw) t' (gv.vl rfl)
theorem efm_callO {Pa : List D → Prop} (hi : Δ[i]? = some (.ob a dx C fs)) (h1 : ob1 i Δ = true) (h : EvA F tr Δ Pa) (hR : ∀ ds, Pa ds → ∃ d fs', R fs ds d fs') : EvFM F (tCall (SpO C true R) [] E (tCons (tVar i) tr)) Δ fun es Δ' => ∃ ds fs', Pa ds ∧ R fs ds (.list es) fs' ∧ Δ' = Δ.set i (.ob a dx C fs') := fun H0 S H σ w t dm Q k => by
  obtain ⟨vs, e1, ea, _⟩ := ob_var t hi
  refine ⟨_, e1, h H0 S H σ w t _ fun ds us S1 H1 p g1 hd => ?_⟩
  show SpO C true R (.ref a :: us ++ []) H1 Q E
  rw [List.append_nil]
  have t1 := t.mono g1
  refine spo_use (S0 := S) (g1.ok w) t1 (fun x o e => (dm x o e).elim fun o' e' => g1.m x o' e') hi h1 hd (hR ds p) fun d v fs' S' H' r w' gw t' gv => ?_
  obtain ⟨es, q, xs, z1, z2, e3, e4, e5, e6⟩ := gv.f rfl
  subst z1
  subst z2
  refine k es q xs S' H' _ ⟨ds, fs', p, r, rfl⟩ w' ((g1.w dm).trans gw) t' ?_ e3 e4 e6
  obtain ⟨x, _, _, _, ea1, ed1, _⟩ := t1.ok i _ hi
  obtain ⟨x', _, _, _, ea2, ed2, _⟩ := t'.ok i _ (List.getElem?_set_self (List.getElem?_eq_some_iff.mp hi).1)
  have n1 : q ≠ a := fun z => by rw [z, ea2] at e3; cases e3
  have n2 : q ≠ dx := fun z => by rw [z, ed2] at e3; cases e3
  rw [prot_ne n1 n2] at e5
  cases e : H q with
  | none => rfl
  | some o =>
    obtain ⟨o', e'⟩ := g1.m q o e
    rw [e5] at e'
    cases e'
/-- o.m(..) -/
theorem evm_meth {Pa : List D → Prop} (hi : Δ[i]? = some (.ob a dx C fs)) (h1 : ob1 i Δ = true) (hm : fs.lookup m = Option.none) (h : EvA F tr Δ Pa) (hR : ∀ ds, Pa ds → ∃ d fs', R fs ds d fs') : EvM F (tMeth C m (SpO C false R) [] E (tVar i) tr) Δ fun d Δ' => ∃ ds fs', Pa ds ∧ R fs ds d fs' ∧ Δ' = Δ.set i (.ob a dx C fs') := fun H0 S H σ w t dm Q k => by
  obtain ⟨vs, e1, ea, hf⟩ := ob_var t hi
  refine ⟨_, e1, a, dx, vs, rfl, ea, (dtf_lookup hf).2 hm, h H0 S H σ w t _ fun ds us S1 H1 p g1 hd => ?_⟩
  show SpO C false R (.ref a :: (us ++ [])) H1 Q E
  rw [List.append_nil]
  refine spo_use (S0 := S) (g1.ok w) (t.mono g1) (fun x o e => (dm x o e).elim fun o' e' => g1.m x o' e') hi h1 hd (hR ds p) fun d v fs' S' H' r w' gw t' gv => k d v S' H' _ ⟨ds, fs', p, r, rfl⟩ w' ((g1.w dm).trans gw) t' (gv.vl rfl)
/-- o.f -/
theorem ev_fldO {f : Str} {d : D} (hi : Δ[i]? = some (.ob a dx C fs)) (c : Cls K C) (n : NoAttr K C f) (hf : fs.lookup f = some d) : Ev1 F (tFld K (tVar i) f) Δ d := fun H0 S H σ w t Q k => by
  obtain ⟨vs, e1, ea, hd⟩ := ob_var t hi
  obtain ⟨u, e2, h2⟩ := (dtf_lookup hd).1 d hf
  exact ⟨_, e1, a, C, dx, vs, u, rfl, ea, c, n, e2, k d u S H rfl (Gr.refl w.s) h2⟩
/-- .. of an object that is data -/
theorem ev_fldD {f : Str} {d : D} (h : Ev1 F te Δ (.obj C fs)) (c : Cls K C) (n : NoAttr K C f) (hf : fs.lookup f = some d) : Ev1 F (tFld K te f) Δ d := fun H0 S H σ w t Q k =>
  h H0 S H σ w t _ fun x v S' H' e g hx => by
    subst e
    simp only [Dt] at hx
    obtain ⟨b, dy, vs, rfl, e1, h1⟩ := hx
    obtain ⟨u, e2, h2⟩ := (dtf_lookup h1).1 d hf
    exact ⟨b, C, dy, vs, u, rfl, g.h _ _ e1, c, n, e2, k d u S' H' rfl g h2⟩
def putD (f : Str) (d : D) : FS → FS
  | [] => [(f, d)]
  | (g, x) :: r => if g = f then (g, d) :: r else (g, x) :: putD f d r
theorem dtf_put {S : Hp} {f : Str} {d : D} {v : V} (hv : Dt S d v) : ∀ {fs : FS} {vs : List (Str × V)}, DtF S fs vs → DtF S (putD f d fs) (L2.putF f v vs)
  | [], vs, h => by
    simp only [DtF] at h
    subst h
    simp only [putD, L2.putF, DtF]
    exact ⟨v, [], rfl, hv, rfl⟩
  | (n, q) :: fs, vs, h => by
    simp only [DtF] at h
    obtain ⟨u, us, rfl, h1, h2⟩ := h
    by_cases hn : n = f
    · simp only [putD, L2.putF, if_pos hn, DtF]
      exact ⟨v, us, rfl, hv, h2⟩
    · simp only [putD, L2.putF, if_neg hn, DtF]
      exact ⟨u, _, rfl, h1, dtf_put hv h2⟩
theorem dtf_len {S : Hp} : ∀ {fs : FS} {vs : List (Str × V)}, DtF S fs vs → fs.length = vs.length
  | [], vs, h => by simp only [DtF] at h; subst h; rfl
  | (n, q) :: fs, vs, h => by
    simp only [DtF] at h
    obtain ⟨u, us, rfl, _, h2⟩ := h
    rw [List.length_cons, List.length_cons, dtf_len h2]
/-- o.f = e -/
theorem run_fldM {f : Str} (c : Cls K C) (n : NoAttr K C f) (h : EvM F tv Δ P) (k : ∀ d Δ', P d Δ' → ∃ fs, Δ'[i]? = some (.ob a dx C fs) ∧ ob1 i Δ' = true ∧ fs.length < 1000 ∧ po.nx (Δ'.set i (.ob a dx C (putD f d fs)))) : Run F fr (sFld K (tVar i) tv f) Δ po := fun S0 H0 B S H σ E w gb st r =>
  h H0 S H σ w st gb.g.m _ fun d v S1 H1 Δ1 p w1 g1 t1 hd => by
    obtain ⟨fs, hi, h1, hl, hk⟩ := k d Δ1 p
    obtain ⟨x, ex, vs, rfl, e1, e2, e3, e4, e5, e6, hf⟩ := t1.ok i _ hi
    refine ⟨_, ex, a, C, dx, vs, rfl, e1, c, n, by rw [← dtf_len hf]; exact hl, ?_⟩
    have nf : ¬ fp F a := fun z => by
      obtain ⟨o, q⟩ := t1.fh a z
      rw [e5] at q
      cases q
    have gw : Gw F H0 S1 H1 S1 (upd H1 a (.ins C dx (L2.putF f v vs))) := Gw.mut w1.s e1 e3 e5 nf g1.m
    have hda : dx ≠ a := fun z => by rw [z, e1] at e2; cases e2
    refine r.nx _ S1 _ σ hk (gw.ok w1 t1.fh) ((gb.stepM g1).stepM gw) (ob_std t1 hi h1 gw (fun x o n1 n2 e => ⟨rfl, fun _ => by rw [upd_ne n1]; exact e⟩) upd_same (by rw [upd_ne hda]; exact e2) e3 e4 (dtf_put hd hf))
theorem run_fldMS {f : Str} (c : Cls K C) (n : NoAttr K C f) (h : EvM F tv Δ P) (k : ∀ d Δ', P d Δ' → ∃ fs, Δ'[i]? = some (.ob a dx C fs) ∧ ob1 i Δ' = true ∧ fs.length < 1000 ∧ Run F fr u (Δ'.set i (.ob a dx C (putD f d fs))) po) : Run F fr (tSeq (sFld K (tVar i) tv f) u) Δ po :=
  run_seqM (N := fun Δ' => Run F fr u Δ' po) (run_fldM c n h k) fun _ h => h
end
/-! ### a def's body, the object its first parameter -/
def iniO (n : Nat) (a dx C : Addr) (fs : FS) (ds : List D) : List Sl := .ob a dx C fs :: (ds.map Sl.v ++ List.replicate (n - ds.length - 1) Sl.un)
theorem prot_gr {S H : Hp} {a dx : Addr} (w : Same S H) : Gr Option.none S (prot H a dx) S H :=
  ⟨fun _ _ e => e, w, fun _ _ _ => rfl, fun x o _ e => (prot_some e).2.2, fun x o e => ⟨o, (prot_some e).2.2⟩, fun _ _ e => nomatch e⟩
theorem st_iniO {S H : Hp} {N : List Str} {a dx C : Addr} {fs : FS} {fsV : List (Str × V)} {us : List V} {ds : List D} (w : Same S H) (e1 : H a = some (.ins C dx fsV)) (e2 : H dx = some (.own a)) (e3 : S a = Option.none) (e4 : S dx = Option.none) (hf : DtF S fs fsV) (hd : DtL S ds us) (hl : us.length + 1 ≤ N.length) :
    StD Option.none S H (prot H a dx) (L2.start N (.ref a :: us)) (iniO N.length a dx C fs ds) := by
  have es : L2.start N (.ref a :: us) = some (.ref a) :: (us.map some ++ List.replicate (N.length - us.length - 1) Option.none) := by
    simp only [L2.start, List.map_cons, List.length_cons, List.cons_append, Nat.sub_sub]
  rw [es]
  refine ⟨by simp [iniO, hd.len], fun i s q => ?_, fun i j l m p q _ _ _ => ?_, fun x ⟨_, _, e, _⟩ => nomatch e⟩
  · cases i with
    | zero =>
      simp only [iniO, List.getElem?_cons_zero, Option.some.injEq] at q
      subst q
      exact ⟨_, rfl, fsV, rfl, e1, e2, e3, e4, if_pos (.inl rfl), if_pos (.inr rfl), hf⟩
    | succ i =>
      rw [iniO, List.getElem?_cons_succ] at q
      rw [List.getElem?_cons_succ]
      by_cases hi : i < ds.length
      · rw [List.getElem?_append_left (by simpa using hi)] at q
        rw [List.getElem?_append_left (by simpa [← hd.len] using hi)]
        exact okL hd q
      · rw [List.getElem?_append_right (by simpa using hi)] at q
        rw [List.getElem?_append_right (by simp [← hd.len]; omega)]
        have hm := List.mem_of_getElem? q
        have hlt := (List.getElem?_eq_some_iff.mp q).1
        rw [List.mem_replicate] at hm
        simp only [List.length_map, List.length_replicate] at hlt ⊢
        rw [hm.2]
        refine ⟨Option.none, ?_, trivial⟩
        rw [List.getElem?_replicate, if_pos]
        rw [← hd.len]
        exact hlt
  · cases i with
    | zero =>
      simp only [iniO, List.getElem?_cons_zero, Option.some.injEq] at q
      cases q
    | succ i => exact (no_own (by simpa [iniO] using q)).elim
section
variable {P : Program} {w : World} {K : PySem.W.Frag} {mg : Str → Option Value} {base : Heap}
theorem ok_O {x qual : Str} {st : Stmt} {f : Addr} {fd : FuncData} {N ps : List Str} {k : Nat} {C : Addr} {fr : Bool} {R : FS → List D → D → FS → Prop} (Fu : Fun K x qual st f fd) (Sc : FnScope N ps (defScope st)) (hl : ∀ fs ds d fs', R fs ds d fs' → ds.length + 1 = ps.length)
    (hbody : ∀ (cdv : Value) (A : Around) (outer : List Env) (s : Shared) (H : Hp) (E : XK), Room k (A.deeper (envOfC qual (defScope st) s.heap.objs.size f cdv)) →
      ∃ t, PSs (cxOf CX0 P w K mg base N qual (defScope st) f cdv A outer s H E).nox (defBody st) t ∧ ∀ a dx fs ds, (∃ d fs', R fs ds d fs') → Run Option.none fr t (iniO N.length a dx C fs ds) { nx := fun Δ => fr = false ∧ ∃ fs', Δ[0]? = some (.ob a dx C fs') ∧ R fs ds .none fs', rt := fun _ => True, ro := fun d Δ => ∃ fs', Δ[0]? = some (.ob a dx C fs') ∧ R fs ds d fs' }) :
    FnOk P w K mg base CX0 (k + 1) f fd ps (SpO C fr R) := by
  have hps : ps.length ≤ N.length := by
    have := congrArg List.length Sc.pre
    rw [List.length_take] at this
    omega
  refine Fu.ok Sc (fun vs H Q E h => ?_) (fun cdv A outer s H vs Q E hr h => ?_)
  · obtain ⟨S, a, dx, fsV, fs, us, ds, rfl, _, _, _, _, _, _, hd, ⟨d, fs', r⟩, _⟩ := h
    rw [List.length_cons, ← hd.len]
    exact hl fs ds d fs' r
  · obtain ⟨S, a, dx, fsV, fs, us, ds, rfl, same, e1, e2, e3, e4, hf, hd, ⟨d, fs', r⟩, hk⟩ := h
    obtain ⟨t, ht, hrun⟩ := hbody cdv A outer s H E hr
    have hlen : us.length + 1 ≤ N.length := by
      rw [← hd.len, hl fs ds d fs' r]
      exact hps
    refine ⟨t, ht, hrun a dx fs ds ⟨d, fs', r⟩ S (prot H a dx) S S H _ _ ⟨same, fun _ _ e => nomatch e⟩ ⟨prot_gr same, Same.refl _⟩ (st_iniO same e1 e2 e3 e4 hf hd hlen) ⟨?_, ?_, fun _ _ _ _ z => z.elim, fun _ _ _ _ z => z.elim⟩⟩
    · rintro Δ S2 H2 σ ⟨efr, fs2, q, r2⟩ w2 g2 t2
      obtain ⟨x, _, vs2, _, z1, z2, z3, z4, _, _, z5⟩ := t2.ok 0 _ q
      exact hk .none .non fs2 vs2 S2 H2 r2 ⟨g2.g, fun _ => by simp only [Dt], fun e => by rw [efr] at e; cases e⟩ z1 z2 z3 z4 z5
    · rintro d v Δ S2 H2 σ _ ⟨fs2, q, r2⟩ w2 t2 gv
      obtain ⟨x, _, vs2, _, z1, z2, z3, z4, _, _, z5⟩ := t2.ok 0 _ q
      exact hk d v fs2 vs2 S2 H2 r2 gv z1 z2 z3 z4 z5
end
/-! ### C(..) -/
section
variable {F : Fp} {fr : Bool} {tr : TA} {u : TS} {Δ : List Sl} {po : Po} {i : Nat} {C : Addr} {R : FS → List D → D → FS → Prop} {E : XK}
theorem mk_use {S H : Hp} {us : List V} {ds : List D} {Q : VK} (w : Same S H) (hd : DtL S ds us) (hR : ∃ d fs', R [] ds d fs') (hn : ∀ d fs', R [] ds d fs' → d = .none) {x dx : Addr} (hx : H x = Option.none) (hdx : H dx = Option.none) (hne : dx ≠ x)
    (k : ∀ fs' vs' S' H', R [] ds .none fs' → Gr Option.none S H S' H' → H' x = some (.ins C dx vs') → H' dx = some (.own x) → S' x = Option.none → S' dx = Option.none → DtF S' fs' vs' → Q (.ref x) H') :
    SpO C false R (.ref x :: us) (upd (upd H dx (.own x)) x (.ins C dx [])) (fun v H2 => v = .non ∧ Q (.ref x) H2) E := by
  have ep : prot (upd (upd H dx (.own x)) x (.ins C dx [])) x dx = H := by
    funext b
    unfold prot
    by_cases h1 : b = x
    · rw [if_pos (.inl h1), h1, hx]
    · by_cases h2 : b = dx
      · rw [if_pos (.inr h2), h2, hdx]
      · rw [if_neg (fun z => z.elim h1 h2), upd_ne h1, upd_ne h2]
  refine ⟨S, x, dx, [], [], us, ds, rfl, fun b o e => ?_, upd_same, by rw [upd_ne hne, upd_same], Same.free w hx, Same.free w hdx, by simp only [DtF], hd, hR, fun d v fs' vs' S' H' r gv ea ed sa sd hf => ?_⟩
  · have e' := w b o e
    rw [upd_ne (ne_of_none e' hx), upd_ne (ne_of_none e' hdx)]
    exact e'
  · have e := hn d fs' r
    subst e
    have hv := gv.vl rfl
    simp only [Dt] at hv
    have g := gv.g
    rw [ep] at g
    exact ⟨hv, k fs' vs' S' H' r g ea ed sa sd hf⟩
/-- x = C(..), the object the def's own -/
theorem run_mk {Pa : List D → Prop} (h : EvA F tr Δ Pa) (hR : ∀ ds, Pa ds → ∃ d fs', R [] ds d fs') (hn : ∀ ds d fs', R [] ds d fs' → d = .none) (k : ∀ ds fs' a dx, Pa ds → R [] ds .none fs' → Run F fr u (Δ.set i (.ob a dx C fs')) po) : Run F fr (tSeq (tAsg (tMake C (SpO C false R) [] E tr) (gName i)) u) Δ po := fun S0 H0 B S H σ En w gb st r =>
  h H0 S H σ w st _ fun ds us S1 H1 p g1 hd x dx hx hdx hne => by
    rw [List.append_nil]
    refine mk_use (Q := fun v H2 => gName i v σ H2 (u En)) g1.h hd (hR ds p) (hn ds) hx hdx hne fun fs' vs' S' H' r' g ea ed sa sd hf => ?_
    have dm : ∀ y, H1 y = Option.none → H0 y = Option.none := fun y e => by
      cases q : H0 y with
      | none => rfl
      | some o =>
        obtain ⟨o', e'⟩ := (gb.step g1).g.m y o q
        rw [e] at e'
        cases e'
    have g2 : Gr F S H S' H' := g1.trans g.up
    exact k ds fs' x dx p r' S0 H0 B S' H' _ En (g2.ok w) (gb.step g2) ((st.mono g2).set (s := .ob x dx C fs') ⟨vs', rfl, ea, ed, sa, sd, dm x hx, dm dx hdx, hf⟩ fun _ z => by cases z) r
/-- C(..) as data -/
theorem ev_mkD {Pa : List D → Prop} (h : EvA F tr Δ Pa) (hR : ∀ ds, Pa ds → ∃ d fs', R [] ds d fs') (hn : ∀ ds d fs', R [] ds d fs' → d = .none) : EvR F (tMake C (SpO C false R) [] E tr) Δ fun d => ∃ ds fs', Pa ds ∧ R [] ds .none fs' ∧ d = .obj C fs' := fun H0 S H σ w t Q k =>
  h H0 S H σ w t _ fun ds us S1 H1 p g1 hd x dx hx hdx hne => by
    rw [List.append_nil]
    refine mk_use (Q := Q) g1.h hd (hR ds p) (hn ds) hx hdx hne fun fs' vs' S' H' r' g ea ed sa sd hf => ?_
    have hx0 : H x = Option.none := by
      cases q : H x with
      | none => rfl
      | some o =>
        obtain ⟨o', e'⟩ := g1.m x o q
        rw [hx] at e'
        cases e'
    refine k (.obj C fs') (.ref x) _ H' ⟨ds, fs', p, r', rfl⟩ ((g1.trans g.up).freeze hx0 ea) ?_
    simp only [Dt]
    exact ⟨x, dx, vs', rfl, upd_same, DtF.mono (fun b o e => by rw [upd_ne (ne_of_none e sa)]; exact e) _ _ hf⟩
end
/-! ### own lists grow by what changes an object -/
section
variable {F : Fp} {fr : Bool} {te : TE} {Δ : List Sl} {K : PySem.W.Frag}
theorem run_appM {i : Nat} {po : Po} {P : D → List Sl → Prop} (hi : ∃ ds, Δ[i]? = some (.own ds)) (h : EvM F te Δ P) (k : ∀ d Δ', P d Δ' → ∃ ds, Δ'[i]? = some (.own ds) ∧ ds.length < sizeLine ∧ po.nx (Δ'.set i (.own (ds ++ [d])))) :
    Run F fr (tDrop (tBM K "list" rAppend (tVar i) (tCons te tNil))) Δ po := fun S0 H0 B S H σ E w gb st r => by
  obtain ⟨ds0, hi⟩ := hi
  obtain ⟨x, e1, p, xs0, rfl, h1, h2, h3, h4⟩ := st.ok i _ hi
  refine ⟨_, e1, Or.inl ⟨rfl, xs0, SqL.of h1⟩, ?_⟩
  refine h H0 S H σ w st gb.g.m _ fun d v S1 H1 Δ1 pd w1 g1 st1 hv => ?_
  obtain ⟨ds, hi1, hl, hk⟩ := k d Δ1 pd
  obtain ⟨x, f1, p1, xs, rfl, q1, q2, q3, q4⟩ := st1.ok i _ hi1
  rw [e1] at f1
  cases f1
  have nf : ¬ fp F p := fun z => by
    obtain ⟨o, q⟩ := st.fh p z
    rw [h3] at q
    cases q
  refine ⟨p, xs, v, rfl, rfl, q1, by rw [← q4.len]; exact hl, ?_⟩
  have gw : Gw F H0 S1 H1 S1 (upd H1 p (.lst (xs ++ [v]))) := Gw.mut w1.s q1 q2 q3 nf g1.m
  have hlt : i < Δ1.length := (List.getElem?_eq_some_iff.mp hi1).1
  refine r.nx _ S1 _ σ hk (gw.ok w1 st1.fh) ((gb.stepM g1).stepM gw) ⟨by simp [st1.len], fun j s' ej => ?_, fun j l es fs q f1 f2 f3 f4 => ?_, st1.fh⟩
  · by_cases hj : j = i
    · subst hj
      rw [List.getElem?_set_self hlt] at ej
      cases ej
      exact ⟨_, e1, p, _, rfl, upd_same, q2, q3, q4.append (dtl_cons hv dtl_nil)⟩
    · rw [List.getElem?_set_ne (Ne.symm hj)] at ej
      obtain ⟨y, f1, f2⟩ := st1.ok j s' ej
      refine ⟨y, f1, ?_⟩
      cases s' with
      | un => trivial
      | v d => exact f2
      | src => exact f2
      | ob a dx C fs =>
        obtain ⟨vs, z1, z2, z3, z4, z5, z6, z7, z8⟩ := f2
        have n1 : a ≠ p := fun z => by rw [z, q1] at z2; cases z2
        have n2 : dx ≠ p := fun z => by rw [z, q1] at z3; cases z3
        exact ⟨vs, z1, by rw [upd_ne n1]; exact z2, by rw [upd_ne n2]; exact z3, z4, z5, z6, z7, z8⟩
      | xc W PX l => exact XcOk.mono f2 gw
      | fz a fs => exact f2
      | own es =>
        obtain ⟨q, ys, rfl, y1, y2, y3, y4⟩ := f2
        refine ⟨q, ys, rfl, ?_, y2, y3, y4⟩
        rw [upd_ne (fun z => hj ?_)]
        · exact y1
        · subst z
          exact st1.nd j i es ds q ej hi1 f1 e1
  · by_cases n1 : j = i
    · by_cases n2 : l = i
      · rw [n1, n2]
      · subst n1
        rw [List.getElem?_set_ne (Ne.symm n2)] at f2
        exact st1.nd j l ds fs q hi1 f2 f3 f4
    · rw [List.getElem?_set_ne (Ne.symm n1)] at f1
      by_cases n2 : l = i
      · subst n2
        exact st1.nd j l es ds q f1 hi1 f3 f4
      · rw [List.getElem?_set_ne (Ne.symm n2)] at f2
        exact st1.nd j l es fs q f1 f2 f3 f4
end
/-! ### comprehensions whose items change objects -/
def noX (Δ : List Sl) : Bool := Δ.all fun s => match s with | .xc _ _ _ => false | _ => true
theorem noX_at {Δ : List Sl} {j : Nat} {W : WX} {PX : Value → FX → Prop} {l : List (Option D)} (h : noX Δ = true) (e : Δ[j]? = some (.xc W PX l)) : False := by
  have := List.all_eq_true.mp h _ (List.mem_of_getElem? e)
  cases this
theorem Gw.less {F : Fp} {H0 S H S' H' : Hp} {L : Addr} {o : HO} (g : Gw F (upd H0 L o) S H S' H') (hL : H0 L = Option.none) : Gw F H0 S H S' H' := by
  have up : ∀ x u, H0 x = some u → upd H0 L o x = some u := fun x u e => by rw [upd_ne (ne_of_none e hL)]; exact e
  exact ⟨g.s, g.h, fun x u e => g.n x u (up x u e), fun x u v nf e => g.k x u v nf (up x u e), fun x u e => g.m x u (up x u e), g.src⟩
section
variable {F : Fp} {S H H0 : Hp} {σ : L2.St} {Δ : List Sl} {L : Addr} {o u : HO}
/-- one more object is kept -/
theorem StD.more (t : StD F S H H0 σ Δ) (hL : H0 L = Option.none) (hf : ∀ (j : Nat) (s : Sl), Δ[j]? = some s → (∀ ds : List D, s = Sl.own ds → σ[j]? ≠ some (some (V.ref L))) ∧ ∀ (a dx C : Addr) (fs : FS), s = Sl.ob a dx C fs → a ≠ L ∧ dx ≠ L) (hx : noX Δ = true) : StD F S H (upd H0 L o) σ Δ := by
  refine ⟨t.len, fun j s e => ?_, t.nd, fun x z => ?_⟩
  · obtain ⟨x, e1, h⟩ := t.ok j s e
    refine ⟨x, e1, ?_⟩
    cases s with
    | un => trivial
    | v d => exact h
    | src => exact h
    | xc W PX l => exact (noX_at hx e).elim
    | fz a fs => exact h
    | own l =>
      obtain ⟨p, xs, rfl, q2, q3, q4, q5⟩ := h
      exact ⟨p, xs, rfl, q2, q3, by rw [upd_ne (fun z => (hf j _ e).1 l rfl (by rw [e1, z]))]; exact q4, q5⟩
    | ob a dx C fs =>
      obtain ⟨vs, q1, q2, q3, q4, q5, q6, q7, q8⟩ := h
      obtain ⟨n1, n2⟩ := (hf j _ e).2 a dx C fs rfl
      exact ⟨vs, q1, q2, q3, q4, q5, by rw [upd_ne n1]; exact q6, by rw [upd_ne n2]; exact q7, q8⟩
  · obtain ⟨w, e⟩ := t.fh x z
    exact ⟨w, by rw [upd_ne (ne_of_none e hL)]; exact e⟩
theorem StD.less (t : StD F S H (upd H0 L o) σ Δ) (hL : H0 L = Option.none) (hf : ∀ x, fp F x → ∃ o, H0 x = some o) (hx : noX Δ = true) : StD F S H H0 σ Δ := by
  have dn : ∀ {x : Addr}, upd H0 L o x = Option.none → H0 x = Option.none := fun {x} e => by
    by_cases h : x = L
    · rw [h]; exact hL
    · rw [upd_ne h] at e; exact e
  refine ⟨t.len, fun j s e => ?_, t.nd, hf⟩
  obtain ⟨x, e1, h⟩ := t.ok j s e
  refine ⟨x, e1, ?_⟩
  cases s with
  | un => trivial
  | v d => exact h
  | src => exact h
  | xc W PX l => exact (noX_at hx e).elim
  | fz a fs => exact h
  | own l =>
    obtain ⟨p, xs, rfl, q2, q3, q4, q5⟩ := h
    exact ⟨p, xs, rfl, q2, q3, dn q4, q5⟩
  | ob a dx C fs =>
    obtain ⟨vs, q1, q2, q3, q4, q5, q6, q7, q8⟩ := h
    exact ⟨vs, q1, q2, q3, q4, q5, dn q6, dn q7, q8⟩
/-- a kept object that no slot holds is changed -/
theorem StD.mutL (t : StD F S H (upd H0 L o) σ Δ) (hx : noX Δ = true) : StD F S (upd H L u) (upd H0 L o) σ Δ := by
  have ne : ∀ {x : Addr}, upd H0 L o x = Option.none → x ≠ L := fun {x} e z => by rw [z, upd_same] at e; cases e
  refine ⟨t.len, fun j s e => ?_, t.nd, t.fh⟩
  obtain ⟨x, e1, h⟩ := t.ok j s e
  refine ⟨x, e1, ?_⟩
  cases s with
  | un => trivial
  | v d => exact h
  | src => exact h
  | xc W PX l => exact (noX_at hx e).elim
  | fz a fs => exact h
  | own l =>
    obtain ⟨p, xs, rfl, q2, q3, q4, q5⟩ := h
    exact ⟨p, xs, rfl, by rw [upd_ne (ne q4)]; exact q2, q3, q4, q5⟩
  | ob a dx C fs =>
    obtain ⟨vs, q1, q2, q3, q4, q5, q6, q7, q8⟩ := h
    exact ⟨vs, q1, by rw [upd_ne (ne q6)]; exact q2, by rw [upd_ne (ne q7)]; exact q3, q4, q5, q6, q7, q8⟩
/-- behind a turn: the comprehension's own names go -/
theorem StD.back {σ2 : L2.St} {js vs : List Nat} {Δ' : List Sl} (t : StD F S H H0 σ2 Δ') (hl : σ.length = σ2.length) (h : ∀ j, j ∉ vs → σ2[j]? = σ[j]?) : StD F S H H0 σ (wipeD Δ' vs) := by
  have wl : ∀ vs : List Nat, (wipeD Δ' vs).length = Δ'.length := fun vs => by
    induction vs with
    | nil => rfl
    | cons v vs ih => simp only [wipeD, List.length_set, ih]
  have wg : ∀ (vs : List Nat) (j : Nat), j < Δ'.length → (wipeD Δ' vs)[j]? = if j ∈ vs then some .un else Δ'[j]? := fun vs => by
    induction vs with
    | nil => intro j _; simp [wipeD]
    | cons v vs ih =>
      intro j hj
      simp only [wipeD]
      by_cases e : j = v
      · subst e
        rw [List.getElem?_set_self (by rw [wl]; exact hj), if_pos (List.mem_cons_self ..)]
      · rw [List.getElem?_set_ne (Ne.symm e), ih j hj]
        simp [e]
  refine ⟨by rw [hl, t.len, wl], fun j s e => ?_, fun i j ds es p e1 e2 f1 f2 => ?_, t.fh⟩
  · have hj : j < Δ'.length := by
      have := (List.getElem?_eq_some_iff.mp e).1
      rw [wl] at this
      exact this
    rw [wg vs j hj] at e
    by_cases m : j ∈ vs
    · rw [if_pos m] at e
      cases e
      have hj' : j < σ.length := by rw [hl, t.len]; exact hj
      exact ⟨σ[j], by simp [hj'], trivial⟩
    · rw [if_neg m] at e
      obtain ⟨x, e1, h1⟩ := t.ok j s e
      exact ⟨x, by rw [← h j m]; exact e1, h1⟩
  · have key : ∀ {i : Nat} {ds : List D}, (wipeD Δ' vs)[i]? = some (.own ds) → i ∉ vs ∧ Δ'[i]? = some (.own ds) := fun {i ds} e => by
      have hi : i < Δ'.length := by
        have := (List.getElem?_eq_some_iff.mp e).1
        rw [wl] at this
        exact this
      rw [wg vs i hi] at e
      by_cases m : i ∈ vs
      · rw [if_pos m] at e; cases e
      · rw [if_neg m] at e; exact ⟨m, e⟩
    obtain ⟨m1, g1⟩ := key e1
    obtain ⟨m2, g2⟩ := key e2
    exact t.nd i j ds es p g1 g2 (by rw [h i m1]; exact f1) (by rw [h j m2]; exact f2)
end
section
variable {F : Fp} {te : TE} {Δ : List Sl}
theorem efm_lcP {wi : TI} {g : TG} {tt : TT} {vs : List Nat} {Pd : List D → Prop} {Pr : List D → List Sl → Prop} (h : EvI F wi Δ Pd) (hz : ∀ ds, Pd ds → ds.length ≤ sizeLine) (J : List D → Nat → List D → List Sl → Prop) (h0 : ∀ ds, Pd ds → J ds 0 [] Δ) (hx : ∀ ds i acc Δi, J ds i acc Δi → noX Δi = true)
    (hs : ∀ ds i d acc Δi, Pd ds → ds[i]? = some d → J ds i acc Δi → acc.length ≤ i → ∃ js Δ', EvG F g d (wipeD Δi vs) js Δ' ∧ (∀ j ∈ js, j ∈ vs) ∧ ∃ Pt : Bool → Prop, EvT F tt Δ' Pt ∧ (Pt false → J ds (i + 1) acc (wipeD Δ' vs)) ∧ (Pt true → EvM F te Δ' fun e Δ'' => J ds (i + 1) (acc ++ [e]) (wipeD Δ'' vs)))
    (hd : ∀ ds acc Δn, Pd ds → J ds ds.length acc Δn → Pr acc Δn) : EvFM F (tLc wi g tt te vs) Δ Pr := fun H0 S H σ w st dm Q k => by
  refine h H0 S H σ w st _ fun ds Jt S1 H1 p g1 W => ?_
  intro L hL
  have hLH : H L = Option.none := by
    cases e : H L with
    | none => rfl
    | some o =>
      obtain ⟨o', e'⟩ := g1.m L o e
      rw [hL] at e'
      cases e'
  have hL0 : H0 L = Option.none := by
    cases e : H0 L with
    | none => rfl
    | some o =>
      obtain ⟨o', e'⟩ := dm L o e
      rw [hLH] at e'
      cases e'
  have nfL : ¬ fp F L := fun z => by
    obtain ⟨o, e⟩ := st.fh L z
    rw [hL0] at e
    cases e
  have g0 : Gr F S1 H1 S1 (upd H1 L (.lst [])) := Gr.new g1.h hL
  have st0 : StD F S1 (upd H1 L (.lst [])) (upd H0 L (.lst [])) σ Δ := by
    refine ((st.mono g1).mono g0).more hL0 (fun j s e => ⟨fun l es z => ?_, fun a dx C fs es => ?_⟩) (hx ds 0 [] Δ (h0 ds p))
    · subst es
      obtain ⟨x, e1, q, xs, rfl, q2, _⟩ := (st.mono g1).ok j _ e
      rw [z] at e1
      cases e1
      rw [hL] at q2
      cases q2
    · subst es
      obtain ⟨x, e1, vs, _, q2, q3, _⟩ := (st.mono g1).ok j _ e
      exact ⟨fun z => (by rw [z, hL] at q2; cases q2), fun z => (by rw [z, hL] at q3; cases q3)⟩
  refine ⟨fun i m H' => m = ds.length - i ∧ i ≤ ds.length ∧ ∃ acc xs S' Δi, J ds i acc Δi ∧ acc.length ≤ i ∧ Okw F S' H' ∧ Gw F H0 S H S' H' ∧ StD F S' H' (upd H0 L (.lst [])) σ Δi ∧ Same S1 S' ∧ H' L = some (.lst xs) ∧ S' L = Option.none ∧ DtL S' acc xs,
    ⟨ds.length, rfl, Nat.zero_le _, [], [], S1, Δ, h0 ds p, Nat.le_refl _, g0.ok (g1.ok w), (g1.trans g0).w dm, st0, Same.refl _, upd_same, Same.free g1.h hL, dtl_nil⟩, ?_⟩
  rintro i m H' ⟨rfl, hi, acc, xs, S', Δi, hJ, hla, w', g', t', sm, hxL, hsx, hdl⟩
  by_cases hlt : i < ds.length
  · refine .inr ⟨W.go i S' H' sm w' hlt, fun H2 => ∃ acc xs S' Δi, J ds (i + 1) acc Δi ∧ acc.length ≤ i + 1 ∧ Okw F S' H2 ∧ Gw F H0 S H S' H2 ∧ StD F S' H2 (upd H0 L (.lst [])) σ Δi ∧ Same S1 S' ∧ H2 L = some (.lst xs) ∧ S' L = Option.none ∧ DtL S' acc xs, fun H2 z => ⟨ds.length - (i + 1), by omega, rfl, hlt, z⟩, fun x H2 y => ?_⟩
    obtain ⟨d, S2, e, g2, hxd⟩ := W.yld i S' H' x H2 sm w' hlt y
    obtain ⟨js, Δ2, hg, hjs, Pt, hT, hF, hE⟩ := hs ds i d acc Δi p e hJ hla
    have stw : StD F S2 H2 (upd H0 L (.lst [])) (wipe σ vs) (wipeD Δi vs) := (t'.mono g2).wipes vs
    have dm' : Dm (upd H0 L (.lst [])) H' := fun x o e => by
      by_cases hxl : x = L
      · exact ⟨_, by rw [hxl]; exact hxL⟩
      · rw [upd_ne hxl] at e
        exact g'.m x o e
    refine hg _ S2 H2 (wipe σ vs) x (g2.ok w') stw hxd _ fun σ2 st2 off => ?_
    refine ⟨by rw [wipe_off off hjs, wipe_wipe], ?_⟩
    have hlen : σ.length = σ2.length := by
      obtain ⟨o1, _⟩ := off
      rw [o1, wipe_length]
    have hoff : ∀ j, j ∉ vs → σ2[j]? = σ[j]? := fun j hj => by
      obtain ⟨_, o2⟩ := off
      rw [o2 j (fun z => hj (hjs j z)), wipe_get, if_neg hj]
    refine hT _ S2 H2 σ2 (g2.ok w') st2 _ fun b S3 H3 pb g3 => ?_
    have gg : Gw F H0 S H S3 H3 := (g'.trans (g2.w g'.m)).trans (g3.w ((g'.trans (g2.w g'.m)).m))
    have h3 : H3 L = some (.lst xs) := g3.k _ _ nfL (g2.k _ _ nfL hxL)
    have s3 : S3 L = Option.none := by rw [g3.n _ _ (g2.k _ _ nfL hxL), g2.n _ _ hxL]; exact hsx
    cases b with
    | false => exact ⟨acc, xs, S3, _, hF pb, by omega, g3.ok (g2.ok w'), gg, (st2.mono g3).back (js := js) hlen hoff, (sm.trans g2.s).trans g3.s, h3, s3, (hdl.mono g2.s).mono g3.s⟩
    | true =>
      have dm3 : Dm (upd H0 L (.lst [])) H3 := fun x o e => by
        obtain ⟨o1, e1⟩ := dm' x o e
        obtain ⟨o2, e2⟩ := g2.m x o1 e1
        exact g3.m x o2 e2
      refine hE pb _ S3 H3 σ2 (g3.ok (g2.ok w')) (st2.mono g3) dm3 _ fun ed v S4 H4 Δ4 pe w4 g4 st4 hv => ?_
      have h4 : H4 L = some (.lst xs) := g4.k _ (.lst []) _ nfL upd_same h3
      have s4 : S4 L = Option.none := by rw [g4.n L (.lst []) upd_same]; exact s3
      have hlen2 : xs.length = acc.length := hdl.len.symm
      have gw4 : Gw F H0 S H S4 H4 := gg.trans (g4.less hL0)
      have gwm : Gw F H0 S4 H4 S4 (upd H4 L (.lst (xs ++ [v]))) := Gw.mut w4.s h4 s4 hL0 nfL gw4.m
      refine ⟨xs, h4, ?_, acc ++ [ed], xs ++ [v], S4, _, pe, by simp; omega, gwm.ok w4 st.fh, gw4.trans gwm, ((st4.back (js := js) hlen hoff).mutL (hx _ _ _ _ pe)), ((sm.trans g2.s).trans g3.s).trans g4.s, upd_same, s4, (((hdl.mono g2.s).mono g3.s).mono g4.s).append (dtl_cons hv dtl_nil)⟩
      have := hz ds p
      omega
  · have e : i = ds.length := by omega
    subst e
    exact .inl ⟨W.stop _ S' H' sm w' (Nat.le_refl _), k acc L xs S' H' Δi (hd ds acc Δi p hJ) w' g' (t'.less hL0 st.fh (hx _ _ _ _ hJ)) hLH hxL hsx hdl⟩
/-- a starred list within arguments -/
theorem eam_star {K : PySem.W.Frag} {tr : TA} {Pa : List D → List Sl → Prop} {Pr : List D → List Sl → List D → List Sl → Prop} (h : EvFM F te Δ Pa) (hr : ∀ l Δ', Pa l Δ' → EvAM F tr Δ' (Pr l Δ')) : EvAM F (StX.tStar K te tr) Δ fun ds Δ'' => ∃ l Δ' r, ds = l ++ r ∧ Pa l Δ' ∧ Pr l Δ' r Δ'' := fun H0 S H σ w t dm Q k => by
  refine h H0 S H σ w t dm _ fun l p xs S1 H1 Δ1 p1 w1 g1 t1 hp h1 hs hd => ?_
  refine ⟨p, xs, rfl, .inr (SqL.of h1), ?_⟩
  refine hr l Δ1 p1 H0 S1 H1 σ w1 t1 g1.m _ fun ds vs S2 H2 Δ2 p2 w2 g2 t2 hds => ?_
  exact k _ _ S2 H2 Δ2 ⟨l, Δ1, ds, rfl, p1, p2⟩ w2 (g1.trans g2) t2 ((hd.mono g2.s).append hds)
theorem ea_star {K : PySem.W.Frag} {tr : TA} {Pa Pr : List D → Prop} (h : EvF F te Δ Pa) (hr : EvA F tr Δ Pr) : EvA F (StX.tStar K te tr) Δ fun ds => ∃ l r, ds = l ++ r ∧ Pa l ∧ Pr r := fun H0 S H σ w t Q k => by
  refine h H0 S H σ w t _ fun l p xs S1 H1 p1 g1 hp h1 hs hd => ?_
  refine ⟨p, xs, rfl, .inr (SqL.of h1), ?_⟩
  refine hr H0 S1 H1 σ (g1.ok w) (t.mono g1) _ fun ds vs S2 H2 p2 g2 hds => ?_
  exact k _ _ S2 H2 ⟨l, ds, rfl, p1, p2⟩ (g1.trans g2) ((hd.mono g2.s).append hds)
end
/-! ### methods and constructors, bundled -/
structure MethT (P : Program) (w : World) (K : PySem.W.Frag) (mg : Str → Option Value) (base : Heap) (k : Nat) (C : Addr) (m : Str) (ps : List Str) (sp : Sp) : Prop where
  ex : ∃ f fd, Meth K C m f ∧ Binds K fd ps [] ∧ FnOk P w K mg base CX0 k f fd ps sp
  cls : Cls K C
structure MkT (P : Program) (w : World) (K : PySem.W.Frag) (mg : Str → Option Value) (base : Heap) (k : Nat) (x : Str) (C : Addr) (ps : List Str) (sp : Sp) : Prop where
  ex : ∃ f fd, Mk K C f ∧ Binds K fd ps [] ∧ FnOk P w K mg base CX0 k f fd ps sp
  gl : mg x = some (.ref C)
section
variable {X : Cx} {k : Nat} {C : Addr} {x m : Str} {ps : List Str} {sp : Sp} {o e : Expr} {es : List Expr} {to : TE} {t : TA} {p pos apos : Pos}
theorem pe_methT {pl : Sem Bool} (G : MethT X.prog X.w X.K X.mg X.base k C m ps sp) (hr : Room k X.A) (he : PE X o to) (ha : PA X (e :: es) t)
    (hst : starEach (e :: es) X.env = (false, eval e X.env) :: starEach es X.env := by rfl) (hpl : (backTo pos (starEach es X.env)).any (·.1) = false := by rfl)
    (ht : eval (.Call (.Attribute o m apos) (e :: es) [] pos) X.env = (do
      let ov ← eval o X.env
      standAt apos.atName
      let (f, first) ← holding [ov] (getMethod ov m pl)
      callWith pos f first (backTo pos (starEach (e :: es) X.env)) (backToKw pos (keywordEach [] X.env))) := by rfl) :
    PE X (.Call (.Attribute o m apos) (e :: es) [] pos) (tMeth C m sp [] E0 to t) := by
  obtain ⟨f, fd, h1, h2, h3⟩ := G.ex
  exact pe_meth he G.cls h1 h3 hr h2 .nil pass0 ha hst hpl ht
theorem pe_methT0 {pl : Sem Bool} (G : MethT X.prog X.w X.K X.mg X.base k C m ps sp) (hr : Room k X.A) (he : PE X o to)
    (ht : eval (.Call (.Attribute o m apos) [] [] pos) X.env = (do
      let ov ← eval o X.env
      standAt apos.atName
      let (f, first) ← holding [ov] (getMethod ov m pl)
      callWith pos f first (backTo pos (starEach [] X.env)) (backToKw pos (keywordEach [] X.env))) := by rfl) :
    PE X (.Call (.Attribute o m apos) [] [] pos) (tMeth C m sp [] E0 to tNil) := by
  obtain ⟨f, fd, h1, h2, h3⟩ := G.ex
  exact pe_meth0 he G.cls h1 h3 hr h2 .nil pass0 ht
theorem pe_makeT (G : MkT X.prog X.w X.K X.mg X.base k x C ps sp) (hr : Room (k + 1) X.A) (ha : PA X (e :: es) t) (hg : Gl X x := by rfl)
    (hdb : (x == ("__debug__" : Str)) = false := by decide) (he : starEach (e :: es) X.env = (false, eval e X.env) :: starEach es X.env := by rfl) (hpl : (backTo pos (starEach es X.env)).any (·.1) = false := by rfl) :
    PE X (.Call (.Name x p) (e :: es) [] pos) (tMake C sp [] E0 t) := by
  obtain ⟨f, fd, h1, h2, h3⟩ := G.ex
  exact pe_make h1 h3 hr hg G.gl h2 .nil pass0 ha hdb he hpl
end
end Bc

/-! Core R: the exact repr of lists and tuples, where no repr is under way. -/
namespace Bc
open PySem L2 PySem.Spec PyProof.Rows
abbrev rReprD (K : PySem.W.Frag) : List V → Hp → VK → Prop := fun xs H Q => ∃ (a : Addr) (d : PyData), xs = [.ref a] ∧ Dp K H (.ref a) d ∧ d.showable = true ∧ d.hasDict = false ∧ d.depth ≤ 64 ∧ d.shown.length ≤ sizeLine ∧ Q (.str d.shown) H
theorem pRepr {X : Cx} {K : PySem.W.Frag} (hg : X.A.guards = some []) (hu : X.A.units + 65 < cLine) (hK : X.K = K := by rfl) : CallR X (.builtin "repr") (rReprD K) := by
  subst hK
  intro pins s σ H xs us Q I r h
  obtain ⟨a, d, rfl, hd, hs, hdi, hdp, hz, q⟩ := h
  obtain ⟨u, rfl, hu1⟩ := vals1 r
  obtain rfl : u = Value.ref a := hu1
  obtain ⟨as, r1⟩ := Dp.reads I d (.ref a) (.ref a) hd rfl
  obtain ⟨hp, g, dr, tk, os⟩ := s
  exact repr_of_reads' r1 hs (fun h => by rw [hdi] at h; cases h) hg (by omega) (fun _ _ e => e) (fun h' u tk' hk => ⟨.str d.shown, H, I.kept (t' := tk') hk, ⟨u, rfl⟩, q⟩) hz
section
variable {F : Fp} {Δ : List Sl} {te : TE} {K : PySem.W.Frag}
/-- repr of a list or tuple that is data -/
theorem ev_repr {x : D} (h : Ev1 F te Δ x) (hx : (∃ l, x = .list l) ∨ ∃ l, x = .tuple l) (hp : x.isPy = true) (hs : x.py.showable = true) (hd : x.py.hasDict = false) (hn : x.py.depth ≤ 64) (hz : x.py.shown.length ≤ sizeLine) : Ev1 F (tCB (rReprD K) (tCons te tNil)) Δ (.str x.py.shown) := fun H0 S H σ w t Q k =>
  h H0 S H σ w t _ fun d v S' H' e g hv => by
    have hv : Dt S' x v := e ▸ hv
    have dp := Dt.dp (K := K) g.h x v hp hv
    obtain ⟨a, rfl⟩ : ∃ a, v = .ref a := by
      rcases hx with ⟨l, rfl⟩ | ⟨l, rfl⟩
      · simp only [Dt] at hv
        obtain ⟨a, _, e, _⟩ := hv
        exact ⟨a, e⟩
      · simp only [Dt] at hv
        obtain ⟨a, _, e, _⟩ := hv
        exact ⟨a, e⟩
    exact ⟨a, x.py, rfl, dp, hs, hd, hn, hz, k _ _ S' H' rfl g (by simp only [Dt])⟩
end
/-! ### law: behind the source -/
theorem law_start {rest : TS} {n : Nat} {H' : Hp} {σ : L2.St} {p c : Addr} {Q : VK} (hp : SrcAt H' p c) (hl : σ.length = n + 2) (h1 : σ[1]? = some (some (.ref p)))
    (hrun : Run (some (p, c)) false rest (Sl.un :: Sl.src :: List.replicate n Sl.un) { nx := fun _ => False, rt := fun d => d = .bool true }) (hQ : ∀ H, Q (.bl true) H) : rest { nx := fun _ H => Q .non H, rt := Q } σ H' := by
  have w : Okw (some (p, c)) (fun _ => Option.none) H' := ⟨fun _ _ e => (by cases e), fun a b e => by cases e; exact ⟨rfl, rfl, hp⟩⟩
  have hf : ∀ x, fp (some (p, c)) x → ∃ o, H' x = some o := fun x ⟨a, b, e, z⟩ => by
    cases e
    obtain ⟨ns, l, m, t, e1, e2, _⟩ := hp
    rcases z with rfl | rfl
    · exact ⟨_, e1⟩
    · exact ⟨_, e2⟩
  refine hrun (fun _ => Option.none) H' (fun _ => Option.none) (fun _ => Option.none) H' σ _ w ⟨Gr.refl w.s, Same.refl _⟩ ⟨by simp [hl], fun i s e => ?_, fun i j ds es q e1 _ _ _ => ?_, hf⟩ ⟨fun _ _ _ _ n => n.elim, fun d v Δ S H σ e _ _ _ gv => ?_, fun _ _ _ _ n => n.elim, fun _ _ _ _ n => n.elim⟩
  · have hi : i < n + 2 := by
      have := (List.getElem?_eq_some_iff.mp e).1
      simpa using this
    have hx : σ[i]? = some (σ[i]'(by omega)) := by simp
    cases i with
    | zero =>
      cases e
      exact ⟨_, hx, trivial⟩
    | succ i => cases i with
      | zero =>
        cases e
        exact ⟨_, h1, p, c, rfl, rfl⟩
      | succ i =>
        have := List.mem_of_getElem? (show (List.replicate n Sl.un)[i]? = some s from e)
        rw [List.mem_replicate] at this
        rw [this.2]
        exact ⟨_, hx, trivial⟩
  · cases i with
    | zero => cases e1
    | succ i => cases i with
      | zero => cases e1
      | succ i =>
        have := List.mem_of_getElem? (show (List.replicate n Sl.un)[i]? = some _ from e1)
        rw [List.mem_replicate] at this
        cases this.2
  · have hv := gv.vl rfl
    rw [e] at hv
    simp only [Dt] at hv
    rw [hv]
    exact hQ _
end Bc

/-! Core S: how long an exact repr may get; repr of the def's own list. -/
namespace Bc
open PySem L2 PySem.Spec PyProof.Rows
theorem textFrom_le : ∀ (ts : List Str) (k : Nat) (acc : Str), (textFrom k acc ts).length ≤ acc.length + piled ts
  | [], k, acc => by show acc.length ≤ _; omega
  | t :: r, k, acc => by
    have h := textFrom_le r (k + 1) (acc ++ (if k > 0 then ", " else "" : String) ++ t)
    have e : (acc ++ (if k > 0 then ", " else "" : String) ++ t).length = acc.length + (if k > 0 then 2 else 0) + t.length := by
      rw [strLen_append, strLen_append]
      split <;> rfl
    have h2 : (if k > 0 then 2 else 0 : Nat) ≤ 2 := by split <;> omega
    show (textFrom (k + 1) _ r).length ≤ _
    rw [piled_cons]
    omega
theorem listText_le (ts : List Str) : (listText ts).length ≤ 2 + piled ts := by
  have h := textFrom_le ts 0 "["
  have e : (("[" : String) : Str).length = 1 := rfl
  have e2 : (("]" : String) : Str).length = 1 := rfl
  unfold listText
  rw [strLen_append, e2]
  omega
theorem tupleText_le (ts : List Str) : (tupleText ts).length ≤ 3 + piled ts := by
  have e1 : ((("(" : String) : Str)).length = 1 := rfl
  have e3 : (((if ts.length == 1 then ",)" else ")" : String) : Str)).length ≤ 2 := by split <;> decide
  unfold tupleText
  rw [strLen_append, strLen_append, e1]
  by_cases h : ts = []
  · subst h
    simp only [piled_nil, Nat.add_zero]
    exact (by decide : 1 + (Str.join ", " []).length + ((if ([] : List Str).length == 1 then ",)" else ")" : String) : Str).length ≤ 3)
  · have := join_length_add ts h
    omega
mutual
/-- a bound of the shown text -/
def D.rsz : D → Nat
  | .none => 4
  | .bool _ => 5
  | .int i => (toString i : Str).length
  | .str s => 10 * s.length + 2
  | .list l => 2 + rszL l
  | .tuple l => 3 + rszL l
  | .dict _ => 4
  | .obj _ _ => 4
  | .exc _ _ => 4
  | .ref _ => 4
def rszL : List D → Nat
  | [] => 0
  | d :: ds => d.rsz + 2 + rszL ds
end
mutual
/-- texts of code points -/
def D.cpok : D → Bool
  | .str s => s.cps.toList.all fun c => decide (c < 1114112)
  | .list l => cpokL l
  | .tuple l => cpokL l
  | _ => true
def cpokL : List D → Bool
  | [] => true
  | d :: ds => d.cpok && cpokL ds
end
mutual
theorem D.shown_le : ∀ d : D, d.cpok = true → d.py.shown.length ≤ d.rsz
  | .none, _ => by simp only [D.py, PyData.shown, D.rsz]; decide
  | .bool b, _ => by cases b <;> simp only [D.py, PyData.shown, D.rsz] <;> decide
  | .int i, _ => by
    simp only [D.py, PyData.shown, D.rsz]
    exact Nat.le_refl _
  | .str s, h => by
    simp only [D.py, PyData.shown, D.rsz]
    refine PySem.StrLaws.reprText_len s fun c hc => ?_
    simp only [D.cpok, List.all_eq_true, decide_eq_true_eq] at h
    exact Nat.lt_trans (h c hc) (by decide)
  | .list l, h => by
    simp only [D.py, PyData.shown, D.rsz]
    exact Nat.le_trans (listText_le _) (Nat.add_le_add_left (shownL_le l (by simpa only [D.cpok] using h)) _)
  | .tuple l, h => by
    simp only [D.py, PyData.shown, D.rsz]
    exact Nat.le_trans (tupleText_le _) (Nat.add_le_add_left (shownL_le l (by simpa only [D.cpok] using h)) _)
  | .dict _, _ => by simp only [D.py, PyData.shown, D.rsz]; decide
  | .obj _ _, _ => by simp only [D.py, PyData.shown, D.rsz]; decide
  | .exc _ _, _ => by simp only [D.py, PyData.shown, D.rsz]; decide
  | .ref _, _ => by simp only [D.py, PyData.shown, D.rsz]; decide
theorem shownL_le : ∀ l : List D, cpokL l = true → piled (PyData.shownAll (pyL l)) ≤ rszL l
  | [], _ => by simp only [pyL, PyData.shownAll, rszL, piled_nil]; exact Nat.le_refl _
  | d :: l, h => by
    simp only [cpokL, Bool.and_eq_true] at h
    simp only [pyL, PyData.shownAll, rszL, piled_cons]
    have := D.shown_le d h.1
    have := shownL_le l h.2
    omega
end
theorem cpokL_of : ∀ {l : List D}, (∀ d ∈ l, d.cpok = true) → cpokL l = true
  | [], _ => rfl
  | d :: l, h => by
    simp only [cpokL, Bool.and_eq_true]
    exact ⟨h d (List.mem_cons_self ..), cpokL_of fun e he => h e (List.mem_cons_of_mem _ he)⟩
theorem rszL_le {b : Nat} : ∀ {l : List D}, (∀ d ∈ l, d.rsz ≤ b) → rszL l ≤ (b + 2) * l.length
  | [], _ => Nat.zero_le _
  | d :: l, h => by
    have h1 := h d (List.mem_cons_self ..)
    have h2 := rszL_le fun e he => h e (List.mem_cons_of_mem _ he)
    simp only [rszL, List.length_cons]
    rw [Nat.mul_add_one]
    omega
theorem isPyL_of : ∀ {l : List D}, (∀ d ∈ l, d.isPy = true) → isPyL l = true
  | [], _ => rfl
  | d :: l, h => by
    simp only [isPyL, Bool.and_eq_true]
    exact ⟨h d (List.mem_cons_self ..), isPyL_of fun e he => h e (List.mem_cons_of_mem _ he)⟩
theorem showL_of : ∀ {l : List D}, (∀ d ∈ l, d.py.showable = true) → PyData.showableAll (pyL l) = true
  | [], _ => rfl
  | d :: l, h => by
    simp only [pyL, PyData.showableAll, Bool.and_eq_true]
    exact ⟨h d (List.mem_cons_self ..), showL_of fun e he => h e (List.mem_cons_of_mem _ he)⟩
theorem nodL_of : ∀ {l : List D}, (∀ d ∈ l, d.py.hasDict = false) → PyData.hasDictAll (pyL l) = false
  | [], _ => rfl
  | d :: l, h => by
    simp only [pyL, PyData.hasDictAll, Bool.or_eq_false_iff]
    exact ⟨h d (List.mem_cons_self ..), nodL_of fun e he => h e (List.mem_cons_of_mem _ he)⟩
theorem depL_of {b : Nat} : ∀ {l : List D}, (∀ d ∈ l, d.py.depth ≤ b) → PyData.depthAll (pyL l) ≤ b
  | [], _ => Nat.zero_le _
  | d :: l, h => by
    simp only [pyL, PyData.depthAll]
    exact Nat.max_le.mpr ⟨h d (List.mem_cons_self ..), depL_of fun e he => h e (List.mem_cons_of_mem _ he)⟩
section
variable {F : Fp} {Δ : List Sl} {K : PySem.W.Frag}
/-- repr of the def's own list -/
theorem ev_reprO {i : Nat} {ds : List D} (e : Δ[i]? = some (.own ds)) (hp : isPyL ds = true) (hs : (D.list ds).py.showable = true) (hd : (D.list ds).py.hasDict = false) (hn : (D.list ds).py.depth ≤ 64) (hz : (D.list ds).py.shown.length ≤ sizeLine) : Ev1 F (tCB (rReprD K) (tCons (tVar i) tNil)) Δ (.str (D.list ds).py.shown) := fun H0 S H σ w t Q k =>
  es_own e H0 S H σ w t _ fun ds' p xs S' H' e1 g nf h1 h2 => by
    subst e1
    have dp : Dp K H' (.ref p) (D.list ds').py := by
      simp only [D.py]
      exact .lst (SqL.of h1) (DtL.dp g.h ds' xs hp h2)
    exact ⟨p, _, rfl, dp, hs, hd, hn, hz, k _ _ S' H' rfl g (by simp only [Dt])⟩
end
end Bc

/-! Core E: exceptions as values: made, looked at by isinstance, their fields read; a path told as a tuple. -/
namespace Bc
open PySem L2 PySem.Spec PyProof.Rows PySem.W PySem.Calls PySem.HandSPX
/-- an exception class that only holds self.path = tuple(path) -/
structure XCP (P : Program) (K : Frag) (mg : Str → Option Value) (x : Str) (C : Addr) : Prop where
  ex : ∃ fI B newId initId bmB, XI.XCls K C B newId initId bmB ∧ XI.XIn P K C fI initId [("path" : Str)] ([("path" : Str)].map fun p => (p, p)) true
  gC : mg x = some (.ref C)
  gs : mg "super" = none
  gt : mg "tuple" = none
abbrev frE (C e t1 : Addr) (d : Option Addr) : HO := .frz (excR0 C t1 d) (.own e)
def tNewX (C : Addr) (ps : List Str) (ta : TA) : TE := fun σ H Q => ta σ H fun vs H1 => vs.length = ps.length ∧ (ps = [] → ∀ e t1, H1 e = none → Q (.ref e) (upd H1 e (frE C e t1 none))) ∧ ∀ e t1 d, H1 e = none → H1 d = none → d ≠ e → Q (.ref e) (upd (upd H1 d (.xd (ps.zip vs))) e (frE C e t1 (some d)))
def tNewP (K : Frag) (C : Addr) (ta : TA) : TE := fun σ H Q => ta σ H fun vs H1 => ∃ a ys, vs = [.ref a] ∧ ((SqT K H1 a ys ∧ ∀ e t1 d, H1 e = none → H1 d = none → d ≠ e → Q (.ref e) (upd (upd H1 d (.xd [(("path" : Str), .ref a)])) e (frE C e t1 (some d)))) ∨
  (SqL K H1 a ys ∧ ∀ t e t1 d, H1 t = none → H1 e = none → H1 d = none → t ≠ d → t ≠ e → d ≠ e → Q (.ref e) (upd (upd (upd H1 t (.tup ys)) d (.xd [(("path" : Str), .ref t)])) e (frE C e t1 (some d)))))
def tMkP (K : Frag) (C : Addr) (ta : TA) : L2.St → Hp → XK → Prop := fun σ H Q => ta σ H fun vs H1 => ∃ a ys, vs = [.ref a] ∧ ((SqT K H1 a ys ∧ ∀ d, H1 d = none → Q (.ref C) (some d) (upd H1 d (.xd [(("path" : Str), .ref a)]))) ∨
  (SqL K H1 a ys ∧ ∀ t d, H1 t = none → H1 d = none → t ≠ d → Q (.ref C) (some d) (upd (upd H1 t (.tup ys)) d (.xd [(("path" : Str), .ref t)]))))
section
variable {X : Cx} {x : Str} {C : Addr} {ps : List Str} {k : Nat} {p pos : Pos} {e : Expr} {es : List Expr} {ta : TA} {pins : List (Addr × Obj)} {σ : L2.St} {H : Hp} {s : Shared}
/-- a part of a heap -/
theorem cutHeap (h : Heap) (bad : List Addr) : ∃ G : Heap, (∀ b, b ∉ bad → G.get? b = h.get? b) ∧ ∀ b, b ∈ bad → G.get? b = none := by
  obtain ⟨G, g1, g2⟩ := restrict h fun b => decide (b ∉ bad)
  exact ⟨G, fun b hb => g1 b (decide_eq_true hb), fun b hb => g2 b (by simpa using hb)⟩
/-- two new things at once -/
theorem lay2 (I : Inv X pins σ H s) {h' : Heap} {t' : Nat} {d e : Addr} {o u : HO} (hd : s.heap.objs.size ≤ d) (he : s.heap.objs.size ≤ e) (hde : d ≠ e) (keep : ∀ b o, s.heap.get? b = some o → h'.get? b = some o)
    (ho : ∀ G, G.get? d = h'.get? d → ObjOk X.prog X.w (upd H d o) G d o) (hu : ObjOk X.prog X.w (upd (upd H d o) e u) h' e u) : Inv X pins σ (upd (upd H d o) e u) { s with heap := h', toks := t' } := by
  obtain ⟨G0, a1, a2⟩ := cutHeap h' [d, e]
  obtain ⟨G1, b1, b2⟩ := cutHeap h' [e]
  have lt : ∀ b o, s.heap.get? b = some o → b < s.heap.objs.size := fun b o q => Heap.lt_size q
  have I0 : Inv X pins σ H { s with heap := G0, toks := t' } := I.kept (t' := t') fun b o q => by
    have z := lt b o q
    have nb : b ∉ [d, e] := fun w => by
      simp only [List.mem_cons, List.not_mem_nil, or_false] at w
      rcases w with rfl | rfl
      all_goals exact absurd z (Nat.not_lt.mpr (by assumption))
    rw [a1 b nb]
    exact keep b o q
  have I1 : Inv X pins σ (upd H d o) { s with heap := G1, toks := t' } := I0.laidN (t' := t') (fun b o q => by
    by_cases hb : b ∈ [d, e]
    · rw [a2 b hb] at q
      cases q
    · rw [a1 b hb] at q
      rw [b1 b (fun z => hb (List.mem_cons_of_mem _ z))]
      exact q) (a2 d (by simp)) (I.hok.fresh hd) (ho G1 (b1 d (by simpa using hde)))
  exact I1.laidN (t' := t') (fun b o q => by
    by_cases hb : b ∈ [e]
    · rw [b2 b hb] at q
      cases q
    · rw [b1 b hb] at q
      exact q) (b2 e (by simp)) (by rw [upd_ne (Ne.symm hde)]; exact I.hok.fresh he) hu
theorem lay3 (I : Inv X pins σ H s) {h' : Heap} {t' : Nat} {t d e : Addr} {o u v : HO} (ht : s.heap.objs.size ≤ t) (hd : s.heap.objs.size ≤ d) (he : s.heap.objs.size ≤ e) (htd : t ≠ d) (hte : t ≠ e) (hde : d ≠ e) (keep : ∀ b o, s.heap.get? b = some o → h'.get? b = some o)
    (hv : ∀ G, G.get? t = h'.get? t → ObjOk X.prog X.w (upd H t v) G t v) (ho : ∀ G, G.get? d = h'.get? d → ObjOk X.prog X.w (upd (upd H t v) d o) G d o) (hu : ObjOk X.prog X.w (upd (upd (upd H t v) d o) e u) h' e u) : Inv X pins σ (upd (upd (upd H t v) d o) e u) { s with heap := h', toks := t' } := by
  obtain ⟨G0, a1, a2⟩ := cutHeap h' [t, d, e]
  obtain ⟨G1, b1, b2⟩ := cutHeap h' [d, e]
  obtain ⟨G2, c1, c2⟩ := cutHeap h' [e]
  have lt : ∀ b o, s.heap.get? b = some o → b < s.heap.objs.size := fun b o q => Heap.lt_size q
  have I0 : Inv X pins σ H { s with heap := G0, toks := t' } := I.kept (t' := t') fun b o q => by
    have z := lt b o q
    have nb : b ∉ [t, d, e] := fun w => by
      simp only [List.mem_cons, List.not_mem_nil, or_false] at w
      rcases w with rfl | rfl | rfl
      all_goals exact absurd z (Nat.not_lt.mpr (by assumption))
    rw [a1 b nb]
    exact keep b o q
  have I1 : Inv X pins σ (upd H t v) { s with heap := G1, toks := t' } := I0.laidN (t' := t') (fun b o q => by
    by_cases hb : b ∈ [t, d, e]
    · rw [a2 b hb] at q
      cases q
    · rw [a1 b hb] at q
      rw [b1 b (fun z => hb (List.mem_cons_of_mem _ z))]
      exact q) (a2 t (by simp)) (I.hok.fresh ht) (hv G1 (b1 t (by simp [htd, hte])))
  have I2 : Inv X pins σ (upd (upd H t v) d o) { s with heap := G2, toks := t' } := I1.laidN (t' := t') (fun b o q => by
    by_cases hb : b ∈ [d, e]
    · rw [b2 b hb] at q
      cases q
    · rw [b1 b hb] at q
      rw [c1 b (fun z => hb (List.mem_cons_of_mem _ z))]
      exact q) (b2 d (by simp)) (by rw [upd_ne (Ne.symm htd)]; exact I.hok.fresh hd) (ho G2 (c1 d (by simpa using hde)))
  exact I2.laidN (t' := t') (fun b o q => by
    by_cases hb : b ∈ [e]
    · rw [c2 b hb] at q
      cases q
    · rw [c1 b hb] at q
      exact q) (c2 e (by simp)) (by rw [upd_ne (Ne.symm hde), upd_ne (Ne.symm hte)]; exact I.hok.fresh he) hu
theorem new_run (T : XC X.prog X.K X.mg x C ps) (hr : Room k X.A) {Q : VK} {us : List Value} {vs : List V} (I1 : Inv X pins σ H s) (r1 : Vals vs us) (hl : vs.length = ps.length)
    (q0 : ps = [] → ∀ e t1, H e = none → Q (.ref e) (upd H e (frE C e t1 none))) (q1 : ∀ e t1 d, H e = none → H d = none → d ≠ e → Q (.ref e) (upd (upd H d (.xd (ps.zip vs))) e (frE C e t1 (some d)))) :
    wpAny (model X.prog X.w) X.A (call (.ref C) us) (EP X pins σ Q) X.xe s := by
  obtain ⟨fI, B, newId, initId, bmB, TC, TI⟩ := T.ex
  have hus : us.length = ps.length := by rw [← r1.length]; exact hl
  obtain ⟨mb, hb1, hb2⟩ := I1.mod.blt
  have hlim := I1.nolimit
  have bk := I1.bk
  have kin := I1.kIn
  obtain ⟨hp, g, dr, tk, os⟩ := s
  refine wpAny_call (XI.made_raw TC TI hus kin (I1.mod.glob.keeps bk) T.gs (hb1.keeps bk) ((hb2 "super" (by decide)).trans (by decide +kernel)) (fun z => by cases z) hlim (by have := hr.dp; omega) (by have := T.few; omega) fun h' tk' e dd ws hnew keep hoe hdd ew _ => ?_)
  have ew := ew rfl
  obtain ⟨t1, hoe⟩ := hoe
  show EP X pins σ Q (.ref e) ⟨h', g, dr, tk', os⟩
  cases dd with
  | none =>
    have eps : ps = [] := zip_nil hus (ew ▸ hdd)
    refine ⟨.ref e, _, I1.laid (t' := tk') keep hnew (show ObjOk X.prog X.w _ h' e (frE C e t1 none) from ⟨hoe, _, hoe⟩), rfl, q0 eps e t1 (I1.hok.fresh hnew)⟩
  | some d =>
    obtain ⟨dbig, dne, hns⟩ := hdd
    rw [ew] at hns
    refine ⟨.ref e, _, lay2 (t' := tk') I1 dbig hnew dne keep (o := .xd (ps.zip vs)) (u := frE C e t1 (some d)) (fun G hG => ?_) ⟨hoe, _, hoe⟩, rfl, q1 e t1 d (I1.hok.fresh hnew) (I1.hok.fresh dbig) dne⟩
    exact ⟨_, hns.at (fun o q => hG.trans q), fun f => rel_zip (List.nodup_cons.mp TI.nodup).2 r1 hus f⟩
theorem pe_newX (T : XC X.prog X.K X.mg x C ps) (hr : Room k X.A) (ha : PA X (e :: es) ta) (hg : Gl X x := by rfl) (hdb : (x == ("__debug__" : Str)) = false := by decide)
    (he : starEach (e :: es) X.env = (false, eval e X.env) :: starEach es X.env := by rfl) (hpl : (backTo pos (starEach es X.env)).any (·.1) = false := by rfl) : PE X (.Call (.Name x p) (e :: es) [] pos) (tNewX C ps ta) := by
  refine ⟨fun pins s σ H Q I h => ?_⟩
  obtain ⟨fI, B, newId, initId, bmB, TC, TI⟩ := T.ex
  refine wpAny_Call_Name_kw (ld_glob I hg T.gC ?_ hdb)
  refine PySem.W.callWith_K (h₀ := X.base) I.ok.mod.kin TC.kC (thn (ha.run pos pins s σ H _ I h) fun us s1 hh => ?_) he hpl
  obtain ⟨vs, H1, I1, r1, hl, q0, q1⟩ := hh
  exact ⟨I1.kIn, new_run T hr I1 r1 hl q0 q1⟩
theorem pe_newX0 (T : XC X.prog X.K X.mg x C []) (hr : Room k X.A) (hg : Gl X x := by rfl) (hdb : (x == ("__debug__" : Str)) = false := by decide) : PE X (.Call (.Name x p) [] [] pos) (tNewX C [] tNil) := by
  refine ⟨fun pins s σ H Q I h => ?_⟩
  obtain ⟨fI, B, newId, initId, bmB, TC, TI⟩ := id T.ex
  refine wpAny_Call_Name_kw (ld_glob I hg T.gC ?_ hdb)
  obtain ⟨_, q0, q1⟩ := h
  exact PySem.W.callWith_K0 I.kIn TC.kC (new_run (us := []) (vs := []) T hr I .nil rfl q0 q1)
theorem not_both (I : Inv X pins σ H s) {a : Addr} {xs ys : List V} (h1 : SqT X.K H a xs) (h2 : SqL X.K H a ys) : False := by
  obtain ⟨_, _, ⟨o, e1, e2, _⟩, _⟩ := I.tuple h1
  obtain ⟨_, _, pl, _⟩ := I.list h2
  obtain ⟨o2, e3, e4, _⟩ := pl.isList
  rw [e1] at e3
  cases e3
  rw [e2] at e4
  exact absurd (Value.type.inj e4) (by decide)
/-- what the two path rules share -/
theorem path_run (T : XCP X.prog X.K X.mg x C) (hr : Room k X.A) {us : List Value} {vs : List V} {R : Value → Shared → Prop} (I1 : Inv X pins σ H s) (r1 : Vals vs us) {a : Addr} {ys : List V} (ev : vs = [.ref a]) (hs : SqT X.K H a ys ∨ SqL X.K H a ys)
    (h : ∀ (h' : Heap) (tk' : Nat) (e t1 d : Addr) (v : Value), s.heap.objs.size ≤ e → s.heap.objs.size ≤ d → d ≠ e → (∀ b o, s.heap.get? b = some o → h'.get? b = some o) → h'.get? e = some (excR0 C t1 (some d)) → (h'.Ns1 d fun y => [(("path" : Str), v)].lookup y) →
      ((SqT X.K H a ys ∧ v = .ref a) ∨ (SqL X.K H a ys ∧ ∃ t its, v = .ref t ∧ s.heap.objs.size ≤ t ∧ t ≠ e ∧ t ≠ d ∧ ys.length ≤ sizeLine ∧ Vals ys its ∧ h'.get? t = some { cls := .type "tuple", data := .seq its.toArray })) → R (.ref e) { s with heap := h', toks := tk' }) :
    wpAny (model X.prog X.w) X.A (call (.ref C) us) R X.xe s := by
  obtain ⟨fI, B, newId, initId, bmB, TC, TI⟩ := T.ex
  subst ev
  obtain ⟨u0, rfl, ru⟩ := vals1 r1
  cases ru
  obtain ⟨mb, hb1, hb2⟩ := I1.mod.blt
  have hlim := I1.nolimit
  have bk := I1.bk
  have kin := I1.kIn
  have seq : ∃ its, Vals ys its ∧ ys.length ≤ sizeLine ∧ ((SqT X.K H a ys ∧ s.heap.IsTuple a its.toArray) ∨ (SqL X.K H a ys ∧ s.heap.IsList a its.toArray)) := by
    rcases hs with hs | hs
    · obtain ⟨its, r', pl, hz⟩ := I1.tuple hs
      exact ⟨its, r', hz, .inl ⟨hs, pl⟩⟩
    · obtain ⟨its, r', pl, hz⟩ := I1.list hs
      exact ⟨its, r', hz, .inr ⟨hs, pl.isList⟩⟩
  obtain ⟨its, rv, hz, seq⟩ := seq
  obtain ⟨hp, g, dr, tk, os⟩ := s
  have hz' : its.toArray.size ≤ sizeLine := by rw [List.size_toArray, ← rv.length]; exact hz
  refine wpAny_call (XI.made_raw TC TI rfl kin (I1.mod.glob.keeps bk) T.gs (hb1.keeps bk) ((hb2 "super" (by decide)).trans (by decide +kernel)) (fun _ => ⟨T.gt, (hb2 "tuple" (by decide)).trans (by decide +kernel), a, its.toArray, rfl, seq.imp (fun z => z.2) fun z => ⟨z.2, hz'⟩⟩) hlim (by have := hr.dp; omega) (show 1 ≤ 1000 by decide) fun h' tk' e dd ws hnew keep hoe hdd _ ew => ?_)
  obtain ⟨u, its2, v, e1, e2, e3⟩ := ew rfl
  cases e1
  subst e2
  obtain ⟨t1, hoe⟩ := hoe
  cases dd with
  | none => cases hdd
  | some d =>
    obtain ⟨dbig, dne, hns⟩ := hdd
    refine h h' tk' e t1 d v hnew dbig dne keep hoe hns ?_
    have same : ∀ {o o2 : Obj}, hp.get? a = some o → hp.get? a = some o2 → o = o2 := fun e1 e2 => Option.some.inj (e1.symm.trans e2)
    rcases e3 with ⟨⟨o2, f1, f2, _⟩, rfl⟩ | ⟨⟨o2, f1, f2, n2, f3⟩, t, rfl, z2, z3, z4⟩
    · rcases seq with ⟨s1, _⟩ | ⟨s1, o, f4, f5, _⟩
      · exact .inl ⟨s1, rfl⟩
      · rw [same f1 f4, f5] at f2
        exact absurd (Value.type.inj f2) (by decide)
    · rcases seq with ⟨s1, o, f4, f5, _⟩ | ⟨s1, o, f4, f5, n, f6⟩
      · rw [same f1 f4, f5] at f2
        exact absurd (Value.type.inj f2) (by decide)
      · rw [same f1 f4, f6] at f3
        cases f3
        refine .inr ⟨s1, t, its, rfl, z2, z3, fun w => ?_, hz, rv, z4⟩
        subst w
        obtain ⟨o3, es, ep, q1, q2, _⟩ := hns
        rw [z4] at q1
        cases q1
        cases q2
theorem pe_newP (T : XCP X.prog X.K X.mg x C) (hr : Room k X.A) (ha : PA X (e :: es) ta) (hg : Gl X x := by rfl) (hdb : (x == ("__debug__" : Str)) = false := by decide)
    (he : starEach (e :: es) X.env = (false, eval e X.env) :: starEach es X.env := by rfl) (hpl : (backTo pos (starEach es X.env)).any (·.1) = false := by rfl) : PE X (.Call (.Name x p) (e :: es) [] pos) (tNewP X.K C ta) := by
  refine ⟨fun pins s σ H Q I h => ?_⟩
  obtain ⟨fI, B, newId, initId, bmB, TC, TI⟩ := id T.ex
  refine wpAny_Call_Name_kw (ld_glob I hg T.gC ?_ hdb)
  refine PySem.W.callWith_K (h₀ := X.base) I.ok.mod.kin TC.kC (thn (ha.run pos pins s σ H _ I h) fun us s1 hh => ?_) he hpl
  obtain ⟨vs, H1, I1, r1, a, ys, ev, hh⟩ := hh
  refine ⟨I1.kIn, path_run T hr I1 r1 ev (hh.imp (fun z => z.1) fun z => z.1) fun h' tk' e t1 d v hnew dbig dne keep hoe hns hv => ?_⟩
  have xdok : ∀ {H2 : Hp} {G : Heap} {w : V}, RelV w v → G.get? d = h'.get? d → ObjOk X.prog X.w H2 G d (.xd [(("path" : Str), w)]) := fun {H2 G w} rw_ hG => ⟨_, hns.at (fun o q => hG.trans q), fun f => by
    by_cases hf : f = ("path" : Str)
    · subst hf
      simp only [List.lookup, beq_self_eq_true]
      exact rw_
    · have : (f == ("path" : Str)) = false := by simpa using hf
      simp only [List.lookup, this]
      trivial⟩
  rcases hh with ⟨h1, k1⟩ | ⟨h1, k1⟩
  · rcases hv with ⟨_, rfl⟩ | ⟨h2, _⟩
    · exact ⟨.ref e, _, lay2 (t' := tk') I1 dbig hnew dne keep (o := .xd [(("path" : Str), .ref a)]) (u := frE C e t1 (some d)) (fun G hG => xdok rfl hG) ⟨hoe, _, hoe⟩, rfl, k1 e t1 d (I1.hok.fresh hnew) (I1.hok.fresh dbig) dne⟩
    · exact (not_both I1 h1 h2).elim
  · rcases hv with ⟨h2, rfl⟩ | ⟨h2, t, its, rfl, tbig, tne, tnd, hz, rv, ht⟩
    · exact (not_both I1 h2 h1).elim
    · exact ⟨.ref e, _, lay3 (t' := tk') I1 tbig dbig hnew tnd tne dne keep (v := .tup ys) (o := .xd [(("path" : Str), .ref t)]) (u := frE C e t1 (some d)) (fun G hG => ⟨hz, its, rv, _, hG.trans ht, rfl, _, rfl⟩) (fun G hG => xdok rfl hG) ⟨hoe, _, hoe⟩, rfl, k1 t e t1 d (I1.hok.fresh tbig) (I1.hok.fresh hnew) (I1.hok.fresh dbig) tnd tne dne⟩
theorem xd1_ok {P : Program} {wd : World} {h' G : Heap} {d : Addr} {H2 : Hp} {w : V} {v : Value} (hns : h'.Ns1 d fun y => [(("path" : Str), v)].lookup y) (r : RelV w v) (hG : G.get? d = h'.get? d) : ObjOk P wd H2 G d (.xd [(("path" : Str), w)]) := ⟨_, hns.at (fun o q => hG.trans q), fun f => by
    by_cases hf : f = ("path" : Str)
    · subst hf
      simp only [List.lookup, beq_self_eq_true]
      exact r
    · have : (f == ("path" : Str)) = false := by simpa using hf
      simp only [List.lookup, this]
      trivial⟩
theorem pmk_XP (T : XCP X.prog X.K X.mg x C) (hr : Room k X.A) (ha : PA X (e :: es) ta) (hg : Gl X x := by rfl) (hdb : (x == ("__debug__" : Str)) = false := by decide)
    (he : starEach (e :: es) X.env = (false, eval e X.env) :: starEach es X.env := by rfl) (hpl : (backTo pos (starEach es X.env)).any (·.1) = false := by rfl) : PMk X (.Call (.Name x p) (e :: es) [] pos) (tMkP X.K C ta) := by
  intro pins s σ H Q I h
  obtain ⟨fI, B, newId, initId, bmB, TC, TI⟩ := id T.ex
  refine wpAny_Call_Name_kw (ld_glob I hg T.gC ?_ hdb)
  refine PySem.W.callWith_K (h₀ := X.base) I.ok.mod.kin TC.kC (thn (ha.run pos pins s σ H _ I h) fun us s1 hh => ?_) he hpl
  obtain ⟨vs, H1, I1, r1, a, ys, ev, hh⟩ := hh
  refine ⟨I1.kIn, path_run T hr I1 r1 ev (hh.imp (fun z => z.1) fun z => z.1) fun h' tk' e t1 d v hnew dbig dne keep hoe hns hv => ?_⟩
  show MkP X pins σ Q (.ref e) _
  obtain ⟨G', g1, g2⟩ := cutHeap h' [e]
  have gk : ∀ b, b ≠ e → G'.get? b = h'.get? b := fun b hb => g1 b (by simpa using hb)
  have ge : G'.get? e = none := g2 e (by simp)
  have old : ∀ b o, s1.heap.get? b = some o → G'.get? b = some o := fun b o q => (gk b (Nat.ne_of_lt (Nat.lt_of_lt_of_le (Heap.lt_size q) hnew))).trans (keep b o q)
  have up : ∀ b o, G'.get? b = some o → h'.get? b = some o := fun b o q => by
    by_cases hb : b = e
    · rw [hb, ge] at q; cases q
    · exact (gk b hb).symm.trans q
  have ne : H1 e = none := I1.hok.fresh hnew
  rcases hh with ⟨h1, k1⟩ | ⟨h1, k1⟩
  · rcases hv with ⟨_, rfl⟩ | ⟨h2, _⟩
    · have J : Inv X pins σ (upd H1 d (.xd [(("path" : Str), .ref a)])) { s1 with heap := G', toks := tk' } := I1.laid (t' := tk') old dbig (xd1_ok hns rfl (gk d dne))
      exact ⟨e, _, _, { s1 with heap := G', toks := tk' }, _, .ref C, some d, rfl, J, up, ge, hoe, ⟨rfl, rfl⟩, rfl, rfl, by rw [upd_ne (Ne.symm dne)]; exact ne, rfl, I1.bare, raises_own TC.exC TC.tyC, k1 d (I1.hok.fresh dbig)⟩
    · exact (not_both I1 h1 h2).elim
  · rcases hv with ⟨h2, rfl⟩ | ⟨h2, t, its, rfl, tbig, tne, tnd, hz, rv, ht⟩
    · exact (not_both I1 h2 h1).elim
    · have J : Inv X pins σ (upd (upd H1 t (.tup ys)) d (.xd [(("path" : Str), .ref t)])) { s1 with heap := G', toks := tk' } := lay2 (t' := tk') I1 tbig dbig tnd old (fun G hG => ⟨hz, its, rv, _, hG.trans ((gk t tne).trans ht), rfl, _, rfl⟩) (xd1_ok hns rfl (gk d dne))
      exact ⟨e, _, _, { s1 with heap := G', toks := tk' }, _, .ref C, some d, rfl, J, up, ge, hoe, ⟨rfl, rfl⟩, rfl, rfl, by rw [upd_ne (Ne.symm dne), upd_ne (Ne.symm tne)]; exact ne, rfl, I1.bare, raises_own TC.exC TC.tyC, k1 t d (I1.hok.fresh tbig) (I1.hok.fresh dbig) tnd⟩
end
/-! ### looked at -/
structure XAt (K : Frag) (C : Addr) : Prop where
  ga : findIn K (.ref C) "__getattribute__" = some (some (.builtin "BaseException.__getattribute__"))
  gg : findIn K (.ref C) "__getattr__" = some none
  exC : subIn K (.ref C) (.type "BaseException") = some true
  hdC : hasDictIn K C = true
  cl : findIn K (.ref C) "__class__" = some (some (.builtin "object.__class__"))
  ob : mroIn K C (.type "object") = some true
theorem spc_class {K : Frag} : specialIn K (.builtin "object.__class__") "__get__" = some (some (.builtin "getset_descriptor.__get__")) := by kernel_rfl
theorem tak_class {K : Frag} : takesIn K (.builtin "object.__class__") = some true := by kernel_rfl
/-- an exception's object at a, its class C -/
def ExcAt (H : Hp) (a C : Addr) : Prop := ∃ t1, H a = some (frE C a t1 none) ∨ ∃ d vs, H a = some (frE C a t1 (some d)) ∧ H d = some (.xd vs)
theorem ExcAt.inst {X : Cx} {pins : List (Addr × Obj)} {σ : L2.St} {H : Hp} {s : Shared} {a C : Addr} (I : Inv X pins σ H s) (h : ExcAt H a C) : ∃ ox od, PySem.W.InstAt s.heap a ox C od := by
  obtain ⟨t1, h | ⟨d, vs, h, h2⟩⟩ := h
  · obtain ⟨e, _⟩ := (show ObjOk X.prog X.w H s.heap a (frE C a t1 none) from I.hok a _ h)
    exact ⟨_, none, e, rfl, rfl, trivial⟩
  · obtain ⟨e, _⟩ := (show ObjOk X.prog X.w H s.heap a (frE C a t1 (some d)) from I.hok a _ h)
    obtain ⟨_, ⟨o, _, _, e2, _⟩, _⟩ := (show ObjOk X.prog X.w H s.heap d (.xd vs) from I.hok d _ h2)
    exact ⟨_, some o, e, rfl, rfl, e2⟩
abbrev rIsiE (K : Frag) : List V → Hp → VK → Prop := fun xs H Q => ∃ (a C : Addr) (c : V) (u : Value) (b : Bool), xs = [.ref a, c] ∧ ClsV c u ∧ ExcAt H a C ∧ XAt K C ∧ kitOne K (.ref C) u = some b ∧ Q (.bl b) H
section
variable {X : Cx}
theorem call_isiE : CallR X (.builtin "isinstance") (rIsiE X.K) := by
  intro pins s σ H xs us Q I r h
  obtain ⟨a, C, c, u, b, rfl, k, ea, T, e, q⟩ := h
  obtain ⟨u1, u2, rfl, r1, r2⟩ := vals2 r
  have e2 := k.eq r2
  subst e2
  cases (show u1 = Value.ref a from r1)
  obtain ⟨ox, od, J⟩ := ea.inst I
  obtain ⟨cd, hc, _⟩ := any_some T.hdC
  have hcl : (clsIn X.K C).isSome = true := by rw [hc]; rfl
  exact kia_one (kitx_exc (ox := ox) (od := od) hcl T.ga T.gg T.exC T.cl spc_class tak_class T.ob) I.kIn J e (fun z => nomatch z) fun tk => ⟨.bl b, H, I.tok tk, rfl, q⟩
theorem qIsiE {K : Frag} (hK : X.K = K := by rfl) : CallR X (.builtin "isinstance") (rIsiE K) := by subst hK; exact call_isiE
/-- e.f -/
def tFldE (K : Frag) (f : Str) (te : TE) : TE := fun σ H Q => te σ H fun x H1 => ∃ (a C t1 d : Addr) (vs : List (Str × V)) (v : V), x = .ref a ∧ H1 a = some (frE C a t1 (some d)) ∧ H1 d = some (.xd vs) ∧ XAt K C ∧ findIn K (.ref C) f = some none ∧ vs.lookup f = some v ∧ Q v H1
theorem pe_fldE {K : Frag} {e : Expr} {te : TE} {pos : Pos} {n : Str} (he : PE X e te) (hb : attributeBase e n X.env (eval e X.env) = eval e X.env := by rfl) (hK : X.K = K := by rfl) : PE X (.Attribute e n pos) (tFldE K n te) := by
  subst hK
  refine ⟨fun pins s σ H Q I h => ?_⟩
  refine attr_of hb (thn (he.run pins s σ H _ I h) fun u s1 hh => ?_)
  obtain ⟨x, H1, I1, rx, a, C, t1, d, vs, v, rfl, ea, ed, T, hno, l, q⟩ := hh
  obtain rfl : u = Value.ref a := rx
  obtain ⟨ha, _⟩ := (show ObjOk X.prog X.w H1 s1.heap a (frE C a t1 (some d)) from I1.hok a _ ea)
  obtain ⟨mA, hns, hr⟩ := (show ObjOk X.prog X.w H1 s1.heap d (.xd vs) from I1.hok d _ ed)
  obtain ⟨od, ho, hl⟩ := lookIn_ns hns
  obtain ⟨u, hu, ru⟩ := RelO.some_of (v := v) (o := mA n) (by rw [← l]; exact hr n)
  have J : PySem.W.InstAt s1.heap a (excR0 C t1 (some d)) C (some od) := ⟨ha, rfl, rfl, ho⟩
  exact HandSPX.exc_get I1.kIn J T.ga T.gg T.exC (PySem.W.findObj_own T.hdC hno rfl (by rw [hl, hu])) (handed_of ru) ⟨v, H1, I1.tok _, ru, q⟩
end
section
variable {F : Fp} {Δ : List Sl} {te : TE} {ta : TA} {K : Frag} {C : Addr}
theorem dt_exc {S H : Hp} {fs : List (Str × D)} {v : V} (hs : Same S H) (h : Dt S (.exc C fs) v) : ∃ a, v = .ref a ∧ ExcAt H a C := by
  simp only [Dt] at h
  obtain ⟨a, t1, rfl, ⟨_, e⟩ | ⟨d, vs, _, e, e2, _⟩⟩ := h
  · exact ⟨a, rfl, t1, .inl (hs _ _ e)⟩
  · exact ⟨a, rfl, t1, .inr ⟨d, vs, hs _ _ e, hs _ _ e2⟩⟩
theorem ev_isiE {fs : List (Str × D)} {c : V} {u : Value} {b : Bool} (h : Ev1 F te Δ (.exc C fs)) (k : ClsV c u) (T : XAt K C) (e : kitOne K (.ref C) u = some b) : Ev1 F (tCB (rIsiE K) (tCons te (tCons (tC c) tNil))) Δ (.bool b) := fun H0 S H σ w t Q q =>
  h H0 S H σ w t _ fun d v S' H' ed g hv => by
    subst ed
    obtain ⟨a, rfl, ea⟩ := dt_exc g.h hv
    exact ⟨a, C, c, u, b, rfl, k, ea, T, e, q _ _ S' H' rfl g (by simp only [Dt])⟩
theorem ev_fldE {fs : List (Str × D)} {f : Str} {d : D} (h : Ev1 F te Δ (.exc C fs)) (T : XAt K C) (n : NoAttr K C f) (l : fs.lookup f = some d) : Ev1 F (tFldE K f te) Δ d := fun H0 S H σ w t Q q =>
  h H0 S H σ w t _ fun x v S' H' ed g hv => by
    subst ed
    simp only [Dt] at hv
    obtain ⟨a, t1, rfl, ⟨e0, _⟩ | ⟨dx, vs, _, e1, e2, hf⟩⟩ := hv
    · subst e0
      cases l
    · obtain ⟨y, hy, hd⟩ := (dtf_lookup hf).1 _ l
      exact ⟨a, C, t1, dx, vs, y, rfl, g.h _ _ e1, g.h _ _ e2, T, n, hy, q _ _ S' H' rfl g hd⟩
theorem ev_newX {ps : List Str} {Pa : List D → Prop} (h : EvA F ta Δ Pa) (hl : ∀ ds, Pa ds → ds.length = ps.length) : EvR F (tNewX C ps ta) Δ fun d => ∃ ds, Pa ds ∧ d = .exc C (ps.zip ds) := fun H0 S H σ w t Q k =>
  h H0 S H σ w t _ fun ds vs S1 H1 p g hd => by
    refine ⟨by rw [← hd.len]; exact hl ds p, fun e => ?_, fun e t1 dx he hx hne => ?_⟩
    · intro e' t1 he
      refine k (.exc C (ps.zip ds)) _ _ _ ⟨ds, p, rfl⟩ (g.trans (Gr.newD g.h he)) ?_
      simp only [Dt]
      exact ⟨e', t1, rfl, .inl ⟨by rw [e]; rfl, upd_same⟩⟩
    · have g1 := Gr.newD (F := F) (o := .xd (ps.zip vs)) g.h hx
      have he' : upd H1 dx (.xd (ps.zip vs)) e = Option.none := by rw [upd_ne (Ne.symm hne)]; exact he
      have g2 := Gr.newD (F := F) (o := frE C e t1 (some dx)) g1.h he'
      refine k (.exc C (ps.zip ds)) _ _ _ ⟨ds, p, rfl⟩ ((g.trans g1).trans g2) ?_
      simp only [Dt]
      exact ⟨e, t1, rfl, .inr ⟨dx, _, hne, upd_same, by rw [upd_ne hne]; exact upd_same, DtF.mono (g1.s.trans g2.s) _ _ (dtf_zip hd)⟩⟩
theorem ev_newX1 {ps : List Str} {ds : List D} (h : EvA F ta Δ fun r => r = ds) (hl : ds.length = ps.length) : Ev1 F (tNewX C ps ta) Δ (.exc C (ps.zip ds)) := (ev_newX h fun _ e => by rw [e]; exact hl).imp fun d ⟨_, e, e2⟩ => by rw [e2, e]
theorem ev_newP {x : D} {l : List D} (h : Ev1 F te Δ x) (hx : x = .list l ∨ x = .tuple l) : Ev1 F (tNewP K C (tCons te tNil)) Δ (.exc C [(("path" : Str), .tuple l)]) := fun H0 S H σ w t Q k =>
  h H0 S H σ w t _ fun d v S1 H1 ed g hv => by
    subst ed
    rcases hx with rfl | rfl
    · simp only [Dt] at hv
      obtain ⟨a, xs, rfl, e1, h1⟩ := hv
      refine ⟨a, xs, rfl, .inr ⟨SqL.of (g.h _ _ e1), fun tt e t1 dx ht he hx htd hte hde => ?_⟩⟩
      have g1 := Gr.newD (F := F) (o := .tup xs) g.h ht
      have hx' : upd H1 tt (.tup xs) dx = Option.none := by rw [upd_ne (Ne.symm htd)]; exact hx
      have g2 := Gr.newD (F := F) (o := .xd [(("path" : Str), .ref tt)]) g1.h hx'
      have he' : upd (upd H1 tt (.tup xs)) dx (.xd [(("path" : Str), .ref tt)]) e = Option.none := by rw [upd_ne (Ne.symm hde), upd_ne (Ne.symm hte)]; exact he
      have g3 := Gr.newD (F := F) (o := frE C e t1 (some dx)) g2.h he'
      refine k _ _ _ _ rfl (((g.trans g1).trans g2).trans g3) ?_
      simp only [Dt, DtF]
      exact ⟨e, t1, rfl, .inr ⟨dx, _, hde, upd_same, by rw [upd_ne hde]; exact upd_same, _, _, rfl, ⟨tt, xs, rfl, by rw [upd_ne hte, upd_ne htd]; exact upd_same, h1.mono ((g1.s.trans g2.s).trans g3.s)⟩, rfl⟩⟩
    · simp only [Dt] at hv
      obtain ⟨a, xs, rfl, e1, h1⟩ := hv
      refine ⟨a, xs, rfl, .inl ⟨SqT.of (g.h _ _ e1), fun e t1 dx he hx hde => ?_⟩⟩
      have g2 := Gr.newD (F := F) (o := .xd [(("path" : Str), .ref a)]) g.h hx
      have he' : upd H1 dx (.xd [(("path" : Str), .ref a)]) e = Option.none := by rw [upd_ne (Ne.symm hde)]; exact he
      have g3 := Gr.newD (F := F) (o := frE C e t1 (some dx)) g2.h he'
      refine k _ _ _ _ rfl ((g.trans g2).trans g3) ?_
      simp only [Dt, DtF]
      exact ⟨e, t1, rfl, .inr ⟨dx, _, hde, upd_same, by rw [upd_ne hde]; exact upd_same, _, _, rfl, ⟨a, xs, rfl, (g2.s.trans g3.s) _ _ e1, h1.mono (g2.s.trans g3.s)⟩, rfl⟩⟩
end
end Bc

/-! Core D: the exact repr of data with dicts in it. -/
namespace Bc
open PySem L2 PySem.Spec PyProof.Rows
def keyP : Key → PyData
  | .inl i => .int i
  | .inr x => .str x
mutual
def D.pr : D → PyData
  | .none => .none
  | .bool b => .bool b
  | .int i => .int i
  | .str s => .str s
  | .list l => .list (prL l)
  | .tuple l => .tuple (prL l)
  | .dict l => .dict (prK l)
  | .obj _ _ => .none
  | .exc _ _ => .none
  | .ref _ => .none
def prL : List D → List PyData
  | [] => []
  | d :: ds => d.pr :: prL ds
def prK : List (Key × D) → List (PyData × PyData)
  | [] => []
  | (k, d) :: ds => (keyP k, d.pr) :: prK ds
end
mutual
def D.prOk : D → Bool
  | .none => true
  | .bool _ => true
  | .int _ => true
  | .str _ => true
  | .list l => prOkL l
  | .tuple l => prOkL l
  | .dict l => prOkK l
  | .obj _ _ => false
  | .exc _ _ => false
  | .ref _ => false
def prOkL : List D → Bool
  | [] => true
  | d :: ds => d.prOk && prOkL ds
def prOkK : List (Key × D) → Bool
  | [] => true
  | (_, d) :: ds => d.prOk && prOkK ds
end
section
variable {X : Cx} {pins : List (Addr × Obj)} {σ : L2.St} {H S : Hp} {s : Shared}
theorem reads_key {h : Heap} {k : Key} {v : Value} (e : keyIs k v = true) : Reads h v (keyP k) [] := by
  rcases keyIs_shape e with ⟨i, t, rfl, rfl⟩ | ⟨x, t, rfl, rfl⟩
  · exact .int i t
  · exact .str x t
theorem not_app {a : Addr} {as bs : List Addr} (h1 : a ∉ as) (h2 : a ∉ bs) : a ∉ as ++ bs := fun z => (List.mem_append.mp z).elim h1 h2
mutual
theorem dt_reads (I : Inv X pins σ H s) (e : Same S H) (sm : SysB X.base) : ∀ (d : D) (v : V) (u : Value), d.prOk = true → Dt S d v → RelV v u → ∃ as, Reads s.heap u d.pr as ∧ sysModules ∉ as
  | .none, _, _, _, h, r => by
    simp only [Dt] at h
    subst h
    cases r
    exact ⟨_, .none, List.not_mem_nil⟩
  | .bool b, _, _, _, h, r => by
    simp only [Dt] at h
    subst h
    cases r
    exact ⟨_, .bool b, List.not_mem_nil⟩
  | .int i, _, _, _, h, r => by
    simp only [Dt] at h
    subst h
    obtain ⟨t, rfl⟩ := r
    exact ⟨_, .int i t, List.not_mem_nil⟩
  | .str x, _, _, _, h, r => by
    simp only [Dt] at h
    subst h
    obtain ⟨t, rfl⟩ := r
    exact ⟨_, .str x t, List.not_mem_nil⟩
  | .ref a, v, _, q, _, _ => by simp [D.prOk] at q
  | .obj C a, v, _, q, _, _ => by simp [D.prOk] at q
  | .exc C a, v, _, q, _, _ => by simp [D.prOk] at q
  | .list ds, v, u, q, h, r => by
    simp only [Dt] at h
    simp only [D.prOk] at q
    obtain ⟨a, xs, rfl, e1, h1⟩ := h
    cases r
    obtain ⟨its, rv, ⟨o, n, ho, hc, _, hd⟩, _⟩ := I.list (SqL.of (e _ _ e1))
    obtain ⟨as, hr, hn⟩ := dtl_reads I e sm ds xs its q h1 rv
    refine ⟨_, .list ho hc hd hr, fun z => ?_⟩
    rcases List.mem_cons.mp z with z | z
    · obtain ⟨mm, o2, es, ep, k1, k2, _⟩ := sm
      have := I.bk _ _ k1
      rw [z, ho] at this
      cases this
      rw [hd] at k2
      cases k2
    · exact hn z
  | .tuple ds, v, u, q, h, r => by
    simp only [Dt] at h
    simp only [D.prOk] at q
    obtain ⟨a, xs, rfl, e1, h1⟩ := h
    cases r
    obtain ⟨its, rv, ⟨o, ho, hc, n, hd⟩, _⟩ := I.tuple (SqT.of (e _ _ e1))
    obtain ⟨as, hr, hn⟩ := dtl_reads I e sm ds xs its q h1 rv
    exact ⟨_, .tuple ho hc hd hr, hn⟩
  | .dict ds, v, u, q, h, r => by
    simp only [Dt] at h
    simp only [D.prOk] at q
    obtain ⟨a, ks, rfl, e1, h1⟩ := h
    cases r
    obtain ⟨_, hs, vs, kv, o, es, ep, ho, hx, hd, _, hp, _⟩ := dk_of I.hok (e _ _ e1)
    obtain ⟨as, bs, ha, hb, na, nb⟩ := dtk_reads I e sm ds ks vs es.toList q h1 kv hp
    refine ⟨_, .dict ho hx.1 hd ha hb, fun z => ?_⟩
    rcases List.mem_cons.mp z with z | z
    · rw [← z] at hs
      simp at hs
    · exact not_app na nb z
theorem dtl_reads (I : Inv X pins σ H s) (e : Same S H) (sm : SysB X.base) : ∀ (ds : List D) (xs : List V) (us : List Value), prOkL ds = true → DtL S ds xs → Vals xs us → ∃ as, ReadsAll s.heap us (prL ds) as ∧ sysModules ∉ as
  | [], xs, us, _, h, r => by
    simp only [DtL] at h
    subst h
    cases r
    exact ⟨_, .nil, List.not_mem_nil⟩
  | d :: ds, xs, us, q, h, r => by
    simp only [DtL] at h
    simp only [prOkL, Bool.and_eq_true] at q
    obtain ⟨x, ys, rfl, h1, h2⟩ := h
    cases r with
    | cons r1 r2 =>
      obtain ⟨as, q1, n1⟩ := dt_reads I e sm d x _ q.1 h1 r1
      obtain ⟨bs, q2, n2⟩ := dtl_reads I e sm ds ys _ q.2 h2 r2
      exact ⟨_, .cons q1 q2, not_app n1 n2⟩
theorem dtk_reads (I : Inv X pins σ H s) (e : Same S H) (sm : SysB X.base) : ∀ (ds : List (Key × D)) (ks : List (Key × V)) (vs : List (Key × Value)) (es : List DictEntry), prOkK ds = true → DtK S ds ks → KV ks vs → Pairs (mixKind X.prog X.w) es vs →
    ∃ as bs, ReadsAll s.heap (es.map (·.key)) ((prK ds).map (·.1)) as ∧ ReadsAll s.heap (es.map (·.val)) ((prK ds).map (·.2)) bs ∧ sysModules ∉ as ∧ sysModules ∉ bs
  | [], ks, vs, es, _, h, r, p => by
    simp only [DtK] at h
    subst h
    cases r
    cases p
    exact ⟨_, _, .nil, .nil, List.not_mem_nil, List.not_mem_nil⟩
  | (k, d) :: ds, ks, vs, es, q, h, r, p => by
    simp only [DtK] at h
    simp only [prOkK, Bool.and_eq_true] at q
    obtain ⟨x, ys, rfl, h1, h2⟩ := h
    cases r with
    | cons r1 r2 =>
      cases p with
      | cons p1 p2 p3 =>
        obtain ⟨e1, e2⟩ := r1
        obtain ⟨as, bs, a1, b1, n1, n2⟩ := dtk_reads I e sm ds ys _ _ q.2 h2 r2 p3
        obtain ⟨cs, c1, n3⟩ := dt_reads I e sm d x _ q.1 h1 e2
        refine ⟨_, _, .cons (reads_key (k := k) ?_) a1, .cons ?_ b1, not_app List.not_mem_nil n1, not_app n3 n2⟩
        · rw [show k = _ from e1]
          exact p1
        · dsimp only
          rw [p2]
          exact c1
end
abbrev rReprX (K : PySem.W.Frag) : List V → Hp → VK → Prop := fun xs H Q => ∃ (S : Hp) (a : Addr) (d : D), xs = [.ref a] ∧ Same S H ∧ Dt S d (.ref a) ∧ d.prOk = true ∧ d.pr.showable = true ∧ d.pr.depth ≤ 64 ∧ d.pr.shown.length ≤ sizeLine ∧ Q (.str d.pr.shown) H
theorem pReprX (sm : SysB X.base) (hg : X.A.guards = some []) (hu : X.A.units + 65 < cLine) {K : PySem.W.Frag} (hK : X.K = K := by rfl) : CallR X (.builtin "repr") (rReprX K) := by
  subst hK
  intro pins s σ H xs us Q I r h
  obtain ⟨S, a, d, rfl, e, hd, hp, hs, hdp, hz, q⟩ := h
  obtain ⟨u, rfl, hu1⟩ := vals1 r
  obtain rfl : u = Value.ref a := hu1
  obtain ⟨as, r1, n1⟩ := dt_reads I e sm d (.ref a) (.ref a) hp hd rfl
  obtain ⟨hp', g, dr, tk, os⟩ := s
  exact repr_of_reads' r1 hs (fun _ => n1) hg (by omega) (fun _ _ e => e) (fun h' u tk' hk => ⟨.str d.pr.shown, H, I.kept (t' := tk') hk, ⟨u, rfl⟩, q⟩) hz
end
theorem ev_reprX {F : Fp} {Δ : List Sl} {te : TE} {K : PySem.W.Frag} {x : D} (h : Ev1 F te Δ x) (hx : (∃ l, x = .list l) ∨ ∃ l, x = .tuple l) (hp : x.prOk = true) (hs : x.pr.showable = true) (hn : x.pr.depth ≤ 64) (hz : x.pr.shown.length ≤ sizeLine) : Ev1 F (tCB (rReprX K) (tCons te tNil)) Δ (.str x.pr.shown) := fun H0 S H σ w t Q k =>
  h H0 S H σ w t _ fun d v S' H' e g hv => by
    subst e
    obtain ⟨a, rfl⟩ : ∃ a, v = .ref a := by
      rcases hx with ⟨l, rfl⟩ | ⟨l, rfl⟩
      · simp only [Dt] at hv
        obtain ⟨a, _, e, _⟩ := hv
        exact ⟨a, e⟩
      · simp only [Dt] at hv
        obtain ⟨a, _, e, _⟩ := hv
        exact ⟨a, e⟩
    exact ⟨S', a, d, rfl, g.h, hv, hp, hs, hn, hz, k _ _ S' H' rfl g (by simp only [Dt])⟩
/-- what an exact repr wants -/
def D.rOk (x : D) : Bool := x.prOk && (x.pr.showable && (decide (x.pr.depth ≤ 64) && decide (x.pr.shown.length ≤ sizeLine)))
theorem ev_reprR {F : Fp} {Δ : List Sl} {te : TE} {K : PySem.W.Frag} {x : D} (h : Ev1 F te Δ x) (hx : (∃ l, x = .list l) ∨ ∃ l, x = .tuple l) (hr : x.rOk = true) : Ev1 F (tCB (rReprX K) (tCons te tNil)) Δ (.str x.pr.shown) := by
  simp only [D.rOk, Bool.and_eq_true, decide_eq_true_eq] at hr
  exact ev_reprX h hx hr.1 hr.2.1 hr.2.2.1 hr.2.2.2
theorem ev_reprL {F : Fp} {Δ : List Sl} {te : TE} {K : PySem.W.Frag} {l : List D} (h : Ev1 F te Δ (.list l)) (hr : (D.list l).rOk = true) : Ev1 F (tCB (rReprX K) (tCons te tNil)) Δ (.str (D.list l).pr.shown) := ev_reprR h (.inl ⟨l, rfl⟩) hr
theorem ev_dnew {F : Fp} {Δ : List Sl} : Ev1 F tDNewK Δ (.dict []) := fun H0 S H σ w t Q k p hp => k _ _ _ _ rfl (Gr.newD w.s hp) (by simp only [Dt, DtK]; exact ⟨p, [], rfl, upd_same, rfl⟩)
theorem ev_neg {F : Fp} {Δ : List Sl} {te : TE} {i : Int} (h : Ev1 F te Δ (.int i)) : Ev1 F (tUn (rU fun i => .int (-i)) te) Δ (.int (-i)) := fun H0 S H σ w t Q k =>
  h H0 S H σ w t _ fun d v S' H' e g hv => by
    subst e
    simp only [Dt] at hv
    exact ⟨i, hv, k _ _ S' H' rfl g (by simp only [Dt])⟩
/-- a member of a display, by a drawn number -/
theorem ev_drawn {F : Fp} {Δ : List Sl} {ta tb : TE} {K : PySem.W.Frag} {l : List D} {n : Nat} (h : Ev1 F ta Δ (.list l)) (hi : EvR F tb Δ fun d => ∃ r : Nat, r < n ∧ d = .int (r : Nat)) (hn : l.length = n) : EvR F (tOp (rIx K) ta tb) Δ fun d => d ∈ l :=
  ev_op sIx (P1 := fun d => d = .list l) h hi fun x y e1 ⟨r, hr, e2⟩ => by
    subst e1
    subst e2
    have hl : r < l.length := by omega
    exact ⟨l[r], atI_nat (List.getElem?_eq_getElem hl), List.getElem_mem hl⟩
theorem ef_mapL {F : Fp} {Δ : List Sl} {te : TE} {α : Type} {wi : TI} {g : TG} {vs : List Nat} (l : List α) (f f' : α → D) (h : EvI F wi Δ fun r => r = l.map f) (hz : l.length ≤ sizeLine)
    (hs : ∀ (i : Nat) (a : α), l[i]? = some a → ∃ js Δ', EvG F g (f a) (wipeD Δ vs) js Δ' ∧ (∀ j ∈ js, j ∈ vs) ∧ Ev1 F te Δ' (f' a)) : EvF F (tLc wi g tYes te vs) Δ fun r => r = l.map f' := by
  refine ef_lcP h (fun _ e => by rw [e, List.length_map]; exact hz) (fun ds' i acc => acc = (l.take i).map f') (fun ds' _ => by simp) (fun ds' i d acc e hi ha _ => ?_) fun ds' acc e ha => by subst e; rw [ha, List.length_map, List.take_length]
  subst e
  rw [List.getElem?_map, Option.map_eq_some_iff] at hi
  obtain ⟨a, hi, rfl⟩ := hi
  obtain ⟨js, Δ', hg, hj, he⟩ := hs i a hi
  refine ⟨js, Δ', hg, hj, fun c => c = true, et_yes, (nomatch ·), fun _ => he.imp fun x hx => ?_⟩
  rw [ha, hx, List.take_succ, hi]
  simp
end Bc

namespace K00
open PySem L2 PySem.Spec PyProof.Rows Bc
def top (i : Nat) : Stmt := PySem.Challenge.pw_bushcoins_k00_errors.main.body.getD i (.Pass ⟨0, 0, 0, 0⟩)
structure Tx (K : PySem.W.Frag) (mg : Str → Option Value) : Prop where
  n_LookupError : mg "LookupError" = none
  n_ValueError : mg "ValueError" = none
  n_abs : mg "abs" = none
  n_int : mg "int" = none
  n_isinstance : mg "isinstance" = none
  n_len : mg "len" = none
  n_max : mg "max" = none
  n_range : mg "range" = none
  n_repr : mg "repr" = none
  n_super : mg "super" = none
  n_tuple : mg "tuple" = none
section
variable {P : Program} {w : World} {K : PySem.W.Frag} {mg : Str → Option Value} {base : Heap}
abbrev s__law_source : Stmt := top 20
theorem sc__law_source : FnScope ["_law_script", "_law_mixed", "_law_cell"] ["_law_script"] (defScope s__law_source) := ⟨rfl, rfl, rfl, by decide +kernel, rfl, by decide +kernel, by decide +kernel⟩
/-- the source's promise -/
def spSource (K : PySem.W.Frag) : Sp := fun vs H Q _ => ∃ (a : Addr) (ns : List Int), vs = [.ref a] ∧ SqL K H a (ns.map V.int) ∧ ns.length ≤ 63 ∧ ∀ p c H', H p = Option.none → H c = Option.none → SrcAt H' p c → Same H H' → Q (.ref p) H'
theorem key_ne {x y : Str} (h : ¬ x = y) : ¬ (Sum.inr x : Key) = Sum.inr y := fun e => h (Sum.inr.inj e)
theorem ok__law_source {k : Nat} {f : Addr} {fd : FuncData} (T : Tx K mg) (Fu : Fun K "_law_source" "_law_source" s__law_source f fd) : FnOk P w K mg base CX0 (k + 1) f fd ["_law_script"] (spSource K) := by
  refine Fu.ok sc__law_source (fun vs H Q E h => ?_) (fun cdv A outer s H vs Q E hr h => ?_)
  · obtain ⟨a, ns, rfl, _⟩ := h
    rfl
  · obtain ⟨a, ns, rfl, hS, hl, hk⟩ := h
    have hu := hr.units
    refine ⟨_, (pss_cons (ps_set (i := 1) sc__law_source.nd rfl (Or.inl rfl) pe_int)
    (pss_cons (ps_for PassesOwn.never rfl (pi_list (pv 0)) (pg_name (i := 2) sc__law_source.nd rfl (Or.inl rfl))
      (pss_one (ps_set (i := 1) sc__law_source.nd rfl (Or.inl rfl) (pe_op op_modN (pe_callTy pInt (by rfl) T.n_int (by decide +kernel) (pa_cons (pe_op pAdd (pe_op pAdd (pe_op pMul (pv 1) pe_int) (pe_op pMul (pv 2) pe_int)) pe_int) pa_nil)) pe_int))))
    (pss_one (ps_ret (pe_disp (pps_cons pe_str (pe_revL (pe_lc (own := [("_law_cell", 2)]) rfl sc__law_source.nd (pi_list (pv 0)) (blkOk_by (own := [("_law_cell", 2)]) (N := ["_law_script", "_law_mixed", "_law_cell"]) (sc := defScope s__law_source) (by decide +kernel)) (fun _ _ _ _ _ => (pg_name (i := 2) sc__law_source.nd rfl (by first | exact Or.inl rfl | exact Or.inr rfl))) (fun _ _ _ _ _ => pts_nil) (fun _ _ _ _ _ => (pe_callB call_abs (by rfl) T.n_abs (by decide +kernel) (pa_cons (pv 2) pa_nil))))) (pps_cons pe_str pe_int (pps_cons pe_str (pv 1) (pps_cons pe_str pe_int pps_nil)))) (by rfl) (by rfl) (fun z => by cases z) (by decide)))))), ?_⟩
    have item : ∀ {i : Nat} {x : V}, (ns.map V.int)[i]? = some x → ∃ z, x = V.int z := fun {i x} e => by
      rw [List.getElem?_map] at e
      cases q : ns[i]? with
      | none => rw [q] at e; cases e
      | some z => rw [q] at e; cases e; exact ⟨z, rfl⟩
    refine ⟨_, rfl, a, rfl, ⟨_, hS⟩, for_list (K := K) (a := a) (xs := ns.map V.int) (fun i σ H2 => ∃ (m : Int) (v : Option V), σ = [some (.ref a), some (.int m), v] ∧ H2 = H) ⟨11, none, rfl, rfl⟩ (fun i σ H2 _ ⟨_, _, _, e⟩ => e ▸ hS) ?_ ?_⟩
    · rintro i x σ H2 hi ⟨m, v, rfl, rfl⟩
      obtain ⟨z, rfl⟩ := item hi
      exact ⟨_, rfl, Or.inl ⟨_, _, rfl, rfl, Or.inr (by decide), _, rfl, Or.inl ⟨_, _, rfl, rfl, Or.inr (by decide), Or.inl ⟨_, _, rfl, rfl, Or.inl ⟨_, _, rfl, rfl, Or.inl (Or.inl ⟨_, rfl, _, _, rfl, rfl, (show (2147483629 : Int) ≠ 0 by decide), _, _, rfl, rfl⟩)⟩⟩⟩⟩⟩
    · rintro σ H2 ⟨m, v, rfl, rfl⟩
      intro p hp
      have sS : SqL K (upd H2 p (.dK [])) a (ns.map V.int) := Same.seq (H := H2) (fun b o e => by rw [upd_ne (ne_of_none e hp)]; exact e) hS
      refine ⟨_, rfl, a, rfl, ⟨_, sS⟩, fun L hL => ?_⟩
      have hpL : L ≠ p := fun z => by rw [z, upd_same] at hL; cases hL
      have nL : H2 L = Option.none := by rw [upd_ne hpL] at hL; exact hL
      have keep : ∀ (o : HO), Same H2 (upd (upd H2 p (.dK [])) L o) := fun o b u e => by
        rw [upd_ne (ne_of_none e nL), upd_ne (ne_of_none e hp)]
        exact e
      refine lc_list (K := K) (a := a) (xs := ns.map V.int) (fun i H3 => ∃ l : List Int, H3 = upd (upd H2 p (.dK [])) L (.lst (l.map V.int)) ∧ l.length = i) ⟨[], rfl, rfl⟩ (fun i H3 _ ⟨l, e, _⟩ => e ▸ (keep _).seq hS) ?_ ?_
      · rintro i x H3 hi ⟨l, rfl, rfl⟩
        obtain ⟨z, rfl⟩ := item hi
        have hlt : l.length < 63 := by
          have := (List.getElem?_eq_some_iff.mp hi).1
          rw [List.length_map] at this
          omega
        refine ⟨rfl, ?_⟩
        unfold tYes
        dsimp only
        rw [if_pos rfl]
        refine ⟨_, rfl, _, rfl, l.map V.int, upd_same, by rw [List.length_map]; exact Nat.lt_trans hlt (by decide), l ++ [if z < 0 then -z else z], ?_, by simp⟩
        rw [upd_upd, List.map_append]
        rfl
      · rintro H3 ⟨l, rfl, e⟩
        refine ⟨L, _, rfl, SqL.of upd_same, fun c hc => ?_⟩
        have ll : l.length ≤ 63 := by rw [List.length_map] at e; omega
        have hcL : c ≠ L := fun z => by rw [z, upd_same] at hc; cases hc
        have hcp : c ≠ p := fun z => by rw [z, upd_ne (Ne.symm hpL), upd_same] at hc; cases hc
        have nc : H2 c = Option.none := by rw [upd_ne hcL, upd_ne hcp] at hc; exact hc
        refine ⟨_, rfl, ?_⟩
        refine ⟨by rw [upd_ne (Ne.symm hcp), upd_ne (Ne.symm hpL), upd_same], [(Sum.inr "cells", .ref c), (Sum.inr "left", .int 1), (Sum.inr "mixed", .int m), (Sum.inr "turn", .int 0)], rfl, by show 4 ≤ 15; decide, ?_⟩
        have me : mergeK [] [((Sum.inr "cells" : Key), V.ref c), (Sum.inr "left", .int 1), (Sum.inr "mixed", .int m), (Sum.inr "turn", .int 0)] = [((Sum.inr "cells" : Key), V.ref c), (Sum.inr "left", .int 1), (Sum.inr "mixed", .int m), (Sum.inr "turn", .int 0)] := rfl
        rw [me]
        refine hk p c _ hp nc ⟨l.reverse, 1, m, 0, upd_same, ?_, by rw [List.length_reverse]; exact ll⟩ fun b o e => ?_
        · rw [upd_ne hcp, upd_same, List.map_reverse]
        · rw [upd_ne (ne_of_none e hp), upd_ne (ne_of_none e nc)]
          exact keep _ b o e
abbrev s__law_pick : Stmt := top 21
theorem sc__law_pick : FnScope ["_law_source_here", "_law_many", "_law_left", "_law_mixed"] ["_law_source_here", "_law_many"] (defScope s__law_pick) := ⟨rfl, rfl, rfl, by decide +kernel, rfl, by decide +kernel, by decide +kernel⟩
/-- a number from 0 to many - 1 -/
def RPick (ds : List D) (d : D) : Prop := ∃ n r : Int, ds = [.int n] ∧ n < 2 ^ 30 ∧ 0 ≤ r ∧ r < max 1 n ∧ d = .int r
abbrev srcD (c : Addr) (l m t : Int) : List (Key × V) := [(Sum.inr "cells", .ref c), (Sum.inr "left", .int l), (Sum.inr "mixed", .int m), (Sum.inr "turn", .int t)]
theorem src_cells (c : Addr) (l m t : Int) : valV (srcD c l m t) (Sum.inr "cells") = some (.ref c) := rfl
theorem src_left (c : Addr) (l m t : Int) : valV (srcD c l m t) (Sum.inr "left") = some (.int l) := rfl
theorem src_mixed (c : Addr) (l m t : Int) : valV (srcD c l m t) (Sum.inr "mixed") = some (.int m) := rfl
theorem src_turn (c : Addr) (l m t : Int) : valV (srcD c l m t) (Sum.inr "turn") = some (.int t) := rfl
theorem put_left (c : Addr) (l m t x : Int) : putK (srcD c l m t) (Sum.inr "left") (.int x) = srcD c x m t := rfl
theorem put_turn (c : Addr) (l m t x : Int) : putK (srcD c l m t) (Sum.inr "turn") (.int x) = srcD c l m x := rfl
theorem ans_or2 {t u : TT} {σ : L2.St} {H : Hp} {b1 b2 : Bool} (h1 : Ans t σ H b1) (h2 : Ans u σ H b2) : Ans (tOr t u) σ H (b1 || b2) := by
  cases b1 with
  | true => exact ans_or1 h1
  | false => exact ans_or h1 h2
theorem max_eq (n : Int) : (if n > 1 then n else 1) = max 1 n := by
  by_cases h : n > 1
  · rw [if_pos h]; omega
  · rw [if_neg h]; omega
theorem ok__law_pick {k : Nat} {f : Addr} {fd : FuncData} (T : Tx K mg) (Fu : Fun K "_law_pick" "_law_pick" s__law_pick f fd) : FnOk P w K mg base CX0 (k + 1) f fd ["_law_source_here", "_law_many"] (SpD true false RPick) := by
  refine Fu.ok sc__law_pick (fun vs H Q E h => ?_) (fun cdv A outer s H vs Q E hr h => ?_)
  · obtain ⟨F, S, ds, _, a, ⟨d, n, r, rfl, _⟩, _⟩ := h
    rw [arg_len a]
    rfl
  · obtain ⟨F, S, ds, w', ⟨a, c, us, rfl, rfl, hd⟩, ⟨d, n, r0, rfl, hn, _⟩, hk⟩ := h
    simp only [DtL, Dt] at hd
    obtain ⟨_, _, rfl, rfl, rfl⟩ := hd
    have hu := hr.units
    have hu1 : (A.deeper (envOfC "_law_pick" (defScope s__law_pick) s.heap.objs.size f cdv)).units + 1 < cLine := by omega
    obtain ⟨sa, sc, ns, l, m, t, ea, ec, hl⟩ := w'.src a c rfl
    have hac : a ≠ c := ne_of ea ec (by intro z; cases z)
    -- what the heap is like behind each step
    have fin : ∀ (l' m' t' : Int) (ns' : List Int) (H' : Hp) (r : Int), H' a = some (.dK (srcD c l' m' t')) → H' c = some (.lst (ns'.map V.int)) → ns'.length ≤ 63 → (∀ b, b ≠ a → b ≠ c → H' b = H b) → 0 ≤ r → r < max 1 n → Q (.int r) H' := fun l' m' t' ns' H' r h1 h2 h3 h4 h5 h6 => by
      refine hk (.int r) (.int r) S H' ⟨n, r, rfl, hn, h5, h6, rfl⟩ ⟨⟨fun _ _ e => e, fun b o e => ?_, fun _ _ _ => rfl, fun b o hb e => ?_, fun b o e => ?_, fun p q e _ => ?_⟩, fun _ => by simp only [Dt], fun e => (nomatch e)⟩
      · have z := w'.s b o e
        rw [h4 b (fun q => by rw [q, sa] at e; cases e) (fun q => by rw [q, sc] at e; cases e)]
        exact z
      · rw [h4 b (fun q => hb ⟨a, c, rfl, .inl q⟩) (fun q => hb ⟨a, c, rfl, .inr q⟩)]
        exact e
      · by_cases q1 : b = a
        · subst q1; exact ⟨_, h1⟩
        · by_cases q2 : b = c
          · subst q2; exact ⟨_, h2⟩
          · exact ⟨o, by rw [h4 b q1 q2]; exact e⟩
      · cases e
        exact ⟨ns', l', m', t', h1, h2, h3⟩
    refine ⟨_, (pss_cons (ps_while PassesOwn.never (PW.pt (pw_and (pt_cmpR op_gt (pv 1) pe_int (nomark _)) (pw_and (pt_cmpR pLt (pe_dget hu1 (pv 0) pe_str (fun _ _ => rfl)) pe_int (nomark _)) (pw_and1 (pt_cmpR op_gt (pe_callB pLen (by rfl) T.n_len (by decide +kernel) (pa_cons (pe_dget hu1 (pv 0) pe_str (fun _ _ => rfl)) pa_nil)) pe_int (nomark _))))))
      (pss_one (ps_dput hu1 (pv 0) pe_str (pe_bm0 PySem.F.plainAttrs_list PySem.F.slot_list_pop PySem.F.type_list_pop mt_pop (pe_dget hu1 (pv 0) pe_str (fun _ _ => rfl))) rfl)))
    (pss_cons (ps_set (i := 2) sc__law_pick.nd rfl (Or.inl rfl) (pe_dget hu1 (pv 0) pe_str (fun _ _ => rfl)))
    (pss_cons (ps_if (PW.pt (pw_or (pt_cmpR pLt (pv 1) pe_int (nomark _)) (pw_or1 (pt_cmpR op_gt (pv 2) pe_int (nomark _)))))
      (pss_cons (ps_dput hu1 (pv 0) pe_str (pe_op op_fdivN (pv 2) (pe_callB (call_max2 rfl) (by rfl) T.n_max (by decide +kernel) (pa_cons pe_int (pa_cons (pv 1) pa_nil)))) rfl)
      (pss_one (ps_ret (pe_op op_modN (pe_callTy pInt (by rfl) T.n_int (by decide +kernel) (pa_cons (pv 2) pa_nil)) (pe_callB (call_max2 rfl) (by rfl) T.n_max (by decide +kernel) (pa_cons pe_int (pa_cons (pv 1) pa_nil)))))))
      pss_nil)
    (pss_cons (ps_dput hu1 (pv 0) pe_str (pe_op pAdd (pe_dget hu1 (pv 0) pe_str (fun _ _ => rfl)) pe_int) rfl)
    (pss_cons (ps_set (i := 3) sc__law_pick.nd rfl (Or.inl rfl) (pe_op op_modN (pe_callTy pInt (by rfl) T.n_int (by decide +kernel) (pa_cons (pe_op pAdd (pe_dget hu1 (pv 0) pe_str (fun _ _ => rfl)) (pe_op pMul (pe_dget hu1 (pv 0) pe_str (fun _ _ => rfl)) pe_int)) pa_nil)) pe_int))
    (pss_cons (ps_set (i := 3) sc__law_pick.nd rfl (Or.inl rfl) (pe_op op_modN (pe_callTy pInt (by rfl) T.n_int (by decide +kernel) (pa_cons (pe_op pAdd (pe_op pMul (pv 3) (pv 3)) (pe_op pMul (pe_dget hu1 (pv 0) pe_str (fun _ _ => rfl)) pe_int)) pa_nil)) pe_int))
    (pss_one (ps_ret (pe_op op_modN (pe_callTy pInt (by rfl) T.n_int (by decide +kernel) (pa_cons (pe_op op_fdivN (pv 3) pe_int) pa_nil)) (pv 1)))))))))), ?_⟩
    -- the while
    refine ⟨fun j σ H2 => ∃ (l' : Int) (ns' : List Int), σ = [some (.ref a), some (.int n), none, none] ∧ H2 a = some (.dK (srcD c l' m t)) ∧ H2 c = some (.lst (ns'.map V.int)) ∧ ns'.length = j ∧ j ≤ 63 ∧ ∀ b, b ≠ a → b ≠ c → H2 b = H b,
      ⟨ns.length, l, ns, rfl, ea, ec, rfl, hl, fun _ _ _ => rfl⟩, ?_⟩
    rintro j σ H2 ⟨l', ns', rfl, fa, fc, rfl, hj, fo⟩
    have dg : ∀ {H3 : Hp} {l' m' t' : Int} {x : Str} {v : V}, H3 a = some (.dK (srcD c l' m' t')) → valV (srcD c l' m' t') (Sum.inr x) = some v → DGet H3 a (.str x) (some v) := fun {H3 l' m' t' x v} e1 e2 => e2 ▸ DGet.k (k := Sum.inr x) e1
    have dp : ∀ {H3 : Hp} {l' m' t' : Int} {x : Str} {v : V}, H3 a = some (.dK (srcD c l' m' t')) → DPut H3 a (.str x) v (upd H3 a (.dK (putK (srcD c l' m' t') (Sum.inr x) v))) := fun {H3 l' m' t' x v} e1 => DPut.k (k := Sum.inr x) e1 (by show 4 < sizeLine; decide)
    refine L2.ans_and2 (b1 := decide (1 < n)) (b2 := decide (l' < 2) && decide ((0 : Int) < (ns'.map V.int).length)) (fun Q q => ⟨_, rfl, _, _, rfl, rfl, _, rfl, q⟩) (L2.ans_and2 (fun Q q => ⟨_, rfl, a, _, rfl, dg fa (src_left ..), Or.inl ⟨_, _, rfl, rfl, _, rfl, q⟩⟩)
      (fun Q q => ⟨_, rfl, a, _, rfl, dg fa (src_cells ..), _, _, rfl, Or.inl ⟨_, SqL.of fc, rfl⟩, _, _, rfl, rfl, _, rfl, q⟩)) _ ?_
    cases hb : (decide (1 < n) && (decide (l' < 2) && decide ((0 : Int) < (ns'.map V.int).length))) with
    | true =>
      refine iteT ?_
      have hb2 : 0 < ns'.length := by
        simp only [Bool.and_eq_true, decide_eq_true_eq, List.length_map] at hb
        omega
      obtain ⟨z, hz⟩ : ∃ z, (ns'.map V.int)[(ns'.map V.int).length - 1]? = some (V.int z) := ⟨ns'[ns'.length - 1], by simp⟩
      have he : (ns'.map V.int).dropLast = ns'.dropLast.map V.int := by rw [List.map_dropLast]
      refine ⟨fun σ3 H3 => ∃ (l3 : Int) (ns3 : List Int), σ3 = [some (.ref a), some (.int n), none, none] ∧ H3 a = some (.dK (srcD c l3 m t)) ∧ H3 c = some (.lst (ns3.map V.int)) ∧ ns3.length + 1 = ns'.length ∧ ∀ b, b ≠ a → b ≠ c → H3 b = H b, fun σ3 H3 ⟨l3, ns3, e1, e2, e3, e4, e5⟩ => ⟨ns3.length, by omega, l3, ns3, e1, e2, e3, rfl, by omega, e5⟩, ?_⟩
      refine ⟨_, rfl, a, _, rfl, dg fa (src_cells ..), Or.inl ⟨rfl, _, SqL.of fc⟩, c, _, _, rfl, rfl, fc, hz, _, rfl, a, _, rfl, dp (by rw [upd_ne hac]; exact fa), z, ns'.dropLast, rfl, by rw [upd_same, put_left], ?_, by simp; omega, fun b h1 h2 => ?_⟩
      · rw [upd_ne (Ne.symm hac), upd_same, he]
      · rw [upd_ne h1, upd_ne h2]
        exact fo b h1 h2
    | false =>
      refine iteF ?_
      refine ⟨_, rfl, a, _, rfl, dg fa (src_left ..), ?_⟩
      have hm := max_eq n
      have h1 : 0 < max 1 n := by omega
      dsimp only [gName, List.set]
      refine ans_or2 (b1 := decide (n < 2)) (b2 := decide (1 < l')) (fun Q q => ⟨_, rfl, Or.inl ⟨_, _, rfl, rfl, _, rfl, q⟩⟩) (fun Q q => ⟨_, rfl, _, _, rfl, rfl, _, rfl, q⟩) _ ?_
      cases hc : (decide (n < 2) || decide (1 < l')) with
      | true =>
        refine iteT ⟨_, rfl, _, rfl, _, _, rfl, ⟨l', max 1 n, rfl, congrArg V.int hm, ⟨by omega, by omega⟩, _, rfl, a, _, rfl, dp fa, ?_⟩⟩
        refine ⟨_, rfl, Or.inl (Or.inl ⟨_, rfl, _, rfl, _, _, rfl, ⟨l', max 1 n, rfl, congrArg V.int hm, by omega, ?_⟩⟩)⟩
        refine fin (l'.fdiv (max 1 n)) m t ns' _ _ (by rw [upd_same, put_left]) (by rw [upd_ne (Ne.symm hac)]; exact fc) (by omega) (fun b h1 h2 => by rw [upd_ne h1]; exact fo b h1 h2) (Int.fmod_nonneg_of_pos _ h1) (Int.fmod_lt_of_pos _ h1)
      | false =>
        have hn2 : 0 < n := by
          simp only [Bool.or_eq_false_iff, decide_eq_false_iff_not] at hc
          omega
        refine iteF ?_
        refine ⟨_, rfl, a, _, rfl, dg fa (src_turn ..), Or.inl ⟨_, _, rfl, rfl, _, rfl, a, _, rfl, dp fa, ?_⟩⟩
        have fa2 : (upd H2 a (.dK (putK (srcD c l' m t) (Sum.inr "turn") (.int (t + 1))))) a = some (.dK (srcD c l' m (t + 1))) := by rw [upd_same, put_turn]
        refine ⟨_, rfl, a, _, rfl, dg fa2 (src_mixed ..), _, rfl, a, _, rfl, dg fa2 (src_turn ..), Or.inl ⟨_, _, rfl, rfl, Or.inr (by decide), Or.inl ⟨_, _, rfl, rfl, Or.inl (Or.inl ⟨_, rfl, _, _, rfl, rfl, (show (998244353 : Int) ≠ 0 by decide), ?_⟩)⟩⟩⟩
        have b1 := Int.fmod_nonneg_of_pos (m + (t + 1) * 104729) (show (0 : Int) < 998244353 by decide)
        have b2 := Int.fmod_lt_of_pos (m + (t + 1) * 104729) (show (0 : Int) < 998244353 by decide)
        refine ⟨_, rfl, _, rfl, Or.inl ⟨_, _, rfl, rfl, Or.inl ⟨by omega, by omega⟩, _, rfl, a, _, rfl, dg fa2 (src_turn ..), Or.inl ⟨_, _, rfl, rfl, Or.inr (by decide), Or.inl ⟨_, _, rfl, rfl, Or.inl (Or.inl ⟨_, rfl, _, _, rfl, rfl, (show (2147483647 : Int) ≠ 0 by decide), ?_⟩)⟩⟩⟩⟩
        refine ⟨_, rfl, _, _, rfl, rfl, ⟨by decide, by decide⟩, Or.inl (Or.inl ⟨_, rfl, _, rfl, _, _, rfl, rfl, (show n ≠ 0 by omega), ?_⟩)⟩
        refine fin l' m (t + 1) ns' _ _ fa2 (by rw [upd_ne (Ne.symm hac)]; exact fc) (by omega) (fun b h1 h2 => by rw [upd_ne h1]; exact fo b h1 h2) (Int.fmod_nonneg_of_pos _ hn2) (Int.lt_of_lt_of_le (Int.fmod_lt_of_pos _ hn2) (by omega))
end
end K00

namespace K00
open PySem L2 PySem.Spec PyProof.Rows Bc
open PySem.W (kitOne)
def clsOf (mg : Str → Option Value) (x : Str) : Addr := match mg x with | some (.ref a) => a | _ => 0
def names : List Str := ["UnlikeGroves", "TooGreat", "Overlaps", "NothingDone", "UnlikeStocks", "BadBook", "BadBag", "BadGrove", "BadAssembly", "BadPattern", "BadDeed", "BadAct", "BadText", "Unbuilt", "Clash", "UnknownName"]
def cs (mg : Str → Option Value) (i : Nat) : Addr := clsOf mg (names.getD i "")
structure Ec (P : Program) (K : PySem.W.Frag) (mg : Str → Option Value) : Prop where
  x_UnlikeGroves : XC P K mg "UnlikeGroves" (clsOf mg "UnlikeGroves") []
  g_UnlikeGroves : mg "UnlikeGroves" = some (.ref (clsOf mg "UnlikeGroves"))
  x_TooGreat : XC P K mg "TooGreat" (clsOf mg "TooGreat") []
  g_TooGreat : mg "TooGreat" = some (.ref (clsOf mg "TooGreat"))
  x_Overlaps : XC P K mg "Overlaps" (clsOf mg "Overlaps") []
  g_Overlaps : mg "Overlaps" = some (.ref (clsOf mg "Overlaps"))
  x_NothingDone : XC P K mg "NothingDone" (clsOf mg "NothingDone") []
  g_NothingDone : mg "NothingDone" = some (.ref (clsOf mg "NothingDone"))
  x_UnlikeStocks : XC P K mg "UnlikeStocks" (clsOf mg "UnlikeStocks") ["word"]
  g_UnlikeStocks : mg "UnlikeStocks" = some (.ref (clsOf mg "UnlikeStocks"))
  x_BadBook : XCP P K mg "BadBook" (clsOf mg "BadBook")
  g_BadBook : mg "BadBook" = some (.ref (clsOf mg "BadBook"))
  x_BadBag : XCP P K mg "BadBag" (clsOf mg "BadBag")
  g_BadBag : mg "BadBag" = some (.ref (clsOf mg "BadBag"))
  x_BadGrove : XCP P K mg "BadGrove" (clsOf mg "BadGrove")
  g_BadGrove : mg "BadGrove" = some (.ref (clsOf mg "BadGrove"))
  x_BadAssembly : XCP P K mg "BadAssembly" (clsOf mg "BadAssembly")
  g_BadAssembly : mg "BadAssembly" = some (.ref (clsOf mg "BadAssembly"))
  x_BadPattern : XCP P K mg "BadPattern" (clsOf mg "BadPattern")
  g_BadPattern : mg "BadPattern" = some (.ref (clsOf mg "BadPattern"))
  x_BadDeed : XC P K mg "BadDeed" (clsOf mg "BadDeed") ["number"]
  g_BadDeed : mg "BadDeed" = some (.ref (clsOf mg "BadDeed"))
  x_BadAct : XC P K mg "BadAct" (clsOf mg "BadAct") ["word"]
  g_BadAct : mg "BadAct" = some (.ref (clsOf mg "BadAct"))
  x_BadText : XC P K mg "BadText" (clsOf mg "BadText") ["place"]
  g_BadText : mg "BadText" = some (.ref (clsOf mg "BadText"))
  x_Unbuilt : XC P K mg "Unbuilt" (clsOf mg "Unbuilt") ["word", "value"]
  g_Unbuilt : mg "Unbuilt" = some (.ref (clsOf mg "Unbuilt"))
  x_Clash : XC P K mg "Clash" (clsOf mg "Clash") ["number"]
  g_Clash : mg "Clash" = some (.ref (clsOf mg "Clash"))
  x_UnknownName : XC P K mg "UnknownName" (clsOf mg "UnknownName") ["name"]
  g_UnknownName : mg "UnknownName" = some (.ref (clsOf mg "UnknownName"))
  g_BushError : mg "BushError" = some (.ref (clsOf mg "BushError"))
  g_NameMissing : mg "NameMissing" = some (.ref (clsOf mg "NameMissing"))
  at_ : ∀ i, i < 16 → XAt K (cs mg i)
  kit : ∀ i j, i < 16 → j < 16 → kitOne K (.ref (cs mg i)) (.ref (cs mg j)) = some (decide (j = i))
  kB : ∀ i, i < 16 → kitOne K (.ref (cs mg i)) (.ref (clsOf mg "BushError")) = some (decide (i < 15))
  kV : ∀ i, i < 16 → kitOne K (.ref (cs mg i)) (.type "ValueError") = some (decide (i < 15))
  kN : ∀ i, i < 16 → kitOne K (.ref (cs mg i)) (.ref (clsOf mg "NameMissing")) = some (decide (15 ≤ i))
  kL : ∀ i, i < 16 → kitOne K (.ref (cs mg i)) (.type "LookupError") = some (decide (15 ≤ i))
  no_4_word : NoAttr K (cs mg 4) "word"
  no_11_word : NoAttr K (cs mg 11) "word"
  no_13_word : NoAttr K (cs mg 13) "word"
  no_5_path : NoAttr K (cs mg 5) "path"
  no_6_path : NoAttr K (cs mg 6) "path"
  no_7_path : NoAttr K (cs mg 7) "path"
  no_8_path : NoAttr K (cs mg 8) "path"
  no_9_path : NoAttr K (cs mg 9) "path"
  no_10_number : NoAttr K (cs mg 10) "number"
  no_12_place : NoAttr K (cs mg 12) "place"
  no_14_number : NoAttr K (cs mg 14) "number"
  no_13_value : NoAttr K (cs mg 13) "value"
  no_15_name : NoAttr K (cs mg 15) "name"
section
variable {P : Program} {w : World} {K : PySem.W.Frag} {mg : Str → Option Value} {base : Heap}
def kindsD (i : Nat) : List D := (List.range 16).map fun j => .bool (decide (j = i))
def basesD (i : Nat) : List D := [.bool (decide (i < 15)), .bool (decide (i < 15)), .bool (decide (15 ≤ i)), .bool (decide (15 ≤ i))]
def RKinds (mg : Str → Option Value) (ds : List D) (d : D) : Prop := ∃ (i : Nat) (fs : List (Str × D)), i < 16 ∧ ds = [.exc (cs mg i) fs] ∧ d = .list (kindsD i)
def RBases (mg : Str → Option Value) (ds : List D) (d : D) : Prop := ∃ (i : Nat) (fs : List (Str × D)), i < 16 ∧ ds = [.exc (cs mg i) fs] ∧ d = .list (basesD i)
abbrev s__law_kinds : Stmt := top 22
theorem sc__law_kinds : FnScope ["_law_e", "_law_found"] ["_law_e"] (defScope s__law_kinds) := ⟨rfl, rfl, rfl, by decide +kernel, rfl, by decide +kernel, by decide +kernel⟩
theorem ok__law_kinds {k : Nat} {f : Addr} {fd : FuncData} (T : Tx K mg) (E : Ec P K mg) (Fu : Fun K "_law_kinds" "_law_kinds" s__law_kinds f fd) : FnOk P w K mg base CX0 (k + 1) f fd ["_law_e"] (SpD false false (RKinds mg)) := by
  refine ok_D Fu sc__law_kinds (fun ds d ⟨_, _, _, e, _⟩ => by rw [e]; rfl) fun cdv A outer s H E0 hr => ?_
  refine ⟨_, (pss_cons (ps_set (i := 1) sc__law_kinds.nd rfl (Or.inl rfl) (pe_lst (pa_cons (pe_callB (qIsiE (K := K)) (by rfl) T.n_isinstance (by decide +kernel) (pa_cons (pv 0) (pa_cons (pe_glob (v := V.ref _) rfl E.g_UnlikeGroves rfl) pa_nil))) (pa_cons (pe_callB (qIsiE (K := K)) (by rfl) T.n_isinstance (by decide +kernel) (pa_cons (pv 0) (pa_cons (pe_glob (v := V.ref _) rfl E.g_TooGreat rfl) pa_nil))) (pa_cons (pe_callB (qIsiE (K := K)) (by rfl) T.n_isinstance (by decide +kernel) (pa_cons (pv 0) (pa_cons (pe_glob (v := V.ref _) rfl E.g_Overlaps rfl) pa_nil))) (pa_cons (pe_callB (qIsiE (K := K)) (by rfl) T.n_isinstance (by decide +kernel) (pa_cons (pv 0) (pa_cons (pe_glob (v := V.ref _) rfl E.g_NothingDone rfl) pa_nil))) pa_nil))))))
    (pss_cons (ps_set (i := 1) sc__law_kinds.nd rfl (Or.inl rfl) (pe_op (qAdd (K := K)) (pv 1) (pe_lst (pa_cons (pe_callB (qIsiE (K := K)) (by rfl) T.n_isinstance (by decide +kernel) (pa_cons (pv 0) (pa_cons (pe_glob (v := V.ref _) rfl E.g_UnlikeStocks rfl) pa_nil))) (pa_cons (pe_callB (qIsiE (K := K)) (by rfl) T.n_isinstance (by decide +kernel) (pa_cons (pv 0) (pa_cons (pe_glob (v := V.ref _) rfl E.g_BadBook rfl) pa_nil))) (pa_cons (pe_callB (qIsiE (K := K)) (by rfl) T.n_isinstance (by decide +kernel) (pa_cons (pv 0) (pa_cons (pe_glob (v := V.ref _) rfl E.g_BadBag rfl) pa_nil))) pa_nil))))))
    (pss_cons (ps_set (i := 1) sc__law_kinds.nd rfl (Or.inl rfl) (pe_op (qAdd (K := K)) (pv 1) (pe_lst (pa_cons (pe_callB (qIsiE (K := K)) (by rfl) T.n_isinstance (by decide +kernel) (pa_cons (pv 0) (pa_cons (pe_glob (v := V.ref _) rfl E.g_BadGrove rfl) pa_nil))) (pa_cons (pe_callB (qIsiE (K := K)) (by rfl) T.n_isinstance (by decide +kernel) (pa_cons (pv 0) (pa_cons (pe_glob (v := V.ref _) rfl E.g_BadAssembly rfl) pa_nil))) (pa_cons (pe_callB (qIsiE (K := K)) (by rfl) T.n_isinstance (by decide +kernel) (pa_cons (pv 0) (pa_cons (pe_glob (v := V.ref _) rfl E.g_BadPattern rfl) pa_nil))) pa_nil))))))
    (pss_cons (ps_set (i := 1) sc__law_kinds.nd rfl (Or.inl rfl) (pe_op (qAdd (K := K)) (pv 1) (pe_lst (pa_cons (pe_callB (qIsiE (K := K)) (by rfl) T.n_isinstance (by decide +kernel) (pa_cons (pv 0) (pa_cons (pe_glob (v := V.ref _) rfl E.g_BadDeed rfl) pa_nil))) (pa_cons (pe_callB (qIsiE (K := K)) (by rfl) T.n_isinstance (by decide +kernel) (pa_cons (pv 0) (pa_cons (pe_glob (v := V.ref _) rfl E.g_BadAct rfl) pa_nil))) (pa_cons (pe_callB (qIsiE (K := K)) (by rfl) T.n_isinstance (by decide +kernel) (pa_cons (pv 0) (pa_cons (pe_glob (v := V.ref _) rfl E.g_BadText rfl) pa_nil))) pa_nil))))))
    (pss_one (ps_ret (pe_op (qAdd (K := K)) (pv 1) (pe_lst (pa_cons (pe_callB (qIsiE (K := K)) (by rfl) T.n_isinstance (by decide +kernel) (pa_cons (pv 0) (pa_cons (pe_glob (v := V.ref _) rfl E.g_Unbuilt rfl) pa_nil))) (pa_cons (pe_callB (qIsiE (K := K)) (by rfl) T.n_isinstance (by decide +kernel) (pa_cons (pv 0) (pa_cons (pe_glob (v := V.ref _) rfl E.g_Clash rfl) pa_nil))) (pa_cons (pe_callB (qIsiE (K := K)) (by rfl) T.n_isinstance (by decide +kernel) (pa_cons (pv 0) (pa_cons (pe_glob (v := V.ref _) rfl E.g_UnknownName rfl) pa_nil))) pa_nil))))))))))), fun F ds hF hR => ?_⟩
  obtain ⟨_, i, fs, hi, rfl, rfl⟩ := hR
  have q : ∀ {Δ : List Sl} {j : Nat} (hj : j < 16), Δ[0]? = some (.v (.exc (cs mg i) fs)) → Ev1 F (tCB (rIsiE K) (tCons (tVar 0) (tCons (tC (.ref (cs mg j))) tNil))) Δ (.bool (decide (j = i))) := fun {Δ j} hj h => ev_isiE (ev_var h) (.own _) (E.at_ i hi) (E.kit i j hi hj)
  refine run_set (d := .list [.bool (decide (0 = i)), .bool (decide (1 = i)), .bool (decide (2 = i)), .bool (decide (3 = i))]) (EvF.val1 (ef_lst (ea_cons1 (q (j := 0) (by decide) rfl) (ea_cons1 (q (j := 1) (by decide) rfl) (ea_cons1 (q (j := 2) (by decide) rfl) (ea_cons1 (q (j := 3) (by decide) rfl) ea_nil)))))) ?_
  refine run_set (d := .list [.bool (decide (0 = i)), .bool (decide (1 = i)), .bool (decide (2 = i)), .bool (decide (3 = i)), .bool (decide (4 = i)), .bool (decide (5 = i)), .bool (decide (6 = i))]) ((ev_addL (l := [.bool (decide (0 = i)), .bool (decide (1 = i)), .bool (decide (2 = i)), .bool (decide (3 = i))]) (m := [.bool (decide (4 = i)), .bool (decide (5 = i)), .bool (decide (6 = i))]) (ev_var rfl) (EvF.val1 (ef_lst (ea_cons1 (q (j := 4) (by decide) rfl) (ea_cons1 (q (j := 5) (by decide) rfl) (ea_cons1 (q (j := 6) (by decide) rfl) ea_nil))))) (by simp only [List.length_cons, List.length_nil]; decide)).eq rfl) ?_
  refine run_set (d := .list [.bool (decide (0 = i)), .bool (decide (1 = i)), .bool (decide (2 = i)), .bool (decide (3 = i)), .bool (decide (4 = i)), .bool (decide (5 = i)), .bool (decide (6 = i)), .bool (decide (7 = i)), .bool (decide (8 = i)), .bool (decide (9 = i))]) ((ev_addL (l := [.bool (decide (0 = i)), .bool (decide (1 = i)), .bool (decide (2 = i)), .bool (decide (3 = i)), .bool (decide (4 = i)), .bool (decide (5 = i)), .bool (decide (6 = i))]) (m := [.bool (decide (7 = i)), .bool (decide (8 = i)), .bool (decide (9 = i))]) (ev_var rfl) (EvF.val1 (ef_lst (ea_cons1 (q (j := 7) (by decide) rfl) (ea_cons1 (q (j := 8) (by decide) rfl) (ea_cons1 (q (j := 9) (by decide) rfl) ea_nil))))) (by simp only [List.length_cons, List.length_nil]; decide)).eq rfl) ?_
  refine run_set (d := .list [.bool (decide (0 = i)), .bool (decide (1 = i)), .bool (decide (2 = i)), .bool (decide (3 = i)), .bool (decide (4 = i)), .bool (decide (5 = i)), .bool (decide (6 = i)), .bool (decide (7 = i)), .bool (decide (8 = i)), .bool (decide (9 = i)), .bool (decide (10 = i)), .bool (decide (11 = i)), .bool (decide (12 = i))]) ((ev_addL (l := [.bool (decide (0 = i)), .bool (decide (1 = i)), .bool (decide (2 = i)), .bool (decide (3 = i)), .bool (decide (4 = i)), .bool (decide (5 = i)), .bool (decide (6 = i)), .bool (decide (7 = i)), .bool (decide (8 = i)), .bool (decide (9 = i))]) (m := [.bool (decide (10 = i)), .bool (decide (11 = i)), .bool (decide (12 = i))]) (ev_var rfl) (EvF.val1 (ef_lst (ea_cons1 (q (j := 10) (by decide) rfl) (ea_cons1 (q (j := 11) (by decide) rfl) (ea_cons1 (q (j := 12) (by decide) rfl) ea_nil))))) (by simp only [List.length_cons, List.length_nil]; decide)).eq rfl) ?_
  refine run_ret1 (d := .list (kindsD i)) ((ev_addL (l := [.bool (decide (0 = i)), .bool (decide (1 = i)), .bool (decide (2 = i)), .bool (decide (3 = i)), .bool (decide (4 = i)), .bool (decide (5 = i)), .bool (decide (6 = i)), .bool (decide (7 = i)), .bool (decide (8 = i)), .bool (decide (9 = i)), .bool (decide (10 = i)), .bool (decide (11 = i)), .bool (decide (12 = i))]) (m := [.bool (decide (13 = i)), .bool (decide (14 = i)), .bool (decide (15 = i))]) (ev_var rfl) (EvF.val1 (ef_lst (ea_cons1 (q (j := 13) (by decide) rfl) (ea_cons1 (q (j := 14) (by decide) rfl) (ea_cons1 (q (j := 15) (by decide) rfl) ea_nil))))) (by simp only [List.length_cons, List.length_nil]; decide)).eq rfl) ⟨i, fs, hi, rfl, rfl⟩
abbrev s__law_bases : Stmt := top 23
theorem sc__law_bases : FnScope ["_law_e", "_law_found"] ["_law_e"] (defScope s__law_bases) := ⟨rfl, rfl, rfl, by decide +kernel, rfl, by decide +kernel, by decide +kernel⟩
theorem ok__law_bases {k : Nat} {f : Addr} {fd : FuncData} (T : Tx K mg) (E : Ec P K mg) (Fu : Fun K "_law_bases" "_law_bases" s__law_bases f fd) : FnOk P w K mg base CX0 (k + 1) f fd ["_law_e"] (SpD false false (RBases mg)) := by
  refine ok_D Fu sc__law_bases (fun ds d ⟨_, _, _, e, _⟩ => by rw [e]; rfl) fun cdv A outer s H E0 hr => ?_
  refine ⟨_, (pss_cons (ps_set (i := 1) sc__law_bases.nd rfl (Or.inl rfl) (pe_lst (pa_cons (pe_callB (qIsiE (K := K)) (by rfl) T.n_isinstance (by decide +kernel) (pa_cons (pv 0) (pa_cons (pe_glob (v := V.ref _) rfl E.g_BushError rfl) pa_nil))) (pa_cons (pe_callB (qIsiE (K := K)) (by rfl) T.n_isinstance (by decide +kernel) (pa_cons (pv 0) (pa_cons (pe_bltn (by rfl) T.n_ValueError (by decide +kernel) (show RelV (.ty "ValueError") _ from rfl)) pa_nil))) pa_nil))))
    (pss_one (ps_ret (pe_op (qAdd (K := K)) (pv 1) (pe_lst (pa_cons (pe_callB (qIsiE (K := K)) (by rfl) T.n_isinstance (by decide +kernel) (pa_cons (pv 0) (pa_cons (pe_glob (v := V.ref _) rfl E.g_NameMissing rfl) pa_nil))) (pa_cons (pe_callB (qIsiE (K := K)) (by rfl) T.n_isinstance (by decide +kernel) (pa_cons (pv 0) (pa_cons (pe_bltn (by rfl) T.n_LookupError (by decide +kernel) (show RelV (.ty "LookupError") _ from rfl)) pa_nil))) pa_nil))))))), fun F ds hF hR => ?_⟩
  obtain ⟨_, i, fs, hi, rfl, rfl⟩ := hR
  refine run_set (d := .list [.bool (decide (i < 15)), .bool (decide (i < 15))]) (EvF.val1 (ef_lst (ea_cons1 (ev_isiE (ev_var rfl) (.own _) (E.at_ i hi) (E.kB i hi)) (ea_cons1 (ev_isiE (ev_var rfl) (.ty _) (E.at_ i hi) (E.kV i hi)) ea_nil)))) ?_
  exact run_ret1 (d := .list (basesD i)) ((ev_addL (l := [.bool (decide (i < 15)), .bool (decide (i < 15))]) (m := [.bool (decide (15 ≤ i)), .bool (decide (15 ≤ i))]) (ev_var rfl) (EvF.val1 (ef_lst (ea_cons1 (ev_isiE (ev_var rfl) (.own _) (E.at_ i hi) (E.kN i hi)) (ea_cons1 (ev_isiE (ev_var rfl) (.ty _) (E.at_ i hi) (E.kL i hi)) ea_nil)))) (by simp only [List.length_cons, List.length_nil]; decide)).eq rfl) ⟨i, fs, hi, rfl, rfl⟩
def excL (mg : Str → Option Value) (wd nm : D) (l : List D) (ot : D) : List D := [.exc (cs mg 0) [],
  .exc (cs mg 1) [],
  .exc (cs mg 2) [],
  .exc (cs mg 3) [],
  .exc (cs mg 4) [(("word" : Str), wd)],
  .exc (cs mg 5) [(("path" : Str), .tuple l)],
  .exc (cs mg 6) [(("path" : Str), .tuple l)],
  .exc (cs mg 7) [(("path" : Str), .tuple l)],
  .exc (cs mg 8) [(("path" : Str), .tuple l)],
  .exc (cs mg 9) [(("path" : Str), .tuple l)],
  .exc (cs mg 10) [(("number" : Str), nm)],
  .exc (cs mg 11) [(("word" : Str), wd)],
  .exc (cs mg 12) [(("place" : Str), nm)],
  .exc (cs mg 13) [(("word" : Str), wd), (("value" : Str), ot)],
  .exc (cs mg 14) [(("number" : Str), nm)],
  .exc (cs mg 15) [(("name" : Str), ot)]]
def REvery (mg : Str → Option Value) (ds : List D) (d : D) : Prop := ∃ (wd nm sm ot : D) (l : List D), ds = [wd, nm, sm, ot] ∧ (sm = .list l ∨ sm = .tuple l) ∧ d = .list (excL mg wd nm l ot)
abbrev s__law_every : Stmt := top 24
theorem sc__law_every : FnScope ["_law_word", "_law_number", "_law_some", "_law_other", "_law_found"] ["_law_word", "_law_number", "_law_some", "_law_other"] (defScope s__law_every) := ⟨rfl, rfl, rfl, by decide +kernel, rfl, by decide +kernel, by decide +kernel⟩
theorem ok__law_every {k : Nat} {f : Addr} {fd : FuncData} (T : Tx K mg) (E : Ec P K mg) (Fu : Fun K "_law_every" "_law_every" s__law_every f fd) : FnOk P w K mg base CX0 (k + 1) f fd ["_law_word", "_law_number", "_law_some", "_law_other"] (SpD false false (REvery mg)) := by
  refine ok_D Fu sc__law_every (fun ds d ⟨_, _, _, _, _, e, _⟩ => by rw [e]; rfl) fun cdv A outer s H E0 hr => ?_
  refine ⟨_, (pss_cons (ps_set (i := 4) sc__law_every.nd rfl (Or.inl rfl) (pe_lst (pa_cons (pe_newX0 E.x_UnlikeGroves hr) (pa_cons (pe_newX0 E.x_TooGreat hr) (pa_cons (pe_newX0 E.x_Overlaps hr) (pa_cons (pe_newX0 E.x_NothingDone hr) (pa_cons (pe_newX E.x_UnlikeStocks hr (pa_cons (pv 0) pa_nil)) (pa_cons (pe_newP E.x_BadBook hr (pa_cons (pv 2) pa_nil)) (pa_cons (pe_newP E.x_BadBag hr (pa_cons (pv 2) pa_nil)) pa_nil)))))))))
    (pss_cons (ps_set (i := 4) sc__law_every.nd rfl (Or.inl rfl) (pe_op (qAdd (K := K)) (pv 4) (pe_lst (pa_cons (pe_newP E.x_BadGrove hr (pa_cons (pv 2) pa_nil)) (pa_cons (pe_newP E.x_BadAssembly hr (pa_cons (pv 2) pa_nil)) (pa_cons (pe_newP E.x_BadPattern hr (pa_cons (pv 2) pa_nil)) (pa_cons (pe_newX E.x_BadDeed hr (pa_cons (pv 1) pa_nil)) (pa_cons (pe_newX E.x_BadAct hr (pa_cons (pv 0) pa_nil)) pa_nil))))))))
    (pss_one (ps_ret (pe_op (qAdd (K := K)) (pv 4) (pe_lst (pa_cons (pe_newX E.x_BadText hr (pa_cons (pv 1) pa_nil)) (pa_cons (pe_newX E.x_Unbuilt hr (pa_cons (pv 0) (pa_cons (pv 3) pa_nil))) (pa_cons (pe_newX E.x_Clash hr (pa_cons (pv 1) pa_nil)) (pa_cons (pe_newX E.x_UnknownName hr (pa_cons (pv 3) pa_nil)) pa_nil)))))))))), fun F ds hF hR => ?_⟩
  obtain ⟨_, wd, nm, sm, ot, l, rfl, hs, rfl⟩ := hR
  refine run_set (d := .list [.exc (cs mg 0) [], .exc (cs mg 1) [], .exc (cs mg 2) [], .exc (cs mg 3) [], .exc (cs mg 4) [(("word" : Str), wd)], .exc (cs mg 5) [(("path" : Str), .tuple l)], .exc (cs mg 6) [(("path" : Str), .tuple l)]]) (EvF.val1 (ef_lst (ea_cons1 (d := .exc (cs mg 0) []) (ev_newX1 (C := cs mg 0) (ps := []) (ds := []) ea_nil rfl) (ea_cons1 (d := .exc (cs mg 1) []) (ev_newX1 (C := cs mg 1) (ps := []) (ds := []) ea_nil rfl) (ea_cons1 (d := .exc (cs mg 2) []) (ev_newX1 (C := cs mg 2) (ps := []) (ds := []) ea_nil rfl) (ea_cons1 (d := .exc (cs mg 3) []) (ev_newX1 (C := cs mg 3) (ps := []) (ds := []) ea_nil rfl) (ea_cons1 (d := .exc (cs mg 4) [(("word" : Str), wd)]) (ev_newX1 (C := cs mg 4) (ps := ["word"]) (ds := [wd]) (ea_cons1 (ev_var (i := 0) (d := wd) rfl) ea_nil) rfl) (ea_cons1 (d := .exc (cs mg 5) [(("path" : Str), .tuple l)]) (ev_newP (ev_var (i := 2) (d := sm) rfl) hs) (ea_cons1 (d := .exc (cs mg 6) [(("path" : Str), .tuple l)]) (ev_newP (ev_var (i := 2) (d := sm) rfl) hs) ea_nil))))))))) ?_
  refine run_set (d := .list [.exc (cs mg 0) [], .exc (cs mg 1) [], .exc (cs mg 2) [], .exc (cs mg 3) [], .exc (cs mg 4) [(("word" : Str), wd)], .exc (cs mg 5) [(("path" : Str), .tuple l)], .exc (cs mg 6) [(("path" : Str), .tuple l)], .exc (cs mg 7) [(("path" : Str), .tuple l)], .exc (cs mg 8) [(("path" : Str), .tuple l)], .exc (cs mg 9) [(("path" : Str), .tuple l)], .exc (cs mg 10) [(("number" : Str), nm)], .exc (cs mg 11) [(("word" : Str), wd)]]) ((ev_addL (l := [.exc (cs mg 0) [], .exc (cs mg 1) [], .exc (cs mg 2) [], .exc (cs mg 3) [], .exc (cs mg 4) [(("word" : Str), wd)], .exc (cs mg 5) [(("path" : Str), .tuple l)], .exc (cs mg 6) [(("path" : Str), .tuple l)]]) (m := [.exc (cs mg 7) [(("path" : Str), .tuple l)], .exc (cs mg 8) [(("path" : Str), .tuple l)], .exc (cs mg 9) [(("path" : Str), .tuple l)], .exc (cs mg 10) [(("number" : Str), nm)], .exc (cs mg 11) [(("word" : Str), wd)]]) (ev_var rfl) (EvF.val1 (ef_lst (ea_cons1 (d := .exc (cs mg 7) [(("path" : Str), .tuple l)]) (ev_newP (ev_var (i := 2) (d := sm) rfl) hs) (ea_cons1 (d := .exc (cs mg 8) [(("path" : Str), .tuple l)]) (ev_newP (ev_var (i := 2) (d := sm) rfl) hs) (ea_cons1 (d := .exc (cs mg 9) [(("path" : Str), .tuple l)]) (ev_newP (ev_var (i := 2) (d := sm) rfl) hs) (ea_cons1 (d := .exc (cs mg 10) [(("number" : Str), nm)]) (ev_newX1 (C := cs mg 10) (ps := ["number"]) (ds := [nm]) (ea_cons1 (ev_var (i := 1) (d := nm) rfl) ea_nil) rfl) (ea_cons1 (d := .exc (cs mg 11) [(("word" : Str), wd)]) (ev_newX1 (C := cs mg 11) (ps := ["word"]) (ds := [wd]) (ea_cons1 (ev_var (i := 0) (d := wd) rfl) ea_nil) rfl) ea_nil))))))) (by simp only [List.length_cons, List.length_nil]; decide)).eq rfl) ?_
  exact run_ret1 (d := .list (excL mg wd nm l ot)) ((ev_addL (l := [.exc (cs mg 0) [], .exc (cs mg 1) [], .exc (cs mg 2) [], .exc (cs mg 3) [], .exc (cs mg 4) [(("word" : Str), wd)], .exc (cs mg 5) [(("path" : Str), .tuple l)], .exc (cs mg 6) [(("path" : Str), .tuple l)], .exc (cs mg 7) [(("path" : Str), .tuple l)], .exc (cs mg 8) [(("path" : Str), .tuple l)], .exc (cs mg 9) [(("path" : Str), .tuple l)], .exc (cs mg 10) [(("number" : Str), nm)], .exc (cs mg 11) [(("word" : Str), wd)]]) (m := [.exc (cs mg 12) [(("place" : Str), nm)], .exc (cs mg 13) [(("word" : Str), wd), (("value" : Str), ot)], .exc (cs mg 14) [(("number" : Str), nm)], .exc (cs mg 15) [(("name" : Str), ot)]]) (ev_var rfl) (EvF.val1 (ef_lst (ea_cons1 (d := .exc (cs mg 12) [(("place" : Str), nm)]) (ev_newX1 (C := cs mg 12) (ps := ["place"]) (ds := [nm]) (ea_cons1 (ev_var (i := 1) (d := nm) rfl) ea_nil) rfl) (ea_cons1 (d := .exc (cs mg 13) [(("word" : Str), wd), (("value" : Str), ot)]) (ev_newX1 (C := cs mg 13) (ps := ["word", "value"]) (ds := [wd, ot]) (ea_cons1 (ev_var (i := 0) (d := wd) rfl) (ea_cons1 (ev_var (i := 3) (d := ot) rfl) ea_nil)) rfl) (ea_cons1 (d := .exc (cs mg 14) [(("number" : Str), nm)]) (ev_newX1 (C := cs mg 14) (ps := ["number"]) (ds := [nm]) (ea_cons1 (ev_var (i := 1) (d := nm) rfl) ea_nil) rfl) (ea_cons1 (d := .exc (cs mg 15) [(("name" : Str), ot)]) (ev_newX1 (C := cs mg 15) (ps := ["name"]) (ds := [ot]) (ea_cons1 (ev_var (i := 3) (d := ot) rfl) ea_nil) rfl) ea_nil)))))) (by simp only [List.length_cons, List.length_nil]; decide)).eq rfl) ⟨wd, nm, sm, ot, l, rfl, hs, rfl⟩
end
end K00

namespace K00
open PySem L2 PySem.Spec PyProof.Rows Bc
section
variable {P : Program} {w : World} {K : PySem.W.Frag} {mg : Str → Option Value} {base : Heap}
def RKept (mg : Str → Option Value) (ds : List D) (d : D) : Prop := ∃ (wd nm sm ot : D) (l : List D), ds = [.list (excL mg wd nm l ot), wd, nm, sm, ot] ∧ (sm = .list l ∨ sm = .tuple l) ∧
  (D.list [wd, wd, wd]).rOk = true ∧ (D.list [.tuple l, .tuple l, .tuple l, .tuple l, .tuple l]).rOk = true ∧ (D.list [nm, nm, nm]).rOk = true ∧ (D.list [ot, ot]).rOk = true ∧ d = .bool true
abbrev s__law_kept : Stmt := top 25
theorem sc__law_kept : FnScope ["_law_every_here", "_law_word", "_law_number", "_law_some", "_law_other", "_law_words", "_law_paths", "_law_numbers"] ["_law_every_here", "_law_word", "_law_number", "_law_some", "_law_other"] (defScope s__law_kept) := ⟨rfl, rfl, rfl, by decide +kernel, rfl, by decide +kernel, by decide +kernel⟩
theorem ok__law_kept {k : Nat} {f : Addr} {fd : FuncData} (T : Tx K mg) (E : Ec P K mg) (sb : SysB base) (Fu : Fun K "_law_kept" "_law_kept" s__law_kept f fd) : FnOkG P w K mg base (k + 1) f fd ["_law_every_here", "_law_word", "_law_number", "_law_some", "_law_other"] (SpD false false (RKept mg)) := by
  refine ok_DG Fu sc__law_kept (fun ds d ⟨_, _, _, _, _, e, _⟩ => by rw [e]; rfl) fun cdv A outer s H E0 hgd hr => ?_
  have hu2 : (A.deeper (envOfC "_law_kept" (defScope s__law_kept) s.heap.objs.size f cdv)).units + 65 < cLine := by have := hr.un; omega
  have hgd : (A.deeper (envOfC "_law_kept" (defScope s__law_kept) s.heap.objs.size f cdv)).guards = some [] := by
    first | exact hgd | (rw [Around.guards_deeper]; exact hgd) | simpa [Around.deeper] using hgd
  refine ⟨_, (pss_cons (ps_set (i := 5) sc__law_kept.nd rfl (Or.inl rfl) (pe_lst (pa_cons (pe_fldE (pe_ix (qIx (K := K)) (pv 0) pe_int (fun _ _ => rfl))) (pa_cons (pe_fldE (pe_ix (qIx (K := K)) (pv 0) pe_int (fun _ _ => rfl))) (pa_cons (pe_fldE (pe_ix (qIx (K := K)) (pv 0) pe_int (fun _ _ => rfl))) pa_nil)))))
    (pss_cons (ps_set (i := 6) sc__law_kept.nd rfl (Or.inl rfl) (pe_lst (pa_cons (pe_fldE (pe_ix (qIx (K := K)) (pv 0) pe_int (fun _ _ => rfl))) (pa_cons (pe_fldE (pe_ix (qIx (K := K)) (pv 0) pe_int (fun _ _ => rfl))) (pa_cons (pe_fldE (pe_ix (qIx (K := K)) (pv 0) pe_int (fun _ _ => rfl))) (pa_cons (pe_fldE (pe_ix (qIx (K := K)) (pv 0) pe_int (fun _ _ => rfl))) (pa_cons (pe_fldE (pe_ix (qIx (K := K)) (pv 0) pe_int (fun _ _ => rfl))) pa_nil)))))))
    (pss_cons (ps_set (i := 7) sc__law_kept.nd rfl (Or.inl rfl) (pe_lst (pa_cons (pe_fldE (pe_ix (qIx (K := K)) (pv 0) pe_int (fun _ _ => rfl))) (pa_cons (pe_fldE (pe_ix (qIx (K := K)) (pv 0) pe_int (fun _ _ => rfl))) (pa_cons (pe_fldE (pe_ix (qIx (K := K)) (pv 0) pe_int (fun _ _ => rfl))) pa_nil)))))
    (pss_cons (ps_if (PW.pt (pw_or (pt_cmpR (qNe (K := K) hu2) (pe_callB (pReprX (K := K) sb hgd hu2) (by rfl) T.n_repr (by decide +kernel) (pa_cons (pv 5) pa_nil)) (pe_callB (pReprX (K := K) sb hgd hu2) (by rfl) T.n_repr (by decide +kernel) (pa_cons (pe_op pMul (pe_lst (pa_cons (pv 1) pa_nil)) pe_int) pa_nil)) (nomark _)) (pw_or1 (pt_cmpR (qNe (K := K) hu2) (pe_callB (pReprX (K := K) sb hgd hu2) (by rfl) T.n_repr (by decide +kernel) (pa_cons (pv 6) pa_nil)) (pe_callB (pReprX (K := K) sb hgd hu2) (by rfl) T.n_repr (by decide +kernel) (pa_cons (pe_op pMul (pe_lst (pa_cons (pe_callTy (qTuple (K := K)) (by rfl) T.n_tuple (by decide +kernel) (pa_cons (pv 3) pa_nil)) pa_nil)) pe_int) pa_nil)) (nomark _)))))
      (pss_one (ps_ret pe_bl))
      pss_nil)
    (pss_one (ps_ret (pe_and (pe_cmpR (qEq (K := K) hu2) (pe_callB (pReprX (K := K) sb hgd hu2) (by rfl) T.n_repr (by decide +kernel) (pa_cons (pv 7) pa_nil)) (pe_callB (pReprX (K := K) sb hgd hu2) (by rfl) T.n_repr (by decide +kernel) (pa_cons (pe_op pMul (pe_lst (pa_cons (pv 2) pa_nil)) pe_int) pa_nil)) (nomark _)) (pe_one (pe_cmpR (qEq (K := K) hu2) (pe_callB (pReprX (K := K) sb hgd hu2) (by rfl) T.n_repr (by decide +kernel) (pa_cons (pe_lst (pa_cons (pe_fldE (pe_ix (qIx (K := K)) (pv 0) pe_int (fun _ _ => rfl))) (pa_cons (pe_fldE (pe_ix (qIx (K := K)) (pv 0) pe_int (fun _ _ => rfl))) pa_nil))) pa_nil)) (pe_callB (pReprX (K := K) sb hgd hu2) (by rfl) T.n_repr (by decide +kernel) (pa_cons (pe_op pMul (pe_lst (pa_cons (pv 4) pa_nil)) pe_int) pa_nil)) (nomark _)))))))))), fun F ds hF hR => ?_⟩
  obtain ⟨_, wd, nm, sm, ot, l, rfl, hs, r1, r2, r3, r4, rfl⟩ := hR
  have rep : ∀ {te : TE} {Δ : List Sl} {x : D} {n : Nat}, Ev1 F te Δ (.list [x]) → n ≤ 5 → Ev1 F (tOp rMulP te (tC (.int (n : Nat)))) Δ (.list (List.replicate n [x]).flatten) := fun {te Δ x n} h hn => ev_op1 (y := .int (n : Nat)) sMul h ev_int ⟨by omega, by omega, Nat.le_trans (show 1 * n ≤ 5 by omega) (by decide), rfl⟩
  have tup : ∀ {Δ : List Sl}, Δ[3]? = some (.v sm) → Ev1 F (tCB (rTupP K) (tCons (tVar 3) tNil)) Δ (.tuple l) := fun {Δ} h => by
    rcases hs with rfl | rfl
    · exact ev_cb1 (d := .tuple l) sTup (ea_cons1 (ev_var h) ea_nil) rfl
    · exact ev_cb1 (d := .tuple l) sTup (ea_cons1 (ev_var h) ea_nil) rfl
  refine run_set (d := .list [wd, wd, wd]) (EvF.val1 (ef_lst (ea_cons1 (d := wd) (ev_fldE (ev_ixL (q := 4) (ev_var (d := .list (excL mg wd nm l ot)) rfl) ev_int rfl) (E.at_ 4 (by decide)) E.no_4_word rfl) (ea_cons1 (d := wd) (ev_fldE (ev_ixL (q := 11) (ev_var (d := .list (excL mg wd nm l ot)) rfl) ev_int rfl) (E.at_ 11 (by decide)) E.no_11_word rfl) (ea_cons1 (d := wd) (ev_fldE (ev_ixL (q := 13) (ev_var (d := .list (excL mg wd nm l ot)) rfl) ev_int rfl) (E.at_ 13 (by decide)) E.no_13_word rfl) ea_nil))))) ?_
  refine run_set (d := .list [.tuple l, .tuple l, .tuple l, .tuple l, .tuple l]) (EvF.val1 (ef_lst (ea_cons1 (d := .tuple l) (ev_fldE (ev_ixL (q := 5) (ev_var (d := .list (excL mg wd nm l ot)) rfl) ev_int rfl) (E.at_ 5 (by decide)) E.no_5_path rfl) (ea_cons1 (d := .tuple l) (ev_fldE (ev_ixL (q := 6) (ev_var (d := .list (excL mg wd nm l ot)) rfl) ev_int rfl) (E.at_ 6 (by decide)) E.no_6_path rfl) (ea_cons1 (d := .tuple l) (ev_fldE (ev_ixL (q := 7) (ev_var (d := .list (excL mg wd nm l ot)) rfl) ev_int rfl) (E.at_ 7 (by decide)) E.no_7_path rfl) (ea_cons1 (d := .tuple l) (ev_fldE (ev_ixL (q := 8) (ev_var (d := .list (excL mg wd nm l ot)) rfl) ev_int rfl) (E.at_ 8 (by decide)) E.no_8_path rfl) (ea_cons1 (d := .tuple l) (ev_fldE (ev_ixL (q := 9) (ev_var (d := .list (excL mg wd nm l ot)) rfl) ev_int rfl) (E.at_ 9 (by decide)) E.no_9_path rfl) ea_nil))))))) ?_
  refine run_set (d := .list [nm, nm, nm]) (EvF.val1 (ef_lst (ea_cons1 (d := nm) (ev_fldE (ev_ixL (q := 10) (ev_var (d := .list (excL mg wd nm l ot)) rfl) ev_int rfl) (E.at_ 10 (by decide)) E.no_10_number rfl) (ea_cons1 (d := nm) (ev_fldE (ev_ixL (q := 12) (ev_var (d := .list (excL mg wd nm l ot)) rfl) ev_int rfl) (E.at_ 12 (by decide)) E.no_12_place rfl) (ea_cons1 (d := nm) (ev_fldE (ev_ixL (q := 14) (ev_var (d := .list (excL mg wd nm l ot)) rfl) ev_int rfl) (E.at_ 14 (by decide)) E.no_14_number rfl) ea_nil))))) ?_
  refine run_if1S (b := false) (et_or1 (a := false) (b := false) (et_test1 ((ev_neZ (ev_reprL (ev_var rfl) r1) (ev_reprL (rep (n := 3) (EvF.val1 (ef_lst (ea_cons1 (ev_var rfl) ea_nil))) (by decide)) r1)).eq (congrArg D.bool (by simp)))) fun _ => et_test1 ((ev_neZ (ev_reprL (ev_var rfl) r2) (ev_reprL (rep (n := 5) (EvF.val1 (ef_lst (ea_cons1 (tup rfl) ea_nil))) (by decide)) r2)).eq (congrArg D.bool (by simp)))) (fun h => nomatch h) fun _ => run_nextS ?_
  refine run_ret1 ((ev_andV (a := true) (b := true) ((ev_eqZ (ev_reprL (ev_var rfl) r3) (ev_reprL (rep (n := 3) (EvF.val1 (ef_lst (ea_cons1 (ev_var rfl) ea_nil))) (by decide)) r3)).eq (congrArg D.bool (by simp))) fun _ => (ev_eqZ (ev_reprL (EvF.val1 (ef_lst (ea_cons1 (d := ot) (ev_fldE (ev_ixL (q := 13) (ev_var (d := .list (excL mg wd nm l ot)) rfl) ev_int rfl) (E.at_ 13 (by decide)) E.no_13_value rfl) (ea_cons1 (d := ot) (ev_fldE (ev_ixL (q := 15) (ev_var (d := .list (excL mg wd nm l ot)) rfl) ev_int rfl) (E.at_ 15 (by decide)) E.no_15_name rfl) ea_nil)))) r4) (ev_reprL (rep (n := 2) (EvF.val1 (ef_lst (ea_cons1 (ev_var rfl) ea_nil))) (by decide)) r4)).eq (congrArg D.bool (by simp)))) ⟨wd, nm, sm, ot, l, rfl, hs, r1, r2, r3, r4, rfl⟩
end
end K00

namespace K00
open PySem L2 PySem.Spec PyProof.Rows Bc
section
variable {P : Program} {w : World} {K : PySem.W.Frag} {mg : Str → Option Value} {base : Heap}
def great : Int := 10 ^ 30
def wordsD : List D := [.str "", .str "x", .str "no such name", .none, .str (Txt.mul "x" 100), .tuple [.str "a"], .int 0, .list [.str "a", .dict []]]
def numsD : List D := [.int 0, .int 1, .int 7, .int 200, .int great, .int (-1), .none]
def somesD : List D := [.list [.str "a", .str "b"], .list [], .tuple [.str "a"], .list [.int 0, .int 1, .int 0], .tuple [.tuple [.str "x", .str "y"]], .list [.list []]]
def othersD : List D := [.tuple [], .tuple [.str "root", .int 0], .list [.int 0, .int 1], .none, .str "path", .dict [(.inr "a", .int 0)], .tuple [.str "a", .str "b"], .bool true]
theorem words_ok : ∀ x ∈ wordsD, (D.list [x, x, x]).rOk = true := by decide +kernel
theorem nums_ok : ∀ x ∈ numsD, (D.list [x, x, x]).rOk = true := by decide +kernel
theorem others_ok : ∀ x ∈ othersD, (D.list [x, x]).rOk = true := by decide +kernel
theorem somes_ok : ∀ x ∈ somesD, ∃ l, (x = .list l ∨ x = .tuple l) ∧ (D.list [.tuple l, .tuple l, .tuple l, .tuple l, .tuple l]).rOk = true := by
  intro x hx
  simp only [somesD, List.mem_cons, List.not_mem_nil, or_false] at hx
  rcases hx with rfl | rfl | rfl | rfl | rfl | rfl
  · exact ⟨_, .inl rfl, by decide +kernel⟩
  · exact ⟨_, .inl rfl, by decide +kernel⟩
  · exact ⟨_, .inr rfl, by decide +kernel⟩
  · exact ⟨_, .inl rfl, by decide +kernel⟩
  · exact ⟨_, .inr rfl, by decide +kernel⟩
  · exact ⟨_, .inl rfl, by decide +kernel⟩
theorem bools_ok {l : List Bool} : (D.list (l.map D.bool)).eqOk := by
  refine D.okn_ok ?_
  simp only [D.okn]
  refine oknL_of fun d hd => ?_
  obtain ⟨x, hx, rfl⟩ := List.mem_map.mp hd
  simp [D.okn]
theorem mul_ok1 : MulOk "0" 30 := ⟨by decide +kernel, fun _ _ => by decide +kernel, fun _ _ => by decide +kernel⟩
theorem mul_ok2 : MulOk "x" 100 := ⟨by decide +kernel, fun _ _ => by decide +kernel, fun _ _ => by decide +kernel⟩
def kindsB (i : Nat) : List Bool := (List.range 16).map fun j => decide (j = i)
theorem kinds_map (i : Nat) : kindsD i = (kindsB i).map D.bool := by simp [kindsD, kindsB]
def basesB (i : Nat) : List Bool := [decide (i < 15), decide (i < 15), decide (15 ≤ i), decide (15 ≤ i)]
theorem cs_inj (E : Ec P K mg) {i j : Nat} (hi : i < 16) (hj : j < 16) (e : cs mg i = cs mg j) : j = i := by
  have h1 := E.kit i j hi hj
  have h2 := E.kit i i hi hi
  rw [← e] at h1
  rw [h1] at h2
  simpa using h2
abbrev s_law : Stmt := top 26
theorem sc_law : FnScope ["_law_script", "_law_source_here", "_law_great", "_law_lap", "_law_word", "_law_number", "_law_some", "_law_other", "_law_every_here", "_law_k", "_law_j"] ["_law_script"] (defScope s_law) := ⟨rfl, rfl, rfl, by decide +kernel, rfl, by decide +kernel, by decide +kernel⟩
theorem ok_law {k : Nat} {f : Addr} {fd : FuncData} (T : Tx K mg) (E : Ec P K mg) (sb : SysB base)
    (G__law_source : FnT P w K mg base k "_law_source" ["_law_script"] (spSource K)) (G__law_pick : FnT P w K mg base k "_law_pick" ["_law_source_here", "_law_many"] (SpD true false RPick)) (G__law_every : FnT P w K mg base k "_law_every" ["_law_word", "_law_number", "_law_some", "_law_other"] (SpD false false (REvery mg)))
    (G__law_kinds : FnT P w K mg base k "_law_kinds" ["_law_e"] (SpD false false (RKinds mg))) (G__law_bases : FnT P w K mg base k "_law_bases" ["_law_e"] (SpD false false (RBases mg))) (G__law_kept : FnTG P w K mg base k "_law_kept" ["_law_every_here", "_law_word", "_law_number", "_law_some", "_law_other"] (SpD false false (RKept mg)))
    (Fu : Fun K "law" "law" s_law f fd) : FnOkG P w K mg base (k + 1) f fd ["_law_script"] (spLaw K) := by
  refine bodyG Fu sc_law (fun vs H Q E h => ?_) (fun cdv A outer s H vs Q E0' hgd0 hr h => ?_)
  · obtain ⟨a, ns, rfl, _⟩ := h
    rfl
  obtain ⟨a, ns, rfl, hS, hl, hk⟩ := h
  have hu2 : (A.deeper (envOfC "law" (defScope s_law) s.heap.objs.size f cdv)).units + 65 < cLine := by have := hr.un; omega
  have hgd : (A.deeper (envOfC "law" (defScope s_law) s.heap.objs.size f cdv)).guards = some [] := by
    first | exact hgd0 | (rw [Around.guards_deeper]; exact hgd0) | simpa [Around.deeper] using hgd0
  refine ⟨_, (pss_cons (ps_set (i := 1) sc_law.nd rfl (Or.inl rfl) (pe_callT G__law_source hr (pa_cons (pv 0) pa_nil)))
    (pss_cons (ps_set (i := 2) sc_law.nd rfl (Or.inl rfl) (pe_callTy pInt (by rfl) T.n_int (by decide +kernel) (pa_cons (pe_op (qAdd (K := K)) pe_str (pe_op pMul pe_str pe_int)) pa_nil)))
    (pss_cons (ps_for PassesOwn.never rfl (pi_range1 (by rfl) T.n_range (pa_cons pe_int pa_nil)) (pg_name (i := 3) sc_law.nd rfl (Or.inl rfl))
      (pss_cons (ps_set (i := 4) sc_law.nd rfl (Or.inl rfl) (pe_ix (qIx (K := K)) (pe_lst (pa_cons pe_str (pa_cons pe_str (pa_cons pe_str (pa_cons pe_non (pa_cons (pe_op pMul pe_str pe_int) (pa_cons (pe_tup (pa_cons pe_str pa_nil)) (pa_cons pe_int (pa_cons (pe_lst (pa_cons pe_str (pa_cons pe_dnewK pa_nil))) pa_nil))))))))) (pe_callT G__law_pick hr (pa_cons (pv 1) (pa_cons pe_int pa_nil))) (fun _ _ => rfl)))
      (pss_cons (ps_set (i := 5) sc_law.nd rfl (Or.inl rfl) (pe_ix (qIx (K := K)) (pe_lst (pa_cons pe_int (pa_cons pe_int (pa_cons pe_int (pa_cons pe_int (pa_cons (pv 2) (pa_cons (pe_un un_neg pe_int) (pa_cons pe_non pa_nil)))))))) (pe_callT G__law_pick hr (pa_cons (pv 1) (pa_cons pe_int pa_nil))) (fun _ _ => rfl)))
      (pss_cons (ps_set (i := 6) sc_law.nd rfl (Or.inl rfl) (pe_ix (qIx (K := K)) (pe_lst (pa_cons (pe_lst (pa_cons pe_str (pa_cons pe_str pa_nil))) (pa_cons (pe_lst pa_nil) (pa_cons (pe_tup (pa_cons pe_str pa_nil)) (pa_cons (pe_lst (pa_cons pe_int (pa_cons pe_int (pa_cons pe_int pa_nil)))) (pa_cons (pe_tup (pa_cons (pe_tup (pa_cons pe_str (pa_cons pe_str pa_nil))) pa_nil)) (pa_cons (pe_lst (pa_cons (pe_lst pa_nil) pa_nil)) pa_nil))))))) (pe_callT G__law_pick hr (pa_cons (pv 1) (pa_cons pe_int pa_nil))) (fun _ _ => rfl)))
      (pss_cons (ps_set (i := 7) sc_law.nd rfl (Or.inl rfl) (pe_ix (qIx (K := K)) (pe_lst (pa_cons (pe_tup pa_nil) (pa_cons (pe_tup (pa_cons pe_str (pa_cons pe_int pa_nil))) (pa_cons (pe_lst (pa_cons pe_int (pa_cons pe_int pa_nil))) (pa_cons pe_non (pa_cons pe_str (pa_cons (pe_disp (pps_cons pe_str pe_int pps_nil) (by rfl) (by rfl) (fun z => by cases z) (by decide)) (pa_cons (pe_tup (pa_cons pe_str (pa_cons pe_str pa_nil))) (pa_cons pe_bl pa_nil))))))))) (pe_callT G__law_pick hr (pa_cons (pv 1) (pa_cons pe_int pa_nil))) (fun _ _ => rfl)))
      (pss_cons (ps_set (i := 8) sc_law.nd rfl (Or.inl rfl) (pe_callT G__law_every hr (pa_cons (pv 4) (pa_cons (pv 5) (pa_cons (pv 6) (pa_cons (pv 7) pa_nil))))))
      (pss_cons (ps_for PassesOwn.never rfl (pi_range1 (by rfl) T.n_range (pa_cons (pe_callB (qLen (K := K)) (by rfl) T.n_len (by decide +kernel) (pa_cons (pv 8) pa_nil)) pa_nil)) (pg_name (i := 9) sc_law.nd rfl (Or.inr rfl))
        (pss_cons (ps_if (pt_cmpR (qNe (K := K) hu2) (pe_callT G__law_kinds hr (pa_cons (pe_ix (qIx (K := K)) (pv 8) (pv 9) (fun _ _ => rfl)) pa_nil)) (pe_lc (own := [("_law_j", 10)]) rfl sc_law.nd (pi_range1 (by rfl) T.n_range (pa_cons (pe_callB (qLen (K := K)) (by rfl) T.n_len (by decide +kernel) (pa_cons (pv 8) pa_nil)) pa_nil)) (blkOk_by (own := [("_law_j", 10)]) (N := ["_law_script", "_law_source_here", "_law_great", "_law_lap", "_law_word", "_law_number", "_law_some", "_law_other", "_law_every_here", "_law_k", "_law_j"]) (sc := defScope s_law) (by decide +kernel)) (fun _ _ _ _ _ => (pg_name (i := 10) sc_law.nd rfl (by first | exact Or.inl rfl | exact Or.inr rfl))) (fun _ _ _ _ _ => pts_nil) (fun _ _ _ _ _ => (pe_cmpR (qEq (K := K) hu2) (pv 10) (pv 9) (nomark _)))) (nomark _))
          (pss_one (ps_ret pe_bl))
          pss_nil)
        (pss_one (ps_if (pt_cmpR (qNe (K := K) hu2) (pe_callT G__law_bases hr (pa_cons (pe_ix (qIx (K := K)) (pv 8) (pv 9) (fun _ _ => rfl)) pa_nil)) (pe_lst (pa_cons (pe_cmpR pLt (pv 9) pe_int (nomark _)) (pa_cons (pe_cmpR pLt (pv 9) pe_int (nomark _)) (pa_cons (pe_cmpR op_ge (pv 9) pe_int (nomark _)) (pa_cons (pe_cmpR op_ge (pv 9) pe_int (nomark _)) pa_nil))))) (nomark _))
          (pss_one (ps_ret pe_bl))
          pss_nil))))
      (pss_one (ps_if (PW.pt (pw_or (pt_cmpR (qNe (K := K) hu2) (pe_callB (qLen (K := K)) (by rfl) T.n_len (by decide +kernel) (pa_cons (pv 8) pa_nil)) pe_int (nomark _)) (pw_or1 (pt_not (pt_val (pe_callG G__law_kept hgd hr (pa_cons (pv 8) (pa_cons (pv 4) (pa_cons (pv 5) (pa_cons (pv 6) (pa_cons (pv 7) pa_nil)))))))))))
        (pss_one (ps_ret pe_bl))
        pss_nil)))))))))
    (pss_one (ps_ret pe_bl))))), ?_⟩
  refine ⟨_, rfl, a, ns, rfl, hS, hl, fun p c H1 hp hc hsrc hsm => ?_⟩
  dsimp only [gName]
  refine law_start (n := 9) (σ := (L2.start ["_law_script", "_law_source_here", "_law_great", "_law_lap", "_law_word", "_law_number", "_law_some", "_law_other", "_law_every_here", "_law_k", "_law_j"] [V.ref a]).set 1 (some (V.ref p))) hsrc (by rfl) (by rfl) ?_ hk
  have hpk : ∀ {Δ : List Sl} {n : Nat} {E : XK}, Δ[1]? = some .src → 0 < n → n < 2 ^ 20 → EvR (some (p, c)) (tCall (SpD true false RPick) [] E (tCons (tVar 1) (tCons (tC (V.int (n : Nat))) tNil))) Δ fun d => ∃ r : Nat, r < n ∧ d = .int (r : Nat) := fun {Δ n E} hi h1 h2 => by
    refine (ev_callS (i := 1) (Pa := fun ds => ds = [.int (n : Nat)]) hi (ea_cons1 ev_int ea_nil) fun ds e => ⟨.int 0, n, 0, e, by omega, by omega, by omega, rfl⟩).imp ?_
    rintro d ⟨ds, rfl, m, r, e, _, h3, h4, rfl⟩
    simp only [List.cons.injEq, and_true, D.int.injEq] at e
    subst e
    have h5 : r < (n : Int) := by
      have h4 := h4
      omega
    exact ⟨r.toNat, by omega, by rw [Int.toNat_of_nonneg h3]⟩
  refine run_set (d := .int great) (ev_cb1 sIntC (ea_cons1 (ev_op1 (x := .str "1") (y := .str (Txt.mul "0" 30)) (d := .str ("1" ++ Txt.mul "0" 30)) sAdd ev_str (ev_op1 (x := .str "0") (y := .int 30) (d := .str (Txt.mul "0" 30)) sMul ev_str ev_int ⟨mul_ok1, rfl⟩) ⟨by decide +kernel, rfl⟩) ea_nil) ⟨by decide +kernel, great, by decide +kernel, rfl⟩) ?_
  refine run_seqM (N := fun Δ => ∃ s3 s4 s5 s6 s7 s8 s9 s10, Δ = [.un, .src, .v (.int great), s3, s4, s5, s6, s7, s8, s9, s10]) ?_ ?_
  · refine run_for (ei_rng (n := 2) (ea_cons1 ev_int ea_nil) (by decide)) (fun _ Δ => ∃ s3 s4 s5 s6 s7 s8 s9 s10, Δ = [.un, .src, .v (.int great), s3, s4, s5, s6, s7, s8, s9, s10]) ⟨_, _, _, _, _, _, _, _, rfl⟩ ?_ (fun Δ h => h)
    rintro i tn Δ _ ⟨s3, s4, s5, s6, s7, s8, s9, s10, rfl⟩
    refine ⟨_, _, eg_name, ?_⟩
    refine run_asgS (P := fun d => d ∈ wordsD) (ev_drawn (l := wordsD) (n := 8) (EvF.val1 (ef_lst (ea_cons1 ev_str (ea_cons1 ev_str (ea_cons1 ev_str (ea_cons1 ev_non (ea_cons1 (ev_op1 (x := .str "x") (y := .int 100) (d := .str (Txt.mul "x" 100)) sMul ev_str ev_int ⟨mul_ok2, rfl⟩) (ea_cons1 (ev_tup (ea_cons1 ev_str ea_nil)) (ea_cons1 ev_int (ea_cons1 (EvF.val1 (ef_lst (ea_cons1 ev_str (ea_cons1 ev_dnew ea_nil)))) ea_nil)))))))))) (hpk (n := 8) rfl (by decide) (by decide)) rfl) fun wd hwd => ?_
    refine run_asgS (P := fun d => d ∈ numsD) (ev_drawn (l := numsD) (n := 7) (EvF.val1 (ef_lst (ea_cons1 ev_int (ea_cons1 ev_int (ea_cons1 ev_int (ea_cons1 ev_int (ea_cons1 (ev_var rfl) (ea_cons1 (ev_neg ev_int) (ea_cons1 ev_non ea_nil))))))))) (hpk (n := 7) rfl (by decide) (by decide)) rfl) fun nm hnm => ?_
    refine run_asgS (P := fun d => d ∈ somesD) (ev_drawn (l := somesD) (n := 6) (EvF.val1 (ef_lst (ea_cons1 (EvF.val1 (ef_lst (ea_cons1 ev_str (ea_cons1 ev_str ea_nil)))) (ea_cons1 (EvF.val1 (ef_lst ea_nil)) (ea_cons1 (ev_tup (ea_cons1 ev_str ea_nil)) (ea_cons1 (EvF.val1 (ef_lst (ea_cons1 ev_int (ea_cons1 ev_int (ea_cons1 ev_int ea_nil))))) (ea_cons1 (ev_tup (ea_cons1 (ev_tup (ea_cons1 ev_str (ea_cons1 ev_str ea_nil))) ea_nil)) (ea_cons1 (EvF.val1 (ef_lst (ea_cons1 (EvF.val1 (ef_lst ea_nil)) ea_nil))) ea_nil)))))))) (hpk (n := 6) rfl (by decide) (by decide)) rfl) fun sm hsm2 => ?_
    refine run_asgS (P := fun d => d ∈ othersD) (ev_drawn (l := othersD) (n := 8) (EvF.val1 (ef_lst (ea_cons1 (ev_tup ea_nil) (ea_cons1 (ev_tup (ea_cons1 ev_str (ea_cons1 ev_int ea_nil))) (ea_cons1 (EvF.val1 (ef_lst (ea_cons1 ev_int (ea_cons1 ev_int ea_nil)))) (ea_cons1 ev_non (ea_cons1 ev_str (ea_cons1 (ev_disp (.s ev_int .nil) (by decide) (by decide)) (ea_cons1 (ev_tup (ea_cons1 ev_str (ea_cons1 ev_str ea_nil))) (ea_cons1 ev_bl ea_nil)))))))))) (hpk (n := 8) rfl (by decide) (by decide)) rfl) fun ot hot => ?_
    obtain ⟨l, hsl, hl5⟩ := somes_ok sm hsm2
    have r1 := words_ok wd hwd
    have r3 := nums_ok nm hnm
    have r4 := others_ok ot hot
    refine run_set (d := .list (excL mg wd nm l ot)) (ev_call1 (ds := [wd, nm, sm, ot]) (ea_cons1 (ev_var rfl) (ea_cons1 (ev_var rfl) (ea_cons1 (ev_var rfl) (ea_cons1 (ev_var rfl) ea_nil)))) ⟨wd, nm, sm, ot, l, rfl, hsl, rfl⟩ fun e h => ?_) ?_
    · obtain ⟨wd', nm', sm', ot', l', e1, e2, e3⟩ := h
      simp only [List.cons.injEq, and_true] at e1
      obtain ⟨rfl, rfl, rfl, rfl⟩ := e1
      have : l' = l := by
        rcases hsl with rfl | rfl <;> rcases e2 with e2 | e2 <;> simp_all
      rw [e3, this]
    have hex : ∀ i, i < 16 → ∃ fs, (excL mg wd nm l ot)[i]? = some (.exc (cs mg i) fs) := fun i hi => by
      have : i = 0 ∨ i = 1 ∨ i = 2 ∨ i = 3 ∨ i = 4 ∨ i = 5 ∨ i = 6 ∨ i = 7 ∨ i = 8 ∨ i = 9 ∨ i = 10 ∨ i = 11 ∨ i = 12 ∨ i = 13 ∨ i = 14 ∨ i = 15 := by omega
      rcases this with rfl | rfl | rfl | rfl | rfl | rfl | rfl | rfl | rfl | rfl | rfl | rfl | rfl | rfl | rfl | rfl <;> exact ⟨_, rfl⟩
    refine run_seqM (N := fun Δ => ∃ s9 s10, Δ = [.un, .src, .v (.int great), .v tn, .v wd, .v nm, .v sm, .v ot, .v (.list (excL mg wd nm l ot)), s9, s10]) ?_ ?_
    · refine run_for (ds := rngD 0 16) (ei_rng (n := 16) (ea_cons1 (ev_lenL (l := excL mg wd nm l ot) (ev_var rfl)) ea_nil) (by decide)) (fun _ Δ => ∃ s9 s10, Δ = [.un, .src, .v (.int great), .v tn, .v wd, .v nm, .v sm, .v ot, .v (.list (excL mg wd nm l ot)), s9, s10]) ⟨_, _, rfl⟩ ?_ (fun Δ h => h)
      rintro i2 d2 Δ2 hi2 ⟨s9, s10, rfl⟩
      obtain ⟨hlt, ed⟩ := List.getElem?_eq_some_iff.mp hi2
      have hlt : i2 < 16 := by simpa [rngD] using hlt
      have ed : d2 = .int (i2 : Nat) := by rw [← ed]; simp [rngD]
      subst ed
      obtain ⟨fs, hfs⟩ := hex i2 hlt
      refine ⟨_, _, eg_name, ?_⟩
      refine run_if1S (b := false) (et_test1 ((ev_neD (x := .list (kindsD i2)) (y := .list (kindsD i2)) (ev_call1 (ds := [.exc (cs mg i2) fs]) (ea_cons1 (ev_ixL (q := i2) (ev_var rfl) (ev_var rfl) hfs) ea_nil) ⟨i2, fs, hlt, rfl, rfl⟩ fun e h => ?_) (EvF.val1 ((ef_mapL (List.range 16) (fun j => .int ((0 : Int) + (j : Nat))) (fun j => .bool (decide (j = i2))) (ei_rng (n := 16) (ea_cons1 (ev_lenL (l := excL mg wd nm l ot) (ev_var rfl)) ea_nil) (by decide)) (by rw [List.length_range]; decide) fun j b hj => ⟨_, _, eg_name, by simp, ?_⟩).imp fun r e => e)) (by rw [kinds_map]; exact bools_ok) (by rw [kinds_map]; exact bools_ok)).eq (by rw [D.eqb, eqb_refl]; rfl))) (fun h => nomatch h) fun _ => run_nextS ?_
      · obtain ⟨i', fs', hi', e1, e2⟩ := h
        simp only [List.cons.injEq, and_true, D.exc.injEq] at e1
        rw [e2, cs_inj E hlt hi' e1.1]
      · exact (ev_eqI (i := (0 : Int) + (b : Nat)) (j := (i2 : Nat)) (ev_var rfl) (ev_var rfl)).eq (congrArg D.bool (decide_eq_decide.mpr (by omega)))
      refine run_if1 (b := false) (et_test1 ((ev_neD (x := .list (basesD i2)) (y := .list (basesD i2)) (ev_call1 (ds := [.exc (cs mg i2) fs]) (ea_cons1 (ev_ixL (q := i2) (ev_var rfl) (ev_var rfl) hfs) ea_nil) ⟨i2, fs, hlt, rfl, rfl⟩ fun e h => ?_) (EvF.val1 (ef_lst (ds := basesD i2) (hl := by show 4 ≤ sizeLine; decide) (ea_cons1 (d := .bool (decide (i2 < 15))) ((ev_ltI (i := (i2 : Nat)) (j := 15) (ev_var rfl) ev_int).eq (congrArg D.bool (decide_eq_decide.mpr (by omega)))) (ea_cons1 (d := .bool (decide (i2 < 15))) ((ev_ltI (i := (i2 : Nat)) (j := 15) (ev_var rfl) ev_int).eq (congrArg D.bool (decide_eq_decide.mpr (by omega)))) (ea_cons1 (d := .bool (decide (15 ≤ i2))) ((ev_geI (i := (i2 : Nat)) (j := 15) (ev_var rfl) ev_int).eq (congrArg D.bool (decide_eq_decide.mpr (by omega)))) (ea_cons1 (d := .bool (decide (15 ≤ i2))) ((ev_geI (i := (i2 : Nat)) (j := 15) (ev_var rfl) ev_int).eq (congrArg D.bool (decide_eq_decide.mpr (by omega)))) ea_nil)))))) (bools_ok (l := basesB i2)) (bools_ok (l := basesB i2))).eq (by rw [D.eqb, eqb_refl]; rfl))) (fun h => nomatch h) fun _ => run_next ⟨_, _, rfl⟩
      obtain ⟨i', fs', hi', e1, e2⟩ := h
      simp only [List.cons.injEq, and_true, D.exc.injEq] at e1
      rw [e2, cs_inj E hlt hi' e1.1]
    · rintro Δ2 ⟨s9, s10, rfl⟩
      refine run_if1 (b := false) (et_or1 (a := false) (b := false) (et_test1 ((ev_neI (ev_lenL (l := excL mg wd nm l ot) (ev_var rfl)) ev_int).eq rfl)) fun _ => et_not1 (a := true) (et_B1 (ev_call1 (d := .bool true) (ds := [.list (excL mg wd nm l ot), wd, nm, sm, ot]) (ea_cons1 (ev_var rfl) (ea_cons1 (ev_var rfl) (ea_cons1 (ev_var rfl) (ea_cons1 (ev_var rfl) (ea_cons1 (ev_var rfl) ea_nil))))) ⟨wd, nm, sm, ot, l, rfl, hsl, r1, hl5, r3, r4, rfl⟩ fun e ⟨_, _, _, _, _, _, _, _, _, _, _, h⟩ => h))) (fun h => nomatch h) fun _ => run_next ⟨_, _, _, _, _, _, _, _, rfl⟩
  · rintro Δ ⟨s3, s4, s5, s6, s7, s8, s9, s10, rfl⟩
    exact run_ret1 ev_bl rfl
end
end K00

/-! Core H: what the written part says of the exceptions' classes, put together. -/
namespace Bc
open PySem L2 PySem.Spec PyProof.Rows PySem.W PySem.Calls PySem.HandSPX
abbrev leTail : List Value := [.type "LookupError", .type "Exception", .type "BaseException", .type "object"]
section
variable {P : Program} {K : Frag} {mg : Str → Option Value} {C CB : Addr} {nm q : Str} {N : Addr} {bs : List Value} {sn : List Str} {sub : List Value} {ab : Bool} {col : Option Bool} {dd : Option Addr} {m0 m1 m2 m3 m5 : Option Value}
theorem le_pass (self : Value) : refuseLoop self "__setattr__" leTail = pure () := by kernel_rfl
theorem xcls_VE (lk : K.lookup C = some (excClassObj nm q C N bs [.ref CB, .type "ValueError", .type "Exception", .type "BaseException", .type "object"] true sn sub ab col dd m0 m1 m2 m3 m5 "ValueError.__new__"))
    (sa : findIn K (.ref C) "__setattr__" = some (some (.builtin "object.__setattr__"))) (kC : keepIn K (.ref C) = true) (exC : subIn K (.ref C) (.type "BaseException") = some true) (tyC : typeIn K (.ref C) = some (.type "type")) (sB : subIn K (.ref C) (.type "ValueError") = some true) :
    XI.XCls K C "ValueError" "ValueError.__new__" "ValueError.__init__" [.type "ValueError", .type "Exception", .type "BaseException", .type "object"] where
  F := F.excBase_ValueError
  X := kxs_ValueError
  cls := ⟨_, _, _, _, _, _, _, _, _, _, _, _, _, _, _, lk, fun X => by rw [List.contains_cons]; rfl, fun self => refsVE_pass self _ (show refsVE veTail = true by decide +kernel)⟩
  ob := by decide +kernel
  sa := sa
  kC := kC
  exC := exC
  tyC := tyC
  sB := sB
theorem xcls_LE (lk : K.lookup C = some (excClassObj nm q C N bs [.ref CB, .type "LookupError", .type "Exception", .type "BaseException", .type "object"] true sn sub ab col dd m0 m1 m2 m3 m5 "LookupError.__new__"))
    (sa : findIn K (.ref C) "__setattr__" = some (some (.builtin "object.__setattr__"))) (kC : keepIn K (.ref C) = true) (exC : subIn K (.ref C) (.type "BaseException") = some true) (tyC : typeIn K (.ref C) = some (.type "type")) (sB : subIn K (.ref C) (.type "LookupError") = some true) :
    XI.XCls K C "LookupError" "LookupError.__new__" "LookupError.__init__" [.type "LookupError", .type "Exception", .type "BaseException", .type "object"] where
  F := F.excBase_LookupError
  X := kxs_LookupError
  cls := ⟨_, _, _, _, _, _, _, _, _, _, _, _, _, _, _, lk, fun X => by rw [List.contains_cons]; rfl, fun self => by rw [refuseLoop_ref, refuseLoop_ref]; exact le_pass self⟩
  ob := by decide +kernel
  sa := sa
  kC := kC
  exC := exC
  tyC := tyC
  sB := sB
/-- the text of a class's __init__, by the statement itself -/
structure XText (P : Program) (st : Stmt) (ps : List Str) (pt : Bool) : Prop where
  ex : ∃ (p0 p1 p2 p3 p4 p5 : Pos) (msg : Str) (j : Nat) (rest : List Stmt), defBody st = .Expr (.Call (.Attribute (.Call (.Name "super" p0) [] [] p1) "__init__" p2) [.Constant (.str msg) j p3] [] p4) p5 :: rest ∧ (if pt = true then XI.PathL (defScope st) rest else XI.AsgL rest (ps.map fun p => (p, p))) ∧ (p2.endLine == p4.line) = true
  ar : ∃ ar, ((defArgs st).posonlyargs ++ (defArgs st).args).head? = some ar ∧ ar.arg = "self"
  kind : (defScope st).kind = .function
  co : (defScope st).isCoroutine = false
  gen : (defScope st).isGenerator = false
  sup : (defScope st).names.lookup ("super" : Str) = some .globalImplicit
  cls : (defScope st).names.lookup ("__class__" : Str) = some .free
  loc : ∀ x ∈ ("self" : Str) :: ps, (defScope st).names.lookup x = some .local
  noc : ∀ x ∈ (defScope st).names, x.2 ≠ .cell
  nodup : (("self" : Str) :: ps).Nodup
  ndbg : ∀ p ∈ ps, (p == ("__debug__" : Str)) = false
  few : ps.length ≤ 900
  pth : pt = true → ps = [("path" : Str)]
theorem xin_mk {st : Stmt} {ps : List Str} {pt : Bool} {qual : Str} {fI cc cda : Addr} {oc : Value} {od an : Option Addr} {osl : Array (Option Value)} {dV kV doc pm ct : Value} {ccl cl : Value} {cdd cld : Option Addr} {vs : Array Value} {ccs csl : Array (Option Value)} {file : Str} {tf : Tok} {initId : String}
    (T : XText P st ps pt) (iC : findIn K (.ref C) "__init__" = some (some (.ref fI))) (tI : typeIn K (.ref fI) = some (.type "function")) (noN : ∀ p ∈ ps, findIn K (.ref C) p = some none)
    (l : K.lookup fI = some ⟨oc, od, .func (fnX "__init__" qual (defArgs st) (defBody st) (defScope st) [("__class__", cc)] dV kV doc pm an (.ref cda) ct), osl⟩) (c : codeIn K (.ref cda) qual = true)
    (lc : K.lookup cda = some ⟨ccl, cdd, .fields vs, ccs⟩) (lv : vs[2]? = some (.str file tf)) (lf : ((P.main.file : Str) == file) = true) (le : K.lookup cc = some ⟨cl, cld, .cell (some (.ref C)), csl⟩)
    (hD : isClsIn K C = true) (hm : mroIn K C (.ref C) = some true) (hs : ks_superIn K C C "__init__" = some (some (.builtin initId))) (op : nsIn K cStatics "thirdparty.any" = some none) (nt : (P.main.scope.names.lookup ("super" : Str)).isSome = false)
    (hb : ∀ us : List Value, us.length = ps.length + 1 → bindArgs (fnX "__init__" qual (defArgs st) (defBody st) (defScope st) [("__class__", cc)] dV kV doc pm an (.ref cda) ct) ⟨us, []⟩ = pure ((("self" : Str) :: ps).zip us)) :
    XI.XIn P K C fI initId ps (ps.map fun p => (p, p)) pt where
  iC := iC
  tI := tI
  noN := fun p hp => by
    obtain ⟨y, hy, rfl⟩ := List.mem_map.mp hp
    exact noN y hy
  fn := by
    obtain ⟨p0, p1, p2, p3, p4, p5, msg, j, rest, e, h1, h2⟩ := T.ex
    obtain ⟨cd, hcd⟩ := Option.isSome_iff_exists.mp (show (clsIn K C).isSome = true from hD)
    rw [e] at l hb
    exact ⟨_, _, _, _, _, cc, cda, C, _, _, _, _, _, _, _, p0, p1, p2, p3, p4, p5, msg, j, rest, cd, l, c, h1, h2, T.ar, T.kind, T.co, T.gen, T.sup, T.cls, T.loc, T.noc, ⟨_, _, _, _, _, _, lc, lv, lf⟩, ⟨_, _, _, le⟩, hcd, hm, hs, hb⟩
  nodup := T.nodup
  mem := fun p hp => by
    obtain ⟨y, hy, rfl⟩ := List.mem_map.mp hp
    exact hy
  few := by rw [List.length_map]; exact T.few
  ndbg := fun p hp => by
    obtain ⟨y, hy, rfl⟩ := List.mem_map.mp hp
    exact T.ndbg y hy
  nda := by
    have := (List.nodup_cons.mp T.nodup).2
    rw [List.map_map, show ((fun x : Str × Str => x.1) ∘ fun p : Str => (p, p)) = id from rfl, List.map_id]
    exact this
  notop := nt
  pth := fun h => by
    have := T.pth h
    rw [this]
    exact ⟨rfl, rfl⟩
  opq := op
/-- super().__init__ is the base's -/
theorem super_mk {nm' q' : Str} {N' : Addr} {bs' bm : List Value} {sn' : List Str} {sub' : List Value} {ab' : Bool} {col' : Option Bool} {dd' : Option Addr} {n0 n1 n2 n3 n5 : Option Value} {newId newId' : String} {r : Option (Option Value)}
    (lk : K.lookup C = some (excClassObj nm q C N bs (.ref CB :: bm) true sn sub ab col dd m0 m1 m2 m3 m5 newId)) (lb : K.lookup CB = some (excClassObj nm' q' CB N' bs' bm true sn' sub' ab' col' dd' n0 n1 n2 n3 n5 newId')) (f : findIn K (.ref CB) "__init__" = r) :
    ks_superIn K C C "__init__" = r := by
  have hcl : clsIn K C = some { name := nm, bases := bs, mro := .ref C :: .ref CB :: bm, ns := N, qualname := q, hasDict := true, slotNames := sn, subclasses := sub, abstract := ab, collection := col, hasDel := false } := by unfold clsIn; rw [lk] <;> rfl
  unfold findIn at f
  dsimp only at f
  rw [lb] at f
  unfold ks_superIn
  rw [hcl]
  show alongIn K "__init__" (((Value.ref C :: .ref CB :: bm).dropWhile (· != .ref C)).drop 1) = r
  rw [show ((Value.ref C :: .ref CB :: bm).dropWhile (· != .ref C)).drop 1 = .ref CB :: bm by simp [List.dropWhile_cons]]
  exact f
/-- one class below another, by its mro -/
theorem kit_own {D : Addr} {bm : List Value} {newId : String} (lk : K.lookup C = some (excClassObj nm q C N bs bm true sn sub ab col dd m0 m1 m2 m3 m5 newId)) (hD : isClsIn K D = true) (tD : typeIn K (.ref D) = some (.type "type")) :
    kitOne K (.ref C) (.ref D) = some (decide (C = D) || bm.contains (.ref D)) := by
  have hcl : clsIn K C = some { name := nm, bases := bs, mro := .ref C :: bm, ns := N, qualname := q, hasDict := true, slotNames := sn, subclasses := sub, abstract := ab, collection := col, hasDel := false } := by unfold clsIn; rw [lk] <;> rfl
  have hm : mroIn K C (.ref D) = some ((Value.ref C :: bm).contains (.ref D)) := by
    unfold mroIn
    rw [hcl]
    rfl
  unfold kitOne
  by_cases h : C = D
  · subst h
    simp
  · have h1 : (Value.ref C == Value.ref D) = false := by simpa using h
    rw [h1, if_neg (by decide)]
    unfold kitCls
    dsimp only
    rw [show (clsIn K D).isSome = true from hD, tD]
    rw [if_pos (by simp)]
    show mroIn K C (.ref D) = _
    rw [hm, List.contains_cons]
    have h2 : (Value.ref D == Value.ref C) = false := by simpa using fun z => h z.symm
    rw [h2, decide_eq_false h]
theorem kit_blt {T : String} {bm : List Value} {newId : String} (lk : K.lookup C = some (excClassObj nm q C N bs bm true sn sub ab col dd m0 m1 m2 m3 m5 newId)) (hT : kitMeta T = true) :
    kitOne K (.ref C) (.type T) = some (bm.contains (.type T)) := by
  have hcl : clsIn K C = some { name := nm, bases := bs, mro := .ref C :: bm, ns := N, qualname := q, hasDict := true, slotNames := sn, subclasses := sub, abstract := ab, collection := col, hasDel := false } := by unfold clsIn; rw [lk] <;> rfl
  have hm : mroIn K C (.type T) = some ((Value.ref C :: bm).contains (.type T)) := by
    unfold mroIn
    rw [hcl]
    rfl
  unfold kitOne
  rw [show (Value.ref C == Value.type T) = false from rfl, if_neg (by decide)]
  unfold kitCls
  dsimp only
  rw [if_pos hT]
  show mroIn K C (.type T) = _
  rw [hm, List.contains_cons]
  rfl
end
end Bc

namespace K00
open PySem L2 PySem.Spec PyProof.Rows Bc
open PySem.W (kitOne)
/-- the class object at C, its mro behind itself -/
def LkC (K : PySem.W.Frag) (C : Addr) (bm : List Value) : Prop := ∃ nm q N bs sn sub ab col dd m0 m1 m2 m3 m5 newId, K.lookup C = some (excClassObj nm q C N bs bm true sn sub ab col dd m0 m1 m2 m3 m5 newId)
def bmV (mg : Str → Option Value) : List Value := [.ref (clsOf mg "BushError"), .type "ValueError", .type "Exception", .type "BaseException", .type "object"]
def bmL (mg : Str → Option Value) : List Value := [.ref (clsOf mg "NameMissing"), .type "LookupError", .type "Exception", .type "BaseException", .type "object"]
def bmOf (mg : Str → Option Value) (i : Nat) : List Value := if i < 15 then bmV mg else bmL mg
section
variable {K : PySem.W.Frag} {mg : Str → Option Value}
theorem kit_any {C D : Addr} {bm : List Value} (h : LkC K C bm) (hD : PySem.W.isClsIn K D = true) (tD : PySem.W.typeIn K (.ref D) = some (.type "type")) : kitOne K (.ref C) (.ref D) = some (decide (C = D) || bm.contains (.ref D)) := by
  obtain ⟨nm, q, N, bs, sn, sub, ab, col, dd, m0, m1, m2, m3, m5, newId, lk⟩ := h
  exact kit_own lk hD tD
theorem kit_anyT {C : Addr} {T : String} {bm : List Value} (h : LkC K C bm) (hT : PySem.W.kitMeta T = true) : kitOne K (.ref C) (.type T) = some (bm.contains (.type T)) := by
  obtain ⟨nm, q, N, bs, sn, sub, ab, col, dd, m0, m1, m2, m3, m5, newId, lk⟩ := h
  exact kit_blt lk hT
def addrs (mg : Str → Option Value) : List Addr := (List.range 16).map (cs mg) ++ [clsOf mg "BushError", clsOf mg "NameMissing"]
theorem addrs_len : (addrs mg).length = 18 := by simp [addrs]
theorem addrs_cs {i : Nat} (hi : i < 16) (h : i < (addrs mg).length) : (addrs mg)[i] = cs mg i := by
  simp only [addrs]
  rw [List.getElem_append_left (by simpa using hi)]
  simp
theorem cs_eq (nd : (addrs mg).Nodup) {i j : Nat} (hi : i < 16) (hj : j < 16) : (cs mg i = cs mg j) ↔ i = j := by
  have h1 : i < (addrs mg).length := by rw [addrs_len]; omega
  have h2 : j < (addrs mg).length := by rw [addrs_len]; omega
  rw [← addrs_cs hi h1, ← addrs_cs hj h2]
  exact List.getElem_inj nd
theorem cs_B (nd : (addrs mg).Nodup) {i : Nat} (hi : i < 16) : cs mg i ≠ clsOf mg "BushError" := fun e => by
  have h1 : i < (addrs mg).length := by rw [addrs_len]; omega
  have h2 : 16 < (addrs mg).length := by rw [addrs_len]; omega
  have e2 : (addrs mg)[16] = clsOf mg "BushError" := by simp [addrs]
  have := (List.getElem_inj nd (h₀ := h1) (h₁ := h2)).mp (by rw [addrs_cs hi h1, e, e2])
  omega
theorem cs_N (nd : (addrs mg).Nodup) {i : Nat} (hi : i < 16) : cs mg i ≠ clsOf mg "NameMissing" := fun e => by
  have h1 : i < (addrs mg).length := by rw [addrs_len]; omega
  have h2 : 17 < (addrs mg).length := by rw [addrs_len]; omega
  have e2 : (addrs mg)[17] = clsOf mg "NameMissing" := by simp [addrs]
  have := (List.getElem_inj nd (h₀ := h1) (h₁ := h2)).mp (by rw [addrs_cs hi h1, e, e2])
  omega
theorem B_N (nd : (addrs mg).Nodup) : clsOf mg "BushError" ≠ clsOf mg "NameMissing" := fun e => by
  have h1 : 16 < (addrs mg).length := by rw [addrs_len]; omega
  have h2 : 17 < (addrs mg).length := by rw [addrs_len]; omega
  have e1 : (addrs mg)[16] = clsOf mg "BushError" := by simp [addrs]
  have e2 : (addrs mg)[17] = clsOf mg "NameMissing" := by simp [addrs]
  have := (List.getElem_inj nd (h₀ := h1) (h₁ := h2)).mp (by rw [e1, e2, e])
  omega
theorem bm_ref {i : Nat} {D : Addr} : (bmOf mg i).contains (.ref D) = if i < 15 then decide (D = clsOf mg "BushError") else decide (D = clsOf mg "NameMissing") := by
  unfold bmOf
  by_cases h : i < 15
  · rw [if_pos h, if_pos h]
    simp [bmV, List.contains_cons]
  · rw [if_neg h, if_neg h]
    simp [bmL, List.contains_cons]
theorem bm_V {i : Nat} : (bmOf mg i).contains (.type "ValueError") = decide (i < 15) := by
  unfold bmOf
  by_cases h : i < 15
  · rw [if_pos h, decide_eq_true h]
    rfl
  · rw [if_neg h, decide_eq_false h]
    rfl
theorem bm_L {i : Nat} : (bmOf mg i).contains (.type "LookupError") = decide (15 ≤ i) := by
  unfold bmOf
  by_cases h : i < 15
  · rw [if_pos h, decide_eq_false (by omega)]
    rfl
  · rw [if_neg h, decide_eq_true (by omega)]
    rfl
section
variable (nd : (addrs mg).Nodup) (lk : ∀ i, i < 16 → LkC K (cs mg i) (bmOf mg i)) (is : ∀ i, i < 16 → PySem.W.isClsIn K (cs mg i) = true) (ty : ∀ i, i < 16 → PySem.W.typeIn K (.ref (cs mg i)) = some (.type "type"))
include nd lk
theorem kits (is : ∀ i, i < 16 → PySem.W.isClsIn K (cs mg i) = true) (ty : ∀ i, i < 16 → PySem.W.typeIn K (.ref (cs mg i)) = some (.type "type")) (i j : Nat) (hi : i < 16) (hj : j < 16) : kitOne K (.ref (cs mg i)) (.ref (cs mg j)) = some (decide (j = i)) := by
  rw [kit_any (lk i hi) (is j hj) (ty j hj), bm_ref]
  have h1 := cs_B nd hj
  have h2 := cs_N nd hj
  have h3 : decide (cs mg i = cs mg j) = decide (j = i) := decide_eq_decide.mpr ((cs_eq nd hi hj).trans ⟨Eq.symm, Eq.symm⟩)
  rw [h3, decide_eq_false h1, decide_eq_false h2]
  simp
theorem kitsB (hB : PySem.W.isClsIn K (clsOf mg "BushError") = true) (tB : PySem.W.typeIn K (.ref (clsOf mg "BushError")) = some (.type "type")) (i : Nat) (hi : i < 16) : kitOne K (.ref (cs mg i)) (.ref (clsOf mg "BushError")) = some (decide (i < 15)) := by
  rw [kit_any (lk i hi) hB tB, bm_ref, decide_eq_false (cs_B nd hi)]
  by_cases h : i < 15
  · simp [h]
  · simp [h, B_N nd]
theorem kitsN (hB : PySem.W.isClsIn K (clsOf mg "NameMissing") = true) (tB : PySem.W.typeIn K (.ref (clsOf mg "NameMissing")) = some (.type "type")) (i : Nat) (hi : i < 16) : kitOne K (.ref (cs mg i)) (.ref (clsOf mg "NameMissing")) = some (decide (15 ≤ i)) := by
  rw [kit_any (lk i hi) hB tB, bm_ref, decide_eq_false (cs_N nd hi)]
  by_cases h : i < 15
  · simp [h, Ne.symm (B_N nd)]
  · simp [h]
    omega
end
theorem kitsV (lk : ∀ i, i < 16 → LkC K (cs mg i) (bmOf mg i)) (i : Nat) (hi : i < 16) : kitOne K (.ref (cs mg i)) (.type "ValueError") = some (decide (i < 15)) := by
  rw [kit_anyT (lk i hi) (by decide +kernel), bm_V]
theorem kitsL (lk : ∀ i, i < 16 → LkC K (cs mg i) (bmOf mg i)) (i : Nat) (hi : i < 16) : kitOne K (.ref (cs mg i)) (.type "LookupError") = some (decide (15 ≤ i)) := by
  rw [kit_anyT (lk i hi) (by decide +kernel), bm_L]
end
end K00

namespace K00
open PySem L2 PySem.Spec PyProof.Rows Bc
abbrev s_UnlikeGroves : Stmt := inClass (top 3) 0
theorem text_UnlikeGroves {P : Program} : XText P s_UnlikeGroves [] false := ⟨⟨_, _, _, _, _, _, _, _, _, rfl, (show XI.AsgL _ _ from rfl), rfl⟩, ⟨_, rfl, rfl⟩, rfl, rfl, rfl, by decide +kernel, by decide +kernel, by decide +kernel, by decide +kernel, by decide +kernel, by decide +kernel, by decide, fun h => by first | rfl | cases h⟩
abbrev s_TooGreat : Stmt := inClass (top 4) 0
theorem text_TooGreat {P : Program} : XText P s_TooGreat [] false := ⟨⟨_, _, _, _, _, _, _, _, _, rfl, (show XI.AsgL _ _ from rfl), rfl⟩, ⟨_, rfl, rfl⟩, rfl, rfl, rfl, by decide +kernel, by decide +kernel, by decide +kernel, by decide +kernel, by decide +kernel, by decide +kernel, by decide, fun h => by first | rfl | cases h⟩
abbrev s_Overlaps : Stmt := inClass (top 10) 0
theorem text_Overlaps {P : Program} : XText P s_Overlaps [] false := ⟨⟨_, _, _, _, _, _, _, _, _, rfl, (show XI.AsgL _ _ from rfl), rfl⟩, ⟨_, rfl, rfl⟩, rfl, rfl, rfl, by decide +kernel, by decide +kernel, by decide +kernel, by decide +kernel, by decide +kernel, by decide +kernel, by decide, fun h => by first | rfl | cases h⟩
abbrev s_NothingDone : Stmt := inClass (top 9) 0
theorem text_NothingDone {P : Program} : XText P s_NothingDone [] false := ⟨⟨_, _, _, _, _, _, _, _, _, rfl, (show XI.AsgL _ _ from rfl), rfl⟩, ⟨_, rfl, rfl⟩, rfl, rfl, rfl, by decide +kernel, by decide +kernel, by decide +kernel, by decide +kernel, by decide +kernel, by decide +kernel, by decide, fun h => by first | rfl | cases h⟩
abbrev s_UnlikeStocks : Stmt := inClass (top 11) 0
theorem text_UnlikeStocks {P : Program} : XText P s_UnlikeStocks ["word"] false := ⟨⟨_, _, _, _, _, _, _, _, _, rfl, (show XI.AsgL _ _ from ⟨_, _, _, rfl, ⟨_, _, _, _, rfl⟩, rfl⟩), rfl⟩, ⟨_, rfl, rfl⟩, rfl, rfl, rfl, by decide +kernel, by decide +kernel, by decide +kernel, by decide +kernel, by decide +kernel, by decide +kernel, by decide, fun h => by first | rfl | cases h⟩
abbrev s_BadBook : Stmt := inClass (top 5) 0
theorem text_BadBook {P : Program} : XText P s_BadBook ["path"] true := ⟨⟨_, _, _, _, _, _, _, _, _, rfl, (show XI.PathL _ _ from ⟨⟨_, _, _, _, _, _, rfl⟩, by decide +kernel⟩), rfl⟩, ⟨_, rfl, rfl⟩, rfl, rfl, rfl, by decide +kernel, by decide +kernel, by decide +kernel, by decide +kernel, by decide +kernel, by decide +kernel, by decide, fun h => by first | rfl | cases h⟩
abbrev s_BadBag : Stmt := inClass (top 6) 0
theorem text_BadBag {P : Program} : XText P s_BadBag ["path"] true := ⟨⟨_, _, _, _, _, _, _, _, _, rfl, (show XI.PathL _ _ from ⟨⟨_, _, _, _, _, _, rfl⟩, by decide +kernel⟩), rfl⟩, ⟨_, rfl, rfl⟩, rfl, rfl, rfl, by decide +kernel, by decide +kernel, by decide +kernel, by decide +kernel, by decide +kernel, by decide +kernel, by decide, fun h => by first | rfl | cases h⟩
abbrev s_BadGrove : Stmt := inClass (top 7) 0
theorem text_BadGrove {P : Program} : XText P s_BadGrove ["path"] true := ⟨⟨_, _, _, _, _, _, _, _, _, rfl, (show XI.PathL _ _ from ⟨⟨_, _, _, _, _, _, rfl⟩, by decide +kernel⟩), rfl⟩, ⟨_, rfl, rfl⟩, rfl, rfl, rfl, by decide +kernel, by decide +kernel, by decide +kernel, by decide +kernel, by decide +kernel, by decide +kernel, by decide, fun h => by first | rfl | cases h⟩
abbrev s_BadAssembly : Stmt := inClass (top 8) 0
theorem text_BadAssembly {P : Program} : XText P s_BadAssembly ["path"] true := ⟨⟨_, _, _, _, _, _, _, _, _, rfl, (show XI.PathL _ _ from ⟨⟨_, _, _, _, _, _, rfl⟩, by decide +kernel⟩), rfl⟩, ⟨_, rfl, rfl⟩, rfl, rfl, rfl, by decide +kernel, by decide +kernel, by decide +kernel, by decide +kernel, by decide +kernel, by decide +kernel, by decide, fun h => by first | rfl | cases h⟩
abbrev s_BadPattern : Stmt := inClass (top 12) 0
theorem text_BadPattern {P : Program} : XText P s_BadPattern ["path"] true := ⟨⟨_, _, _, _, _, _, _, _, _, rfl, (show XI.PathL _ _ from ⟨⟨_, _, _, _, _, _, rfl⟩, by decide +kernel⟩), rfl⟩, ⟨_, rfl, rfl⟩, rfl, rfl, rfl, by decide +kernel, by decide +kernel, by decide +kernel, by decide +kernel, by decide +kernel, by decide +kernel, by decide, fun h => by first | rfl | cases h⟩
abbrev s_BadDeed : Stmt := inClass (top 13) 0
theorem text_BadDeed {P : Program} : XText P s_BadDeed ["number"] false := ⟨⟨_, _, _, _, _, _, _, _, _, rfl, (show XI.AsgL _ _ from ⟨_, _, _, rfl, ⟨_, _, _, _, rfl⟩, rfl⟩), rfl⟩, ⟨_, rfl, rfl⟩, rfl, rfl, rfl, by decide +kernel, by decide +kernel, by decide +kernel, by decide +kernel, by decide +kernel, by decide +kernel, by decide, fun h => by first | rfl | cases h⟩
abbrev s_BadAct : Stmt := inClass (top 14) 0
theorem text_BadAct {P : Program} : XText P s_BadAct ["word"] false := ⟨⟨_, _, _, _, _, _, _, _, _, rfl, (show XI.AsgL _ _ from ⟨_, _, _, rfl, ⟨_, _, _, _, rfl⟩, rfl⟩), rfl⟩, ⟨_, rfl, rfl⟩, rfl, rfl, rfl, by decide +kernel, by decide +kernel, by decide +kernel, by decide +kernel, by decide +kernel, by decide +kernel, by decide, fun h => by first | rfl | cases h⟩
abbrev s_BadText : Stmt := inClass (top 15) 0
theorem text_BadText {P : Program} : XText P s_BadText ["place"] false := ⟨⟨_, _, _, _, _, _, _, _, _, rfl, (show XI.AsgL _ _ from ⟨_, _, _, rfl, ⟨_, _, _, _, rfl⟩, rfl⟩), rfl⟩, ⟨_, rfl, rfl⟩, rfl, rfl, rfl, by decide +kernel, by decide +kernel, by decide +kernel, by decide +kernel, by decide +kernel, by decide +kernel, by decide, fun h => by first | rfl | cases h⟩
abbrev s_Unbuilt : Stmt := inClass (top 16) 0
theorem text_Unbuilt {P : Program} : XText P s_Unbuilt ["word", "value"] false := ⟨⟨_, _, _, _, _, _, _, _, _, rfl, (show XI.AsgL _ _ from ⟨_, _, _, rfl, ⟨_, _, _, _, rfl⟩, ⟨_, _, _, rfl, ⟨_, _, _, _, rfl⟩, rfl⟩⟩), rfl⟩, ⟨_, rfl, rfl⟩, rfl, rfl, rfl, by decide +kernel, by decide +kernel, by decide +kernel, by decide +kernel, by decide +kernel, by decide +kernel, by decide, fun h => by first | rfl | cases h⟩
abbrev s_Clash : Stmt := inClass (top 17) 0
theorem text_Clash {P : Program} : XText P s_Clash ["number"] false := ⟨⟨_, _, _, _, _, _, _, _, _, rfl, (show XI.AsgL _ _ from ⟨_, _, _, rfl, ⟨_, _, _, _, rfl⟩, rfl⟩), rfl⟩, ⟨_, rfl, rfl⟩, rfl, rfl, rfl, by decide +kernel, by decide +kernel, by decide +kernel, by decide +kernel, by decide +kernel, by decide +kernel, by decide, fun h => by first | rfl | cases h⟩
abbrev s_UnknownName : Stmt := inClass (top 18) 0
theorem text_UnknownName {P : Program} : XText P s_UnknownName ["name"] false := ⟨⟨_, _, _, _, _, _, _, _, _, rfl, (show XI.AsgL _ _ from ⟨_, _, _, rfl, ⟨_, _, _, _, rfl⟩, rfl⟩), rfl⟩, ⟨_, rfl, rfl⟩, rfl, rfl, rfl, by decide +kernel, by decide +kernel, by decide +kernel, by decide +kernel, by decide +kernel, by decide +kernel, by decide, fun h => by first | rfl | cases h⟩
theorem all_mk {l : PySem.W.OpenLaw} {w : World} {K : PySem.W.Frag} {h : Heap} {mg : Str → Option Value} {fa : Addr} (X : K.In h) (G : h.Ns mainGlobals mg) (hfa : mg "law" = some (.ref fa))
    {f__law_source : Addr} {od__law_source an__law_source : Option Addr} {sl__law_source : Array (Option Value)} {oc__law_source kV__law_source dc__law_source pm__law_source cd__law_source ct__law_source : Value} {f__law_pick : Addr} {od__law_pick an__law_pick : Option Addr} {sl__law_pick : Array (Option Value)} {oc__law_pick kV__law_pick dc__law_pick pm__law_pick cd__law_pick ct__law_pick : Value} {f__law_kinds : Addr} {od__law_kinds an__law_kinds : Option Addr} {sl__law_kinds : Array (Option Value)} {oc__law_kinds kV__law_kinds dc__law_kinds pm__law_kinds cd__law_kinds ct__law_kinds : Value} {f__law_bases : Addr} {od__law_bases an__law_bases : Option Addr} {sl__law_bases : Array (Option Value)} {oc__law_bases kV__law_bases dc__law_bases pm__law_bases cd__law_bases ct__law_bases : Value} {f__law_every : Addr} {od__law_every an__law_every : Option Addr} {sl__law_every : Array (Option Value)} {oc__law_every kV__law_every dc__law_every pm__law_every cd__law_every ct__law_every : Value} {f__law_kept : Addr} {od__law_kept an__law_kept : Option Addr} {sl__law_kept : Array (Option Value)} {oc__law_kept kV__law_kept dc__law_kept pm__law_kept cd__law_kept ct__law_kept : Value} {f_law : Addr} {od_law an_law : Option Addr} {sl_law : Array (Option Value)} {oc_law kV_law dc_law pm_law cd_law ct_law : Value} {C_BushError : Addr} {N_BushError : Addr} {nm_BushError q_BushError : Str} {bs_BushError : List Value} {sn_BushError : List Str} {sub_BushError : List Value} {ab_BushError : Bool} {col_BushError : Option Bool} {dd_BushError : Option Addr} {m0_BushError m1_BushError m2_BushError m3_BushError m5_BushError : Option Value} {C_NameMissing : Addr} {N_NameMissing : Addr} {nm_NameMissing q_NameMissing : Str} {bs_NameMissing : List Value} {sn_NameMissing : List Str} {sub_NameMissing : List Value} {ab_NameMissing : Bool} {col_NameMissing : Option Bool} {dd_NameMissing : Option Addr} {m0_NameMissing m1_NameMissing m2_NameMissing m3_NameMissing m5_NameMissing : Option Value} {C_UnlikeGroves f_UnlikeGroves cc_UnlikeGroves cda_UnlikeGroves N_UnlikeGroves : Addr} {nm_UnlikeGroves q_UnlikeGroves : Str} {bs_UnlikeGroves : List Value} {sn_UnlikeGroves : List Str} {sub_UnlikeGroves : List Value} {ab_UnlikeGroves : Bool} {col_UnlikeGroves : Option Bool} {dd_UnlikeGroves : Option Addr} {m0_UnlikeGroves m1_UnlikeGroves m2_UnlikeGroves m3_UnlikeGroves m5_UnlikeGroves : Option Value} {oc_UnlikeGroves kV_UnlikeGroves dc_UnlikeGroves pm_UnlikeGroves ct_UnlikeGroves ccl_UnlikeGroves cl_UnlikeGroves : Value} {od_UnlikeGroves an_UnlikeGroves cdd_UnlikeGroves cld_UnlikeGroves : Option Addr} {osl_UnlikeGroves ccs_UnlikeGroves csl_UnlikeGroves : Array (Option Value)} {vs_UnlikeGroves : Array Value} {file_UnlikeGroves : Str} {tf_UnlikeGroves : Tok} {C_TooGreat f_TooGreat cc_TooGreat cda_TooGreat N_TooGreat : Addr} {nm_TooGreat q_TooGreat : Str} {bs_TooGreat : List Value} {sn_TooGreat : List Str} {sub_TooGreat : List Value} {ab_TooGreat : Bool} {col_TooGreat : Option Bool} {dd_TooGreat : Option Addr} {m0_TooGreat m1_TooGreat m2_TooGreat m3_TooGreat m5_TooGreat : Option Value} {oc_TooGreat kV_TooGreat dc_TooGreat pm_TooGreat ct_TooGreat ccl_TooGreat cl_TooGreat : Value} {od_TooGreat an_TooGreat cdd_TooGreat cld_TooGreat : Option Addr} {osl_TooGreat ccs_TooGreat csl_TooGreat : Array (Option Value)} {vs_TooGreat : Array Value} {file_TooGreat : Str} {tf_TooGreat : Tok} {C_Overlaps f_Overlaps cc_Overlaps cda_Overlaps N_Overlaps : Addr} {nm_Overlaps q_Overlaps : Str} {bs_Overlaps : List Value} {sn_Overlaps : List Str} {sub_Overlaps : List Value} {ab_Overlaps : Bool} {col_Overlaps : Option Bool} {dd_Overlaps : Option Addr} {m0_Overlaps m1_Overlaps m2_Overlaps m3_Overlaps m5_Overlaps : Option Value} {oc_Overlaps kV_Overlaps dc_Overlaps pm_Overlaps ct_Overlaps ccl_Overlaps cl_Overlaps : Value} {od_Overlaps an_Overlaps cdd_Overlaps cld_Overlaps : Option Addr} {osl_Overlaps ccs_Overlaps csl_Overlaps : Array (Option Value)} {vs_Overlaps : Array Value} {file_Overlaps : Str} {tf_Overlaps : Tok} {C_NothingDone f_NothingDone cc_NothingDone cda_NothingDone N_NothingDone : Addr} {nm_NothingDone q_NothingDone : Str} {bs_NothingDone : List Value} {sn_NothingDone : List Str} {sub_NothingDone : List Value} {ab_NothingDone : Bool} {col_NothingDone : Option Bool} {dd_NothingDone : Option Addr} {m0_NothingDone m1_NothingDone m2_NothingDone m3_NothingDone m5_NothingDone : Option Value} {oc_NothingDone kV_NothingDone dc_NothingDone pm_NothingDone ct_NothingDone ccl_NothingDone cl_NothingDone : Value} {od_NothingDone an_NothingDone cdd_NothingDone cld_NothingDone : Option Addr} {osl_NothingDone ccs_NothingDone csl_NothingDone : Array (Option Value)} {vs_NothingDone : Array Value} {file_NothingDone : Str} {tf_NothingDone : Tok} {C_UnlikeStocks f_UnlikeStocks cc_UnlikeStocks cda_UnlikeStocks N_UnlikeStocks : Addr} {nm_UnlikeStocks q_UnlikeStocks : Str} {bs_UnlikeStocks : List Value} {sn_UnlikeStocks : List Str} {sub_UnlikeStocks : List Value} {ab_UnlikeStocks : Bool} {col_UnlikeStocks : Option Bool} {dd_UnlikeStocks : Option Addr} {m0_UnlikeStocks m1_UnlikeStocks m2_UnlikeStocks m3_UnlikeStocks m5_UnlikeStocks : Option Value} {oc_UnlikeStocks kV_UnlikeStocks dc_UnlikeStocks pm_UnlikeStocks ct_UnlikeStocks ccl_UnlikeStocks cl_UnlikeStocks : Value} {od_UnlikeStocks an_UnlikeStocks cdd_UnlikeStocks cld_UnlikeStocks : Option Addr} {osl_UnlikeStocks ccs_UnlikeStocks csl_UnlikeStocks : Array (Option Value)} {vs_UnlikeStocks : Array Value} {file_UnlikeStocks : Str} {tf_UnlikeStocks : Tok} {C_BadBook f_BadBook cc_BadBook cda_BadBook N_BadBook : Addr} {nm_BadBook q_BadBook : Str} {bs_BadBook : List Value} {sn_BadBook : List Str} {sub_BadBook : List Value} {ab_BadBook : Bool} {col_BadBook : Option Bool} {dd_BadBook : Option Addr} {m0_BadBook m1_BadBook m2_BadBook m3_BadBook m5_BadBook : Option Value} {oc_BadBook kV_BadBook dc_BadBook pm_BadBook ct_BadBook ccl_BadBook cl_BadBook : Value} {od_BadBook an_BadBook cdd_BadBook cld_BadBook : Option Addr} {osl_BadBook ccs_BadBook csl_BadBook : Array (Option Value)} {vs_BadBook : Array Value} {file_BadBook : Str} {tf_BadBook : Tok} {C_BadBag f_BadBag cc_BadBag cda_BadBag N_BadBag : Addr} {nm_BadBag q_BadBag : Str} {bs_BadBag : List Value} {sn_BadBag : List Str} {sub_BadBag : List Value} {ab_BadBag : Bool} {col_BadBag : Option Bool} {dd_BadBag : Option Addr} {m0_BadBag m1_BadBag m2_BadBag m3_BadBag m5_BadBag : Option Value} {oc_BadBag kV_BadBag dc_BadBag pm_BadBag ct_BadBag ccl_BadBag cl_BadBag : Value} {od_BadBag an_BadBag cdd_BadBag cld_BadBag : Option Addr} {osl_BadBag ccs_BadBag csl_BadBag : Array (Option Value)} {vs_BadBag : Array Value} {file_BadBag : Str} {tf_BadBag : Tok} {C_BadGrove f_BadGrove cc_BadGrove cda_BadGrove N_BadGrove : Addr} {nm_BadGrove q_BadGrove : Str} {bs_BadGrove : List Value} {sn_BadGrove : List Str} {sub_BadGrove : List Value} {ab_BadGrove : Bool} {col_BadGrove : Option Bool} {dd_BadGrove : Option Addr} {m0_BadGrove m1_BadGrove m2_BadGrove m3_BadGrove m5_BadGrove : Option Value} {oc_BadGrove kV_BadGrove dc_BadGrove pm_BadGrove ct_BadGrove ccl_BadGrove cl_BadGrove : Value} {od_BadGrove an_BadGrove cdd_BadGrove cld_BadGrove : Option Addr} {osl_BadGrove ccs_BadGrove csl_BadGrove : Array (Option Value)} {vs_BadGrove : Array Value} {file_BadGrove : Str} {tf_BadGrove : Tok} {C_BadAssembly f_BadAssembly cc_BadAssembly cda_BadAssembly N_BadAssembly : Addr} {nm_BadAssembly q_BadAssembly : Str} {bs_BadAssembly : List Value} {sn_BadAssembly : List Str} {sub_BadAssembly : List Value} {ab_BadAssembly : Bool} {col_BadAssembly : Option Bool} {dd_BadAssembly : Option Addr} {m0_BadAssembly m1_BadAssembly m2_BadAssembly m3_BadAssembly m5_BadAssembly : Option Value} {oc_BadAssembly kV_BadAssembly dc_BadAssembly pm_BadAssembly ct_BadAssembly ccl_BadAssembly cl_BadAssembly : Value} {od_BadAssembly an_BadAssembly cdd_BadAssembly cld_BadAssembly : Option Addr} {osl_BadAssembly ccs_BadAssembly csl_BadAssembly : Array (Option Value)} {vs_BadAssembly : Array Value} {file_BadAssembly : Str} {tf_BadAssembly : Tok} {C_BadPattern f_BadPattern cc_BadPattern cda_BadPattern N_BadPattern : Addr} {nm_BadPattern q_BadPattern : Str} {bs_BadPattern : List Value} {sn_BadPattern : List Str} {sub_BadPattern : List Value} {ab_BadPattern : Bool} {col_BadPattern : Option Bool} {dd_BadPattern : Option Addr} {m0_BadPattern m1_BadPattern m2_BadPattern m3_BadPattern m5_BadPattern : Option Value} {oc_BadPattern kV_BadPattern dc_BadPattern pm_BadPattern ct_BadPattern ccl_BadPattern cl_BadPattern : Value} {od_BadPattern an_BadPattern cdd_BadPattern cld_BadPattern : Option Addr} {osl_BadPattern ccs_BadPattern csl_BadPattern : Array (Option Value)} {vs_BadPattern : Array Value} {file_BadPattern : Str} {tf_BadPattern : Tok} {C_BadDeed f_BadDeed cc_BadDeed cda_BadDeed N_BadDeed : Addr} {nm_BadDeed q_BadDeed : Str} {bs_BadDeed : List Value} {sn_BadDeed : List Str} {sub_BadDeed : List Value} {ab_BadDeed : Bool} {col_BadDeed : Option Bool} {dd_BadDeed : Option Addr} {m0_BadDeed m1_BadDeed m2_BadDeed m3_BadDeed m5_BadDeed : Option Value} {oc_BadDeed kV_BadDeed dc_BadDeed pm_BadDeed ct_BadDeed ccl_BadDeed cl_BadDeed : Value} {od_BadDeed an_BadDeed cdd_BadDeed cld_BadDeed : Option Addr} {osl_BadDeed ccs_BadDeed csl_BadDeed : Array (Option Value)} {vs_BadDeed : Array Value} {file_BadDeed : Str} {tf_BadDeed : Tok} {C_BadAct f_BadAct cc_BadAct cda_BadAct N_BadAct : Addr} {nm_BadAct q_BadAct : Str} {bs_BadAct : List Value} {sn_BadAct : List Str} {sub_BadAct : List Value} {ab_BadAct : Bool} {col_BadAct : Option Bool} {dd_BadAct : Option Addr} {m0_BadAct m1_BadAct m2_BadAct m3_BadAct m5_BadAct : Option Value} {oc_BadAct kV_BadAct dc_BadAct pm_BadAct ct_BadAct ccl_BadAct cl_BadAct : Value} {od_BadAct an_BadAct cdd_BadAct cld_BadAct : Option Addr} {osl_BadAct ccs_BadAct csl_BadAct : Array (Option Value)} {vs_BadAct : Array Value} {file_BadAct : Str} {tf_BadAct : Tok} {C_BadText f_BadText cc_BadText cda_BadText N_BadText : Addr} {nm_BadText q_BadText : Str} {bs_BadText : List Value} {sn_BadText : List Str} {sub_BadText : List Value} {ab_BadText : Bool} {col_BadText : Option Bool} {dd_BadText : Option Addr} {m0_BadText m1_BadText m2_BadText m3_BadText m5_BadText : Option Value} {oc_BadText kV_BadText dc_BadText pm_BadText ct_BadText ccl_BadText cl_BadText : Value} {od_BadText an_BadText cdd_BadText cld_BadText : Option Addr} {osl_BadText ccs_BadText csl_BadText : Array (Option Value)} {vs_BadText : Array Value} {file_BadText : Str} {tf_BadText : Tok} {C_Unbuilt f_Unbuilt cc_Unbuilt cda_Unbuilt N_Unbuilt : Addr} {nm_Unbuilt q_Unbuilt : Str} {bs_Unbuilt : List Value} {sn_Unbuilt : List Str} {sub_Unbuilt : List Value} {ab_Unbuilt : Bool} {col_Unbuilt : Option Bool} {dd_Unbuilt : Option Addr} {m0_Unbuilt m1_Unbuilt m2_Unbuilt m3_Unbuilt m5_Unbuilt : Option Value} {oc_Unbuilt kV_Unbuilt dc_Unbuilt pm_Unbuilt ct_Unbuilt ccl_Unbuilt cl_Unbuilt : Value} {od_Unbuilt an_Unbuilt cdd_Unbuilt cld_Unbuilt : Option Addr} {osl_Unbuilt ccs_Unbuilt csl_Unbuilt : Array (Option Value)} {vs_Unbuilt : Array Value} {file_Unbuilt : Str} {tf_Unbuilt : Tok} {C_Clash f_Clash cc_Clash cda_Clash N_Clash : Addr} {nm_Clash q_Clash : Str} {bs_Clash : List Value} {sn_Clash : List Str} {sub_Clash : List Value} {ab_Clash : Bool} {col_Clash : Option Bool} {dd_Clash : Option Addr} {m0_Clash m1_Clash m2_Clash m3_Clash m5_Clash : Option Value} {oc_Clash kV_Clash dc_Clash pm_Clash ct_Clash ccl_Clash cl_Clash : Value} {od_Clash an_Clash cdd_Clash cld_Clash : Option Addr} {osl_Clash ccs_Clash csl_Clash : Array (Option Value)} {vs_Clash : Array Value} {file_Clash : Str} {tf_Clash : Tok} {C_UnknownName f_UnknownName cc_UnknownName cda_UnknownName N_UnknownName : Addr} {nm_UnknownName q_UnknownName : Str} {bs_UnknownName : List Value} {sn_UnknownName : List Str} {sub_UnknownName : List Value} {ab_UnknownName : Bool} {col_UnknownName : Option Bool} {dd_UnknownName : Option Addr} {m0_UnknownName m1_UnknownName m2_UnknownName m3_UnknownName m5_UnknownName : Option Value} {oc_UnknownName kV_UnknownName dc_UnknownName pm_UnknownName ct_UnknownName ccl_UnknownName cl_UnknownName : Value} {od_UnknownName an_UnknownName cdd_UnknownName cld_UnknownName : Option Addr} {osl_UnknownName ccs_UnknownName csl_UnknownName : Array (Option Value)} {vs_UnknownName : Array Value} {file_UnknownName : Str} {tf_UnknownName : Tok}
    (a__law_source : PySem.W.nsIn K mainGlobals "_law_source" = some (some (.ref f__law_source)))
    (l__law_source : K.lookup f__law_source = some ⟨oc__law_source, od__law_source, .func (PySem.W.fnOf "_law_source" "_law_source" (defArgs s__law_source) (defBody s__law_source) (defScope s__law_source) .none kV__law_source dc__law_source pm__law_source an__law_source cd__law_source ct__law_source), sl__law_source⟩)
    (c__law_source : PySem.W.codeIn K cd__law_source "_law_source" = true)
    (k__law_source : PySem.W.keepIn K (.ref f__law_source) = true)
    (a__law_pick : PySem.W.nsIn K mainGlobals "_law_pick" = some (some (.ref f__law_pick)))
    (l__law_pick : K.lookup f__law_pick = some ⟨oc__law_pick, od__law_pick, .func (PySem.W.fnOf "_law_pick" "_law_pick" (defArgs s__law_pick) (defBody s__law_pick) (defScope s__law_pick) .none kV__law_pick dc__law_pick pm__law_pick an__law_pick cd__law_pick ct__law_pick), sl__law_pick⟩)
    (c__law_pick : PySem.W.codeIn K cd__law_pick "_law_pick" = true)
    (k__law_pick : PySem.W.keepIn K (.ref f__law_pick) = true)
    (a__law_kinds : PySem.W.nsIn K mainGlobals "_law_kinds" = some (some (.ref f__law_kinds)))
    (l__law_kinds : K.lookup f__law_kinds = some ⟨oc__law_kinds, od__law_kinds, .func (PySem.W.fnOf "_law_kinds" "_law_kinds" (defArgs s__law_kinds) (defBody s__law_kinds) (defScope s__law_kinds) .none kV__law_kinds dc__law_kinds pm__law_kinds an__law_kinds cd__law_kinds ct__law_kinds), sl__law_kinds⟩)
    (c__law_kinds : PySem.W.codeIn K cd__law_kinds "_law_kinds" = true)
    (k__law_kinds : PySem.W.keepIn K (.ref f__law_kinds) = true)
    (a__law_bases : PySem.W.nsIn K mainGlobals "_law_bases" = some (some (.ref f__law_bases)))
    (l__law_bases : K.lookup f__law_bases = some ⟨oc__law_bases, od__law_bases, .func (PySem.W.fnOf "_law_bases" "_law_bases" (defArgs s__law_bases) (defBody s__law_bases) (defScope s__law_bases) .none kV__law_bases dc__law_bases pm__law_bases an__law_bases cd__law_bases ct__law_bases), sl__law_bases⟩)
    (c__law_bases : PySem.W.codeIn K cd__law_bases "_law_bases" = true)
    (k__law_bases : PySem.W.keepIn K (.ref f__law_bases) = true)
    (a__law_every : PySem.W.nsIn K mainGlobals "_law_every" = some (some (.ref f__law_every)))
    (l__law_every : K.lookup f__law_every = some ⟨oc__law_every, od__law_every, .func (PySem.W.fnOf "_law_every" "_law_every" (defArgs s__law_every) (defBody s__law_every) (defScope s__law_every) .none kV__law_every dc__law_every pm__law_every an__law_every cd__law_every ct__law_every), sl__law_every⟩)
    (c__law_every : PySem.W.codeIn K cd__law_every "_law_every" = true)
    (k__law_every : PySem.W.keepIn K (.ref f__law_every) = true)
    (a__law_kept : PySem.W.nsIn K mainGlobals "_law_kept" = some (some (.ref f__law_kept)))
    (l__law_kept : K.lookup f__law_kept = some ⟨oc__law_kept, od__law_kept, .func (PySem.W.fnOf "_law_kept" "_law_kept" (defArgs s__law_kept) (defBody s__law_kept) (defScope s__law_kept) .none kV__law_kept dc__law_kept pm__law_kept an__law_kept cd__law_kept ct__law_kept), sl__law_kept⟩)
    (c__law_kept : PySem.W.codeIn K cd__law_kept "_law_kept" = true)
    (k__law_kept : PySem.W.keepIn K (.ref f__law_kept) = true)
    (a_law : PySem.W.nsIn K mainGlobals "law" = some (some (.ref f_law)))
    (l_law : K.lookup f_law = some ⟨oc_law, od_law, .func (PySem.W.fnOf "law" "law" (defArgs s_law) (defBody s_law) (defScope s_law) .none kV_law dc_law pm_law an_law cd_law ct_law), sl_law⟩)
    (c_law : PySem.W.codeIn K cd_law "law" = true)
    (k_law : PySem.W.keepIn K (.ref f_law) = true)
    (z_LookupError : PySem.W.nsIn K mainGlobals "LookupError" = some none)
    (z_ValueError : PySem.W.nsIn K mainGlobals "ValueError" = some none)
    (z_abs : PySem.W.nsIn K mainGlobals "abs" = some none)
    (z_int : PySem.W.nsIn K mainGlobals "int" = some none)
    (z_isinstance : PySem.W.nsIn K mainGlobals "isinstance" = some none)
    (z_len : PySem.W.nsIn K mainGlobals "len" = some none)
    (z_max : PySem.W.nsIn K mainGlobals "max" = some none)
    (z_range : PySem.W.nsIn K mainGlobals "range" = some none)
    (z_repr : PySem.W.nsIn K mainGlobals "repr" = some none)
    (z_super : PySem.W.nsIn K mainGlobals "super" = some none)
    (z_tuple : PySem.W.nsIn K mainGlobals "tuple" = some none)
    (a_BushError : PySem.W.nsIn K mainGlobals "BushError" = some (some (.ref C_BushError)))
    (x_BushError : K.lookup C_BushError = some (excClassObj nm_BushError q_BushError C_BushError N_BushError bs_BushError [.type "ValueError", .type "Exception", .type "BaseException", .type "object"] true sn_BushError sub_BushError ab_BushError col_BushError dd_BushError m0_BushError m1_BushError m2_BushError m3_BushError m5_BushError "ValueError.__new__"))
    (fi_BushError : PySem.W.findIn K (.ref C_BushError) "__init__" = some (some (.builtin "ValueError.__init__")))
    (is_BushError : PySem.W.isClsIn K C_BushError = true)
    (ty_BushError : PySem.W.typeIn K (.ref C_BushError) = some (.type "type"))
    (a_NameMissing : PySem.W.nsIn K mainGlobals "NameMissing" = some (some (.ref C_NameMissing)))
    (x_NameMissing : K.lookup C_NameMissing = some (excClassObj nm_NameMissing q_NameMissing C_NameMissing N_NameMissing bs_NameMissing [.type "LookupError", .type "Exception", .type "BaseException", .type "object"] true sn_NameMissing sub_NameMissing ab_NameMissing col_NameMissing dd_NameMissing m0_NameMissing m1_NameMissing m2_NameMissing m3_NameMissing m5_NameMissing "LookupError.__new__"))
    (fi_NameMissing : PySem.W.findIn K (.ref C_NameMissing) "__init__" = some (some (.builtin "LookupError.__init__")))
    (is_NameMissing : PySem.W.isClsIn K C_NameMissing = true)
    (ty_NameMissing : PySem.W.typeIn K (.ref C_NameMissing) = some (.type "type"))
    (a_UnlikeGroves : PySem.W.nsIn K mainGlobals "UnlikeGroves" = some (some (.ref C_UnlikeGroves)))
    (x_UnlikeGroves : K.lookup C_UnlikeGroves = some (excClassObj nm_UnlikeGroves q_UnlikeGroves C_UnlikeGroves N_UnlikeGroves bs_UnlikeGroves [.ref C_BushError, .type "ValueError", .type "Exception", .type "BaseException", .type "object"] true sn_UnlikeGroves sub_UnlikeGroves ab_UnlikeGroves col_UnlikeGroves dd_UnlikeGroves m0_UnlikeGroves m1_UnlikeGroves m2_UnlikeGroves m3_UnlikeGroves m5_UnlikeGroves "ValueError.__new__"))
    (sa_UnlikeGroves : PySem.W.findIn K (.ref C_UnlikeGroves) "__setattr__" = some (some (.builtin "object.__setattr__")))
    (kc_UnlikeGroves : PySem.W.keepIn K (.ref C_UnlikeGroves) = true)
    (ex_UnlikeGroves : PySem.W.subIn K (.ref C_UnlikeGroves) (.type "BaseException") = some true)
    (ty_UnlikeGroves : PySem.W.typeIn K (.ref C_UnlikeGroves) = some (.type "type"))
    (sb_UnlikeGroves : PySem.W.subIn K (.ref C_UnlikeGroves) (.type "ValueError") = some true)
    (ga_UnlikeGroves : PySem.W.findIn K (.ref C_UnlikeGroves) "__getattribute__" = some (some (.builtin "BaseException.__getattribute__")))
    (gg_UnlikeGroves : PySem.W.findIn K (.ref C_UnlikeGroves) "__getattr__" = some none)
    (hd_UnlikeGroves : PySem.W.hasDictIn K C_UnlikeGroves = true)
    (kl_UnlikeGroves : PySem.W.findIn K (.ref C_UnlikeGroves) "__class__" = some (some (.builtin "object.__class__")))
    (ob_UnlikeGroves : PySem.W.mroIn K C_UnlikeGroves (.type "object") = some true)
    (is_UnlikeGroves : PySem.W.isClsIn K C_UnlikeGroves = true)
    (mr_UnlikeGroves : PySem.W.mroIn K C_UnlikeGroves (.ref C_UnlikeGroves) = some true)
    (i_UnlikeGroves : PySem.W.findIn K (.ref C_UnlikeGroves) "__init__" = some (some (.ref f_UnlikeGroves)))
    (t_UnlikeGroves : PySem.W.typeIn K (.ref f_UnlikeGroves) = some (.type "function"))
    (l_UnlikeGroves : K.lookup f_UnlikeGroves = some ⟨oc_UnlikeGroves, od_UnlikeGroves, .func (PySem.W.fnX "__init__" "UnlikeGroves.__init__" (defArgs s_UnlikeGroves) (defBody s_UnlikeGroves) (defScope s_UnlikeGroves) [("__class__", cc_UnlikeGroves)] .none kV_UnlikeGroves dc_UnlikeGroves pm_UnlikeGroves an_UnlikeGroves (.ref cda_UnlikeGroves) ct_UnlikeGroves), osl_UnlikeGroves⟩)
    (c_UnlikeGroves : PySem.W.codeIn K (.ref cda_UnlikeGroves) "UnlikeGroves.__init__" = true)
    (lc_UnlikeGroves : K.lookup cda_UnlikeGroves = some ⟨ccl_UnlikeGroves, cdd_UnlikeGroves, .fields vs_UnlikeGroves, ccs_UnlikeGroves⟩)
    (lv_UnlikeGroves : vs_UnlikeGroves[2]? = some (.str file_UnlikeGroves tf_UnlikeGroves))
    (lf_UnlikeGroves : ((l.prog.main.file : Str) == file_UnlikeGroves) = true)
    (le_UnlikeGroves : K.lookup cc_UnlikeGroves = some ⟨cl_UnlikeGroves, cld_UnlikeGroves, .cell (some (.ref C_UnlikeGroves)), csl_UnlikeGroves⟩)
    (a_TooGreat : PySem.W.nsIn K mainGlobals "TooGreat" = some (some (.ref C_TooGreat)))
    (x_TooGreat : K.lookup C_TooGreat = some (excClassObj nm_TooGreat q_TooGreat C_TooGreat N_TooGreat bs_TooGreat [.ref C_BushError, .type "ValueError", .type "Exception", .type "BaseException", .type "object"] true sn_TooGreat sub_TooGreat ab_TooGreat col_TooGreat dd_TooGreat m0_TooGreat m1_TooGreat m2_TooGreat m3_TooGreat m5_TooGreat "ValueError.__new__"))
    (sa_TooGreat : PySem.W.findIn K (.ref C_TooGreat) "__setattr__" = some (some (.builtin "object.__setattr__")))
    (kc_TooGreat : PySem.W.keepIn K (.ref C_TooGreat) = true)
    (ex_TooGreat : PySem.W.subIn K (.ref C_TooGreat) (.type "BaseException") = some true)
    (ty_TooGreat : PySem.W.typeIn K (.ref C_TooGreat) = some (.type "type"))
    (sb_TooGreat : PySem.W.subIn K (.ref C_TooGreat) (.type "ValueError") = some true)
    (ga_TooGreat : PySem.W.findIn K (.ref C_TooGreat) "__getattribute__" = some (some (.builtin "BaseException.__getattribute__")))
    (gg_TooGreat : PySem.W.findIn K (.ref C_TooGreat) "__getattr__" = some none)
    (hd_TooGreat : PySem.W.hasDictIn K C_TooGreat = true)
    (kl_TooGreat : PySem.W.findIn K (.ref C_TooGreat) "__class__" = some (some (.builtin "object.__class__")))
    (ob_TooGreat : PySem.W.mroIn K C_TooGreat (.type "object") = some true)
    (is_TooGreat : PySem.W.isClsIn K C_TooGreat = true)
    (mr_TooGreat : PySem.W.mroIn K C_TooGreat (.ref C_TooGreat) = some true)
    (i_TooGreat : PySem.W.findIn K (.ref C_TooGreat) "__init__" = some (some (.ref f_TooGreat)))
    (t_TooGreat : PySem.W.typeIn K (.ref f_TooGreat) = some (.type "function"))
    (l_TooGreat : K.lookup f_TooGreat = some ⟨oc_TooGreat, od_TooGreat, .func (PySem.W.fnX "__init__" "TooGreat.__init__" (defArgs s_TooGreat) (defBody s_TooGreat) (defScope s_TooGreat) [("__class__", cc_TooGreat)] .none kV_TooGreat dc_TooGreat pm_TooGreat an_TooGreat (.ref cda_TooGreat) ct_TooGreat), osl_TooGreat⟩)
    (c_TooGreat : PySem.W.codeIn K (.ref cda_TooGreat) "TooGreat.__init__" = true)
    (lc_TooGreat : K.lookup cda_TooGreat = some ⟨ccl_TooGreat, cdd_TooGreat, .fields vs_TooGreat, ccs_TooGreat⟩)
    (lv_TooGreat : vs_TooGreat[2]? = some (.str file_TooGreat tf_TooGreat))
    (lf_TooGreat : ((l.prog.main.file : Str) == file_TooGreat) = true)
    (le_TooGreat : K.lookup cc_TooGreat = some ⟨cl_TooGreat, cld_TooGreat, .cell (some (.ref C_TooGreat)), csl_TooGreat⟩)
    (a_Overlaps : PySem.W.nsIn K mainGlobals "Overlaps" = some (some (.ref C_Overlaps)))
    (x_Overlaps : K.lookup C_Overlaps = some (excClassObj nm_Overlaps q_Overlaps C_Overlaps N_Overlaps bs_Overlaps [.ref C_BushError, .type "ValueError", .type "Exception", .type "BaseException", .type "object"] true sn_Overlaps sub_Overlaps ab_Overlaps col_Overlaps dd_Overlaps m0_Overlaps m1_Overlaps m2_Overlaps m3_Overlaps m5_Overlaps "ValueError.__new__"))
    (sa_Overlaps : PySem.W.findIn K (.ref C_Overlaps) "__setattr__" = some (some (.builtin "object.__setattr__")))
    (kc_Overlaps : PySem.W.keepIn K (.ref C_Overlaps) = true)
    (ex_Overlaps : PySem.W.subIn K (.ref C_Overlaps) (.type "BaseException") = some true)
    (ty_Overlaps : PySem.W.typeIn K (.ref C_Overlaps) = some (.type "type"))
    (sb_Overlaps : PySem.W.subIn K (.ref C_Overlaps) (.type "ValueError") = some true)
    (ga_Overlaps : PySem.W.findIn K (.ref C_Overlaps) "__getattribute__" = some (some (.builtin "BaseException.__getattribute__")))
    (gg_Overlaps : PySem.W.findIn K (.ref C_Overlaps) "__getattr__" = some none)
    (hd_Overlaps : PySem.W.hasDictIn K C_Overlaps = true)
    (kl_Overlaps : PySem.W.findIn K (.ref C_Overlaps) "__class__" = some (some (.builtin "object.__class__")))
    (ob_Overlaps : PySem.W.mroIn K C_Overlaps (.type "object") = some true)
    (is_Overlaps : PySem.W.isClsIn K C_Overlaps = true)
    (mr_Overlaps : PySem.W.mroIn K C_Overlaps (.ref C_Overlaps) = some true)
    (i_Overlaps : PySem.W.findIn K (.ref C_Overlaps) "__init__" = some (some (.ref f_Overlaps)))
    (t_Overlaps : PySem.W.typeIn K (.ref f_Overlaps) = some (.type "function"))
    (l_Overlaps : K.lookup f_Overlaps = some ⟨oc_Overlaps, od_Overlaps, .func (PySem.W.fnX "__init__" "Overlaps.__init__" (defArgs s_Overlaps) (defBody s_Overlaps) (defScope s_Overlaps) [("__class__", cc_Overlaps)] .none kV_Overlaps dc_Overlaps pm_Overlaps an_Overlaps (.ref cda_Overlaps) ct_Overlaps), osl_Overlaps⟩)
    (c_Overlaps : PySem.W.codeIn K (.ref cda_Overlaps) "Overlaps.__init__" = true)
    (lc_Overlaps : K.lookup cda_Overlaps = some ⟨ccl_Overlaps, cdd_Overlaps, .fields vs_Overlaps, ccs_Overlaps⟩)
    (lv_Overlaps : vs_Overlaps[2]? = some (.str file_Overlaps tf_Overlaps))
    (lf_Overlaps : ((l.prog.main.file : Str) == file_Overlaps) = true)
    (le_Overlaps : K.lookup cc_Overlaps = some ⟨cl_Overlaps, cld_Overlaps, .cell (some (.ref C_Overlaps)), csl_Overlaps⟩)
    (a_NothingDone : PySem.W.nsIn K mainGlobals "NothingDone" = some (some (.ref C_NothingDone)))
    (x_NothingDone : K.lookup C_NothingDone = some (excClassObj nm_NothingDone q_NothingDone C_NothingDone N_NothingDone bs_NothingDone [.ref C_BushError, .type "ValueError", .type "Exception", .type "BaseException", .type "object"] true sn_NothingDone sub_NothingDone ab_NothingDone col_NothingDone dd_NothingDone m0_NothingDone m1_NothingDone m2_NothingDone m3_NothingDone m5_NothingDone "ValueError.__new__"))
    (sa_NothingDone : PySem.W.findIn K (.ref C_NothingDone) "__setattr__" = some (some (.builtin "object.__setattr__")))
    (kc_NothingDone : PySem.W.keepIn K (.ref C_NothingDone) = true)
    (ex_NothingDone : PySem.W.subIn K (.ref C_NothingDone) (.type "BaseException") = some true)
    (ty_NothingDone : PySem.W.typeIn K (.ref C_NothingDone) = some (.type "type"))
    (sb_NothingDone : PySem.W.subIn K (.ref C_NothingDone) (.type "ValueError") = some true)
    (ga_NothingDone : PySem.W.findIn K (.ref C_NothingDone) "__getattribute__" = some (some (.builtin "BaseException.__getattribute__")))
    (gg_NothingDone : PySem.W.findIn K (.ref C_NothingDone) "__getattr__" = some none)
    (hd_NothingDone : PySem.W.hasDictIn K C_NothingDone = true)
    (kl_NothingDone : PySem.W.findIn K (.ref C_NothingDone) "__class__" = some (some (.builtin "object.__class__")))
    (ob_NothingDone : PySem.W.mroIn K C_NothingDone (.type "object") = some true)
    (is_NothingDone : PySem.W.isClsIn K C_NothingDone = true)
    (mr_NothingDone : PySem.W.mroIn K C_NothingDone (.ref C_NothingDone) = some true)
    (i_NothingDone : PySem.W.findIn K (.ref C_NothingDone) "__init__" = some (some (.ref f_NothingDone)))
    (t_NothingDone : PySem.W.typeIn K (.ref f_NothingDone) = some (.type "function"))
    (l_NothingDone : K.lookup f_NothingDone = some ⟨oc_NothingDone, od_NothingDone, .func (PySem.W.fnX "__init__" "NothingDone.__init__" (defArgs s_NothingDone) (defBody s_NothingDone) (defScope s_NothingDone) [("__class__", cc_NothingDone)] .none kV_NothingDone dc_NothingDone pm_NothingDone an_NothingDone (.ref cda_NothingDone) ct_NothingDone), osl_NothingDone⟩)
    (c_NothingDone : PySem.W.codeIn K (.ref cda_NothingDone) "NothingDone.__init__" = true)
    (lc_NothingDone : K.lookup cda_NothingDone = some ⟨ccl_NothingDone, cdd_NothingDone, .fields vs_NothingDone, ccs_NothingDone⟩)
    (lv_NothingDone : vs_NothingDone[2]? = some (.str file_NothingDone tf_NothingDone))
    (lf_NothingDone : ((l.prog.main.file : Str) == file_NothingDone) = true)
    (le_NothingDone : K.lookup cc_NothingDone = some ⟨cl_NothingDone, cld_NothingDone, .cell (some (.ref C_NothingDone)), csl_NothingDone⟩)
    (a_UnlikeStocks : PySem.W.nsIn K mainGlobals "UnlikeStocks" = some (some (.ref C_UnlikeStocks)))
    (x_UnlikeStocks : K.lookup C_UnlikeStocks = some (excClassObj nm_UnlikeStocks q_UnlikeStocks C_UnlikeStocks N_UnlikeStocks bs_UnlikeStocks [.ref C_BushError, .type "ValueError", .type "Exception", .type "BaseException", .type "object"] true sn_UnlikeStocks sub_UnlikeStocks ab_UnlikeStocks col_UnlikeStocks dd_UnlikeStocks m0_UnlikeStocks m1_UnlikeStocks m2_UnlikeStocks m3_UnlikeStocks m5_UnlikeStocks "ValueError.__new__"))
    (sa_UnlikeStocks : PySem.W.findIn K (.ref C_UnlikeStocks) "__setattr__" = some (some (.builtin "object.__setattr__")))
    (kc_UnlikeStocks : PySem.W.keepIn K (.ref C_UnlikeStocks) = true)
    (ex_UnlikeStocks : PySem.W.subIn K (.ref C_UnlikeStocks) (.type "BaseException") = some true)
    (ty_UnlikeStocks : PySem.W.typeIn K (.ref C_UnlikeStocks) = some (.type "type"))
    (sb_UnlikeStocks : PySem.W.subIn K (.ref C_UnlikeStocks) (.type "ValueError") = some true)
    (ga_UnlikeStocks : PySem.W.findIn K (.ref C_UnlikeStocks) "__getattribute__" = some (some (.builtin "BaseException.__getattribute__")))
    (gg_UnlikeStocks : PySem.W.findIn K (.ref C_UnlikeStocks) "__getattr__" = some none)
    (hd_UnlikeStocks : PySem.W.hasDictIn K C_UnlikeStocks = true)
    (kl_UnlikeStocks : PySem.W.findIn K (.ref C_UnlikeStocks) "__class__" = some (some (.builtin "object.__class__")))
    (ob_UnlikeStocks : PySem.W.mroIn K C_UnlikeStocks (.type "object") = some true)
    (is_UnlikeStocks : PySem.W.isClsIn K C_UnlikeStocks = true)
    (mr_UnlikeStocks : PySem.W.mroIn K C_UnlikeStocks (.ref C_UnlikeStocks) = some true)
    (i_UnlikeStocks : PySem.W.findIn K (.ref C_UnlikeStocks) "__init__" = some (some (.ref f_UnlikeStocks)))
    (t_UnlikeStocks : PySem.W.typeIn K (.ref f_UnlikeStocks) = some (.type "function"))
    (no_UnlikeStocks_word : PySem.W.findIn K (.ref C_UnlikeStocks) "word" = some none)
    (l_UnlikeStocks : K.lookup f_UnlikeStocks = some ⟨oc_UnlikeStocks, od_UnlikeStocks, .func (PySem.W.fnX "__init__" "UnlikeStocks.__init__" (defArgs s_UnlikeStocks) (defBody s_UnlikeStocks) (defScope s_UnlikeStocks) [("__class__", cc_UnlikeStocks)] .none kV_UnlikeStocks dc_UnlikeStocks pm_UnlikeStocks an_UnlikeStocks (.ref cda_UnlikeStocks) ct_UnlikeStocks), osl_UnlikeStocks⟩)
    (c_UnlikeStocks : PySem.W.codeIn K (.ref cda_UnlikeStocks) "UnlikeStocks.__init__" = true)
    (lc_UnlikeStocks : K.lookup cda_UnlikeStocks = some ⟨ccl_UnlikeStocks, cdd_UnlikeStocks, .fields vs_UnlikeStocks, ccs_UnlikeStocks⟩)
    (lv_UnlikeStocks : vs_UnlikeStocks[2]? = some (.str file_UnlikeStocks tf_UnlikeStocks))
    (lf_UnlikeStocks : ((l.prog.main.file : Str) == file_UnlikeStocks) = true)
    (le_UnlikeStocks : K.lookup cc_UnlikeStocks = some ⟨cl_UnlikeStocks, cld_UnlikeStocks, .cell (some (.ref C_UnlikeStocks)), csl_UnlikeStocks⟩)
    (a_BadBook : PySem.W.nsIn K mainGlobals "BadBook" = some (some (.ref C_BadBook)))
    (x_BadBook : K.lookup C_BadBook = some (excClassObj nm_BadBook q_BadBook C_BadBook N_BadBook bs_BadBook [.ref C_BushError, .type "ValueError", .type "Exception", .type "BaseException", .type "object"] true sn_BadBook sub_BadBook ab_BadBook col_BadBook dd_BadBook m0_BadBook m1_BadBook m2_BadBook m3_BadBook m5_BadBook "ValueError.__new__"))
    (sa_BadBook : PySem.W.findIn K (.ref C_BadBook) "__setattr__" = some (some (.builtin "object.__setattr__")))
    (kc_BadBook : PySem.W.keepIn K (.ref C_BadBook) = true)
    (ex_BadBook : PySem.W.subIn K (.ref C_BadBook) (.type "BaseException") = some true)
    (ty_BadBook : PySem.W.typeIn K (.ref C_BadBook) = some (.type "type"))
    (sb_BadBook : PySem.W.subIn K (.ref C_BadBook) (.type "ValueError") = some true)
    (ga_BadBook : PySem.W.findIn K (.ref C_BadBook) "__getattribute__" = some (some (.builtin "BaseException.__getattribute__")))
    (gg_BadBook : PySem.W.findIn K (.ref C_BadBook) "__getattr__" = some none)
    (hd_BadBook : PySem.W.hasDictIn K C_BadBook = true)
    (kl_BadBook : PySem.W.findIn K (.ref C_BadBook) "__class__" = some (some (.builtin "object.__class__")))
    (ob_BadBook : PySem.W.mroIn K C_BadBook (.type "object") = some true)
    (is_BadBook : PySem.W.isClsIn K C_BadBook = true)
    (mr_BadBook : PySem.W.mroIn K C_BadBook (.ref C_BadBook) = some true)
    (i_BadBook : PySem.W.findIn K (.ref C_BadBook) "__init__" = some (some (.ref f_BadBook)))
    (t_BadBook : PySem.W.typeIn K (.ref f_BadBook) = some (.type "function"))
    (no_BadBook_path : PySem.W.findIn K (.ref C_BadBook) "path" = some none)
    (l_BadBook : K.lookup f_BadBook = some ⟨oc_BadBook, od_BadBook, .func (PySem.W.fnX "__init__" "BadBook.__init__" (defArgs s_BadBook) (defBody s_BadBook) (defScope s_BadBook) [("__class__", cc_BadBook)] .none kV_BadBook dc_BadBook pm_BadBook an_BadBook (.ref cda_BadBook) ct_BadBook), osl_BadBook⟩)
    (c_BadBook : PySem.W.codeIn K (.ref cda_BadBook) "BadBook.__init__" = true)
    (lc_BadBook : K.lookup cda_BadBook = some ⟨ccl_BadBook, cdd_BadBook, .fields vs_BadBook, ccs_BadBook⟩)
    (lv_BadBook : vs_BadBook[2]? = some (.str file_BadBook tf_BadBook))
    (lf_BadBook : ((l.prog.main.file : Str) == file_BadBook) = true)
    (le_BadBook : K.lookup cc_BadBook = some ⟨cl_BadBook, cld_BadBook, .cell (some (.ref C_BadBook)), csl_BadBook⟩)
    (a_BadBag : PySem.W.nsIn K mainGlobals "BadBag" = some (some (.ref C_BadBag)))
    (x_BadBag : K.lookup C_BadBag = some (excClassObj nm_BadBag q_BadBag C_BadBag N_BadBag bs_BadBag [.ref C_BushError, .type "ValueError", .type "Exception", .type "BaseException", .type "object"] true sn_BadBag sub_BadBag ab_BadBag col_BadBag dd_BadBag m0_BadBag m1_BadBag m2_BadBag m3_BadBag m5_BadBag "ValueError.__new__"))
    (sa_BadBag : PySem.W.findIn K (.ref C_BadBag) "__setattr__" = some (some (.builtin "object.__setattr__")))
    (kc_BadBag : PySem.W.keepIn K (.ref C_BadBag) = true)
    (ex_BadBag : PySem.W.subIn K (.ref C_BadBag) (.type "BaseException") = some true)
    (ty_BadBag : PySem.W.typeIn K (.ref C_BadBag) = some (.type "type"))
    (sb_BadBag : PySem.W.subIn K (.ref C_BadBag) (.type "ValueError") = some true)
    (ga_BadBag : PySem.W.findIn K (.ref C_BadBag) "__getattribute__" = some (some (.builtin "BaseException.__getattribute__")))
    (gg_BadBag : PySem.W.findIn K (.ref C_BadBag) "__getattr__" = some none)
    (hd_BadBag : PySem.W.hasDictIn K C_BadBag = true)
    (kl_BadBag : PySem.W.findIn K (.ref C_BadBag) "__class__" = some (some (.builtin "object.__class__")))
    (ob_BadBag : PySem.W.mroIn K C_BadBag (.type "object") = some true)
    (is_BadBag : PySem.W.isClsIn K C_BadBag = true)
    (mr_BadBag : PySem.W.mroIn K C_BadBag (.ref C_BadBag) = some true)
    (i_BadBag : PySem.W.findIn K (.ref C_BadBag) "__init__" = some (some (.ref f_BadBag)))
    (t_BadBag : PySem.W.typeIn K (.ref f_BadBag) = some (.type "function"))
    (no_BadBag_path : PySem.W.findIn K (.ref C_BadBag) "path" = some none)
    (l_BadBag : K.lookup f_BadBag = some ⟨oc_BadBag, od_BadBag, .func (PySem.W.fnX "__init__" "BadBag.__init__" (defArgs s_BadBag) (defBody s_BadBag) (defScope s_BadBag) [("__class__", cc_BadBag)] .none kV_BadBag dc_BadBag pm_BadBag an_BadBag (.ref cda_BadBag) ct_BadBag), osl_BadBag⟩)
    (c_BadBag : PySem.W.codeIn K (.ref cda_BadBag) "BadBag.__init__" = true)
    (lc_BadBag : K.lookup cda_BadBag = some ⟨ccl_BadBag, cdd_BadBag, .fields vs_BadBag, ccs_BadBag⟩)
    (lv_BadBag : vs_BadBag[2]? = some (.str file_BadBag tf_BadBag))
    (lf_BadBag : ((l.prog.main.file : Str) == file_BadBag) = true)
    (le_BadBag : K.lookup cc_BadBag = some ⟨cl_BadBag, cld_BadBag, .cell (some (.ref C_BadBag)), csl_BadBag⟩)
    (a_BadGrove : PySem.W.nsIn K mainGlobals "BadGrove" = some (some (.ref C_BadGrove)))
    (x_BadGrove : K.lookup C_BadGrove = some (excClassObj nm_BadGrove q_BadGrove C_BadGrove N_BadGrove bs_BadGrove [.ref C_BushError, .type "ValueError", .type "Exception", .type "BaseException", .type "object"] true sn_BadGrove sub_BadGrove ab_BadGrove col_BadGrove dd_BadGrove m0_BadGrove m1_BadGrove m2_BadGrove m3_BadGrove m5_BadGrove "ValueError.__new__"))
    (sa_BadGrove : PySem.W.findIn K (.ref C_BadGrove) "__setattr__" = some (some (.builtin "object.__setattr__")))
    (kc_BadGrove : PySem.W.keepIn K (.ref C_BadGrove) = true)
    (ex_BadGrove : PySem.W.subIn K (.ref C_BadGrove) (.type "BaseException") = some true)
    (ty_BadGrove : PySem.W.typeIn K (.ref C_BadGrove) = some (.type "type"))
    (sb_BadGrove : PySem.W.subIn K (.ref C_BadGrove) (.type "ValueError") = some true)
    (ga_BadGrove : PySem.W.findIn K (.ref C_BadGrove) "__getattribute__" = some (some (.builtin "BaseException.__getattribute__")))
    (gg_BadGrove : PySem.W.findIn K (.ref C_BadGrove) "__getattr__" = some none)
    (hd_BadGrove : PySem.W.hasDictIn K C_BadGrove = true)
    (kl_BadGrove : PySem.W.findIn K (.ref C_BadGrove) "__class__" = some (some (.builtin "object.__class__")))
    (ob_BadGrove : PySem.W.mroIn K C_BadGrove (.type "object") = some true)
    (is_BadGrove : PySem.W.isClsIn K C_BadGrove = true)
    (mr_BadGrove : PySem.W.mroIn K C_BadGrove (.ref C_BadGrove) = some true)
    (i_BadGrove : PySem.W.findIn K (.ref C_BadGrove) "__init__" = some (some (.ref f_BadGrove)))
    (t_BadGrove : PySem.W.typeIn K (.ref f_BadGrove) = some (.type "function"))
    (no_BadGrove_path : PySem.W.findIn K (.ref C_BadGrove) "path" = some none)
    (l_BadGrove : K.lookup f_BadGrove = some ⟨oc_BadGrove, od_BadGrove, .func (PySem.W.fnX "__init__" "BadGrove.__init__" (defArgs s_BadGrove) (defBody s_BadGrove) (defScope s_BadGrove) [("__class__", cc_BadGrove)] .none kV_BadGrove dc_BadGrove pm_BadGrove an_BadGrove (.ref cda_BadGrove) ct_BadGrove), osl_BadGrove⟩)
    (c_BadGrove : PySem.W.codeIn K (.ref cda_BadGrove) "BadGrove.__init__" = true)
    (lc_BadGrove : K.lookup cda_BadGrove = some ⟨ccl_BadGrove, cdd_BadGrove, .fields vs_BadGrove, ccs_BadGrove⟩)
    (lv_BadGrove : vs_BadGrove[2]? = some (.str file_BadGrove tf_BadGrove))
    (lf_BadGrove : ((l.prog.main.file : Str) == file_BadGrove) = true)
    (le_BadGrove : K.lookup cc_BadGrove = some ⟨cl_BadGrove, cld_BadGrove, .cell (some (.ref C_BadGrove)), csl_BadGrove⟩)
    (a_BadAssembly : PySem.W.nsIn K mainGlobals "BadAssembly" = some (some (.ref C_BadAssembly)))
    (x_BadAssembly : K.lookup C_BadAssembly = some (excClassObj nm_BadAssembly q_BadAssembly C_BadAssembly N_BadAssembly bs_BadAssembly [.ref C_BushError, .type "ValueError", .type "Exception", .type "BaseException", .type "object"] true sn_BadAssembly sub_BadAssembly ab_BadAssembly col_BadAssembly dd_BadAssembly m0_BadAssembly m1_BadAssembly m2_BadAssembly m3_BadAssembly m5_BadAssembly "ValueError.__new__"))
    (sa_BadAssembly : PySem.W.findIn K (.ref C_BadAssembly) "__setattr__" = some (some (.builtin "object.__setattr__")))
    (kc_BadAssembly : PySem.W.keepIn K (.ref C_BadAssembly) = true)
    (ex_BadAssembly : PySem.W.subIn K (.ref C_BadAssembly) (.type "BaseException") = some true)
    (ty_BadAssembly : PySem.W.typeIn K (.ref C_BadAssembly) = some (.type "type"))
    (sb_BadAssembly : PySem.W.subIn K (.ref C_BadAssembly) (.type "ValueError") = some true)
    (ga_BadAssembly : PySem.W.findIn K (.ref C_BadAssembly) "__getattribute__" = some (some (.builtin "BaseException.__getattribute__")))
    (gg_BadAssembly : PySem.W.findIn K (.ref C_BadAssembly) "__getattr__" = some none)
    (hd_BadAssembly : PySem.W.hasDictIn K C_BadAssembly = true)
    (kl_BadAssembly : PySem.W.findIn K (.ref C_BadAssembly) "__class__" = some (some (.builtin "object.__class__")))
    (ob_BadAssembly : PySem.W.mroIn K C_BadAssembly (.type "object") = some true)
    (is_BadAssembly : PySem.W.isClsIn K C_BadAssembly = true)
    (mr_BadAssembly : PySem.W.mroIn K C_BadAssembly (.ref C_BadAssembly) = some true)
    (i_BadAssembly : PySem.W.findIn K (.ref C_BadAssembly) "__init__" = some (some (.ref f_BadAssembly)))
    (t_BadAssembly : PySem.W.typeIn K (.ref f_BadAssembly) = some (.type "function"))
    (no_BadAssembly_path : PySem.W.findIn K (.ref C_BadAssembly) "path" = some none)
    (l_BadAssembly : K.lookup f_BadAssembly = some ⟨oc_BadAssembly, od_BadAssembly, .func (PySem.W.fnX "__init__" "BadAssembly.__init__" (defArgs s_BadAssembly) (defBody s_BadAssembly) (defScope s_BadAssembly) [("__class__", cc_BadAssembly)] .none kV_BadAssembly dc_BadAssembly pm_BadAssembly an_BadAssembly (.ref cda_BadAssembly) ct_BadAssembly), osl_BadAssembly⟩)
    (c_BadAssembly : PySem.W.codeIn K (.ref cda_BadAssembly) "BadAssembly.__init__" = true)
    (lc_BadAssembly : K.lookup cda_BadAssembly = some ⟨ccl_BadAssembly, cdd_BadAssembly, .fields vs_BadAssembly, ccs_BadAssembly⟩)
    (lv_BadAssembly : vs_BadAssembly[2]? = some (.str file_BadAssembly tf_BadAssembly))
    (lf_BadAssembly : ((l.prog.main.file : Str) == file_BadAssembly) = true)
    (le_BadAssembly : K.lookup cc_BadAssembly = some ⟨cl_BadAssembly, cld_BadAssembly, .cell (some (.ref C_BadAssembly)), csl_BadAssembly⟩)
    (a_BadPattern : PySem.W.nsIn K mainGlobals "BadPattern" = some (some (.ref C_BadPattern)))
    (x_BadPattern : K.lookup C_BadPattern = some (excClassObj nm_BadPattern q_BadPattern C_BadPattern N_BadPattern bs_BadPattern [.ref C_BushError, .type "ValueError", .type "Exception", .type "BaseException", .type "object"] true sn_BadPattern sub_BadPattern ab_BadPattern col_BadPattern dd_BadPattern m0_BadPattern m1_BadPattern m2_BadPattern m3_BadPattern m5_BadPattern "ValueError.__new__"))
    (sa_BadPattern : PySem.W.findIn K (.ref C_BadPattern) "__setattr__" = some (some (.builtin "object.__setattr__")))
    (kc_BadPattern : PySem.W.keepIn K (.ref C_BadPattern) = true)
    (ex_BadPattern : PySem.W.subIn K (.ref C_BadPattern) (.type "BaseException") = some true)
    (ty_BadPattern : PySem.W.typeIn K (.ref C_BadPattern) = some (.type "type"))
    (sb_BadPattern : PySem.W.subIn K (.ref C_BadPattern) (.type "ValueError") = some true)
    (ga_BadPattern : PySem.W.findIn K (.ref C_BadPattern) "__getattribute__" = some (some (.builtin "BaseException.__getattribute__")))
    (gg_BadPattern : PySem.W.findIn K (.ref C_BadPattern) "__getattr__" = some none)
    (hd_BadPattern : PySem.W.hasDictIn K C_BadPattern = true)
    (kl_BadPattern : PySem.W.findIn K (.ref C_BadPattern) "__class__" = some (some (.builtin "object.__class__")))
    (ob_BadPattern : PySem.W.mroIn K C_BadPattern (.type "object") = some true)
    (is_BadPattern : PySem.W.isClsIn K C_BadPattern = true)
    (mr_BadPattern : PySem.W.mroIn K C_BadPattern (.ref C_BadPattern) = some true)
    (i_BadPattern : PySem.W.findIn K (.ref C_BadPattern) "__init__" = some (some (.ref f_BadPattern)))
    (t_BadPattern : PySem.W.typeIn K (.ref f_BadPattern) = some (.type "function"))
    (no_BadPattern_path : PySem.W.findIn K (.ref C_BadPattern) "path" = some none)
    (l_BadPattern : K.lookup f_BadPattern = some ⟨oc_BadPattern, od_BadPattern, .func (PySem.W.fnX "__init__" "BadPattern.__init__" (defArgs s_BadPattern) (defBody s_BadPattern) (defScope s_BadPattern) [("__class__", cc_BadPattern)] .none kV_BadPattern dc_BadPattern pm_BadPattern an_BadPattern (.ref cda_BadPattern) ct_BadPattern), osl_BadPattern⟩)
    (c_BadPattern : PySem.W.codeIn K (.ref cda_BadPattern) "BadPattern.__init__" = true)
    (lc_BadPattern : K.lookup cda_BadPattern = some ⟨ccl_BadPattern, cdd_BadPattern, .fields vs_BadPattern, ccs_BadPattern⟩)
    (lv_BadPattern : vs_BadPattern[2]? = some (.str file_BadPattern tf_BadPattern))
    (lf_BadPattern : ((l.prog.main.file : Str) == file_BadPattern) = true)
    (le_BadPattern : K.lookup cc_BadPattern = some ⟨cl_BadPattern, cld_BadPattern, .cell (some (.ref C_BadPattern)), csl_BadPattern⟩)
    (a_BadDeed : PySem.W.nsIn K mainGlobals "BadDeed" = some (some (.ref C_BadDeed)))
    (x_BadDeed : K.lookup C_BadDeed = some (excClassObj nm_BadDeed q_BadDeed C_BadDeed N_BadDeed bs_BadDeed [.ref C_BushError, .type "ValueError", .type "Exception", .type "BaseException", .type "object"] true sn_BadDeed sub_BadDeed ab_BadDeed col_BadDeed dd_BadDeed m0_BadDeed m1_BadDeed m2_BadDeed m3_BadDeed m5_BadDeed "ValueError.__new__"))
    (sa_BadDeed : PySem.W.findIn K (.ref C_BadDeed) "__setattr__" = some (some (.builtin "object.__setattr__")))
    (kc_BadDeed : PySem.W.keepIn K (.ref C_BadDeed) = true)
    (ex_BadDeed : PySem.W.subIn K (.ref C_BadDeed) (.type "BaseException") = some true)
    (ty_BadDeed : PySem.W.typeIn K (.ref C_BadDeed) = some (.type "type"))
    (sb_BadDeed : PySem.W.subIn K (.ref C_BadDeed) (.type "ValueError") = some true)
    (ga_BadDeed : PySem.W.findIn K (.ref C_BadDeed) "__getattribute__" = some (some (.builtin "BaseException.__getattribute__")))
    (gg_BadDeed : PySem.W.findIn K (.ref C_BadDeed) "__getattr__" = some none)
    (hd_BadDeed : PySem.W.hasDictIn K C_BadDeed = true)
    (kl_BadDeed : PySem.W.findIn K (.ref C_BadDeed) "__class__" = some (some (.builtin "object.__class__")))
    (ob_BadDeed : PySem.W.mroIn K C_BadDeed (.type "object") = some true)
    (is_BadDeed : PySem.W.isClsIn K C_BadDeed = true)
    (mr_BadDeed : PySem.W.mroIn K C_BadDeed (.ref C_BadDeed) = some true)
    (i_BadDeed : PySem.W.findIn K (.ref C_BadDeed) "__init__" = some (some (.ref f_BadDeed)))
    (t_BadDeed : PySem.W.typeIn K (.ref f_BadDeed) = some (.type "function"))
    (no_BadDeed_number : PySem.W.findIn K (.ref C_BadDeed) "number" = some none)
    (l_BadDeed : K.lookup f_BadDeed = some ⟨oc_BadDeed, od_BadDeed, .func (PySem.W.fnX "__init__" "BadDeed.__init__" (defArgs s_BadDeed) (defBody s_BadDeed) (defScope s_BadDeed) [("__class__", cc_BadDeed)] .none kV_BadDeed dc_BadDeed pm_BadDeed an_BadDeed (.ref cda_BadDeed) ct_BadDeed), osl_BadDeed⟩)
    (c_BadDeed : PySem.W.codeIn K (.ref cda_BadDeed) "BadDeed.__init__" = true)
    (lc_BadDeed : K.lookup cda_BadDeed = some ⟨ccl_BadDeed, cdd_BadDeed, .fields vs_BadDeed, ccs_BadDeed⟩)
    (lv_BadDeed : vs_BadDeed[2]? = some (.str file_BadDeed tf_BadDeed))
    (lf_BadDeed : ((l.prog.main.file : Str) == file_BadDeed) = true)
    (le_BadDeed : K.lookup cc_BadDeed = some ⟨cl_BadDeed, cld_BadDeed, .cell (some (.ref C_BadDeed)), csl_BadDeed⟩)
    (a_BadAct : PySem.W.nsIn K mainGlobals "BadAct" = some (some (.ref C_BadAct)))
    (x_BadAct : K.lookup C_BadAct = some (excClassObj nm_BadAct q_BadAct C_BadAct N_BadAct bs_BadAct [.ref C_BushError, .type "ValueError", .type "Exception", .type "BaseException", .type "object"] true sn_BadAct sub_BadAct ab_BadAct col_BadAct dd_BadAct m0_BadAct m1_BadAct m2_BadAct m3_BadAct m5_BadAct "ValueError.__new__"))
    (sa_BadAct : PySem.W.findIn K (.ref C_BadAct) "__setattr__" = some (some (.builtin "object.__setattr__")))
    (kc_BadAct : PySem.W.keepIn K (.ref C_BadAct) = true)
    (ex_BadAct : PySem.W.subIn K (.ref C_BadAct) (.type "BaseException") = some true)
    (ty_BadAct : PySem.W.typeIn K (.ref C_BadAct) = some (.type "type"))
    (sb_BadAct : PySem.W.subIn K (.ref C_BadAct) (.type "ValueError") = some true)
    (ga_BadAct : PySem.W.findIn K (.ref C_BadAct) "__getattribute__" = some (some (.builtin "BaseException.__getattribute__")))
    (gg_BadAct : PySem.W.findIn K (.ref C_BadAct) "__getattr__" = some none)
    (hd_BadAct : PySem.W.hasDictIn K C_BadAct = true)
    (kl_BadAct : PySem.W.findIn K (.ref C_BadAct) "__class__" = some (some (.builtin "object.__class__")))
    (ob_BadAct : PySem.W.mroIn K C_BadAct (.type "object") = some true)
    (is_BadAct : PySem.W.isClsIn K C_BadAct = true)
    (mr_BadAct : PySem.W.mroIn K C_BadAct (.ref C_BadAct) = some true)
    (i_BadAct : PySem.W.findIn K (.ref C_BadAct) "__init__" = some (some (.ref f_BadAct)))
    (t_BadAct : PySem.W.typeIn K (.ref f_BadAct) = some (.type "function"))
    (no_BadAct_word : PySem.W.findIn K (.ref C_BadAct) "word" = some none)
    (l_BadAct : K.lookup f_BadAct = some ⟨oc_BadAct, od_BadAct, .func (PySem.W.fnX "__init__" "BadAct.__init__" (defArgs s_BadAct) (defBody s_BadAct) (defScope s_BadAct) [("__class__", cc_BadAct)] .none kV_BadAct dc_BadAct pm_BadAct an_BadAct (.ref cda_BadAct) ct_BadAct), osl_BadAct⟩)
    (c_BadAct : PySem.W.codeIn K (.ref cda_BadAct) "BadAct.__init__" = true)
    (lc_BadAct : K.lookup cda_BadAct = some ⟨ccl_BadAct, cdd_BadAct, .fields vs_BadAct, ccs_BadAct⟩)
    (lv_BadAct : vs_BadAct[2]? = some (.str file_BadAct tf_BadAct))
    (lf_BadAct : ((l.prog.main.file : Str) == file_BadAct) = true)
    (le_BadAct : K.lookup cc_BadAct = some ⟨cl_BadAct, cld_BadAct, .cell (some (.ref C_BadAct)), csl_BadAct⟩)
    (a_BadText : PySem.W.nsIn K mainGlobals "BadText" = some (some (.ref C_BadText)))
    (x_BadText : K.lookup C_BadText = some (excClassObj nm_BadText q_BadText C_BadText N_BadText bs_BadText [.ref C_BushError, .type "ValueError", .type "Exception", .type "BaseException", .type "object"] true sn_BadText sub_BadText ab_BadText col_BadText dd_BadText m0_BadText m1_BadText m2_BadText m3_BadText m5_BadText "ValueError.__new__"))
    (sa_BadText : PySem.W.findIn K (.ref C_BadText) "__setattr__" = some (some (.builtin "object.__setattr__")))
    (kc_BadText : PySem.W.keepIn K (.ref C_BadText) = true)
    (ex_BadText : PySem.W.subIn K (.ref C_BadText) (.type "BaseException") = some true)
    (ty_BadText : PySem.W.typeIn K (.ref C_BadText) = some (.type "type"))
    (sb_BadText : PySem.W.subIn K (.ref C_BadText) (.type "ValueError") = some true)
    (ga_BadText : PySem.W.findIn K (.ref C_BadText) "__getattribute__" = some (some (.builtin "BaseException.__getattribute__")))
    (gg_BadText : PySem.W.findIn K (.ref C_BadText) "__getattr__" = some none)
    (hd_BadText : PySem.W.hasDictIn K C_BadText = true)
    (kl_BadText : PySem.W.findIn K (.ref C_BadText) "__class__" = some (some (.builtin "object.__class__")))
    (ob_BadText : PySem.W.mroIn K C_BadText (.type "object") = some true)
    (is_BadText : PySem.W.isClsIn K C_BadText = true)
    (mr_BadText : PySem.W.mroIn K C_BadText (.ref C_BadText) = some true)
    (i_BadText : PySem.W.findIn K (.ref C_BadText) "__init__" = some (some (.ref f_BadText)))
    (t_BadText : PySem.W.typeIn K (.ref f_BadText) = some (.type "function"))
    (no_BadText_place : PySem.W.findIn K (.ref C_BadText) "place" = some none)
    (l_BadText : K.lookup f_BadText = some ⟨oc_BadText, od_BadText, .func (PySem.W.fnX "__init__" "BadText.__init__" (defArgs s_BadText) (defBody s_BadText) (defScope s_BadText) [("__class__", cc_BadText)] .none kV_BadText dc_BadText pm_BadText an_BadText (.ref cda_BadText) ct_BadText), osl_BadText⟩)
    (c_BadText : PySem.W.codeIn K (.ref cda_BadText) "BadText.__init__" = true)
    (lc_BadText : K.lookup cda_BadText = some ⟨ccl_BadText, cdd_BadText, .fields vs_BadText, ccs_BadText⟩)
    (lv_BadText : vs_BadText[2]? = some (.str file_BadText tf_BadText))
    (lf_BadText : ((l.prog.main.file : Str) == file_BadText) = true)
    (le_BadText : K.lookup cc_BadText = some ⟨cl_BadText, cld_BadText, .cell (some (.ref C_BadText)), csl_BadText⟩)
    (a_Unbuilt : PySem.W.nsIn K mainGlobals "Unbuilt" = some (some (.ref C_Unbuilt)))
    (x_Unbuilt : K.lookup C_Unbuilt = some (excClassObj nm_Unbuilt q_Unbuilt C_Unbuilt N_Unbuilt bs_Unbuilt [.ref C_BushError, .type "ValueError", .type "Exception", .type "BaseException", .type "object"] true sn_Unbuilt sub_Unbuilt ab_Unbuilt col_Unbuilt dd_Unbuilt m0_Unbuilt m1_Unbuilt m2_Unbuilt m3_Unbuilt m5_Unbuilt "ValueError.__new__"))
    (sa_Unbuilt : PySem.W.findIn K (.ref C_Unbuilt) "__setattr__" = some (some (.builtin "object.__setattr__")))
    (kc_Unbuilt : PySem.W.keepIn K (.ref C_Unbuilt) = true)
    (ex_Unbuilt : PySem.W.subIn K (.ref C_Unbuilt) (.type "BaseException") = some true)
    (ty_Unbuilt : PySem.W.typeIn K (.ref C_Unbuilt) = some (.type "type"))
    (sb_Unbuilt : PySem.W.subIn K (.ref C_Unbuilt) (.type "ValueError") = some true)
    (ga_Unbuilt : PySem.W.findIn K (.ref C_Unbuilt) "__getattribute__" = some (some (.builtin "BaseException.__getattribute__")))
    (gg_Unbuilt : PySem.W.findIn K (.ref C_Unbuilt) "__getattr__" = some none)
    (hd_Unbuilt : PySem.W.hasDictIn K C_Unbuilt = true)
    (kl_Unbuilt : PySem.W.findIn K (.ref C_Unbuilt) "__class__" = some (some (.builtin "object.__class__")))
    (ob_Unbuilt : PySem.W.mroIn K C_Unbuilt (.type "object") = some true)
    (is_Unbuilt : PySem.W.isClsIn K C_Unbuilt = true)
    (mr_Unbuilt : PySem.W.mroIn K C_Unbuilt (.ref C_Unbuilt) = some true)
    (i_Unbuilt : PySem.W.findIn K (.ref C_Unbuilt) "__init__" = some (some (.ref f_Unbuilt)))
    (t_Unbuilt : PySem.W.typeIn K (.ref f_Unbuilt) = some (.type "function"))
    (no_Unbuilt_word : PySem.W.findIn K (.ref C_Unbuilt) "word" = some none)
    (no_Unbuilt_value : PySem.W.findIn K (.ref C_Unbuilt) "value" = some none)
    (l_Unbuilt : K.lookup f_Unbuilt = some ⟨oc_Unbuilt, od_Unbuilt, .func (PySem.W.fnX "__init__" "Unbuilt.__init__" (defArgs s_Unbuilt) (defBody s_Unbuilt) (defScope s_Unbuilt) [("__class__", cc_Unbuilt)] .none kV_Unbuilt dc_Unbuilt pm_Unbuilt an_Unbuilt (.ref cda_Unbuilt) ct_Unbuilt), osl_Unbuilt⟩)
    (c_Unbuilt : PySem.W.codeIn K (.ref cda_Unbuilt) "Unbuilt.__init__" = true)
    (lc_Unbuilt : K.lookup cda_Unbuilt = some ⟨ccl_Unbuilt, cdd_Unbuilt, .fields vs_Unbuilt, ccs_Unbuilt⟩)
    (lv_Unbuilt : vs_Unbuilt[2]? = some (.str file_Unbuilt tf_Unbuilt))
    (lf_Unbuilt : ((l.prog.main.file : Str) == file_Unbuilt) = true)
    (le_Unbuilt : K.lookup cc_Unbuilt = some ⟨cl_Unbuilt, cld_Unbuilt, .cell (some (.ref C_Unbuilt)), csl_Unbuilt⟩)
    (a_Clash : PySem.W.nsIn K mainGlobals "Clash" = some (some (.ref C_Clash)))
    (x_Clash : K.lookup C_Clash = some (excClassObj nm_Clash q_Clash C_Clash N_Clash bs_Clash [.ref C_BushError, .type "ValueError", .type "Exception", .type "BaseException", .type "object"] true sn_Clash sub_Clash ab_Clash col_Clash dd_Clash m0_Clash m1_Clash m2_Clash m3_Clash m5_Clash "ValueError.__new__"))
    (sa_Clash : PySem.W.findIn K (.ref C_Clash) "__setattr__" = some (some (.builtin "object.__setattr__")))
    (kc_Clash : PySem.W.keepIn K (.ref C_Clash) = true)
    (ex_Clash : PySem.W.subIn K (.ref C_Clash) (.type "BaseException") = some true)
    (ty_Clash : PySem.W.typeIn K (.ref C_Clash) = some (.type "type"))
    (sb_Clash : PySem.W.subIn K (.ref C_Clash) (.type "ValueError") = some true)
    (ga_Clash : PySem.W.findIn K (.ref C_Clash) "__getattribute__" = some (some (.builtin "BaseException.__getattribute__")))
    (gg_Clash : PySem.W.findIn K (.ref C_Clash) "__getattr__" = some none)
    (hd_Clash : PySem.W.hasDictIn K C_Clash = true)
    (kl_Clash : PySem.W.findIn K (.ref C_Clash) "__class__" = some (some (.builtin "object.__class__")))
    (ob_Clash : PySem.W.mroIn K C_Clash (.type "object") = some true)
    (is_Clash : PySem.W.isClsIn K C_Clash = true)
    (mr_Clash : PySem.W.mroIn K C_Clash (.ref C_Clash) = some true)
    (i_Clash : PySem.W.findIn K (.ref C_Clash) "__init__" = some (some (.ref f_Clash)))
    (t_Clash : PySem.W.typeIn K (.ref f_Clash) = some (.type "function"))
    (no_Clash_number : PySem.W.findIn K (.ref C_Clash) "number" = some none)
    (l_Clash : K.lookup f_Clash = some ⟨oc_Clash, od_Clash, .func (PySem.W.fnX "__init__" "Clash.__init__" (defArgs s_Clash) (defBody s_Clash) (defScope s_Clash) [("__class__", cc_Clash)] .none kV_Clash dc_Clash pm_Clash an_Clash (.ref cda_Clash) ct_Clash), osl_Clash⟩)
    (c_Clash : PySem.W.codeIn K (.ref cda_Clash) "Clash.__init__" = true)
    (lc_Clash : K.lookup cda_Clash = some ⟨ccl_Clash, cdd_Clash, .fields vs_Clash, ccs_Clash⟩)
    (lv_Clash : vs_Clash[2]? = some (.str file_Clash tf_Clash))
    (lf_Clash : ((l.prog.main.file : Str) == file_Clash) = true)
    (le_Clash : K.lookup cc_Clash = some ⟨cl_Clash, cld_Clash, .cell (some (.ref C_Clash)), csl_Clash⟩)
    (a_UnknownName : PySem.W.nsIn K mainGlobals "UnknownName" = some (some (.ref C_UnknownName)))
    (x_UnknownName : K.lookup C_UnknownName = some (excClassObj nm_UnknownName q_UnknownName C_UnknownName N_UnknownName bs_UnknownName [.ref C_NameMissing, .type "LookupError", .type "Exception", .type "BaseException", .type "object"] true sn_UnknownName sub_UnknownName ab_UnknownName col_UnknownName dd_UnknownName m0_UnknownName m1_UnknownName m2_UnknownName m3_UnknownName m5_UnknownName "LookupError.__new__"))
    (sa_UnknownName : PySem.W.findIn K (.ref C_UnknownName) "__setattr__" = some (some (.builtin "object.__setattr__")))
    (kc_UnknownName : PySem.W.keepIn K (.ref C_UnknownName) = true)
    (ex_UnknownName : PySem.W.subIn K (.ref C_UnknownName) (.type "BaseException") = some true)
    (ty_UnknownName : PySem.W.typeIn K (.ref C_UnknownName) = some (.type "type"))
    (sb_UnknownName : PySem.W.subIn K (.ref C_UnknownName) (.type "LookupError") = some true)
    (ga_UnknownName : PySem.W.findIn K (.ref C_UnknownName) "__getattribute__" = some (some (.builtin "BaseException.__getattribute__")))
    (gg_UnknownName : PySem.W.findIn K (.ref C_UnknownName) "__getattr__" = some none)
    (hd_UnknownName : PySem.W.hasDictIn K C_UnknownName = true)
    (kl_UnknownName : PySem.W.findIn K (.ref C_UnknownName) "__class__" = some (some (.builtin "object.__class__")))
    (ob_UnknownName : PySem.W.mroIn K C_UnknownName (.type "object") = some true)
    (is_UnknownName : PySem.W.isClsIn K C_UnknownName = true)
    (mr_UnknownName : PySem.W.mroIn K C_UnknownName (.ref C_UnknownName) = some true)
    (i_UnknownName : PySem.W.findIn K (.ref C_UnknownName) "__init__" = some (some (.ref f_UnknownName)))
    (t_UnknownName : PySem.W.typeIn K (.ref f_UnknownName) = some (.type "function"))
    (no_UnknownName_name : PySem.W.findIn K (.ref C_UnknownName) "name" = some none)
    (l_UnknownName : K.lookup f_UnknownName = some ⟨oc_UnknownName, od_UnknownName, .func (PySem.W.fnX "__init__" "UnknownName.__init__" (defArgs s_UnknownName) (defBody s_UnknownName) (defScope s_UnknownName) [("__class__", cc_UnknownName)] .none kV_UnknownName dc_UnknownName pm_UnknownName an_UnknownName (.ref cda_UnknownName) ct_UnknownName), osl_UnknownName⟩)
    (c_UnknownName : PySem.W.codeIn K (.ref cda_UnknownName) "UnknownName.__init__" = true)
    (lc_UnknownName : K.lookup cda_UnknownName = some ⟨ccl_UnknownName, cdd_UnknownName, .fields vs_UnknownName, ccs_UnknownName⟩)
    (lv_UnknownName : vs_UnknownName[2]? = some (.str file_UnknownName tf_UnknownName))
    (lf_UnknownName : ((l.prog.main.file : Str) == file_UnknownName) = true)
    (le_UnknownName : K.lookup cc_UnknownName = some ⟨cl_UnknownName, cld_UnknownName, .cell (some (.ref C_UnknownName)), csl_UnknownName⟩)
    (op : PySem.W.nsIn K cStatics "thirdparty.any" = some none)
    (nt : (l.prog.main.scope.names.lookup ("super" : Str)).isSome = false)
    (nd : [C_UnlikeGroves, C_TooGreat, C_Overlaps, C_NothingDone, C_UnlikeStocks, C_BadBook, C_BadBag, C_BadGrove, C_BadAssembly, C_BadPattern, C_BadDeed, C_BadAct, C_BadText, C_Unbuilt, C_Clash, C_UnknownName, C_BushError, C_NameMissing].Nodup) :
    ∃ fd : FuncData, (∀ (s : Shared) (u : Value), BindsTo s fd ⟨[u], []⟩ [("_law_script", u)]) ∧ ∀ base : Heap, K.In base → base.Ns mainGlobals mg → SysB base → FnOkG l.prog w K mg base 4 fa fd ["_law_script"] (spLaw K) := by
  have e := hfa.symm.trans (PySem.W.mg_of X G a_law)
  cases e
  have F__law_source := fun_mk (st := s__law_source) l__law_source c__law_source k__law_source
  have b__law_source := F__law_source.binds (ps := ["_law_script"]) fun _ _ _ _ _ _ us hl => match us, hl with | [_], _ => rfl
  have F__law_pick := fun_mk (st := s__law_pick) l__law_pick c__law_pick k__law_pick
  have b__law_pick := F__law_pick.binds (ps := ["_law_source_here", "_law_many"]) fun _ _ _ _ _ _ us hl => match us, hl with | [_, _], _ => rfl
  have F__law_kinds := fun_mk (st := s__law_kinds) l__law_kinds c__law_kinds k__law_kinds
  have b__law_kinds := F__law_kinds.binds (ps := ["_law_e"]) fun _ _ _ _ _ _ us hl => match us, hl with | [_], _ => rfl
  have F__law_bases := fun_mk (st := s__law_bases) l__law_bases c__law_bases k__law_bases
  have b__law_bases := F__law_bases.binds (ps := ["_law_e"]) fun _ _ _ _ _ _ us hl => match us, hl with | [_], _ => rfl
  have F__law_every := fun_mk (st := s__law_every) l__law_every c__law_every k__law_every
  have b__law_every := F__law_every.binds (ps := ["_law_word", "_law_number", "_law_some", "_law_other"]) fun _ _ _ _ _ _ us hl => match us, hl with | [_, _, _, _], _ => rfl
  have F__law_kept := fun_mk (st := s__law_kept) l__law_kept c__law_kept k__law_kept
  have b__law_kept := F__law_kept.binds (ps := ["_law_every_here", "_law_word", "_law_number", "_law_some", "_law_other"]) fun _ _ _ _ _ _ us hl => match us, hl with | [_, _, _, _, _], _ => rfl
  have F_law := fun_mk (st := s_law) l_law c_law k_law
  have b_law := F_law.binds (ps := ["_law_script"]) fun _ _ _ _ _ _ us hl => match us, hl with | [_], _ => rfl
  have g__law_source := PySem.W.mg_of X G a__law_source
  have g__law_pick := PySem.W.mg_of X G a__law_pick
  have g__law_kinds := PySem.W.mg_of X G a__law_kinds
  have g__law_bases := PySem.W.mg_of X G a__law_bases
  have g__law_every := PySem.W.mg_of X G a__law_every
  have g__law_kept := PySem.W.mg_of X G a__law_kept
  have g_law := PySem.W.mg_of X G a_law
  have n_LookupError := PySem.W.mg_none_of X G z_LookupError
  have n_ValueError := PySem.W.mg_none_of X G z_ValueError
  have n_abs := PySem.W.mg_none_of X G z_abs
  have n_int := PySem.W.mg_none_of X G z_int
  have n_isinstance := PySem.W.mg_none_of X G z_isinstance
  have n_len := PySem.W.mg_none_of X G z_len
  have n_max := PySem.W.mg_none_of X G z_max
  have n_range := PySem.W.mg_none_of X G z_range
  have n_repr := PySem.W.mg_none_of X G z_repr
  have n_super := PySem.W.mg_none_of X G z_super
  have n_tuple := PySem.W.mg_none_of X G z_tuple
  have T : Tx K mg := ⟨n_LookupError, n_ValueError, n_abs, n_int, n_isinstance, n_len, n_max, n_range, n_repr, n_super, n_tuple⟩
  have g_BushError := PySem.W.mg_of X G a_BushError
  obtain rfl : C_BushError = clsOf mg "BushError" := by
    unfold clsOf
    rw [g_BushError]
  have g_NameMissing := PySem.W.mg_of X G a_NameMissing
  obtain rfl : C_NameMissing = clsOf mg "NameMissing" := by
    unfold clsOf
    rw [g_NameMissing]
  have g_UnlikeGroves := PySem.W.mg_of X G a_UnlikeGroves
  obtain rfl : C_UnlikeGroves = clsOf mg "UnlikeGroves" := by
    unfold clsOf
    rw [g_UnlikeGroves]
  have g_TooGreat := PySem.W.mg_of X G a_TooGreat
  obtain rfl : C_TooGreat = clsOf mg "TooGreat" := by
    unfold clsOf
    rw [g_TooGreat]
  have g_Overlaps := PySem.W.mg_of X G a_Overlaps
  obtain rfl : C_Overlaps = clsOf mg "Overlaps" := by
    unfold clsOf
    rw [g_Overlaps]
  have g_NothingDone := PySem.W.mg_of X G a_NothingDone
  obtain rfl : C_NothingDone = clsOf mg "NothingDone" := by
    unfold clsOf
    rw [g_NothingDone]
  have g_UnlikeStocks := PySem.W.mg_of X G a_UnlikeStocks
  obtain rfl : C_UnlikeStocks = clsOf mg "UnlikeStocks" := by
    unfold clsOf
    rw [g_UnlikeStocks]
  have g_BadBook := PySem.W.mg_of X G a_BadBook
  obtain rfl : C_BadBook = clsOf mg "BadBook" := by
    unfold clsOf
    rw [g_BadBook]
  have g_BadBag := PySem.W.mg_of X G a_BadBag
  obtain rfl : C_BadBag = clsOf mg "BadBag" := by
    unfold clsOf
    rw [g_BadBag]
  have g_BadGrove := PySem.W.mg_of X G a_BadGrove
  obtain rfl : C_BadGrove = clsOf mg "BadGrove" := by
    unfold clsOf
    rw [g_BadGrove]
  have g_BadAssembly := PySem.W.mg_of X G a_BadAssembly
  obtain rfl : C_BadAssembly = clsOf mg "BadAssembly" := by
    unfold clsOf
    rw [g_BadAssembly]
  have g_BadPattern := PySem.W.mg_of X G a_BadPattern
  obtain rfl : C_BadPattern = clsOf mg "BadPattern" := by
    unfold clsOf
    rw [g_BadPattern]
  have g_BadDeed := PySem.W.mg_of X G a_BadDeed
  obtain rfl : C_BadDeed = clsOf mg "BadDeed" := by
    unfold clsOf
    rw [g_BadDeed]
  have g_BadAct := PySem.W.mg_of X G a_BadAct
  obtain rfl : C_BadAct = clsOf mg "BadAct" := by
    unfold clsOf
    rw [g_BadAct]
  have g_BadText := PySem.W.mg_of X G a_BadText
  obtain rfl : C_BadText = clsOf mg "BadText" := by
    unfold clsOf
    rw [g_BadText]
  have g_Unbuilt := PySem.W.mg_of X G a_Unbuilt
  obtain rfl : C_Unbuilt = clsOf mg "Unbuilt" := by
    unfold clsOf
    rw [g_Unbuilt]
  have g_Clash := PySem.W.mg_of X G a_Clash
  obtain rfl : C_Clash = clsOf mg "Clash" := by
    unfold clsOf
    rw [g_Clash]
  have g_UnknownName := PySem.W.mg_of X G a_UnknownName
  obtain rfl : C_UnknownName = clsOf mg "UnknownName" := by
    unfold clsOf
    rw [g_UnknownName]
  have X_UnlikeGroves := xcls_VE x_UnlikeGroves sa_UnlikeGroves kc_UnlikeGroves ex_UnlikeGroves ty_UnlikeGroves sb_UnlikeGroves
  have I_UnlikeGroves := xin_mk (P := l.prog) text_UnlikeGroves i_UnlikeGroves t_UnlikeGroves (fun p hp => (List.not_mem_nil hp).elim) l_UnlikeGroves c_UnlikeGroves lc_UnlikeGroves lv_UnlikeGroves lf_UnlikeGroves le_UnlikeGroves is_UnlikeGroves mr_UnlikeGroves (super_mk x_UnlikeGroves x_BushError fi_BushError) op nt (fun us hl => match us, hl with | [_], _ => rfl)
  have A_UnlikeGroves : XAt K (clsOf mg "UnlikeGroves") := ⟨ga_UnlikeGroves, gg_UnlikeGroves, ex_UnlikeGroves, hd_UnlikeGroves, kl_UnlikeGroves, ob_UnlikeGroves⟩
  have L_UnlikeGroves : LkC K (clsOf mg "UnlikeGroves") (bmV mg) := ⟨_, _, _, _, _, _, _, _, _, _, _, _, _, _, _, x_UnlikeGroves⟩
  have X_TooGreat := xcls_VE x_TooGreat sa_TooGreat kc_TooGreat ex_TooGreat ty_TooGreat sb_TooGreat
  have I_TooGreat := xin_mk (P := l.prog) text_TooGreat i_TooGreat t_TooGreat (fun p hp => (List.not_mem_nil hp).elim) l_TooGreat c_TooGreat lc_TooGreat lv_TooGreat lf_TooGreat le_TooGreat is_TooGreat mr_TooGreat (super_mk x_TooGreat x_BushError fi_BushError) op nt (fun us hl => match us, hl with | [_], _ => rfl)
  have A_TooGreat : XAt K (clsOf mg "TooGreat") := ⟨ga_TooGreat, gg_TooGreat, ex_TooGreat, hd_TooGreat, kl_TooGreat, ob_TooGreat⟩
  have L_TooGreat : LkC K (clsOf mg "TooGreat") (bmV mg) := ⟨_, _, _, _, _, _, _, _, _, _, _, _, _, _, _, x_TooGreat⟩
  have X_Overlaps := xcls_VE x_Overlaps sa_Overlaps kc_Overlaps ex_Overlaps ty_Overlaps sb_Overlaps
  have I_Overlaps := xin_mk (P := l.prog) text_Overlaps i_Overlaps t_Overlaps (fun p hp => (List.not_mem_nil hp).elim) l_Overlaps c_Overlaps lc_Overlaps lv_Overlaps lf_Overlaps le_Overlaps is_Overlaps mr_Overlaps (super_mk x_Overlaps x_BushError fi_BushError) op nt (fun us hl => match us, hl with | [_], _ => rfl)
  have A_Overlaps : XAt K (clsOf mg "Overlaps") := ⟨ga_Overlaps, gg_Overlaps, ex_Overlaps, hd_Overlaps, kl_Overlaps, ob_Overlaps⟩
  have L_Overlaps : LkC K (clsOf mg "Overlaps") (bmV mg) := ⟨_, _, _, _, _, _, _, _, _, _, _, _, _, _, _, x_Overlaps⟩
  have X_NothingDone := xcls_VE x_NothingDone sa_NothingDone kc_NothingDone ex_NothingDone ty_NothingDone sb_NothingDone
  have I_NothingDone := xin_mk (P := l.prog) text_NothingDone i_NothingDone t_NothingDone (fun p hp => (List.not_mem_nil hp).elim) l_NothingDone c_NothingDone lc_NothingDone lv_NothingDone lf_NothingDone le_NothingDone is_NothingDone mr_NothingDone (super_mk x_NothingDone x_BushError fi_BushError) op nt (fun us hl => match us, hl with | [_], _ => rfl)
  have A_NothingDone : XAt K (clsOf mg "NothingDone") := ⟨ga_NothingDone, gg_NothingDone, ex_NothingDone, hd_NothingDone, kl_NothingDone, ob_NothingDone⟩
  have L_NothingDone : LkC K (clsOf mg "NothingDone") (bmV mg) := ⟨_, _, _, _, _, _, _, _, _, _, _, _, _, _, _, x_NothingDone⟩
  have X_UnlikeStocks := xcls_VE x_UnlikeStocks sa_UnlikeStocks kc_UnlikeStocks ex_UnlikeStocks ty_UnlikeStocks sb_UnlikeStocks
  have I_UnlikeStocks := xin_mk (P := l.prog) text_UnlikeStocks i_UnlikeStocks t_UnlikeStocks (fun p hp => by simp only [List.mem_cons, List.not_mem_nil, or_false] at hp; rcases hp with rfl <;> assumption) l_UnlikeStocks c_UnlikeStocks lc_UnlikeStocks lv_UnlikeStocks lf_UnlikeStocks le_UnlikeStocks is_UnlikeStocks mr_UnlikeStocks (super_mk x_UnlikeStocks x_BushError fi_BushError) op nt (fun us hl => match us, hl with | [_, _], _ => rfl)
  have A_UnlikeStocks : XAt K (clsOf mg "UnlikeStocks") := ⟨ga_UnlikeStocks, gg_UnlikeStocks, ex_UnlikeStocks, hd_UnlikeStocks, kl_UnlikeStocks, ob_UnlikeStocks⟩
  have L_UnlikeStocks : LkC K (clsOf mg "UnlikeStocks") (bmV mg) := ⟨_, _, _, _, _, _, _, _, _, _, _, _, _, _, _, x_UnlikeStocks⟩
  have X_BadBook := xcls_VE x_BadBook sa_BadBook kc_BadBook ex_BadBook ty_BadBook sb_BadBook
  have I_BadBook := xin_mk (P := l.prog) text_BadBook i_BadBook t_BadBook (fun p hp => by simp only [List.mem_cons, List.not_mem_nil, or_false] at hp; rcases hp with rfl <;> assumption) l_BadBook c_BadBook lc_BadBook lv_BadBook lf_BadBook le_BadBook is_BadBook mr_BadBook (super_mk x_BadBook x_BushError fi_BushError) op nt (fun us hl => match us, hl with | [_, _], _ => rfl)
  have A_BadBook : XAt K (clsOf mg "BadBook") := ⟨ga_BadBook, gg_BadBook, ex_BadBook, hd_BadBook, kl_BadBook, ob_BadBook⟩
  have L_BadBook : LkC K (clsOf mg "BadBook") (bmV mg) := ⟨_, _, _, _, _, _, _, _, _, _, _, _, _, _, _, x_BadBook⟩
  have X_BadBag := xcls_VE x_BadBag sa_BadBag kc_BadBag ex_BadBag ty_BadBag sb_BadBag
  have I_BadBag := xin_mk (P := l.prog) text_BadBag i_BadBag t_BadBag (fun p hp => by simp only [List.mem_cons, List.not_mem_nil, or_false] at hp; rcases hp with rfl <;> assumption) l_BadBag c_BadBag lc_BadBag lv_BadBag lf_BadBag le_BadBag is_BadBag mr_BadBag (super_mk x_BadBag x_BushError fi_BushError) op nt (fun us hl => match us, hl with | [_, _], _ => rfl)
  have A_BadBag : XAt K (clsOf mg "BadBag") := ⟨ga_BadBag, gg_BadBag, ex_BadBag, hd_BadBag, kl_BadBag, ob_BadBag⟩
  have L_BadBag : LkC K (clsOf mg "BadBag") (bmV mg) := ⟨_, _, _, _, _, _, _, _, _, _, _, _, _, _, _, x_BadBag⟩
  have X_BadGrove := xcls_VE x_BadGrove sa_BadGrove kc_BadGrove ex_BadGrove ty_BadGrove sb_BadGrove
  have I_BadGrove := xin_mk (P := l.prog) text_BadGrove i_BadGrove t_BadGrove (fun p hp => by simp only [List.mem_cons, List.not_mem_nil, or_false] at hp; rcases hp with rfl <;> assumption) l_BadGrove c_BadGrove lc_BadGrove lv_BadGrove lf_BadGrove le_BadGrove is_BadGrove mr_BadGrove (super_mk x_BadGrove x_BushError fi_BushError) op nt (fun us hl => match us, hl with | [_, _], _ => rfl)
  have A_BadGrove : XAt K (clsOf mg "BadGrove") := ⟨ga_BadGrove, gg_BadGrove, ex_BadGrove, hd_BadGrove, kl_BadGrove, ob_BadGrove⟩
  have L_BadGrove : LkC K (clsOf mg "BadGrove") (bmV mg) := ⟨_, _, _, _, _, _, _, _, _, _, _, _, _, _, _, x_BadGrove⟩
  have X_BadAssembly := xcls_VE x_BadAssembly sa_BadAssembly kc_BadAssembly ex_BadAssembly ty_BadAssembly sb_BadAssembly
  have I_BadAssembly := xin_mk (P := l.prog) text_BadAssembly i_BadAssembly t_BadAssembly (fun p hp => by simp only [List.mem_cons, List.not_mem_nil, or_false] at hp; rcases hp with rfl <;> assumption) l_BadAssembly c_BadAssembly lc_BadAssembly lv_BadAssembly lf_BadAssembly le_BadAssembly is_BadAssembly mr_BadAssembly (super_mk x_BadAssembly x_BushError fi_BushError) op nt (fun us hl => match us, hl with | [_, _], _ => rfl)
  have A_BadAssembly : XAt K (clsOf mg "BadAssembly") := ⟨ga_BadAssembly, gg_BadAssembly, ex_BadAssembly, hd_BadAssembly, kl_BadAssembly, ob_BadAssembly⟩
  have L_BadAssembly : LkC K (clsOf mg "BadAssembly") (bmV mg) := ⟨_, _, _, _, _, _, _, _, _, _, _, _, _, _, _, x_BadAssembly⟩
  have X_BadPattern := xcls_VE x_BadPattern sa_BadPattern kc_BadPattern ex_BadPattern ty_BadPattern sb_BadPattern
  have I_BadPattern := xin_mk (P := l.prog) text_BadPattern i_BadPattern t_BadPattern (fun p hp => by simp only [List.mem_cons, List.not_mem_nil, or_false] at hp; rcases hp with rfl <;> assumption) l_BadPattern c_BadPattern lc_BadPattern lv_BadPattern lf_BadPattern le_BadPattern is_BadPattern mr_BadPattern (super_mk x_BadPattern x_BushError fi_BushError) op nt (fun us hl => match us, hl with | [_, _], _ => rfl)
  have A_BadPattern : XAt K (clsOf mg "BadPattern") := ⟨ga_BadPattern, gg_BadPattern, ex_BadPattern, hd_BadPattern, kl_BadPattern, ob_BadPattern⟩
  have L_BadPattern : LkC K (clsOf mg "BadPattern") (bmV mg) := ⟨_, _, _, _, _, _, _, _, _, _, _, _, _, _, _, x_BadPattern⟩
  have X_BadDeed := xcls_VE x_BadDeed sa_BadDeed kc_BadDeed ex_BadDeed ty_BadDeed sb_BadDeed
  have I_BadDeed := xin_mk (P := l.prog) text_BadDeed i_BadDeed t_BadDeed (fun p hp => by simp only [List.mem_cons, List.not_mem_nil, or_false] at hp; rcases hp with rfl <;> assumption) l_BadDeed c_BadDeed lc_BadDeed lv_BadDeed lf_BadDeed le_BadDeed is_BadDeed mr_BadDeed (super_mk x_BadDeed x_BushError fi_BushError) op nt (fun us hl => match us, hl with | [_, _], _ => rfl)
  have A_BadDeed : XAt K (clsOf mg "BadDeed") := ⟨ga_BadDeed, gg_BadDeed, ex_BadDeed, hd_BadDeed, kl_BadDeed, ob_BadDeed⟩
  have L_BadDeed : LkC K (clsOf mg "BadDeed") (bmV mg) := ⟨_, _, _, _, _, _, _, _, _, _, _, _, _, _, _, x_BadDeed⟩
  have X_BadAct := xcls_VE x_BadAct sa_BadAct kc_BadAct ex_BadAct ty_BadAct sb_BadAct
  have I_BadAct := xin_mk (P := l.prog) text_BadAct i_BadAct t_BadAct (fun p hp => by simp only [List.mem_cons, List.not_mem_nil, or_false] at hp; rcases hp with rfl <;> assumption) l_BadAct c_BadAct lc_BadAct lv_BadAct lf_BadAct le_BadAct is_BadAct mr_BadAct (super_mk x_BadAct x_BushError fi_BushError) op nt (fun us hl => match us, hl with | [_, _], _ => rfl)
  have A_BadAct : XAt K (clsOf mg "BadAct") := ⟨ga_BadAct, gg_BadAct, ex_BadAct, hd_BadAct, kl_BadAct, ob_BadAct⟩
  have L_BadAct : LkC K (clsOf mg "BadAct") (bmV mg) := ⟨_, _, _, _, _, _, _, _, _, _, _, _, _, _, _, x_BadAct⟩
  have X_BadText := xcls_VE x_BadText sa_BadText kc_BadText ex_BadText ty_BadText sb_BadText
  have I_BadText := xin_mk (P := l.prog) text_BadText i_BadText t_BadText (fun p hp => by simp only [List.mem_cons, List.not_mem_nil, or_false] at hp; rcases hp with rfl <;> assumption) l_BadText c_BadText lc_BadText lv_BadText lf_BadText le_BadText is_BadText mr_BadText (super_mk x_BadText x_BushError fi_BushError) op nt (fun us hl => match us, hl with | [_, _], _ => rfl)
  have A_BadText : XAt K (clsOf mg "BadText") := ⟨ga_BadText, gg_BadText, ex_BadText, hd_BadText, kl_BadText, ob_BadText⟩
  have L_BadText : LkC K (clsOf mg "BadText") (bmV mg) := ⟨_, _, _, _, _, _, _, _, _, _, _, _, _, _, _, x_BadText⟩
  have X_Unbuilt := xcls_VE x_Unbuilt sa_Unbuilt kc_Unbuilt ex_Unbuilt ty_Unbuilt sb_Unbuilt
  have I_Unbuilt := xin_mk (P := l.prog) text_Unbuilt i_Unbuilt t_Unbuilt (fun p hp => by simp only [List.mem_cons, List.not_mem_nil, or_false] at hp; rcases hp with rfl | rfl <;> assumption) l_Unbuilt c_Unbuilt lc_Unbuilt lv_Unbuilt lf_Unbuilt le_Unbuilt is_Unbuilt mr_Unbuilt (super_mk x_Unbuilt x_BushError fi_BushError) op nt (fun us hl => match us, hl with | [_, _, _], _ => rfl)
  have A_Unbuilt : XAt K (clsOf mg "Unbuilt") := ⟨ga_Unbuilt, gg_Unbuilt, ex_Unbuilt, hd_Unbuilt, kl_Unbuilt, ob_Unbuilt⟩
  have L_Unbuilt : LkC K (clsOf mg "Unbuilt") (bmV mg) := ⟨_, _, _, _, _, _, _, _, _, _, _, _, _, _, _, x_Unbuilt⟩
  have X_Clash := xcls_VE x_Clash sa_Clash kc_Clash ex_Clash ty_Clash sb_Clash
  have I_Clash := xin_mk (P := l.prog) text_Clash i_Clash t_Clash (fun p hp => by simp only [List.mem_cons, List.not_mem_nil, or_false] at hp; rcases hp with rfl <;> assumption) l_Clash c_Clash lc_Clash lv_Clash lf_Clash le_Clash is_Clash mr_Clash (super_mk x_Clash x_BushError fi_BushError) op nt (fun us hl => match us, hl with | [_, _], _ => rfl)
  have A_Clash : XAt K (clsOf mg "Clash") := ⟨ga_Clash, gg_Clash, ex_Clash, hd_Clash, kl_Clash, ob_Clash⟩
  have L_Clash : LkC K (clsOf mg "Clash") (bmV mg) := ⟨_, _, _, _, _, _, _, _, _, _, _, _, _, _, _, x_Clash⟩
  have X_UnknownName := xcls_LE x_UnknownName sa_UnknownName kc_UnknownName ex_UnknownName ty_UnknownName sb_UnknownName
  have I_UnknownName := xin_mk (P := l.prog) text_UnknownName i_UnknownName t_UnknownName (fun p hp => by simp only [List.mem_cons, List.not_mem_nil, or_false] at hp; rcases hp with rfl <;> assumption) l_UnknownName c_UnknownName lc_UnknownName lv_UnknownName lf_UnknownName le_UnknownName is_UnknownName mr_UnknownName (super_mk x_UnknownName x_NameMissing fi_NameMissing) op nt (fun us hl => match us, hl with | [_, _], _ => rfl)
  have A_UnknownName : XAt K (clsOf mg "UnknownName") := ⟨ga_UnknownName, gg_UnknownName, ex_UnknownName, hd_UnknownName, kl_UnknownName, ob_UnknownName⟩
  have L_UnknownName : LkC K (clsOf mg "UnknownName") (bmL mg) := ⟨_, _, _, _, _, _, _, _, _, _, _, _, _, _, _, x_UnknownName⟩
  have nd : (addrs mg).Nodup := nd
  have at_ : ∀ i, i < 16 → XAt K (cs mg i) := fun i hi => match i, hi with | 0, _ => A_UnlikeGroves | 1, _ => A_TooGreat | 2, _ => A_Overlaps | 3, _ => A_NothingDone | 4, _ => A_UnlikeStocks | 5, _ => A_BadBook | 6, _ => A_BadBag | 7, _ => A_BadGrove | 8, _ => A_BadAssembly | 9, _ => A_BadPattern | 10, _ => A_BadDeed | 11, _ => A_BadAct | 12, _ => A_BadText | 13, _ => A_Unbuilt | 14, _ => A_Clash | 15, _ => A_UnknownName | (n + 16), h => absurd h (by omega)
  have lk : ∀ i, i < 16 → LkC K (cs mg i) (bmOf mg i) := fun i hi => match i, hi with | 0, _ => L_UnlikeGroves | 1, _ => L_TooGreat | 2, _ => L_Overlaps | 3, _ => L_NothingDone | 4, _ => L_UnlikeStocks | 5, _ => L_BadBook | 6, _ => L_BadBag | 7, _ => L_BadGrove | 8, _ => L_BadAssembly | 9, _ => L_BadPattern | 10, _ => L_BadDeed | 11, _ => L_BadAct | 12, _ => L_BadText | 13, _ => L_Unbuilt | 14, _ => L_Clash | 15, _ => L_UnknownName | (n + 16), h => absurd h (by omega)
  have is : ∀ i, i < 16 → PySem.W.isClsIn K (cs mg i) = true := fun i hi => match i, hi with | 0, _ => is_UnlikeGroves | 1, _ => is_TooGreat | 2, _ => is_Overlaps | 3, _ => is_NothingDone | 4, _ => is_UnlikeStocks | 5, _ => is_BadBook | 6, _ => is_BadBag | 7, _ => is_BadGrove | 8, _ => is_BadAssembly | 9, _ => is_BadPattern | 10, _ => is_BadDeed | 11, _ => is_BadAct | 12, _ => is_BadText | 13, _ => is_Unbuilt | 14, _ => is_Clash | 15, _ => is_UnknownName | (n + 16), h => absurd h (by omega)
  have ty : ∀ i, i < 16 → PySem.W.typeIn K (.ref (cs mg i)) = some (.type "type") := fun i hi => match i, hi with | 0, _ => ty_UnlikeGroves | 1, _ => ty_TooGreat | 2, _ => ty_Overlaps | 3, _ => ty_NothingDone | 4, _ => ty_UnlikeStocks | 5, _ => ty_BadBook | 6, _ => ty_BadBag | 7, _ => ty_BadGrove | 8, _ => ty_BadAssembly | 9, _ => ty_BadPattern | 10, _ => ty_BadDeed | 11, _ => ty_BadAct | 12, _ => ty_BadText | 13, _ => ty_Unbuilt | 14, _ => ty_Clash | 15, _ => ty_UnknownName | (n + 16), h => absurd h (by omega)
  have E : Ec l.prog K mg := { x_UnlikeGroves := ⟨⟨_, _, _, _, _, X_UnlikeGroves, I_UnlikeGroves⟩, g_UnlikeGroves, n_super, by decide⟩, g_UnlikeGroves := g_UnlikeGroves, x_TooGreat := ⟨⟨_, _, _, _, _, X_TooGreat, I_TooGreat⟩, g_TooGreat, n_super, by decide⟩, g_TooGreat := g_TooGreat, x_Overlaps := ⟨⟨_, _, _, _, _, X_Overlaps, I_Overlaps⟩, g_Overlaps, n_super, by decide⟩, g_Overlaps := g_Overlaps, x_NothingDone := ⟨⟨_, _, _, _, _, X_NothingDone, I_NothingDone⟩, g_NothingDone, n_super, by decide⟩, g_NothingDone := g_NothingDone, x_UnlikeStocks := ⟨⟨_, _, _, _, _, X_UnlikeStocks, I_UnlikeStocks⟩, g_UnlikeStocks, n_super, by decide⟩, g_UnlikeStocks := g_UnlikeStocks, x_BadBook := ⟨⟨_, _, _, _, _, X_BadBook, I_BadBook⟩, g_BadBook, n_super, n_tuple⟩, g_BadBook := g_BadBook, x_BadBag := ⟨⟨_, _, _, _, _, X_BadBag, I_BadBag⟩, g_BadBag, n_super, n_tuple⟩, g_BadBag := g_BadBag, x_BadGrove := ⟨⟨_, _, _, _, _, X_BadGrove, I_BadGrove⟩, g_BadGrove, n_super, n_tuple⟩, g_BadGrove := g_BadGrove, x_BadAssembly := ⟨⟨_, _, _, _, _, X_BadAssembly, I_BadAssembly⟩, g_BadAssembly, n_super, n_tuple⟩, g_BadAssembly := g_BadAssembly, x_BadPattern := ⟨⟨_, _, _, _, _, X_BadPattern, I_BadPattern⟩, g_BadPattern, n_super, n_tuple⟩, g_BadPattern := g_BadPattern, x_BadDeed := ⟨⟨_, _, _, _, _, X_BadDeed, I_BadDeed⟩, g_BadDeed, n_super, by decide⟩, g_BadDeed := g_BadDeed, x_BadAct := ⟨⟨_, _, _, _, _, X_BadAct, I_BadAct⟩, g_BadAct, n_super, by decide⟩, g_BadAct := g_BadAct, x_BadText := ⟨⟨_, _, _, _, _, X_BadText, I_BadText⟩, g_BadText, n_super, by decide⟩, g_BadText := g_BadText, x_Unbuilt := ⟨⟨_, _, _, _, _, X_Unbuilt, I_Unbuilt⟩, g_Unbuilt, n_super, by decide⟩, g_Unbuilt := g_Unbuilt, x_Clash := ⟨⟨_, _, _, _, _, X_Clash, I_Clash⟩, g_Clash, n_super, by decide⟩, g_Clash := g_Clash, x_UnknownName := ⟨⟨_, _, _, _, _, X_UnknownName, I_UnknownName⟩, g_UnknownName, n_super, by decide⟩, g_UnknownName := g_UnknownName, g_BushError := g_BushError, g_NameMissing := g_NameMissing, at_ := at_, kit := kits nd lk is ty, kB := kitsB nd lk is_BushError ty_BushError, kV := kitsV lk, kN := kitsN nd lk is_NameMissing ty_NameMissing, kL := kitsL lk, no_4_word := no_UnlikeStocks_word, no_11_word := no_BadAct_word, no_13_word := no_Unbuilt_word, no_5_path := no_BadBook_path, no_6_path := no_BadBag_path, no_7_path := no_BadGrove_path, no_8_path := no_BadAssembly_path, no_9_path := no_BadPattern_path, no_10_number := no_BadDeed_number, no_12_place := no_BadText_place, no_14_number := no_Clash_number, no_13_value := no_Unbuilt_value, no_15_name := no_UnknownName_name }
  refine ⟨PySem.W.fnOf "law" "law" (defArgs s_law) (defBody s_law) (defScope s_law) .none kV_law dc_law pm_law an_law cd_law ct_law, fun s v => .of_eq rfl, fun base hb gb sb => ?_⟩
  have o__law_source := ok__law_source (P := l.prog) (w := w) (base := base) (k := 0) T F__law_source
  have G__law_source : FnT l.prog w K mg base 1 "_law_source" ["_law_script"] _ := ⟨⟨_, _, g__law_source, k__law_source, b__law_source, o__law_source⟩⟩
  have o__law_pick := ok__law_pick (P := l.prog) (w := w) (base := base) (k := 0) T F__law_pick
  have G__law_pick : FnT l.prog w K mg base 1 "_law_pick" ["_law_source_here", "_law_many"] _ := ⟨⟨_, _, g__law_pick, k__law_pick, b__law_pick, o__law_pick⟩⟩
  have o__law_kinds := ok__law_kinds (P := l.prog) (w := w) (base := base) (k := 0) T E F__law_kinds
  have G__law_kinds : FnT l.prog w K mg base 1 "_law_kinds" ["_law_e"] _ := ⟨⟨_, _, g__law_kinds, k__law_kinds, b__law_kinds, o__law_kinds⟩⟩
  have o__law_bases := ok__law_bases (P := l.prog) (w := w) (base := base) (k := 0) T E F__law_bases
  have G__law_bases : FnT l.prog w K mg base 1 "_law_bases" ["_law_e"] _ := ⟨⟨_, _, g__law_bases, k__law_bases, b__law_bases, o__law_bases⟩⟩
  have o__law_every := ok__law_every (P := l.prog) (w := w) (base := base) (k := 2) T E F__law_every
  have G__law_every : FnT l.prog w K mg base 3 "_law_every" ["_law_word", "_law_number", "_law_some", "_law_other"] _ := ⟨⟨_, _, g__law_every, k__law_every, b__law_every, o__law_every⟩⟩
  have o__law_kept := ok__law_kept (P := l.prog) (w := w) (base := base) (k := 2) T E sb F__law_kept
  have G__law_kept : FnTG l.prog w K mg base 3 "_law_kept" ["_law_every_here", "_law_word", "_law_number", "_law_some", "_law_other"] _ := ⟨⟨_, _, g__law_kept, k__law_kept, b__law_kept, o__law_kept⟩⟩
  exact ok_law (P := l.prog) (w := w) (base := base) (k := 3) T E sb (G__law_source.mono (by decide)) (G__law_pick.mono (by decide)) G__law_every (G__law_kinds.mono (by decide)) (G__law_bases.mono (by decide)) G__law_kept F_law
end K00

open PySem PySem.W PyProof.Rows in
set_option maxRecDepth 100000 in
set_option maxHeartbeats 0 in
theorem PySem.Challenge.cw_bushcoins_k00_errors_holds : PySem.Challenge.rw_bushcoins_k00_errors.Holds := by
  w_on; o_law; k_head; (case hw => w_witness2)
  k_fill
  refine Bc.walk_G (l := PySem.Challenge.rw_bushcoins_k00_errors) (k := 4) (x := "_law_script") rfl rfl ⟨rfl, by decide, by decide⟩ (by decide +kernel) (fun w h Y => PySem.W.kIn_of Y) ?F
  case F =>
    intro w mg fa h KX G hmg
    refine' K00.all_mk KX G hmg ?a__law_source ?l__law_source ?c__law_source ?k__law_source ?a__law_pick ?l__law_pick ?c__law_pick ?k__law_pick ?a__law_kinds ?l__law_kinds ?c__law_kinds ?k__law_kinds ?a__law_bases ?l__law_bases ?c__law_bases ?k__law_bases ?a__law_every ?l__law_every ?c__law_every ?k__law_every ?a__law_kept ?l__law_kept ?c__law_kept ?k__law_kept ?a_law ?l_law ?c_law ?k_law ?z_LookupError ?z_ValueError ?z_abs ?z_int ?z_isinstance ?z_len ?z_max ?z_range ?z_repr ?z_super ?z_tuple ?a_BushError ?x_BushError ?fi_BushError ?is_BushError ?ty_BushError ?a_NameMissing ?x_NameMissing ?fi_NameMissing ?is_NameMissing ?ty_NameMissing ?a_UnlikeGroves ?x_UnlikeGroves ?sa_UnlikeGroves ?kc_UnlikeGroves ?ex_UnlikeGroves ?ty_UnlikeGroves ?sb_UnlikeGroves ?ga_UnlikeGroves ?gg_UnlikeGroves ?hd_UnlikeGroves ?kl_UnlikeGroves ?ob_UnlikeGroves ?is_UnlikeGroves ?mr_UnlikeGroves ?i_UnlikeGroves ?t_UnlikeGroves ?l_UnlikeGroves ?c_UnlikeGroves ?lc_UnlikeGroves ?lv_UnlikeGroves ?lf_UnlikeGroves ?le_UnlikeGroves ?a_TooGreat ?x_TooGreat ?sa_TooGreat ?kc_TooGreat ?ex_TooGreat ?ty_TooGreat ?sb_TooGreat ?ga_TooGreat ?gg_TooGreat ?hd_TooGreat ?kl_TooGreat ?ob_TooGreat ?is_TooGreat ?mr_TooGreat ?i_TooGreat ?t_TooGreat ?l_TooGreat ?c_TooGreat ?lc_TooGreat ?lv_TooGreat ?lf_TooGreat ?le_TooGreat ?a_Overlaps ?x_Overlaps ?sa_Overlaps ?kc_Overlaps ?ex_Overlaps ?ty_Overlaps ?sb_Overlaps ?ga_Overlaps ?gg_Overlaps ?hd_Overlaps ?kl_Overlaps ?ob_Overlaps ?is_Overlaps ?mr_Overlaps ?i_Overlaps ?t_Overlaps ?l_Overlaps ?c_Overlaps ?lc_Overlaps ?lv_Overlaps ?lf_Overlaps ?le_Overlaps ?a_NothingDone ?x_NothingDone ?sa_NothingDone ?kc_NothingDone ?ex_NothingDone ?ty_NothingDone ?sb_NothingDone ?ga_NothingDone ?gg_NothingDone ?hd_NothingDone ?kl_NothingDone ?ob_NothingDone ?is_NothingDone ?mr_NothingDone ?i_NothingDone ?t_NothingDone ?l_NothingDone ?c_NothingDone ?lc_NothingDone ?lv_NothingDone ?lf_NothingDone ?le_NothingDone ?a_UnlikeStocks ?x_UnlikeStocks ?sa_UnlikeStocks ?kc_UnlikeStocks ?ex_UnlikeStocks ?ty_UnlikeStocks ?sb_UnlikeStocks ?ga_UnlikeStocks ?gg_UnlikeStocks ?hd_UnlikeStocks ?kl_UnlikeStocks ?ob_UnlikeStocks ?is_UnlikeStocks ?mr_UnlikeStocks ?i_UnlikeStocks ?t_UnlikeStocks ?no_UnlikeStocks_word ?l_UnlikeStocks ?c_UnlikeStocks ?lc_UnlikeStocks ?lv_UnlikeStocks ?lf_UnlikeStocks ?le_UnlikeStocks ?a_BadBook ?x_BadBook ?sa_BadBook ?kc_BadBook ?ex_BadBook ?ty_BadBook ?sb_BadBook ?ga_BadBook ?gg_BadBook ?hd_BadBook ?kl_BadBook ?ob_BadBook ?is_BadBook ?mr_BadBook ?i_BadBook ?t_BadBook ?no_BadBook_path ?l_BadBook ?c_BadBook ?lc_BadBook ?lv_BadBook ?lf_BadBook ?le_BadBook ?a_BadBag ?x_BadBag ?sa_BadBag ?kc_BadBag ?ex_BadBag ?ty_BadBag ?sb_BadBag ?ga_BadBag ?gg_BadBag ?hd_BadBag ?kl_BadBag ?ob_BadBag ?is_BadBag ?mr_BadBag ?i_BadBag ?t_BadBag ?no_BadBag_path ?l_BadBag ?c_BadBag ?lc_BadBag ?lv_BadBag ?lf_BadBag ?le_BadBag ?a_BadGrove ?x_BadGrove ?sa_BadGrove ?kc_BadGrove ?ex_BadGrove ?ty_BadGrove ?sb_BadGrove ?ga_BadGrove ?gg_BadGrove ?hd_BadGrove ?kl_BadGrove ?ob_BadGrove ?is_BadGrove ?mr_BadGrove ?i_BadGrove ?t_BadGrove ?no_BadGrove_path ?l_BadGrove ?c_BadGrove ?lc_BadGrove ?lv_BadGrove ?lf_BadGrove ?le_BadGrove ?a_BadAssembly ?x_BadAssembly ?sa_BadAssembly ?kc_BadAssembly ?ex_BadAssembly ?ty_BadAssembly ?sb_BadAssembly ?ga_BadAssembly ?gg_BadAssembly ?hd_BadAssembly ?kl_BadAssembly ?ob_BadAssembly ?is_BadAssembly ?mr_BadAssembly ?i_BadAssembly ?t_BadAssembly ?no_BadAssembly_path ?l_BadAssembly ?c_BadAssembly ?lc_BadAssembly ?lv_BadAssembly ?lf_BadAssembly ?le_BadAssembly ?a_BadPattern ?x_BadPattern ?sa_BadPattern ?kc_BadPattern ?ex_BadPattern ?ty_BadPattern ?sb_BadPattern ?ga_BadPattern ?gg_BadPattern ?hd_BadPattern ?kl_BadPattern ?ob_BadPattern ?is_BadPattern ?mr_BadPattern ?i_BadPattern ?t_BadPattern ?no_BadPattern_path ?l_BadPattern ?c_BadPattern ?lc_BadPattern ?lv_BadPattern ?lf_BadPattern ?le_BadPattern ?a_BadDeed ?x_BadDeed ?sa_BadDeed ?kc_BadDeed ?ex_BadDeed ?ty_BadDeed ?sb_BadDeed ?ga_BadDeed ?gg_BadDeed ?hd_BadDeed ?kl_BadDeed ?ob_BadDeed ?is_BadDeed ?mr_BadDeed ?i_BadDeed ?t_BadDeed ?no_BadDeed_number ?l_BadDeed ?c_BadDeed ?lc_BadDeed ?lv_BadDeed ?lf_BadDeed ?le_BadDeed ?a_BadAct ?x_BadAct ?sa_BadAct ?kc_BadAct ?ex_BadAct ?ty_BadAct ?sb_BadAct ?ga_BadAct ?gg_BadAct ?hd_BadAct ?kl_BadAct ?ob_BadAct ?is_BadAct ?mr_BadAct ?i_BadAct ?t_BadAct ?no_BadAct_word ?l_BadAct ?c_BadAct ?lc_BadAct ?lv_BadAct ?lf_BadAct ?le_BadAct ?a_BadText ?x_BadText ?sa_BadText ?kc_BadText ?ex_BadText ?ty_BadText ?sb_BadText ?ga_BadText ?gg_BadText ?hd_BadText ?kl_BadText ?ob_BadText ?is_BadText ?mr_BadText ?i_BadText ?t_BadText ?no_BadText_place ?l_BadText ?c_BadText ?lc_BadText ?lv_BadText ?lf_BadText ?le_BadText ?a_Unbuilt ?x_Unbuilt ?sa_Unbuilt ?kc_Unbuilt ?ex_Unbuilt ?ty_Unbuilt ?sb_Unbuilt ?ga_Unbuilt ?gg_Unbuilt ?hd_Unbuilt ?kl_Unbuilt ?ob_Unbuilt ?is_Unbuilt ?mr_Unbuilt ?i_Unbuilt ?t_Unbuilt ?no_Unbuilt_word ?no_Unbuilt_value ?l_Unbuilt ?c_Unbuilt ?lc_Unbuilt ?lv_Unbuilt ?lf_Unbuilt ?le_Unbuilt ?a_Clash ?x_Clash ?sa_Clash ?kc_Clash ?ex_Clash ?ty_Clash ?sb_Clash ?ga_Clash ?gg_Clash ?hd_Clash ?kl_Clash ?ob_Clash ?is_Clash ?mr_Clash ?i_Clash ?t_Clash ?no_Clash_number ?l_Clash ?c_Clash ?lc_Clash ?lv_Clash ?lf_Clash ?le_Clash ?a_UnknownName ?x_UnknownName ?sa_UnknownName ?kc_UnknownName ?ex_UnknownName ?ty_UnknownName ?sb_UnknownName ?ga_UnknownName ?gg_UnknownName ?hd_UnknownName ?kl_UnknownName ?ob_UnknownName ?is_UnknownName ?mr_UnknownName ?i_UnknownName ?t_UnknownName ?no_UnknownName_name ?l_UnknownName ?c_UnknownName ?lc_UnknownName ?lv_UnknownName ?lf_UnknownName ?le_UnknownName ?op ?nt ?nd
    (case a__law_source => k_is)
    (case l__law_source => k_is)
    (case c__law_source => k_is)
    (case k__law_source => k_is)
    (case a__law_pick => k_is)
    (case l__law_pick => k_is)
    (case c__law_pick => k_is)
    (case k__law_pick => k_is)
    (case a__law_kinds => k_is)
    (case l__law_kinds => k_is)
    (case c__law_kinds => k_is)
    (case k__law_kinds => k_is)
    (case a__law_bases => k_is)
    (case l__law_bases => k_is)
    (case c__law_bases => k_is)
    (case k__law_bases => k_is)
    (case a__law_every => k_is)
    (case l__law_every => k_is)
    (case c__law_every => k_is)
    (case k__law_every => k_is)
    (case a__law_kept => k_is)
    (case l__law_kept => k_is)
    (case c__law_kept => k_is)
    (case k__law_kept => k_is)
    (case a_law => k_is)
    (case l_law => k_is)
    (case c_law => k_is)
    (case k_law => k_is)
    (case z_LookupError => k_is)
    (case z_ValueError => k_is)
    (case z_abs => k_is)
    (case z_int => k_is)
    (case z_isinstance => k_is)
    (case z_len => k_is)
    (case z_max => k_is)
    (case z_range => k_is)
    (case z_repr => k_is)
    (case z_super => k_is)
    (case z_tuple => k_is)
    (case a_BushError => k_is)
    (case x_BushError => k_is)
    (case fi_BushError => k_is)
    (case is_BushError => k_is)
    (case ty_BushError => k_is)
    (case a_NameMissing => k_is)
    (case x_NameMissing => k_is)
    (case fi_NameMissing => k_is)
    (case is_NameMissing => k_is)
    (case ty_NameMissing => k_is)
    (case a_UnlikeGroves => k_is)
    (case x_UnlikeGroves => k_is)
    (case sa_UnlikeGroves => k_is)
    (case kc_UnlikeGroves => k_is)
    (case ex_UnlikeGroves => k_is)
    (case ty_UnlikeGroves => k_is)
    (case sb_UnlikeGroves => k_is)
    (case ga_UnlikeGroves => k_is)
    (case gg_UnlikeGroves => k_is)
    (case hd_UnlikeGroves => k_is)
    (case kl_UnlikeGroves => k_is)
    (case ob_UnlikeGroves => k_is)
    (case is_UnlikeGroves => k_is)
    (case mr_UnlikeGroves => k_is)
    (case i_UnlikeGroves => k_is)
    (case t_UnlikeGroves => k_is)
    (case l_UnlikeGroves => k_is)
    (case c_UnlikeGroves => k_is)
    (case lc_UnlikeGroves => k_is)
    (case lv_UnlikeGroves => rfl)
    (case lf_UnlikeGroves => decide +kernel)
    (case le_UnlikeGroves => k_is)
    (case a_TooGreat => k_is)
    (case x_TooGreat => k_is)
    (case sa_TooGreat => k_is)
    (case kc_TooGreat => k_is)
    (case ex_TooGreat => k_is)
    (case ty_TooGreat => k_is)
    (case sb_TooGreat => k_is)
    (case ga_TooGreat => k_is)
    (case gg_TooGreat => k_is)
    (case hd_TooGreat => k_is)
    (case kl_TooGreat => k_is)
    (case ob_TooGreat => k_is)
    (case is_TooGreat => k_is)
    (case mr_TooGreat => k_is)
    (case i_TooGreat => k_is)
    (case t_TooGreat => k_is)
    (case l_TooGreat => k_is)
    (case c_TooGreat => k_is)
    (case lc_TooGreat => k_is)
    (case lv_TooGreat => rfl)
    (case lf_TooGreat => decide +kernel)
    (case le_TooGreat => k_is)
    (case a_Overlaps => k_is)
    (case x_Overlaps => k_is)
    (case sa_Overlaps => k_is)
    (case kc_Overlaps => k_is)
    (case ex_Overlaps => k_is)
    (case ty_Overlaps => k_is)
    (case sb_Overlaps => k_is)
    (case ga_Overlaps => k_is)
    (case gg_Overlaps => k_is)
    (case hd_Overlaps => k_is)
    (case kl_Overlaps => k_is)
    (case ob_Overlaps => k_is)
    (case is_Overlaps => k_is)
    (case mr_Overlaps => k_is)
    (case i_Overlaps => k_is)
    (case t_Overlaps => k_is)
    (case l_Overlaps => k_is)
    (case c_Overlaps => k_is)
    (case lc_Overlaps => k_is)
    (case lv_Overlaps => rfl)
    (case lf_Overlaps => decide +kernel)
    (case le_Overlaps => k_is)
    (case a_NothingDone => k_is)
    (case x_NothingDone => k_is)
    (case sa_NothingDone => k_is)
    (case kc_NothingDone => k_is)
    (case ex_NothingDone => k_is)
    (case ty_NothingDone => k_is)
    (case sb_NothingDone => k_is)
    (case ga_NothingDone => k_is)
    (case gg_NothingDone => k_is)
    (case hd_NothingDone => k_is)
    (case kl_NothingDone => k_is)
    (case ob_NothingDone => k_is)
    (case is_NothingDone => k_is)
    (case mr_NothingDone => k_is)
    (case i_NothingDone => k_is)
    (case t_NothingDone => k_is)
    (case l_NothingDone => k_is)
    (case c_NothingDone => k_is)
    (case lc_NothingDone => k_is)
    (case lv_NothingDone => rfl)
    (case lf_NothingDone => decide +kernel)
    (case le_NothingDone => k_is)
    (case a_UnlikeStocks => k_is)
    (case x_UnlikeStocks => k_is)
    (case sa_UnlikeStocks => k_is)
    (case kc_UnlikeStocks => k_is)
    (case ex_UnlikeStocks => k_is)
    (case ty_UnlikeStocks => k_is)
    (case sb_UnlikeStocks => k_is)
    (case ga_UnlikeStocks => k_is)
    (case gg_UnlikeStocks => k_is)
    (case hd_UnlikeStocks => k_is)
    (case kl_UnlikeStocks => k_is)
    (case ob_UnlikeStocks => k_is)
    (case is_UnlikeStocks => k_is)
    (case mr_UnlikeStocks => k_is)
    (case i_UnlikeStocks => k_is)
    (case t_UnlikeStocks => k_is)
    (case no_UnlikeStocks_word => k_is)
    (case l_UnlikeStocks => k_is)
    (case c_UnlikeStocks => k_is)
    (case lc_UnlikeStocks => k_is)
    (case lv_UnlikeStocks => rfl)
    (case lf_UnlikeStocks => decide +kernel)
    (case le_UnlikeStocks => k_is)
    (case a_BadBook => k_is)
    (case x_BadBook => k_is)
    (case sa_BadBook => k_is)
    (case kc_BadBook => k_is)
    (case ex_BadBook => k_is)
    (case ty_BadBook => k_is)
    (case sb_BadBook => k_is)
    (case ga_BadBook => k_is)
    (case gg_BadBook => k_is)
    (case hd_BadBook => k_is)
    (case kl_BadBook => k_is)
    (case ob_BadBook => k_is)
    (case is_BadBook => k_is)
    (case mr_BadBook => k_is)
    (case i_BadBook => k_is)
    (case t_BadBook => k_is)
    (case no_BadBook_path => k_is)
    (case l_BadBook => k_is)
    (case c_BadBook => k_is)
    (case lc_BadBook => k_is)
    (case lv_BadBook => rfl)
    (case lf_BadBook => decide +kernel)
    (case le_BadBook => k_is)
    (case a_BadBag => k_is)
    (case x_BadBag => k_is)
    (case sa_BadBag => k_is)
    (case kc_BadBag => k_is)
    (case ex_BadBag => k_is)
    (case ty_BadBag => k_is)
    (case sb_BadBag => k_is)
    (case ga_BadBag => k_is)
    (case gg_BadBag => k_is)
    (case hd_BadBag => k_is)
    (case kl_BadBag => k_is)
    (case ob_BadBag => k_is)
    (case is_BadBag => k_is)
    (case mr_BadBag => k_is)
    (case i_BadBag => k_is)
    (case t_BadBag => k_is)
    (case no_BadBag_path => k_is)
    (case l_BadBag => k_is)
    (case c_BadBag => k_is)
    (case lc_BadBag => k_is)
    (case lv_BadBag => rfl)
    (case lf_BadBag => decide +kernel)
    (case le_BadBag => k_is)
    (case a_BadGrove => k_is)
    (case x_BadGrove => k_is)
    (case sa_BadGrove => k_is)
    (case kc_BadGrove => k_is)
    (case ex_BadGrove => k_is)
    (case ty_BadGrove => k_is)
    (case sb_BadGrove => k_is)
    (case ga_BadGrove => k_is)
    (case gg_BadGrove => k_is)
    (case hd_BadGrove => k_is)
    (case kl_BadGrove => k_is)
    (case ob_BadGrove => k_is)
    (case is_BadGrove => k_is)
    (case mr_BadGrove => k_is)
    (case i_BadGrove => k_is)
    (case t_BadGrove => k_is)
    (case no_BadGrove_path => k_is)
    (case l_BadGrove => k_is)
    (case c_BadGrove => k_is)
    (case lc_BadGrove => k_is)
    (case lv_BadGrove => rfl)
    (case lf_BadGrove => decide +kernel)
    (case le_BadGrove => k_is)
    (case a_BadAssembly => k_is)
    (case x_BadAssembly => k_is)
    (case sa_BadAssembly => k_is)
    (case kc_BadAssembly => k_is)
    (case ex_BadAssembly => k_is)
    (case ty_BadAssembly => k_is)
    (case sb_BadAssembly => k_is)
    (case ga_BadAssembly => k_is)
    (case gg_BadAssembly => k_is)
    (case hd_BadAssembly => k_is)
    (case kl_BadAssembly => k_is)
    (case ob_BadAssembly => k_is)
    (case is_BadAssembly => k_is)
    (case mr_BadAssembly => k_is)
    (case i_BadAssembly => k_is)
    (case t_BadAssembly => k_is)
    (case no_BadAssembly_path => k_is)
    (case l_BadAssembly => k_is)
    (case c_BadAssembly => k_is)
    (case lc_BadAssembly => k_is)
    (case lv_BadAssembly => rfl)
    (case lf_BadAssembly => decide +kernel)
    (case le_BadAssembly => k_is)
    (case a_BadPattern => k_is)
    (case x_BadPattern => k_is)
    (case sa_BadPattern => k_is)
    (case kc_BadPattern => k_is)
    (case ex_BadPattern => k_is)
    (case ty_BadPattern => k_is)
    (case sb_BadPattern => k_is)
    (case ga_BadPattern => k_is)
    (case gg_BadPattern => k_is)
    (case hd_BadPattern => k_is)
    (case kl_BadPattern => k_is)
    (case ob_BadPattern => k_is)
    (case is_BadPattern => k_is)
    (case mr_BadPattern => k_is)
    (case i_BadPattern => k_is)
    (case t_BadPattern => k_is)
    (case no_BadPattern_path => k_is)
    (case l_BadPattern => k_is)
    (case c_BadPattern => k_is)
    (case lc_BadPattern => k_is)
    (case lv_BadPattern => rfl)
    (case lf_BadPattern => decide +kernel)
    (case le_BadPattern => k_is)
    (case a_BadDeed => k_is)
    (case x_BadDeed => k_is)
    (case sa_BadDeed => k_is)
    (case kc_BadDeed => k_is)
    (case ex_BadDeed => k_is)
    (case ty_BadDeed => k_is)
    (case sb_BadDeed => k_is)
    (case ga_BadDeed => k_is)
    (case gg_BadDeed => k_is)
    (case hd_BadDeed => k_is)
    (case kl_BadDeed => k_is)
    (case ob_BadDeed => k_is)
    (case is_BadDeed => k_is)
    (case mr_BadDeed => k_is)
    (case i_BadDeed => k_is)
    (case t_BadDeed => k_is)
    (case no_BadDeed_number => k_is)
    (case l_BadDeed => k_is)
    (case c_BadDeed => k_is)
    (case lc_BadDeed => k_is)
    (case lv_BadDeed => rfl)
    (case lf_BadDeed => decide +kernel)
    (case le_BadDeed => k_is)
    (case a_BadAct => k_is)
    (case x_BadAct => k_is)
    (case sa_BadAct => k_is)
    (case kc_BadAct => k_is)
    (case ex_BadAct => k_is)
    (case ty_BadAct => k_is)
    (case sb_BadAct => k_is)
    (case ga_BadAct => k_is)
    (case gg_BadAct => k_is)
    (case hd_BadAct => k_is)
    (case kl_BadAct => k_is)
    (case ob_BadAct => k_is)
    (case is_BadAct => k_is)
    (case mr_BadAct => k_is)
    (case i_BadAct => k_is)
    (case t_BadAct => k_is)
    (case no_BadAct_word => k_is)
    (case l_BadAct => k_is)
    (case c_BadAct => k_is)
    (case lc_BadAct => k_is)
    (case lv_BadAct => rfl)
    (case lf_BadAct => decide +kernel)
    (case le_BadAct => k_is)
    (case a_BadText => k_is)
    (case x_BadText => k_is)
    (case sa_BadText => k_is)
    (case kc_BadText => k_is)
    (case ex_BadText => k_is)
    (case ty_BadText => k_is)
    (case sb_BadText => k_is)
    (case ga_BadText => k_is)
    (case gg_BadText => k_is)
    (case hd_BadText => k_is)
    (case kl_BadText => k_is)
    (case ob_BadText => k_is)
    (case is_BadText => k_is)
    (case mr_BadText => k_is)
    (case i_BadText => k_is)
    (case t_BadText => k_is)
    (case no_BadText_place => k_is)
    (case l_BadText => k_is)
    (case c_BadText => k_is)
    (case lc_BadText => k_is)
    (case lv_BadText => rfl)
    (case lf_BadText => decide +kernel)
    (case le_BadText => k_is)
    (case a_Unbuilt => k_is)
    (case x_Unbuilt => k_is)
    (case sa_Unbuilt => k_is)
    (case kc_Unbuilt => k_is)
    (case ex_Unbuilt => k_is)
    (case ty_Unbuilt => k_is)
    (case sb_Unbuilt => k_is)
    (case ga_Unbuilt => k_is)
    (case gg_Unbuilt => k_is)
    (case hd_Unbuilt => k_is)
    (case kl_Unbuilt => k_is)
    (case ob_Unbuilt => k_is)
    (case is_Unbuilt => k_is)
    (case mr_Unbuilt => k_is)
    (case i_Unbuilt => k_is)
    (case t_Unbuilt => k_is)
    (case no_Unbuilt_word => k_is)
    (case no_Unbuilt_value => k_is)
    (case l_Unbuilt => k_is)
    (case c_Unbuilt => k_is)
    (case lc_Unbuilt => k_is)
    (case lv_Unbuilt => rfl)
    (case lf_Unbuilt => decide +kernel)
    (case le_Unbuilt => k_is)
    (case a_Clash => k_is)
    (case x_Clash => k_is)
    (case sa_Clash => k_is)
    (case kc_Clash => k_is)
    (case ex_Clash => k_is)
    (case ty_Clash => k_is)
    (case sb_Clash => k_is)
    (case ga_Clash => k_is)
    (case gg_Clash => k_is)
    (case hd_Clash => k_is)
    (case kl_Clash => k_is)
    (case ob_Clash => k_is)
    (case is_Clash => k_is)
    (case mr_Clash => k_is)
    (case i_Clash => k_is)
    (case t_Clash => k_is)
    (case no_Clash_number => k_is)
    (case l_Clash => k_is)
    (case c_Clash => k_is)
    (case lc_Clash => k_is)
    (case lv_Clash => rfl)
    (case lf_Clash => decide +kernel)
    (case le_Clash => k_is)
    (case a_UnknownName => k_is)
    (case x_UnknownName => k_is)
    (case sa_UnknownName => k_is)
    (case kc_UnknownName => k_is)
    (case ex_UnknownName => k_is)
    (case ty_UnknownName => k_is)
    (case sb_UnknownName => k_is)
    (case ga_UnknownName => k_is)
    (case gg_UnknownName => k_is)
    (case hd_UnknownName => k_is)
    (case kl_UnknownName => k_is)
    (case ob_UnknownName => k_is)
    (case is_UnknownName => k_is)
    (case mr_UnknownName => k_is)
    (case i_UnknownName => k_is)
    (case t_UnknownName => k_is)
    (case no_UnknownName_name => k_is)
    (case l_UnknownName => k_is)
    (case c_UnknownName => k_is)
    (case lc_UnknownName => k_is)
    (case lv_UnknownName => rfl)
    (case lf_UnknownName => decide +kernel)
    (case le_UnknownName => k_is)
    (case op => k_is)
    (case nt => decide +kernel)
    (case nd => decide +kernel)

