import PyProof.Rows.All
import Wide.All
import OpenK.AllK
import Wide.FinOn
import HandS.ForMost
import HandS.Evl
import HandS.ExcInit
import HandS.ExcField
import HandS.ExcOwn
import HandS.WordsExc
import KE.KExcSuper
import KE.KSuper
import HandS.EndBits
import HandS.Deep
import HandS.Sort
import HandS.TupAny
import HandS.IsInst
import HandS.StrMore
import HandS.Text
import HandS.RaiseMore
import HandS.Nested
import HandS.Star
import HandS.CallLocal
import PyProof.ReprRoads
import HandS.Style
import HandS.Steps
import PySem.Challenge.RW_bushcoins_k14_texts_of_scripts
set_option Elab.async false
set_option linter.all false
set_option maxRecDepth 100000
set_option maxHeartbeats 4000000
/-! Core 1: plain data, what of the heap is data (S), what grows, states by data. -/
namespace Bc
open PySem L2
/-- plain data -/
inductive D where
  | none | bool (b : Bool) | int (i : Int) | str (s : Str) | list (l : List D) | tuple (l : List D) | dict (l : List (Key × D)) | obj (C : Addr) (l : List (Str × D)) | ref (a : Addr)
mutual
def Dt (S : Hp) : D → V → Prop
  | .none, v => v = .non
  | .bool b, v => v = .bl b
  | .int i, v => v = .int i
  | .str s, v => v = .str s
  | .ref a, v => v = .ref a
  | .list ds, v => ∃ a xs, v = .ref a ∧ S a = some (.lst xs) ∧ DtL S ds xs
  | .tuple ds, v => ∃ a xs, v = .ref a ∧ S a = some (.tup xs) ∧ DtL S ds xs
  | .dict kvs, v => ∃ a ks, v = .ref a ∧ S a = some (.dK ks) ∧ DtK S kvs ks
  | .obj C fs, v => ∃ a dx vs, v = .ref a ∧ S a = some (.ins C dx vs) ∧ DtF S fs vs
def DtL (S : Hp) : List D → List V → Prop
  | [], xs => xs = []
  | d :: ds, xs => ∃ x ys, xs = x :: ys ∧ Dt S d x ∧ DtL S ds ys
def DtK (S : Hp) : List (Key × D) → List (Key × V) → Prop
  | [], xs => xs = []
  | (k, d) :: ds, xs => ∃ x ys, xs = (k, x) :: ys ∧ Dt S d x ∧ DtK S ds ys
def DtF (S : Hp) : List (Str × D) → List (Str × V) → Prop
  | [], xs => xs = []
  | (k, d) :: ds, xs => ∃ x ys, xs = (k, x) :: ys ∧ Dt S d x ∧ DtF S ds ys
end
mutual
theorem Dt.mono {S S' : Hp} (e : Same S S') : ∀ (d : D) (v : V), Dt S d v → Dt S' d v
  | .none, v, h => by simpa only [Dt] using h
  | .bool b, v, h => by simpa only [Dt] using h
  | .int i, v, h => by simpa only [Dt] using h
  | .str s, v, h => by simpa only [Dt] using h
  | .ref a, v, h => by simpa only [Dt] using h
  | .list ds, v, h => by
    simp only [Dt] at h ⊢
    obtain ⟨a, xs, e1, e2, h⟩ := h
    exact ⟨a, xs, e1, e _ _ e2, DtL.mono e ds xs h⟩
  | .tuple ds, v, h => by
    simp only [Dt] at h ⊢
    obtain ⟨a, xs, e1, e2, h⟩ := h
    exact ⟨a, xs, e1, e _ _ e2, DtL.mono e ds xs h⟩
  | .dict ds, v, h => by
    simp only [Dt] at h ⊢
    obtain ⟨a, xs, e1, e2, h⟩ := h
    exact ⟨a, xs, e1, e _ _ e2, DtK.mono e ds xs h⟩
  | .obj C ds, v, h => by
    simp only [Dt] at h ⊢
    obtain ⟨a, dx, xs, e1, e2, h⟩ := h
    exact ⟨a, dx, xs, e1, e _ _ e2, DtF.mono e ds xs h⟩
theorem DtL.mono {S S' : Hp} (e : Same S S') : ∀ (d : List D) (v : List V), DtL S d v → DtL S' d v
  | [], v, h => by simpa only [DtL] using h
  | d :: ds, v, h => by
    simp only [DtL] at h ⊢
    obtain ⟨x, ys, e1, h1, h2⟩ := h
    exact ⟨x, ys, e1, Dt.mono e d x h1, DtL.mono e ds ys h2⟩
theorem DtK.mono {S S' : Hp} (e : Same S S') : ∀ (d : List (Key × D)) (v : List (Key × V)), DtK S d v → DtK S' d v
  | [], v, h => by simpa only [DtK] using h
  | (k, d) :: ds, v, h => by
    simp only [DtK] at h ⊢
    obtain ⟨x, ys, e1, h1, h2⟩ := h
    exact ⟨x, ys, e1, Dt.mono e d x h1, DtK.mono e ds ys h2⟩
theorem DtF.mono {S S' : Hp} (e : Same S S') : ∀ (d : List (Str × D)) (v : List (Str × V)), DtF S d v → DtF S' d v
  | [], v, h => by simpa only [DtF] using h
  | (k, d) :: ds, v, h => by
    simp only [DtF] at h ⊢
    obtain ⟨x, ys, e1, h1, h2⟩ := h
    exact ⟨x, ys, e1, Dt.mono e d x h1, DtF.mono e ds ys h2⟩
end
section
variable {S S' H H' : Hp}
theorem dtl_nil : DtL S [] [] := by simp only [DtL]
theorem dtl_cons {d : D} {x : V} {ds : List D} {xs : List V} (h : Dt S d x) (t : DtL S ds xs) : DtL S (d :: ds) (x :: xs) := by
  simp only [DtL]
  exact ⟨x, xs, rfl, h, t⟩
theorem DtL.len : ∀ {ds : List D} {xs : List V}, DtL S ds xs → ds.length = xs.length
  | [], xs, h => by simp only [DtL] at h; rw [h]; rfl
  | d :: ds, xs, h => by
    simp only [DtL] at h
    obtain ⟨x, ys, rfl, _, h⟩ := h
    rw [List.length_cons, List.length_cons, DtL.len h]
theorem DtL.get : ∀ {ds : List D} {xs : List V} {i : Nat} {d : D}, DtL S ds xs → ds[i]? = some d → ∃ x, xs[i]? = some x ∧ Dt S d x
  | [], xs, i, d, h, e => by simp at e
  | d :: ds, xs, 0, d', h, e => by
    simp only [DtL] at h
    obtain ⟨x, ys, rfl, h1, _⟩ := h
    simp at e
    subst e
    exact ⟨x, rfl, h1⟩
  | d :: ds, xs, i + 1, d', h, e => by
    simp only [DtL] at h
    obtain ⟨x, ys, rfl, _, h⟩ := h
    simpa using DtL.get h (by simpa using e)
theorem DtL.get' {ds : List D} {xs : List V} {i : Nat} {x : V} (h : DtL S ds xs) (e : xs[i]? = some x) : ∃ d, ds[i]? = some d ∧ Dt S d x := by
  obtain ⟨hi, _⟩ := List.getElem?_eq_some_iff.mp e
  rw [← h.len] at hi
  obtain ⟨y, e2, hy⟩ := h.get (i := i) (d := ds[i]) (by simp [hi])
  rw [e] at e2
  cases e2
  exact ⟨_, by simp [hi], hy⟩
theorem DtL.append : ∀ {ds es : List D} {xs ys : List V}, DtL S ds xs → DtL S es ys → DtL S (ds ++ es) (xs ++ ys)
  | [], es, xs, ys, h, k => by simp only [DtL] at h; subst h; exact k
  | d :: ds, es, xs, ys, h, k => by
    simp only [DtL] at h
    obtain ⟨x, zs, rfl, h1, h⟩ := h
    exact dtl_cons h1 (DtL.append h k)
theorem DtL.take : ∀ {ds : List D} {xs : List V} (n : Nat), DtL S ds xs → DtL S (ds.take n) (xs.take n)
  | ds, xs, 0, h => by simpa using dtl_nil
  | [], xs, n + 1, h => by simp only [DtL] at h; subst h; simpa using dtl_nil
  | d :: ds, xs, n + 1, h => by
    simp only [DtL] at h
    obtain ⟨x, zs, rfl, h1, h⟩ := h
    exact dtl_cons h1 (DtL.take n h)
theorem DtL.drop : ∀ {ds : List D} {xs : List V} (n : Nat), DtL S ds xs → DtL S (ds.drop n) (xs.drop n)
  | ds, xs, 0, h => h
  | [], xs, n + 1, h => by simp only [DtL] at h; subst h; simpa using dtl_nil
  | d :: ds, xs, n + 1, h => by
    simp only [DtL] at h
    obtain ⟨x, zs, rfl, h1, h⟩ := h
    exact DtL.drop n h
theorem DtL.rev {ds : List D} {xs : List V} (h : DtL S ds xs) : DtL S ds.reverse xs.reverse := by
  induction ds generalizing xs with
  | nil => simp only [DtL] at h; subst h; exact dtl_nil
  | cons d ds ih =>
    simp only [DtL] at h
    obtain ⟨x, zs, rfl, h1, h⟩ := h
    rw [List.reverse_cons, List.reverse_cons]
    exact (ih h).append (dtl_cons h1 dtl_nil)
theorem DtL.set : ∀ {ds : List D} {xs : List V} (n : Nat) {d : D} {x : V}, DtL S ds xs → Dt S d x → DtL S (ds.set n d) (xs.set n x)
  | [], xs, n, _, _, h, _ => by simp only [DtL] at h; subst h; simpa using dtl_nil
  | d :: ds, xs, 0, _, _, h, k => by
    simp only [DtL] at h
    obtain ⟨x, zs, rfl, h1, h⟩ := h
    exact dtl_cons k h
  | d :: ds, xs, n + 1, _, _, h, k => by
    simp only [DtL] at h
    obtain ⟨x, zs, rfl, h1, h⟩ := h
    exact dtl_cons h1 (DtL.set n h k)
theorem DtL.erase : ∀ {ds : List D} {xs : List V} (n : Nat), DtL S ds xs → DtL S (ds.eraseIdx n) (xs.eraseIdx n)
  | [], xs, n, h => by simp only [DtL] at h; subst h; simpa using dtl_nil
  | d :: ds, xs, 0, h => by
    simp only [DtL] at h
    obtain ⟨x, zs, rfl, h1, h⟩ := h
    exact h
  | d :: ds, xs, n + 1, h => by
    simp only [DtL] at h
    obtain ⟨x, zs, rfl, h1, h⟩ := h
    exact dtl_cons h1 (DtL.erase n h)
end

/-! ### the source of draws -/
def SrcAt (H : Hp) (a c : Addr) : Prop := ∃ (ns : List Int) (l m t : Int), H a = some (.dK [(Sum.inr "cells", .ref c), (Sum.inr "left", .int l), (Sum.inr "mixed", .int m), (Sum.inr "turn", .int t)]) ∧ H c = some (.lst (ns.map V.int)) ∧ ns.length ≤ 63
abbrev Fp := Option (Addr × Addr)
/-- what a def may change -/
def fp (F : Fp) (x : Addr) : Prop := ∃ a c, F = some (a, c) ∧ (x = a ∨ x = c)
structure Okw (F : Fp) (S H : Hp) : Prop where
  s : Same S H
  src : ∀ a c, F = some (a, c) → S a = Option.none ∧ S c = Option.none ∧ SrcAt H a c
theorem Okw.nfp {F : Fp} {S H : Hp} (w : Okw F S H) {x : Addr} {o : HO} (h : S x = some o) : ¬ fp F x := by
  rintro ⟨a, c, e, z⟩
  obtain ⟨h1, h2, _⟩ := w.src a c e
  rcases z with rfl | rfl
  · rw [h] at h1; cases h1
  · rw [h] at h2; cases h2
/-- from (S, H) to (S', H'): all data stays, what is new in the data was not in the heap, nothing but F's own changes -/
structure Gr (F : Fp) (S H S' H' : Hp) : Prop where
  s : Same S S'
  h : Same S' H'
  n : ∀ x o, H x = some o → S' x = S x
  k : ∀ x o, ¬ fp F x → H x = some o → H' x = some o
  m : ∀ x o, H x = some o → ∃ o', H' x = some o'
  src : ∀ a c, F = some (a, c) → SrcAt H a c → SrcAt H' a c
section
variable {F : Fp} {S H S' H' S1 H1 S2 H2 : Hp}
theorem Gr.refl (h : Same S H) : Gr F S H S H := ⟨fun _ _ e => e, h, fun _ _ _ => rfl, fun _ _ _ e => e, fun _ o e => ⟨o, e⟩, fun _ _ _ h => h⟩
theorem Gr.trans (a : Gr F S H S1 H1) (b : Gr F S1 H1 S2 H2) : Gr F S H S2 H2 where
  s := a.s.trans b.s
  h := b.h
  n := fun x o e => by
    obtain ⟨o', e'⟩ := a.m x o e
    rw [b.n x o' e', a.n x o e]
  k := fun x o hx e => b.k x o hx (a.k x o hx e)
  m := fun x o e => by
    obtain ⟨o', e'⟩ := a.m x o e
    exact b.m x o' e'
  src := fun p c e h => b.src p c e (a.src p c e h)
theorem Gr.ok (g : Gr F S H S' H') (w : Okw F S H) : Okw F S' H' := ⟨g.h, fun a c e => by
  obtain ⟨h1, h2, h3⟩ := w.src a c e
  obtain ⟨ns, l, m, t, e1, e2, _⟩ := id h3
  exact ⟨by rw [g.n _ _ e1]; exact h1, by rw [g.n _ _ e2]; exact h2, g.src a c e h3⟩⟩
theorem Okw.base (w : Okw F S H) : Okw none S H := ⟨w.s, fun _ _ e => nomatch e⟩
theorem nfp0 (x : Addr) : ¬ fp Option.none x := fun ⟨_, _, e, _⟩ => nomatch e
/-- where nothing was changed, F's own isn't either -/
theorem Gr.up (g : Gr Option.none S H S' H') : Gr F S H S' H' := ⟨g.s, g.h, g.n, fun x o _ e => g.k x o (nfp0 x) e, g.m, fun a c _ ⟨ns, l, m, t, e1, e2, e3⟩ => ⟨ns, l, m, t, g.k _ _ (nfp0 _) e1, g.k _ _ (nfp0 _) e2, e3⟩⟩
/-- a new object that is no data yet -/
theorem Gr.new (w : Same S H) {p : Addr} {o : HO} (hp : H p = Option.none) : Gr F S H S (upd H p o) :=
  Gr.up ⟨fun _ _ e => e, fun x u e => by rw [upd_ne (ne_of_none (w x u e) hp)]; exact w x u e, fun _ _ _ => rfl, fun x u _ e => by rw [upd_ne (ne_of_none e hp)]; exact e, fun x u e => ⟨u, by rw [upd_ne (ne_of_none e hp)]; exact e⟩, fun _ _ e _ => nomatch e⟩
/-- .. that is data -/
theorem Gr.newD (w : Same S H) {p : Addr} {o : HO} (hp : H p = Option.none) : Gr F S H (upd S p o) (upd H p o) := by
  have hs : S p = Option.none := Same.free w hp
  refine Gr.up ⟨fun x u e => by rw [upd_ne (ne_of_none e hs)]; exact e, fun x u e => ?_, fun x u e => by rw [upd_ne (ne_of_none e hp)], fun x u _ e => by rw [upd_ne (ne_of_none e hp)]; exact e, fun x u e => ⟨u, by rw [upd_ne (ne_of_none e hp)]; exact e⟩, fun _ _ e _ => nomatch e⟩
  by_cases hx : x = p
  · subst hx
    rw [upd_same] at e ⊢
    exact e
  · rw [upd_ne hx] at e ⊢
    exact w x u e
/-- an object made on the way becomes data -/
theorem Gr.freeze (g : Gr F S H S' H') {p : Addr} {o : HO} (hp : H p = Option.none) (h' : H' p = some o) : Gr F S H (upd S' p o) H' where
  s := fun x u e => by
    by_cases hx : x = p
    · subst hx
      have := g.h _ _ (g.s _ _ e)
      rw [h'] at this
      cases this
      exact upd_same
    · rw [upd_ne hx]
      exact g.s _ _ e
  h := fun x u e => by
    by_cases hx : x = p
    · subst hx
      rw [upd_same] at e
      cases e
      exact h'
    · rw [upd_ne hx] at e
      exact g.h _ _ e
  n := fun x u e => by
    rw [upd_ne (ne_of_none e hp)]
    exact g.n x u e
  k := g.k
  m := g.m
  src := g.src
/-- an object made on the way is changed -/
theorem Gr.mut (g : Gr F S H S' H') {p : Addr} {o u : HO} (hp : H p = Option.none) (hs : S' p = Option.none) (h' : H' p = some u) : Gr F S H S' (upd H' p o) where
  s := g.s
  h := fun x v e => by
    rw [upd_ne (ne_of_none e hs)]
    exact g.h _ _ e
  n := g.n
  k := fun x v hx e => by
    rw [upd_ne (ne_of_none e hp)]
    exact g.k x v hx e
  m := fun x v e => by
    rw [upd_ne (ne_of_none e hp)]
    exact g.m x v e
  src := fun a c e z => by
    obtain ⟨ns, l, m, t, e1, e2, e3⟩ := id z
    obtain ⟨ns', l', m', t', f1, f2, f3⟩ := g.src a c e z
    exact ⟨ns', l', m', t', by rw [upd_ne (ne_of_none e1 hp)]; exact f1, by rw [upd_ne (ne_of_none e2 hp)]; exact f2, f3⟩
end

/-! ### states -/
/-- what a slot holds: anything; data; a list of the def's own that may change; the source -/
inductive Sl where
  | un | v (d : D) | own (l : List D) | src
  | ob (a dx C : Addr) (fs : List (Str × D))
  | xc (W : WX) (PX : Value → Option (List (Str × D)) → Prop) (l : List (Option D)) | fz (a : Addr) (fs : List (Str × D))
/-- an exception's dict (data by now), if it has one -/
def XdAt (S : Hp) (d : Option Addr) : Option (List (Str × D)) → Prop
  | Option.none => d = Option.none
  | some l => ∃ a vs, d = some a ∧ S a = some (.xd vs) ∧ DtF S l vs
theorem XdAt.mono {S S' : Hp} (e : Same S S') {d : Option Addr} {fs : Option (List (Str × D))} (h : XdAt S d fs) : XdAt S' d fs := by
  cases fs with
  | none => exact h
  | some l =>
    obtain ⟨a, vs, e1, e2, h⟩ := h
    exact ⟨a, vs, e1, e _ _ e2, h.mono e⟩
/-- from (S, H) to (S', H'), where the def's own may have changed: H0 is the entry -/
structure Gw (F : Fp) (H0 S H S' H' : Hp) : Prop where
  s : Same S S'
  h : Same S' H'
  n : ∀ x o, H0 x = some o → S' x = S x
  k : ∀ x o u, ¬ fp F x → H0 x = some o → H x = some u → H' x = some u
  m : ∀ x o, H0 x = some o → ∃ o', H' x = some o'
  src : ∀ a c, F = some (a, c) → SrcAt H a c → SrcAt H' a c
theorem Gw.trans {F : Fp} {H0 S H S1 H1 S2 H2 : Hp} (a : Gw F H0 S H S1 H1) (b : Gw F H0 S1 H1 S2 H2) : Gw F H0 S H S2 H2 :=
  ⟨a.s.trans b.s, b.h, fun x o e => (b.n x o e).trans (a.n x o e), fun x o u f e z => b.k x o u f e (a.k x o u f e z), b.m, fun p c e z => b.src p c e (a.src p c e z)⟩
theorem Gr.w {F : Fp} {H0 S H S' H' : Hp} (g : Gr F S H S' H') (hd : ∀ x o, H0 x = some o → ∃ o', H x = some o') : Gw F H0 S H S' H' :=
  ⟨g.s, g.h, fun x o e => (hd x o e).elim fun o' e' => g.n x o' e', fun x o u f _ z => g.k x u f z, fun x o e => (hd x o e).elim fun o' e' => g.m x o' e', g.src⟩
theorem Gw.gr {F : Fp} {S0 H0 S H S' H' : Hp} (g : Gr F S0 H0 S H) (k : Gw F H0 S H S' H') : Gr F S0 H0 S' H' :=
  ⟨g.s.trans k.s, k.h, fun x o e => (k.n x o e).trans (g.n x o e), fun x o f e => k.k x o o f e (g.k x o f e), k.m, fun a c e z => k.src a c e (g.src a c e z)⟩
theorem Gw.ok {F : Fp} {H0 S H S' H' : Hp} (k : Gw F H0 S H S' H') (w : Okw F S H) (fh : ∀ x, fp F x → ∃ o, H0 x = some o) : Okw F S' H' := ⟨k.h, fun a c e => by
  obtain ⟨h1, h2, h3⟩ := w.src a c e
  obtain ⟨o1, e1⟩ := fh a ⟨a, c, e, .inl rfl⟩
  obtain ⟨o2, e2⟩ := fh c ⟨a, c, e, .inr rfl⟩
  exact ⟨by rw [k.n _ _ e1]; exact h1, by rw [k.n _ _ e2]; exact h2, k.src a c e h3⟩⟩
/-- one own object of the def becomes data -/
theorem Gw.frz {F : Fp} {H0 S H : Hp} {p : Addr} {o : HO} (w : Same S H) (h1 : H p = some o) (h2 : S p = Option.none) (h3 : H0 p = Option.none) (hd : ∀ x o, H0 x = some o → ∃ o', H x = some o') : Gw F H0 S H (upd S p o) H :=
  ⟨fun x u e => by rw [upd_ne (ne_of_none e h2)]; exact e, fun x u e => by
    by_cases hx : x = p
    · subst hx
      rw [upd_same] at e
      cases e
      exact h1
    · rw [upd_ne hx] at e
      exact w x u e, fun x o e => upd_ne (ne_of_none e h3), fun _ _ _ _ _ e => e, hd, fun _ _ _ e => e⟩
/-- .. or is changed -/
theorem Gw.mut {F : Fp} {H0 S H : Hp} {p : Addr} {o u : HO} (w : Same S H) (h1 : H p = some u) (h2 : S p = Option.none) (h3 : H0 p = Option.none) (nf : ¬ fp F p) (hd : ∀ x o, H0 x = some o → ∃ o', H x = some o') : Gw F H0 S H S (upd H p o) :=
  ⟨fun _ _ e => e, fun x v e => by rw [upd_ne (ne_of_none e h2)]; exact w x v e, fun _ _ _ => rfl, fun x v v' _ e e' => by rw [upd_ne (ne_of_none e h3)]; exact e', fun x v e => by
    rw [upd_ne (ne_of_none e h3)]
    exact hd x v e, fun a c e z => by
    obtain ⟨ns, l, m, t, z3, z4, z5⟩ := z
    have n1 : a ≠ p := fun z => nf ⟨a, c, e, .inl z.symm⟩
    have n2 : c ≠ p := fun z => nf ⟨a, c, e, .inr z.symm⟩
    exact ⟨ns, l, m, t, by rw [upd_ne n1]; exact z3, by rw [upd_ne n2]; exact z4, z5⟩⟩
/-- an exception that leaves from here on finds its way W: of the slots, those in l are told -/
structure XcOk (F : Fp) (S H H0 : Hp) (W : WX) (PX : Value → Option (List (Str × D)) → Prop) (l : List (Option D)) : Prop where
  hd : ∀ x o, H0 x = some o → ∃ o', H x = some o'
  go : ∀ (S' H' : Hp) (c : Value) (d : Option Addr) (fs : Option (List (Str × D))) (σ : L2.St), Gw F H0 S H S' H' → PX c fs → XdAt S' d fs → σ.length = l.length → (∀ (i : Nat) (x : D), l[i]? = some (some x) → ∃ y, σ[i]? = some (some y) ∧ Dt S' x y) → W c d σ H'
theorem XcOk.mono {F : Fp} {S H H0 S1 H1 : Hp} {W : WX} {PX : Value → Option (List (Str × D)) → Prop} {l : List (Option D)} (h : XcOk F S H H0 W PX l) (g : Gw F H0 S H S1 H1) : XcOk F S1 H1 H0 W PX l :=
  ⟨g.m, fun S2 H2 c d fs σ g2 => h.go S2 H2 c d fs σ (g.trans g2)⟩
def SlOk (F : Fp) (S H H0 : Hp) : Sl → Option V → Prop
  | .un, _ => True
  | .v d, x => ∃ y, x = some y ∧ Dt S d y
  | .own ds, x => ∃ p xs, x = some (.ref p) ∧ H p = some (.lst xs) ∧ S p = Option.none ∧ H0 p = Option.none ∧ DtL S ds xs
  | .src, x => ∃ a c, F = some (a, c) ∧ x = some (.ref a)
  | .ob a dx C fs, x => ∃ vs, x = some (.ref a) ∧ H a = some (.ins C dx vs) ∧ H dx = some (.own a) ∧ S a = Option.none ∧ S dx = Option.none ∧ H0 a = Option.none ∧ H0 dx = Option.none ∧ DtF S fs vs
  | .xc W PX l, _ => XcOk F S H H0 W PX l
  | .fz a fs, _ => ∃ vs, S a = some (.xd vs) ∧ DtF S fs vs
structure StD (F : Fp) (S H H0 : Hp) (σ : L2.St) (Δ : List Sl) : Prop where
  len : σ.length = Δ.length
  ok : ∀ (i : Nat) (s : Sl), Δ[i]? = some s → ∃ x, σ[i]? = some x ∧ SlOk F S H H0 s x
  nd : ∀ (i j : Nat) ds es p, Δ[i]? = some (.own ds) → Δ[j]? = some (.own es) → σ[i]? = some (some (.ref p)) → σ[j]? = some (some (.ref p)) → i = j
  fh : ∀ x, fp F x → ∃ o, H0 x = some o
section
variable {F : Fp} {S H S' H' H0 : Hp} {σ : L2.St} {Δ : List Sl}
theorem SlOk.mono {s : Sl} {x : Option V} (hf : ∀ x, fp F x → ∃ o, H0 x = some o) (g : Gr F S H S' H') (h : SlOk F S H H0 s x) : SlOk F S' H' H0 s x := by
  cases s with
  | un => trivial
  | v d =>
    obtain ⟨y, e, h⟩ := h
    exact ⟨y, e, h.mono g.s⟩
  | own ds =>
    obtain ⟨p, xs, e, e1, e2, e3, h⟩ := h
    refine ⟨p, xs, e, g.k _ _ (fun z => ?_) e1, by rw [g.n _ _ e1]; exact e2, e3, h.mono g.s⟩
    obtain ⟨o, q⟩ := hf p z
    rw [e3] at q
    cases q
  | src => exact h
  | ob a dx C fs =>
    obtain ⟨vs, e, e1, e2, e3, e4, e5, e6, h⟩ := h
    have nf : ∀ y, H0 y = Option.none → ¬ fp F y := fun y q z => by
      obtain ⟨o, q'⟩ := hf y z
      rw [q] at q'
      cases q'
    exact ⟨vs, e, g.k _ _ (nf a e5) e1, g.k _ _ (nf dx e6) e2, by rw [g.n _ _ e1]; exact e3, by rw [g.n _ _ e2]; exact e4, e5, e6, h.mono g.s⟩
  | xc W PX l => exact XcOk.mono h (g.w h.hd)
  | fz a fs =>
    obtain ⟨vs, e, h⟩ := h
    exact ⟨vs, g.s _ _ e, h.mono g.s⟩
theorem StD.mono (t : StD F S H H0 σ Δ) (g : Gr F S H S' H') : StD F S' H' H0 σ Δ := ⟨t.len, fun i s e => by
  obtain ⟨x, e1, h⟩ := t.ok i s e
  exact ⟨x, e1, h.mono t.fh g⟩, t.nd, t.fh⟩
theorem StD.set (t : StD F S H H0 σ Δ) {i : Nat} {s : Sl} {v : V} (h : SlOk F S H H0 s (some v)) (hn : ∀ (ds : List D), s = Sl.own ds → ∀ (j : Nat) (es : List D) (p : Addr), Δ[j]? = some (Sl.own es) → σ[j]? = some (some (V.ref p)) → v = V.ref p → False) : StD F S H H0 (σ.set i (some v)) (Δ.set i s) := by
  refine ⟨by simp [t.len], fun j s' e => ?_, fun j k ds es p e1 e2 f1 f2 => ?_, t.fh⟩
  · by_cases hj : j = i
    · subst hj
      have hl : j < Δ.length := by
        have := (List.getElem?_eq_some_iff.mp e).1
        simpa using this
      rw [List.getElem?_set_self hl] at e
      cases e
      exact ⟨_, List.getElem?_set_self (by rw [t.len]; exact hl), h⟩
    · rw [List.getElem?_set_ne (Ne.symm hj)] at e ⊢
      exact t.ok j s' e
  · by_cases hj : j = i
    · by_cases hk : k = i
      · rw [hj, hk]
      · subst hj
        exfalso
        have hl : j < Δ.length := by
          have := (List.getElem?_eq_some_iff.mp e1).1
          simpa using this
        rw [List.getElem?_set_self hl] at e1
        rw [List.getElem?_set_self (by rw [t.len]; exact hl)] at f1
        rw [List.getElem?_set_ne (Ne.symm hk)] at e2 f2
        cases e1
        cases f1
        exact hn ds rfl k es p e2 f2 rfl
    · by_cases hk : k = i
      · subst hk
        exfalso
        have hl : k < Δ.length := by
          have := (List.getElem?_eq_some_iff.mp e2).1
          simpa using this
        rw [List.getElem?_set_self hl] at e2
        rw [List.getElem?_set_self (by rw [t.len]; exact hl)] at f2
        rw [List.getElem?_set_ne (Ne.symm hj)] at e1 f1
        cases e2
        cases f2
        exact hn es rfl j ds p e1 f1 rfl
      · rw [List.getElem?_set_ne (Ne.symm hj)] at e1 f1
        rw [List.getElem?_set_ne (Ne.symm hk)] at e2 f2
        exact t.nd j k ds es p e1 e2 f1 f2
theorem StD.setV (t : StD F S H H0 σ Δ) {i : Nat} {d : D} {v : V} (h : Dt S d v) : StD F S H H0 (σ.set i (some v)) (Δ.set i (.v d)) := t.set ⟨v, rfl, h⟩ fun _ e => nomatch e
/-- a list just made -/
theorem StD.setOwn (t : StD F S H H0 σ Δ) (g : Gr F S H S' H') {i : Nat} {p : Addr} {xs : List V} {ds : List D} (hp : H p = Option.none) (h0 : H0 p = Option.none) (h' : H' p = some (.lst xs)) (hs : S' p = Option.none) (hd : DtL S' ds xs) :
    StD F S' H' H0 (σ.set i (some (.ref p))) (Δ.set i (.own ds)) :=
  (t.mono g).set ⟨p, xs, rfl, h', hs, h0, hd⟩ fun es _ j fs q e1 e2 e3 => by
    cases e3
    obtain ⟨x, f1, q', ys, f2, f3, _⟩ := t.ok j _ e1
    rw [e2] at f1
    cases f1
    cases f2
    rw [hp] at f3
    cases f3
theorem StD.get (t : StD F S H H0 σ Δ) {i : Nat} {d : D} (e : Δ[i]? = some (.v d)) : ∃ y, σ[i]? = some (some y) ∧ Dt S d y := by
  obtain ⟨x, e1, y, e2, h⟩ := t.ok i _ e
  subst e2
  exact ⟨y, e1, h⟩
theorem StD.wipe (t : StD F S H H0 σ Δ) (i : Nat) : StD F S H H0 (σ.set i Option.none) (Δ.set i .un) := by
  refine ⟨by simp [t.len], fun j s' e => ?_, fun j k ds es p e1 e2 f1 f2 => ?_, t.fh⟩
  · by_cases hj : j = i
    · subst hj
      have hl : j < Δ.length := by
        have := (List.getElem?_eq_some_iff.mp e).1
        simpa using this
      rw [List.getElem?_set_self hl] at e
      cases e
      exact ⟨_, List.getElem?_set_self (by rw [t.len]; exact hl), trivial⟩
    · rw [List.getElem?_set_ne (Ne.symm hj)] at e ⊢
      exact t.ok j s' e
  · by_cases hj : j = i
    · subst hj
      exfalso
      have hl : j < Δ.length := by
        have := (List.getElem?_eq_some_iff.mp e1).1
        simpa using this
      rw [List.getElem?_set_self hl] at e1
      cases e1
    · by_cases hk : k = i
      · subst hk
        exfalso
        have hl : k < Δ.length := by
          have := (List.getElem?_eq_some_iff.mp e2).1
          simpa using this
        rw [List.getElem?_set_self hl] at e2
        cases e2
      · rw [List.getElem?_set_ne (Ne.symm hj)] at e1 f1
        rw [List.getElem?_set_ne (Ne.symm hk)] at e2 f2
        exact t.nd j k ds es p e1 e2 f1 f2
end
end Bc

/-! Core 2: what readings evaluate to, by data. -/
namespace Bc
open PySem L2
section
variable (F : Fp)
/-- an expression; a test; arguments; a list or tuple that is read; a new list -/
def EvR (te : TE) (Δ : List Sl) (P : D → Prop) : Prop := ∀ (H0 S H : Hp) (σ : L2.St), Okw F S H → StD F S H H0 σ Δ → ∀ Q : VK, (∀ d v S' H', P d → Gr F S H S' H' → Dt S' d v → Q v H') → te σ H Q
def EvT (tt : TT) (Δ : List Sl) (P : Bool → Prop) : Prop := ∀ (H0 S H : Hp) (σ : L2.St), Okw F S H → StD F S H H0 σ Δ → ∀ Q : Bool → Hp → Prop, (∀ b S' H', P b → Gr F S H S' H' → Q b H') → tt σ H Q
def EvA (ta : TA) (Δ : List Sl) (P : List D → Prop) : Prop := ∀ (H0 S H : Hp) (σ : L2.St), Okw F S H → StD F S H H0 σ Δ → ∀ Q : List V → Hp → Prop, (∀ ds vs S' H', P ds → Gr F S H S' H' → DtL S' ds vs → Q vs H') → ta σ H Q
def EvO (to : TO) (Δ : List Sl) (P : Option Int → Prop) : Prop := ∀ (H0 S H : Hp) (σ : L2.St), Okw F S H → StD F S H H0 σ Δ → ∀ Q : Option Int → Hp → Prop, (∀ o S' H', P o → Gr F S H S' H' → Q o H') → to σ H Q
def mkS (b : Bool) (xs : List V) : HO := if b then .tup xs else .lst xs
def EvS (b : Bool) (te : TE) (Δ : List Sl) (P : List D → Prop) : Prop := ∀ (H0 S H : Hp) (σ : L2.St), Okw F S H → StD F S H H0 σ Δ → ∀ Q : VK, (∀ ds p xs S' H', P ds → Gr F S H S' H' → ¬ fp F p → H' p = some (mkS b xs) → DtL S' ds xs → Q (.ref p) H') → te σ H Q
def EvF (te : TE) (Δ : List Sl) (P : List D → Prop) : Prop := ∀ (H0 S H : Hp) (σ : L2.St), Okw F S H → StD F S H H0 σ Δ → ∀ Q : VK, (∀ ds p xs S' H', P ds → Gr F S H S' H' → H p = Option.none → H' p = some (.lst xs) → S' p = Option.none → DtL S' ds xs → Q (.ref p) H') → te σ H Q
end
section
variable {F : Fp} {te ta tb : TE} {Δ : List Sl} {P P' : D → Prop} {d x y : D}
abbrev Ev1 (F : Fp) (te : TE) (Δ : List Sl) (d : D) : Prop := EvR F te Δ fun x => x = d
theorem EvR.imp (h : EvR F te Δ P) (i : ∀ d, P d → P' d) : EvR F te Δ P' := fun H0 S H σ w t Q k => h H0 S H σ w t Q fun d v S' H' p g q => k d v S' H' (i d p) g q
theorem EvR.to1 (h : EvR F te Δ P) (i : ∀ x, P x → x = d) : Ev1 F te Δ d := h.imp i
theorem Ev1.eq (h : Ev1 F te Δ x) (e : x = d) : Ev1 F te Δ d := e ▸ h
theorem EvT.imp {tt : TT} {P P' : Bool → Prop} (h : EvT F tt Δ P) (i : ∀ b, P b → P' b) : EvT F tt Δ P' := fun H0 S H σ w t Q k => h H0 S H σ w t Q fun b S' H' p g => k b S' H' (i b p) g
theorem EvA.imp {ta : TA} {P P' : List D → Prop} (h : EvA F ta Δ P) (i : ∀ b, P b → P' b) : EvA F ta Δ P' := fun H0 S H σ w t Q k => h H0 S H σ w t Q fun b v S' H' p g q => k b v S' H' (i b p) g q
theorem EvF.imp {P P' : List D → Prop} (h : EvF F te Δ P) (i : ∀ b, P b → P' b) : EvF F te Δ P' := fun H0 S H σ w t Q k => h H0 S H σ w t Q fun ds p xs S' H' p' g h1 h2 h3 h4 => k ds p xs S' H' (i ds p') g h1 h2 h3 h4
theorem EvS.imp {b : Bool} {P P' : List D → Prop} (h : EvS F b te Δ P) (i : ∀ b, P b → P' b) : EvS F b te Δ P' := fun H0 S H σ w t Q k => h H0 S H σ w t Q fun ds p xs S' H' p' g h1 h2 h3 => k ds p xs S' H' (i ds p') g h1 h2 h3
/-! values -/
theorem ev_var {i : Nat} (e : Δ[i]? = some (.v d)) : Ev1 F (tVar i) Δ d := fun H0 S H σ w t Q k => by
  obtain ⟨y, e1, h⟩ := t.get e
  exact ⟨y, e1, k d y S H rfl (Gr.refl w.s) h⟩
theorem ev_int {i : Int} : Ev1 F (tC (.int i)) Δ (.int i) := fun _ S H σ w t Q k => k _ _ S H rfl (Gr.refl w.s) (by simp only [Dt])
theorem ev_str {i : Str} : Ev1 F (tC (.str i)) Δ (.str i) := fun _ S H σ w t Q k => k _ _ S H rfl (Gr.refl w.s) (by simp only [Dt])
theorem ev_bl {i : Bool} : Ev1 F (tC (.bl i)) Δ (.bool i) := fun _ S H σ w t Q k => k _ _ S H rfl (Gr.refl w.s) (by simp only [Dt])
theorem ev_non : Ev1 F (tC .non) Δ .none := fun _ S H σ w t Q k => k _ _ S H rfl (Gr.refl w.s) (by simp only [Dt])
theorem ev_ref {a : Addr} : Ev1 F (tC (.ref a)) Δ (.ref a) := fun _ S H σ w t Q k => k _ _ S H rfl (Gr.refl w.s) (by simp only [Dt])
/-! operators -/
def OpS (F : Fp) (r : R2) (f : D → D → D → Prop) : Prop := ∀ (S H : Hp) (x y d : D) (u v : V) (Q : VK), Okw F S H → Dt S x u → Dt S y v → f x y d → (∀ w S' H', Gr F S H S' H' → Dt S' d w → Q w H') → r u v H Q
theorem ev_op {r : R2} {f : D → D → D → Prop} {P1 P2 : D → Prop} (hr : OpS F r f) (ha : EvR F ta Δ P1) (hb : EvR F tb Δ P2) (h : ∀ x y, P1 x → P2 y → ∃ d, f x y d ∧ P d) : EvR F (tOp r ta tb) Δ P := fun H0 S H σ w t Q k => by
  refine ha H0 S H σ w t _ fun x u S1 H1 p1 g1 hx => ?_
  refine hb H0 S1 H1 σ (g1.ok w) (t.mono g1) _ fun y v S2 H2 p2 g2 hy => ?_
  obtain ⟨d, hf, hd⟩ := h x y p1 p2
  exact hr S2 H2 x y d u v Q (g2.ok (g1.ok w)) (hx.mono g2.s) hy hf fun w S3 H3 g3 q => k d w S3 H3 hd ((g1.trans g2).trans g3) q
theorem ev_op1 {r : R2} {f : D → D → D → Prop} (hr : OpS F r f) (ha : Ev1 F ta Δ x) (hb : Ev1 F tb Δ y) (h : f x y d) : Ev1 F (tOp r ta tb) Δ d := ev_op hr ha hb fun _ _ e1 e2 => ⟨d, by rw [e1, e2]; exact h, rfl⟩
theorem OpS.or {r r' : R2} {f f' : D → D → D → Prop} (h : OpS F r f) (h' : OpS F r' f') : OpS F (fun x y H Q => r x y H Q ∨ r' x y H Q) (fun x y d => f x y d ∨ f' x y d) := fun S H x y d u v Q w hx hy hf k => by
  rcases hf with hf | hf
  · exact .inl (h S H x y d u v Q w hx hy hf k)
  · exact .inr (h' S H x y d u v Q w hx hy hf k)
/-! arguments, displays -/
theorem ea_nil : EvA F tNil Δ fun ds => ds = [] := fun _ S H σ w t Q k => k _ _ S H rfl (Gr.refl w.s) (by simp only [DtL])
theorem ea_cons {tr : TA} {Pr : List D → Prop} (h : EvR F te Δ P) (hr : EvA F tr Δ Pr) : EvA F (tCons te tr) Δ fun ds => ∃ d r, ds = d :: r ∧ P d ∧ Pr r := fun H0 S H σ w t Q k => by
  refine h H0 S H σ w t _ fun d v S1 H1 p1 g1 hd => ?_
  refine hr H0 S1 H1 σ (g1.ok w) (t.mono g1) _ fun ds vs S2 H2 p2 g2 hds => ?_
  exact k _ _ S2 H2 ⟨d, ds, rfl, p1, p2⟩ (g1.trans g2) (dtl_cons (hd.mono g2.s) hds)
theorem ea_cons1 {tr : TA} {ds : List D} (h : Ev1 F te Δ d) (hr : EvA F tr Δ fun r => r = ds) : EvA F (tCons te tr) Δ fun r => r = d :: ds := (ea_cons h hr).imp fun b ⟨_, _, e, e1, e2⟩ => by rw [e, e1, e2]
theorem ev_tupP {t : TA} {Pa : List D → Prop} (h : EvA F t Δ Pa) (hl : ∀ ds, Pa ds → ds.length ≤ sizeLine) : EvR F (tTup t) Δ fun d => ∃ ds, Pa ds ∧ d = .tuple ds := fun H0 S H σ w tt Q k => by
  refine h H0 S H σ w tt _ fun ds vs S1 H1 p1 g1 hd => ?_
  refine ⟨by rw [← hd.len]; exact hl ds p1, fun p hp => ?_⟩
  refine k (.tuple ds) (.ref p) _ _ ⟨ds, p1, rfl⟩ (g1.trans (Gr.newD g1.h hp)) ?_
  simp only [Dt]
  exact ⟨p, vs, rfl, upd_same, hd.mono (Gr.newD (F := F) (o := .tup vs) g1.h hp).s⟩
theorem ev_tup {t : TA} {ds : List D} (h : EvA F t Δ fun r => r = ds) (hl : ds.length ≤ sizeLine := by first | decide | (simp only [List.length_cons, List.length_nil]; decide)) : Ev1 F (tTup t) Δ (.tuple ds) := (ev_tupP h fun _ e => by rw [e]; exact hl).imp fun d ⟨_, e, e2⟩ => by rw [e2, e]
theorem ef_lstP {t : TA} {Pa : List D → Prop} (h : EvA F t Δ Pa) (hl : ∀ ds, Pa ds → ds.length ≤ sizeLine) : EvF F (tLst t) Δ Pa := fun H0 S H σ w tt Q k => by
  refine h H0 S H σ w tt _ fun ds vs S1 H1 p1 g1 hd => ?_
  refine ⟨by rw [← hd.len]; exact hl ds p1, fun p hp => ?_⟩
  have hn : H p = Option.none := by
    cases e : H p with
    | none => rfl
    | some o =>
      obtain ⟨o', e'⟩ := g1.m p o e
      rw [hp] at e'
      cases e'
  exact k ds p vs S1 _ p1 (g1.trans (Gr.new g1.h hp)) hn upd_same (Same.free g1.h hp) hd
theorem ef_lst {t : TA} {ds : List D} (h : EvA F t Δ fun r => r = ds) (hl : ds.length ≤ sizeLine := by first | decide | (simp only [List.length_cons, List.length_nil]; decide)) : EvF F (tLst t) Δ fun r => r = ds := ef_lstP h fun _ e => by rw [e]; exact hl
/-- a new list as a value -/
theorem EvF.val {Pa : List D → Prop} (h : EvF F te Δ Pa) : EvR F te Δ fun d => ∃ ds, Pa ds ∧ d = .list ds := fun H0 S H σ w t Q k =>
  h H0 S H σ w t Q fun ds p xs S' H' p1 g hp h' hs hd => k (.list ds) (.ref p) _ H' ⟨ds, p1, rfl⟩ (g.freeze hp h') (by
    simp only [Dt]
    exact ⟨p, xs, rfl, upd_same, hd.mono (fun x u e => by rw [upd_ne (ne_of_none e hs)]; exact e)⟩)
theorem EvF.val1 {ds : List D} (h : EvF F te Δ fun r => r = ds) : Ev1 F te Δ (.list ds) := h.val.imp fun d ⟨_, e, e2⟩ => by rw [e2, e]
/-- .. as what is read -/
theorem EvF.seq {Pa : List D → Prop} (h : EvF F te Δ Pa) (hf : True) : EvS F false te Δ Pa := fun H0 S H σ w t Q k =>
  h H0 S H σ w t Q fun ds p xs S' H' p1 g hp h' hs hd => k ds p xs S' H' p1 g (fun z => by
    obtain ⟨a, c, e, z⟩ := z
    obtain ⟨_, _, ns, l, m, tt, e1, e2, _⟩ := w.src a c e
    rcases z with rfl | rfl
    · rw [hp] at e1; cases e1
    · rw [hp] at e2; cases e2) h' hd
theorem es_list {ds : List D} (h : Ev1 F te Δ (.list ds)) : EvS F false te Δ fun r => r = ds := fun H0 S H σ w t Q k => by
  refine h H0 S H σ w t _ fun d v S' H' e g hd => ?_
  subst e
  simp only [Dt] at hd
  obtain ⟨a, xs, rfl, e1, h1⟩ := hd
  exact k ds a xs S' H' rfl g ((g.ok w).nfp e1) (g.h _ _ e1) h1
theorem es_tuple {ds : List D} (h : Ev1 F te Δ (.tuple ds)) : EvS F true te Δ fun r => r = ds := fun H0 S H σ w t Q k => by
  refine h H0 S H σ w t _ fun d v S' H' e g hd => ?_
  subst e
  simp only [Dt] at hd
  obtain ⟨a, xs, rfl, e1, h1⟩ := hd
  exact k ds a xs S' H' rfl g ((g.ok w).nfp e1) (g.h _ _ e1) h1
theorem es_own {i : Nat} {ds : List D} (e : Δ[i]? = some (.own ds)) : EvS F false (tVar i) Δ fun r => r = ds := fun H0 S H σ w t Q k => by
  obtain ⟨x, e1, p, xs, rfl, h1, h2, h3, h4⟩ := t.ok i _ e
  exact ⟨_, e1, k ds p xs S H rfl (Gr.refl w.s) (fun z => by
    obtain ⟨o, q⟩ := t.fh p z
    rw [h3] at q
    cases q) h1 h4⟩
/-! tests -/
theorem et_test {Pb : Bool → Prop} (h : EvR F te Δ fun d => ∃ b, d = .bool b ∧ Pb b) : EvT F (tTest te) Δ Pb := fun H0 S H σ w t Q k =>
  h H0 S H σ w t _ fun d v S' H' ⟨b, e, p⟩ g hd => by
    subst e
    simp only [Dt] at hd
    exact ⟨b, hd, k b S' H' p g⟩
theorem et_B {Pb : Bool → Prop} (h : EvR F te Δ fun d => ∃ b, d = .bool b ∧ Pb b) : EvT F (tB te) Δ Pb := fun H0 S H σ w t Q k =>
  h H0 S H σ w t _ fun d v S' H' ⟨b, e, p⟩ g hd => by
    subst e
    simp only [Dt] at hd
    exact ⟨b, hd, k b S' H' p g⟩
theorem et_test1 {b : Bool} (h : Ev1 F te Δ (.bool b)) : EvT F (tTest te) Δ fun c => c = b := et_test (h.imp fun d e => ⟨b, e, rfl⟩)
theorem et_B1 {b : Bool} (h : Ev1 F te Δ (.bool b)) : EvT F (tB te) Δ fun c => c = b := et_B (h.imp fun d e => ⟨b, e, rfl⟩)
theorem et_and {t u : TT} {P1 P2 : Bool → Prop} (h1 : EvT F t Δ P1) (h2 : P1 true → EvT F u Δ P2) : EvT F (tAnd t u) Δ fun b => (b = false ∧ P1 false) ∨ (P1 true ∧ P2 b) := fun H0 S H σ w tt Q k => by
  refine h1 H0 S H σ w tt _ fun b S1 H1 p1 g1 => ?_
  cases b with
  | true =>
    show u σ H1 Q
    exact h2 p1 H0 S1 H1 σ (g1.ok w) (tt.mono g1) Q fun c S2 H2 p2 g2 => k c S2 H2 (.inr ⟨p1, p2⟩) (g1.trans g2)
  | false => exact k false S1 H1 (.inl ⟨rfl, p1⟩) g1
theorem et_or {t u : TT} {P1 P2 : Bool → Prop} (h1 : EvT F t Δ P1) (h2 : P1 false → EvT F u Δ P2) : EvT F (tOr t u) Δ fun b => (b = true ∧ P1 true) ∨ (P1 false ∧ P2 b) := fun H0 S H σ w tt Q k => by
  refine h1 H0 S H σ w tt _ fun b S1 H1 p1 g1 => ?_
  cases b with
  | false =>
    show u σ H1 Q
    exact h2 p1 H0 S1 H1 σ (g1.ok w) (tt.mono g1) Q fun c S2 H2 p2 g2 => k c S2 H2 (.inr ⟨p1, p2⟩) (g1.trans g2)
  | true => exact k true S1 H1 (.inl ⟨rfl, p1⟩) g1
theorem et_not {t : TT} {P1 : Bool → Prop} (h1 : EvT F t Δ P1) : EvT F (tNot t) Δ fun b => P1 (!b) := fun H0 S H σ w tt Q k =>
  h1 H0 S H σ w tt _ fun b S1 H1 p1 g1 => k (!b) S1 H1 (by show P1 (!(!b)); rw [Bool.not_not]; exact p1) g1
theorem et_and1 {t u : TT} {a b : Bool} (h1 : EvT F t Δ fun c => c = a) (h2 : a = true → EvT F u Δ fun c => c = b) : EvT F (tAnd t u) Δ fun c => c = (a && b) := (et_and h1 fun e => h2 e.symm).imp fun c h => by
  rcases h with ⟨rfl, e⟩ | ⟨e, rfl⟩
  · rw [← e]; rfl
  · rw [← e]; rfl
theorem et_or1 {t u : TT} {a b : Bool} (h1 : EvT F t Δ fun c => c = a) (h2 : a = false → EvT F u Δ fun c => c = b) : EvT F (tOr t u) Δ fun c => c = (a || b) := (et_or h1 fun e => h2 e.symm).imp fun c h => by
  rcases h with ⟨rfl, e⟩ | ⟨e, rfl⟩
  · rw [← e]; rfl
  · rw [← e]; rfl
theorem et_not1 {t : TT} {a : Bool} (h1 : EvT F t Δ fun c => c = a) : EvT F (tNot t) Δ fun c => c = !a := (et_not h1).imp fun c e => by rw [← e, Bool.not_not]
theorem EvT.eq {t : TT} {a b : Bool} (h : EvT F t Δ fun c => c = a) (e : a = b) : EvT F t Δ fun c => c = b := e ▸ h
theorem ev_andV {a b : Bool} (h1 : Ev1 F ta Δ (.bool a)) (h2 : a = true → Ev1 F tb Δ (.bool b)) : Ev1 F (tAndV ta tb) Δ (.bool (a && b)) := fun H0 S H σ w t Q k => by
  refine h1 H0 S H σ w t _ fun d v S1 H1 e g1 hd => ?_
  subst e
  simp only [Dt] at hd
  refine ⟨a, hd, ?_⟩
  cases a with
  | true =>
    show tb σ H1 Q
    exact h2 rfl H0 S1 H1 σ (g1.ok w) (t.mono g1) Q fun d v S2 H2 e g2 hd => k d v S2 H2 e (g1.trans g2) hd
  | false => exact k _ _ S1 H1 rfl g1 (by simp only [Dt, Bool.false_and])
theorem ev_orV {a b : Bool} (h1 : Ev1 F ta Δ (.bool a)) (h2 : a = false → Ev1 F tb Δ (.bool b)) : Ev1 F (tOrV ta tb) Δ (.bool (a || b)) := fun H0 S H σ w t Q k => by
  refine h1 H0 S H σ w t _ fun d v S1 H1 e g1 hd => ?_
  subst e
  simp only [Dt] at hd
  refine ⟨a, hd, ?_⟩
  cases a with
  | false =>
    show tb σ H1 Q
    exact h2 rfl H0 S1 H1 σ (g1.ok w) (t.mono g1) Q fun d v S2 H2 e g2 hd => k d v S2 H2 e (g1.trans g2) hd
  | true => exact k _ _ S1 H1 rfl g1 (by simp only [Dt, Bool.true_or])
theorem ev_notV {a : Bool} (h1 : Ev1 F ta Δ (.bool a)) : Ev1 F (tNotV ta) Δ (.bool (!a)) := fun H0 S H σ w t Q k =>
  h1 H0 S H σ w t _ fun d v S1 H1 e g1 hd => by
    subst e
    simp only [Dt] at hd
    exact ⟨a, hd, k _ _ S1 H1 rfl g1 (by simp only [Dt])⟩
theorem ev_if {t : TT} {Pb : Bool → Prop} (h : EvT F t Δ Pb) (h1 : Pb true → EvR F ta Δ P) (h2 : Pb false → EvR F tb Δ P) : EvR F (tIf t ta tb) Δ P := fun H0 S H σ w tt Q k => by
  refine h H0 S H σ w tt _ fun b S1 H1 p1 g1 => ?_
  cases b with
  | true =>
    show ta σ H1 Q
    exact h1 p1 H0 S1 H1 σ (g1.ok w) (tt.mono g1) Q fun d v S2 H2 e g2 hd => k d v S2 H2 e (g1.trans g2) hd
  | false =>
    show tb σ H1 Q
    exact h2 p1 H0 S1 H1 σ (g1.ok w) (tt.mono g1) Q fun d v S2 H2 e g2 hd => k d v S2 H2 e (g1.trans g2) hd
end
/-! ### statements -/
structure Po where
  nx : List Sl → Prop
  rt : D → Prop
  bk : List Sl → Prop := fun _ => False
  ct : List Sl → Prop := fun _ => False
  ro : D → List Sl → Prop := fun _ _ => True
/-- v is d (fr: a new list) -/
structure Giv (fr : Bool) (F : Fp) (S0 H0 : Hp) (d : D) (v : V) (S H : Hp) : Prop where
  g : Gr F S0 H0 S H
  vl : fr = false → Dt S d v
  f : fr = true → ∃ ds p xs, d = .list ds ∧ v = .ref p ∧ H p = some (.lst xs) ∧ S p = Option.none ∧ H0 p = Option.none ∧ DtL S ds xs
/-- from the entry (S0, H0); B: data that stays -/
structure Gb (F : Fp) (S0 H0 B S H : Hp) : Prop where
  g : Gr F S0 H0 S H
  b : Same B S
theorem Gb.step {F : Fp} {S0 H0 B S H S' H' : Hp} (x : Gb F S0 H0 B S H) (g : Gr F S H S' H') : Gb F S0 H0 B S' H' := ⟨x.g.trans g, x.b.trans g.s⟩
structure Re (F : Fp) (fr : Bool) (S0 H0 B : Hp) (Po : Po) (E : Ends) : Prop where
  nx : ∀ Δ S H σ, Po.nx Δ → Okw F S H → Gb F S0 H0 B S H → StD F S H H0 σ Δ → E.nx σ H
  rt : ∀ d v Δ S H σ, Po.rt d → Po.ro d Δ → Okw F S H → StD F S H H0 σ Δ → Giv fr F S0 H0 d v S H → E.rt v H
  bk : ∀ Δ S H σ, Po.bk Δ → Okw F S H → Gb F S0 H0 B S H → StD F S H H0 σ Δ → E.bk σ H
  ct : ∀ Δ S H σ, Po.ct Δ → Okw F S H → Gb F S0 H0 B S H → StD F S H H0 σ Δ → E.ct σ H
def Run (F : Fp) (fr : Bool) (ts : TS) (Δ : List Sl) (po : Po) : Prop := ∀ (S0 H0 B S H : Hp) (σ : L2.St) (E : Ends), Okw F S H → Gb F S0 H0 B S H → StD F S H H0 σ Δ → Re F fr S0 H0 B po E → ts E σ H
section
variable {F : Fp} {fr : Bool} {te ta tb : TE} {ts t u : TS} {Δ : List Sl} {P P' : D → Prop} {d x y : D} {po : Po}
theorem Re.next {S0 H0 B : Hp} {E : Ends} (r : Re F fr S0 H0 B po E) {N : List Sl → Prop} {f : L2.St → Hp → Prop} (h : ∀ Δ S H σ, N Δ → Okw F S H → Gb F S0 H0 B S H → StD F S H H0 σ Δ → f σ H) : Re F fr S0 H0 B { po with nx := N } { E with nx := f } := ⟨h, r.rt, r.bk, r.ct⟩
theorem run_seqM {N : List Sl → Prop} (h : Run F fr t Δ { po with nx := N }) (k : ∀ Δ', N Δ' → Run F fr u Δ' po) : Run F fr (tSeq t u) Δ po := fun S0 H0 B S H σ E w g st r =>
  h S0 H0 B S H σ { E with nx := u E } w g st (r.next fun Δ' S' H' σ' n w' g' st' => k Δ' n S0 H0 B S' H' σ' E w' g' st' r)
theorem run_assoc {v : TS} (h : Run F fr (tSeq t (tSeq u v)) Δ po) : Run F fr (tSeq (tSeq t u) v) Δ po := h
theorem run_next (h : po.nx Δ) : Run F fr tNext Δ po := fun S0 H0 B S H σ E w g st r => r.nx Δ S H σ h w g st
theorem run_nextS (h : Run F fr u Δ po) : Run F fr (tSeq tNext u) Δ po := h
theorem run_asg {i : Nat} (h : EvR F te Δ P) (k : ∀ d, P d → po.nx (Δ.set i (.v d))) : Run F fr (tAsg te (gName i)) Δ po := fun S0 H0 B S H σ E w g st r =>
  h H0 S H σ w st _ fun d v S' H' p g' hd => r.nx _ S' H' _ (k d p) (g'.ok w) (g.step g') ((st.mono g').setV hd)
theorem run_asgS {i : Nat} (h : EvR F te Δ P) (k : ∀ d, P d → Run F fr u (Δ.set i (.v d)) po) : Run F fr (tSeq (tAsg te (gName i)) u) Δ po :=
  run_seqM (N := fun Δ' => ∃ d, P d ∧ Δ' = Δ.set i (.v d)) (run_asg h fun d p => ⟨d, p, rfl⟩) fun Δ' ⟨d, p, e⟩ => e ▸ k d p
theorem run_set {i : Nat} (h : Ev1 F te Δ d) (k : Run F fr u (Δ.set i (.v d)) po) : Run F fr (tSeq (tAsg te (gName i)) u) Δ po := run_asgS h fun _ e => e ▸ k
theorem run_set1 {i : Nat} (h : Ev1 F te Δ d) (k : po.nx (Δ.set i (.v d))) : Run F fr (tAsg te (gName i)) Δ po := run_asg h fun _ e => e ▸ k
/-- a new list becomes the def's own -/
theorem run_asgF {i : Nat} {Pa : List D → Prop} (h : EvF F te Δ Pa) (k : ∀ ds, Pa ds → po.nx (Δ.set i (.own ds))) : Run F fr (tAsg te (gName i)) Δ po := fun S0 H0 B S H σ E w g st r =>
  h H0 S H σ w st _ fun ds p xs S' H' q g' hp h' hs hd => r.nx _ S' H' _ (k ds q) (g'.ok w) (g.step g') (st.setOwn g' hp (by
    cases e : H0 p with
    | none => rfl
    | some o =>
      obtain ⟨o', e'⟩ := g.g.m p o e
      rw [hp] at e'
      cases e') h' hs hd)
theorem run_asgFS {i : Nat} {Pa : List D → Prop} (h : EvF F te Δ Pa) (k : ∀ ds, Pa ds → Run F fr u (Δ.set i (.own ds)) po) : Run F fr (tSeq (tAsg te (gName i)) u) Δ po :=
  run_seqM (N := fun Δ' => ∃ d, Pa d ∧ Δ' = Δ.set i (.own d)) (run_asgF h fun d p => ⟨d, p, rfl⟩) fun Δ' ⟨d, p, e⟩ => e ▸ k d p
theorem run_setF {i : Nat} {ds : List D} (h : EvF F te Δ fun r => r = ds) (k : Run F fr u (Δ.set i (.own ds)) po) : Run F fr (tSeq (tAsg te (gName i)) u) Δ po := run_asgFS h fun _ e => e ▸ k
theorem run_if {c : TT} {Pb : Bool → Prop} (h : EvT F c Δ Pb) (h1 : Pb true → Run F fr t Δ po) (h2 : Pb false → Run F fr u Δ po) : Run F fr (tIfS c t u) Δ po := fun S0 H0 B S H σ E w g st r =>
  h H0 S H σ w st _ fun b S' H' p g' => by
    cases b with
    | true => exact h1 p S0 H0 B S' H' σ E (g'.ok w) (g.step g') (st.mono g') r
    | false => exact h2 p S0 H0 B S' H' σ E (g'.ok w) (g.step g') (st.mono g') r
theorem run_ifS {c : TT} {Pb : Bool → Prop} {v : TS} (h : EvT F c Δ Pb) (h1 : Pb true → Run F fr (tSeq t v) Δ po) (h2 : Pb false → Run F fr (tSeq u v) Δ po) : Run F fr (tSeq (tIfS c t u) v) Δ po := fun S0 H0 B S H σ E w g st r =>
  h H0 S H σ w st _ fun b S' H' p g' => by
    cases b with
    | true => exact h1 p S0 H0 B S' H' σ E (g'.ok w) (g.step g') (st.mono g') r
    | false => exact h2 p S0 H0 B S' H' σ E (g'.ok w) (g.step g') (st.mono g') r
theorem run_ret (h : EvR F te Δ P) (k : ∀ d, P d → po.rt d) (ko : ∀ d, P d → po.ro d Δ := by intros; exact True.intro) : Run F false (tRet te) Δ po := fun S0 H0 B S H σ E w g st r =>
  h H0 S H σ w st _ fun d v S' H' p g' hd => r.rt d v Δ S' H' σ (k d p) (ko d p) (g'.ok w) (st.mono g') ⟨g.g.trans g', fun _ => hd, fun e => nomatch e⟩
theorem run_retS (h : EvR F te Δ P) (k : ∀ d, P d → po.rt d) (ko : ∀ d, P d → po.ro d Δ := by intros; exact True.intro) : Run F false (tSeq (tRet te) u) Δ po := run_ret (po := { po with nx := fun _ => False }) h k ko |> fun z => run_seqM z fun _ n => n.elim
theorem run_ret1 (h : Ev1 F te Δ d) (k : po.rt d) (ko : po.ro d Δ := by exact True.intro) : Run F false (tRet te) Δ po := run_ret h (fun _ e => e ▸ k) fun _ e => e ▸ ko
theorem run_ret1S (h : Ev1 F te Δ d) (k : po.rt d) (ko : po.ro d Δ := by exact True.intro) : Run F false (tSeq (tRet te) u) Δ po := run_retS h (fun _ e => e ▸ k) fun _ e => e ▸ ko
theorem run_retF {Pa : List D → Prop} (h : EvF F te Δ Pa) (k : ∀ ds, Pa ds → po.rt (.list ds)) (ko : ∀ ds, Pa ds → po.ro (.list ds) Δ := by intros; exact True.intro) : Run F true (tRet te) Δ po := fun S0 H0 B S H σ E w g st r =>
  h H0 S H σ w st _ fun ds p xs S' H' q g' hp h' hs hd => r.rt (.list ds) _ Δ S' H' σ (k ds q) (ko ds q) (g'.ok w) (st.mono g') ⟨g.g.trans g', fun e => (nomatch e), fun _ => ⟨ds, p, xs, rfl, rfl, h', hs, (by
    cases e : H0 p with
    | none => rfl
    | some o =>
      obtain ⟨o', e'⟩ := g.g.m p o e
      rw [hp] at e'
      cases e'), hd⟩⟩
theorem run_retFS {Pa : List D → Prop} (h : EvF F te Δ Pa) (k : ∀ ds, Pa ds → po.rt (.list ds)) (ko : ∀ ds, Pa ds → po.ro (.list ds) Δ := by intros; exact True.intro) : Run F true (tSeq (tRet te) u) Δ po := run_retF (po := { po with nx := fun _ => False }) h k ko |> fun z => run_seqM z fun _ n => n.elim
theorem run_brk (h : po.bk Δ) : Run F fr tBreak Δ po := fun S0 H0 B S H σ E w g st r => r.bk Δ S H σ h w g st
theorem run_cont (h : po.ct Δ) : Run F fr tCont Δ po := fun S0 H0 B S H σ E w g st r => r.ct Δ S H σ h w g st
theorem run_contS (h : po.ct Δ) : Run F fr (tSeq tCont u) Δ po := fun S0 H0 B S H σ E w g st r => r.ct Δ S H σ h w g st
theorem run_retN (h : po.rt .none) (ko : po.ro .none Δ := by exact True.intro) : Run F false tRetN Δ po := fun S0 H0 B S H σ E w g st r => r.rt .none .non Δ S H σ h ko w st ⟨g.g, fun _ => by simp only [Dt], fun e => (nomatch e)⟩
theorem run_drop (h : EvR F te Δ P) (k : po.nx Δ) : Run F fr (tDrop te) Δ po := fun S0 H0 B S H σ E w g st r =>
  h H0 S H σ w st _ fun d v S' H' p g' hd => r.nx _ S' H' _ k (g'.ok w) (g.step g') (st.mono g')
/-- the def's own list becomes data -/
theorem StD.frz {S H S0 H0 B : Hp} {σ : L2.St} {i : Nat} {ds : List D} (st : StD F S H H0 σ Δ) (w : Okw F S H) (g : Gb F S0 H0 B S H) (e : Δ[i]? = some (.own ds)) : ∃ S', Okw F S' H ∧ Gb F S0 H0 B S' H ∧ StD F S' H H0 σ (Δ.set i (.v (.list ds))) := by
  obtain ⟨x, e1, p, xs, rfl, h1, h2, h3, h4⟩ := st.ok i _ e
  have hi : i < Δ.length := (List.getElem?_eq_some_iff.mp e).1
  have sm : Same S (upd S p (.lst xs)) := fun x u e => by rw [upd_ne (ne_of_none e h2)]; exact e
  refine ⟨upd S p (.lst xs), ⟨(g.g.freeze h3 h1).h, fun a c ef => ?_⟩, ⟨g.g.freeze h3 h1, g.b.trans sm⟩, ⟨by simp [st.len], fun j s' ej => ?_, fun j k es fs q f1 f2 f3 f4 => ?_, st.fh⟩⟩
  · obtain ⟨q1, q2, q3⟩ := w.src a c ef
    have n1 : a ≠ p := fun z => by
      obtain ⟨o, q⟩ := st.fh a ⟨a, c, ef, .inl rfl⟩
      rw [z, h3] at q
      cases q
    have n2 : c ≠ p := fun z => by
      obtain ⟨o, q⟩ := st.fh c ⟨a, c, ef, .inr rfl⟩
      rw [z, h3] at q
      cases q
    exact ⟨by rw [upd_ne n1]; exact q1, by rw [upd_ne n2]; exact q2, q3⟩
  · by_cases hj : j = i
    · subst hj
      rw [List.getElem?_set_self hi] at ej
      cases ej
      refine ⟨_, e1, _, rfl, ?_⟩
      simp only [Dt]
      exact ⟨p, xs, rfl, upd_same, h4.mono sm⟩
    · rw [List.getElem?_set_ne (Ne.symm hj)] at ej
      obtain ⟨x, f1, f2⟩ := st.ok j s' ej
      refine ⟨x, f1, ?_⟩
      cases s' with
      | un => trivial
      | v d =>
        obtain ⟨y, z1, z2⟩ := f2
        exact ⟨y, z1, z2.mono sm⟩
      | src => exact f2
      | ob a dx C fs =>
        obtain ⟨vs, z1, z2, z3, z4, z5, z6, z7, z8⟩ := f2
        have n1 : a ≠ p := fun z => by rw [z, h1] at z2; cases z2
        have n2 : dx ≠ p := fun z => by rw [z, h1] at z3; cases z3
        exact ⟨vs, z1, z2, z3, by rw [upd_ne n1]; exact z4, by rw [upd_ne n2]; exact z5, z6, z7, z8.mono sm⟩
      | xc W PX l => exact XcOk.mono f2 (Gw.frz w.s h1 h2 h3 f2.hd)
      | fz a fs =>
        obtain ⟨vs, z1, z2⟩ := f2
        exact ⟨vs, sm _ _ z1, z2.mono sm⟩
      | own es =>
        obtain ⟨q, ys, rfl, y1, y2, y3, y4⟩ := f2
        refine ⟨q, ys, rfl, y1, ?_, y3, y4.mono sm⟩
        rw [upd_ne (fun z => hj ?_)]
        · exact y2
        · subst z
          exact st.nd j i es ds q ej e f1 e1
  · have n1 : j ≠ i := fun z => by
      subst z
      rw [List.getElem?_set_self hi] at f1
      cases f1
    have n2 : k ≠ i := fun z => by
      subst z
      rw [List.getElem?_set_self hi] at f2
      cases f2
    rw [List.getElem?_set_ne (Ne.symm n1)] at f1
    rw [List.getElem?_set_ne (Ne.symm n2)] at f2
    exact st.nd j k es fs q f1 f2 f3 f4
/-- the def's own list is handed back -/
theorem run_retO {i : Nat} {ds : List D} (e : Δ[i]? = some (.own ds)) (k : po.rt (.list ds)) (ko : ∀ Δ', Δ' = Δ ∨ Δ' = Δ.set i (.v (.list ds)) → po.ro (.list ds) Δ' := by intros; exact True.intro) : Run F fr (tRet (tVar i)) Δ po := fun S0 H0 B S H σ E w g st r => by
  cases fr with
  | true =>
    obtain ⟨x, e1, p, xs, rfl, h1, h2, h3, h4⟩ := st.ok i _ e
    exact ⟨_, e1, r.rt (.list ds) _ Δ S H σ k (ko Δ (.inl rfl)) w st ⟨g.g, fun e => (nomatch e), fun _ => ⟨ds, p, xs, rfl, rfl, h1, h2, h3, h4⟩⟩⟩
  | false =>
    obtain ⟨S', w', g', st'⟩ := st.frz w g e
    have hi : i < Δ.length := (List.getElem?_eq_some_iff.mp e).1
    obtain ⟨x, e1, y, rfl, h⟩ := st'.ok i (.v (.list ds)) (List.getElem?_set_self hi)
    exact ⟨_, e1, r.rt (.list ds) _ (Δ.set i (.v (.list ds))) S' H σ k (ko _ (.inr rfl)) w' st' ⟨g'.g, fun _ => h, fun e => (nomatch e)⟩⟩
theorem run_frz {i : Nat} {ds : List D} (e : Δ[i]? = some (.own ds)) (h : Run F fr t (Δ.set i (.v (.list ds))) po) : Run F fr t Δ po := fun S0 H0 B S H σ E w g st r => by
  obtain ⟨S', w', g', st'⟩ := st.frz w g e
  exact h S0 H0 B S' H σ E w' g' st' r
end
end Bc

/-! Core 3: what loops walk, targets, loops, comprehensions, calls and promises. -/
namespace Bc
open PySem L2
/-- J walks ds, while data stays -/
structure WalkD (F : Fp) (J : It) (S : Hp) (ds : List D) : Prop where
  go : ∀ i S' H', Same S S' → Okw F S' H' → i < ds.length → J.go i H'
  yld : ∀ i S' H' x H'', Same S S' → Okw F S' H' → i < ds.length → J.yld i H' x H'' → ∃ d S'', ds[i]? = some d ∧ Gr F S' H' S'' H'' ∧ Dt S'' d x
  stop : ∀ i S' H', Same S S' → Okw F S' H' → ds.length ≤ i → J.stop i H'
def EvI (F : Fp) (wi : TI) (Δ : List Sl) (P : List D → Prop) : Prop := ∀ (H0 S H : Hp) (σ : L2.St), Okw F S H → StD F S H H0 σ Δ → ∀ R : It → Hp → Prop, (∀ ds J S' H', P ds → Gr F S H S' H' → WalkD F J S' ds → R J H') → wi σ H R
section
variable {F : Fp} {fr : Bool} {K : PySem.W.Frag} {te tl : TE} {Δ : List Sl} {po : Po}
theorem walk_list {S : Hp} {a : Addr} {xs : List V} {ds : List D} (e : S a = some (.lst xs)) (h : DtL S ds xs) : WalkD F (Itl K a) S ds where
  go := fun i S' H' s w hi => by
    rw [h.len] at hi
    exact ⟨xs, xs[i], SqL.of (w.s _ _ (s _ _ e)), by simp [hi]⟩
  yld := fun i S' H' x H'' s w hlt y => by
    obtain ⟨e1, y⟩ := y
    subst e1
    have q := y xs (SqL.of (w.s _ _ (s _ _ e)))
    obtain ⟨d, e2, hd⟩ := h.get' q
    exact ⟨d, S', e2, Gr.refl w.s, hd.mono s⟩
  stop := fun i S' H' s w hi => ⟨xs, SqL.of (w.s _ _ (s _ _ e)), by rw [← h.len]; exact hi⟩
theorem walk_tup {S : Hp} {a : Addr} {xs : List V} {ds : List D} (e : S a = some (.tup xs)) (h : DtL S ds xs) : WalkD F (Itt K a) S ds where
  go := fun i S' H' s w hi => by
    rw [h.len] at hi
    exact ⟨xs, xs[i], SqT.of (w.s _ _ (s _ _ e)), by simp [hi]⟩
  yld := fun i S' H' x H'' s w hlt y => by
    obtain ⟨e1, y⟩ := y
    subst e1
    have q := y xs (SqT.of (w.s _ _ (s _ _ e)))
    obtain ⟨d, e2, hd⟩ := h.get' q
    exact ⟨d, S', e2, Gr.refl w.s, hd.mono s⟩
  stop := fun i S' H' s w hi => ⟨xs, SqT.of (w.s _ _ (s _ _ e)), by rw [← h.len]; exact hi⟩
/-- a list, a tuple, a text: whatever it is -/
def iAny (K : PySem.W.Frag) (tl : TE) : TI := fun σ H R => tl σ H fun x H1 => (∃ a, x = .ref a ∧ (∃ xs, SqL K H1 a xs) ∧ R (Itl K a) H1) ∨ (∃ a, x = .ref a ∧ (∃ xs, SqT K H1 a xs) ∧ R (Itt K a) H1) ∨ (∃ z, x = .str z ∧ R (Its z) H1)
theorem pi_any {X : Cx} {tg l : Expr} {tl : TE} (hl : PE X l tl) : PI X tg l (iAny X.K tl) := by
  refine ⟨fun pins s σ H R I h => ?_⟩
  refine thn (hl.run pins s σ H _ I h) fun v s1 ⟨x, H1, I1, r1, q1⟩ => ?_
  rcases q1 with ⟨a, e, ⟨xs, hq⟩, q⟩ | ⟨a, e, ⟨xs, hq⟩, q⟩ | ⟨z, e, q⟩
  · subst e
    cases r1
    obtain ⟨its, rv, p, hz⟩ := I1.list hq
    refine wpAny_pyIter_list p.isList ?_
    refine ⟨s1.heap.objs.size, [s1.heap.objs.size], _, _, H1, rfl, I1.kept (t' := s1.toks) fun b o e => Heap.get?_push_of_some _ e, turn_list a _, ⟨_, Heap.get?_push_size _ rfl, rfl, rfl⟩, fun b hb => ?_, q⟩
    have e : b = s1.heap.objs.size := by simpa using hb
    subst e
    exact I1.fpOk (Nat.le_refl _) (I1.hok.fresh (Nat.le_refl _))
  · subst e
    cases r1
    obtain ⟨its, rv, p, hz⟩ := I1.tuple hq
    refine wpAny_pyIter_tuple (show s1.heap.IsTuple a its.toArray from p) ?_
    refine ⟨s1.heap.objs.size, [s1.heap.objs.size], _, _, H1, rfl, I1.kept (t' := s1.toks) fun b o e => Heap.get?_push_of_some _ e, turn_tuple a _, ⟨_, Heap.get?_push_size _ rfl, rfl, rfl⟩, fun b hb => ?_, q⟩
    have e : b = s1.heap.objs.size := by simpa using hb
    subst e
    exact I1.fpOk (Nat.le_refl _) (I1.hok.fresh (Nat.le_refl _))
  · subst e
    obtain ⟨t, rfl⟩ := r1
    cases ha : z.cps.all (· < 128)
    · exact wpAny_pyIter_wide ha (pi_one (tk := s1.toks) I1 _ (turn_str _ z t "str_iterator" (.inr rfl)) ⟨_, Heap.get?_push_size _ rfl, rfl, rfl⟩ q)
    · exact wpAny_pyIter_ascii ha (pi_one (tk := s1.toks) I1 _ (turn_str _ z t "str_ascii_iterator" (.inl rfl)) ⟨_, Heap.get?_push_size _ rfl, rfl, rfl⟩ q)
theorem ei_list {ds : List D} (h : Ev1 F tl Δ (.list ds)) : EvI F (iAny K tl) Δ fun r => r = ds := fun H0 S H σ w t R k =>
  h H0 S H σ w t _ fun d v S' H' e g hd => by
    subst e
    simp only [Dt] at hd
    obtain ⟨a, xs, rfl, e1, h1⟩ := hd
    exact .inl ⟨a, rfl, ⟨xs, SqL.of (g.h _ _ e1)⟩, k ds _ S' H' rfl g (walk_list e1 h1)⟩
theorem ei_listP {P : List D → Prop} (h : EvR F tl Δ fun d => ∃ ds, P ds ∧ d = .list ds) : EvI F (iAny K tl) Δ P := fun H0 S H σ w t R k =>
  h H0 S H σ w t _ fun d v S' H' ⟨ds, p, e⟩ g hd => by
    subst e
    simp only [Dt] at hd
    obtain ⟨a, xs, rfl, e1, h1⟩ := hd
    exact .inl ⟨a, rfl, ⟨xs, SqL.of (g.h _ _ e1)⟩, k ds _ S' H' p g (walk_list e1 h1)⟩
theorem ei_tup {ds : List D} (h : Ev1 F tl Δ (.tuple ds)) : EvI F (iAny K tl) Δ fun r => r = ds := fun H0 S H σ w t R k =>
  h H0 S H σ w t _ fun d v S' H' e g hd => by
    subst e
    simp only [Dt] at hd
    obtain ⟨a, xs, rfl, e1, h1⟩ := hd
    exact .inr (.inl ⟨a, rfl, ⟨xs, SqT.of (g.h _ _ e1)⟩, k ds _ S' H' rfl g (walk_tup e1 h1)⟩)
def signs (z : Str) : List D := z.cps.toList.map fun c => D.str ⟨#[c]⟩
theorem ei_str {z : Str} (h : Ev1 F tl Δ (.str z)) : EvI F (iAny K tl) Δ fun r => r = signs z := fun H0 S H σ w t R k =>
  h H0 S H σ w t _ fun d v S' H' e g hd => by
    subst e
    simp only [Dt] at hd
    refine .inr (.inr ⟨z, hd, k _ _ S' H' rfl g ⟨fun i S2 H2 s w hi => ?_, fun i S2 H2 x H3 s w hlt y => ?_, fun i S2 H2 s w hi => ?_⟩⟩)
    · show i < z.cps.size
      simpa [signs] using hi
    · obtain ⟨e1, c, ec, ex⟩ := y
      subst e1
      refine ⟨.str ⟨#[c]⟩, S2, ?_, Gr.refl w.s, by simp only [Dt]; exact ex⟩
      simp [signs, ec]
    · show z.cps.size ≤ i
      simpa [signs] using hi
def rngD (lo : Int) (n : Nat) : List D := (List.range n).map fun i => D.int (lo + (i : Nat))
theorem walk_rng {S : Hp} {lo : Int} {n : Nat} : WalkD F (Itr lo n) S (rngD lo n) where
  go := fun i S' H' s w hi => by
    show i < n
    simpa [rngD] using hi
  yld := fun i S' H' x H'' s w hlt y => by
    obtain ⟨e1, e2⟩ := y
    subst e1
    have hi : i < n := by simpa [rngD] using hlt
    refine ⟨.int (lo + (i : Nat)), S', ?_, Gr.refl w.s, by simp only [Dt]; exact e2⟩
    simp [rngD, hi]
  stop := fun i S' H' s w hi => by
    show n ≤ i
    simpa [rngD] using hi
theorem ei_rngP {ta : TA} {P : Int → Prop} (h : EvA F ta Δ fun ds => ∃ n : Int, P n ∧ ds = [.int n]) (hb : ∀ n, P n → -(2 ^ 62) ≤ n ∧ n < 2 ^ 62) : EvI F (iRng1 ta) Δ fun r => ∃ n : Int, P n ∧ r = rngD 0 n.toNat := fun H0 S H σ w t R k =>
  h H0 S H σ w t _ fun ds vs S' H' ⟨n, p, e⟩ g hd => by
    subst e
    simp only [DtL, Dt] at hd
    obtain ⟨x, ys, rfl, rfl, rfl⟩ := hd
    exact ⟨n, rfl, (hb n p).1, (hb n p).2, k _ _ S' H' ⟨n, p, rfl⟩ g walk_rng⟩
theorem ei_rng {ta : TA} {n : Int} (h : EvA F ta Δ fun ds => ds = [.int n]) (hb : -(2 ^ 62) ≤ n ∧ n < 2 ^ 62) : EvI F (iRng1 ta) Δ fun r => r = rngD 0 n.toNat := fun H0 S H σ w t R k =>
  h H0 S H σ w t _ fun ds vs S' H' e g hd => by
    subst e
    simp only [DtL, Dt] at hd
    obtain ⟨x, ys, rfl, rfl, rfl⟩ := hd
    exact ⟨n, rfl, hb.1, hb.2, k _ _ S' H' rfl g walk_rng⟩
theorem ei_rng2 {ta : TA} {i j : Int} (h : EvA F ta Δ fun ds => ds = [.int i, .int j]) (hb : -(2 ^ 62) ≤ i ∧ i < 2 ^ 62 ∧ -(2 ^ 62) ≤ j ∧ j < 2 ^ 62) : EvI F (iRng2 ta) Δ fun r => r = rngD i (j - i).toNat := fun H0 S H σ w t R k =>
  h H0 S H σ w t _ fun ds vs S' H' e g hd => by
    subst e
    simp only [DtL, Dt] at hd
    obtain ⟨x, ys, rfl, rfl, y, zs, rfl, rfl, rfl⟩ := hd
    exact ⟨i, j, rfl, hb, k _ _ S' H' rfl g walk_rng⟩
/-! targets: which slots, what they hold -/
def Off (js : List Nat) (σ σ' : L2.St) : Prop := σ'.length = σ.length ∧ ∀ i, i ∉ js → σ'[i]? = σ[i]?
def EvG (F : Fp) (g : TG) (d : D) (Δ : List Sl) (js : List Nat) (Δ' : List Sl) : Prop := ∀ (H0 S H : Hp) (σ : L2.St) (v : V), Okw F S H → StD F S H H0 σ Δ → Dt S d v → ∀ Q : L2.St → Hp → Prop, (∀ σ', StD F S H H0 σ' Δ' → Off js σ σ' → Q σ' H) → g v σ H Q
theorem eg_name {j : Nat} {d : D} : EvG F (gName j) d Δ [j] (Δ.set j (.v d)) := fun H0 S H σ v w t hd Q k =>
  k _ (t.setV hd) ⟨by simp, fun i hi => List.getElem?_set_ne (by simpa using Ne.symm (by simpa using hi))⟩
/-- several targets -/
def EvGs (F : Fp) (g : TGs) (ds : List D) (Δ : List Sl) (js : List Nat) (Δ' : List Sl) : Prop := ∀ (H0 S H : Hp) (σ : L2.St) (vs : List V), Okw F S H → StD F S H H0 σ Δ → DtL S ds vs → ∀ Q : L2.St → Hp → Prop, (∀ σ', StD F S H H0 σ' Δ' → Off js σ σ' → Q σ' H) → g vs σ H Q
theorem egs_nil : EvGs F gNil [] Δ [] Δ := fun H0 S H σ vs w t hd Q k => by
  simp only [DtL] at hd
  exact ⟨hd, k σ t ⟨rfl, fun _ _ => rfl⟩⟩
theorem egs_cons {g : TG} {gs : TGs} {d : D} {ds : List D} {js ks : List Nat} {Δ1 Δ2 : List Sl} (h : EvG F g d Δ js Δ1) (hs : EvGs F gs ds Δ1 ks Δ2) : EvGs F (gCons g gs) (d :: ds) Δ (js ++ ks) Δ2 := fun H0 S H σ vs w t hd Q k => by
  simp only [DtL] at hd
  obtain ⟨x, ys, rfl, h1, h2⟩ := hd
  refine ⟨x, ys, rfl, h H0 S H σ x w t h1 _ fun σ1 t1 o1 => ?_⟩
  refine hs H0 S H σ1 ys w t1 h2 Q fun σ2 t2 o2 => k σ2 t2 ⟨o2.1.trans o1.1, fun i hi => ?_⟩
  rw [List.mem_append, not_or] at hi
  rw [o2.2 i hi.2, o1.2 i hi.1]
theorem eg_tup {gs : TGs} {ds : List D} {js : List Nat} {n : Nat} {Δ' : List Sl} (hl : ds.length = n) (h : EvGs F gs ds Δ js Δ') : EvG F (gTup K n gs) (.tuple ds) Δ js Δ' := fun H0 S H σ v w t hd Q k => by
  simp only [Dt] at hd
  obtain ⟨a, xs, rfl, e, h1⟩ := hd
  exact ⟨a, xs, rfl, SqT.of (w.s _ _ e), by rw [← h1.len]; exact hl, h H0 S H σ xs w t h1 Q k⟩
theorem run_asgG {g : TG} {d : D} {js : List Nat} {Δ' : List Sl} (h : Ev1 F te Δ d) (hg : EvG F g d Δ js Δ') (k : po.nx Δ') : Run F fr (tAsg te g) Δ po := fun S0 H0 B S H σ E w gb st r =>
  h H0 S H σ w st _ fun d' v S' H' e g' hd => by
    subst e
    exact hg H0 S' H' σ v (g'.ok w) (st.mono g') hd _ fun σ' t' _ => r.nx _ S' H' _ k (g'.ok w) (gb.step g') t'
theorem run_asgGS {g : TG} {u : TS} {d : D} {js : List Nat} {Δ' : List Sl} (h : Ev1 F te Δ d) (hg : EvG F g d Δ js Δ') (k : Run F fr u Δ' po) : Run F fr (tSeq (tAsg te g) u) Δ po :=
  run_seqM (N := fun z => z = Δ') (run_asgG h hg rfl) fun _ e => e ▸ k
/-- a, b = x, y -/
theorem run_par {i j : Nat} {ta : TA} {Pa : List D → Prop} {u : TS} (h : EvA F ta Δ Pa) (k : ∀ ds, Pa ds → ∃ x y, ds = [x, y] ∧ Run F fr u ((Δ.set i (.v x)).set j (.v y)) po) : Run F fr (tSeq (tPar i j ta) u) Δ po := fun S0 H0 B S H σ E w gb st r =>
  h H0 S H σ w st _ fun ds vs S' H' p g' hd => by
    obtain ⟨x, y, e, k⟩ := k ds p
    subst e
    simp only [DtL] at hd
    obtain ⟨v, ys, rfl, hv, z, zs, rfl, hz, rfl⟩ := hd
    refine ⟨v, z, rfl, ?_⟩
    exact k S0 H0 B S' H' _ E (g'.ok w) (gb.step g') (((st.mono g').setV hv).setV hz) r
/-- a = [.., ..] and b = .. at once, a new list the def's own -/
theorem run_parF1 {i j : Nat} {tb : TE} {u : TS} {Pa : List D → Prop} {Pb : D → Prop} (h : EvF F te Δ Pa) (hb : EvR F tb Δ Pb) (hj : j < Δ.length) (hij : i ≠ j) (k : ∀ ds d, Pa ds → Pb d → Run F fr u ((Δ.set j (.v d)).set i (.own ds)) po) : Run F fr (tSeq (tPar i j (tCons te (tCons tb tNil))) u) Δ po := fun S0 H0 B S H σ E w gb st r =>
  h H0 S H σ w st _ fun ds p xs S1 H1 q g1 hp h1 hs hd => by
    refine hb H0 S1 H1 σ (g1.ok w) (st.mono g1) _ fun d v S2 H2 pd g2 hv => ?_
    refine ⟨.ref p, v, rfl, ?_⟩
    have nf : ¬ fp F p := fun z => by
      obtain ⟨o, e⟩ := st.fh p z
      obtain ⟨o', e'⟩ := gb.g.m _ _ e
      rw [hp] at e'
      cases e'
    have h0 : H0 p = Option.none := by
      cases e : H0 p with
      | none => rfl
      | some o =>
        obtain ⟨o', e'⟩ := gb.g.m p o e
        rw [hp] at e'
        cases e'
    have st2 : StD F S2 H2 H0 (σ.set j (some v)) (Δ.set j (.v d)) := ((st.mono g1).mono g2).setV hv
    have st3 : StD F S2 H2 H0 ((σ.set j (some v)).set i (some (.ref p))) ((Δ.set j (.v d)).set i (.own ds)) := st2.set ⟨p, xs, rfl, g2.k _ _ nf h1, by rw [g2.n _ _ h1]; exact hs, h0, hd.mono g2.s⟩ fun es _ m fs q' e1 e2 e3 => by
      cases e3
      by_cases hm : m = j
      · subst hm
        rw [List.getElem?_set_self hj] at e1
        cases e1
      · rw [List.getElem?_set_ne (Ne.symm hm)] at e1 e2
        obtain ⟨x, f1, q', ys, f2, f3, _⟩ := st.ok m _ e1
        rw [e2] at f1
        cases f1
        cases f2
        rw [hp] at f3
        cases f3
    have e : (σ.set i (some (.ref p))).set j (some v) = (σ.set j (some v)).set i (some (.ref p)) := List.set_comm _ _ hij
    show u E ((σ.set i (some (.ref p))).set j (some v)) H2
    rw [e]
    exact k ds d q pd S0 H0 B S2 H2 _ E (g2.ok (g1.ok w)) ((gb.step g1).step g2) st3 r
/-! loops -/
theorem run_forP {wi : TI} {g : TG} {tb : TS} {Pd : List D → Prop} (h : EvI F wi Δ Pd) (I : List D → Nat → List Sl → Prop) (h0 : ∀ ds, Pd ds → I ds 0 Δ)
    (hs : ∀ ds i d Δ', Pd ds → ds[i]? = some d → I ds i Δ' → ∃ js Δ'', EvG F g d Δ' js Δ'' ∧ Run F fr tb Δ'' { nx := I ds (i + 1), ct := I ds (i + 1), bk := po.nx, rt := po.rt, ro := po.ro }) (hd : ∀ ds Δ', Pd ds → I ds ds.length Δ' → po.nx Δ') :
    Run F fr (tFor wi g tb) Δ po := fun S0 H0 B S H σ E w gb st r => by
  refine h H0 S H σ w st _ fun ds J S1 H1 p g1 W => ?_
  refine ⟨fun i m σ' H' => m = ds.length - i ∧ i ≤ ds.length ∧ ∃ Δ' S', I ds i Δ' ∧ Okw F S' H' ∧ Gb F S0 H0 B S' H' ∧ Same S1 S' ∧ StD F S' H' H0 σ' Δ', ⟨ds.length, rfl, Nat.zero_le _, Δ, S1, h0 ds p, g1.ok w, gb.step g1, Same.refl _, st.mono g1⟩, ?_⟩
  rintro i m σ' H' ⟨rfl, hi, Δ', S', hI, w', gb', sm, st'⟩
  by_cases hlt : i < ds.length
  · refine .inr ⟨W.go i S' H' sm w' hlt, fun σ2 H2 => ∃ Δ2 S2, I ds (i + 1) Δ2 ∧ Okw F S2 H2 ∧ Gb F S0 H0 B S2 H2 ∧ Same S1 S2 ∧ StD F S2 H2 H0 σ2 Δ2, fun σ2 H2 z => ⟨ds.length - (i + 1), by omega, rfl, hlt, z⟩, fun x H2 y => ?_⟩
    obtain ⟨d, S2, e, g2, hx⟩ := W.yld i S' H' x H2 sm w' hlt y
    obtain ⟨js, Δ2, hg, hr⟩ := hs ds i d Δ' p e hI
    refine hg H0 S2 H2 σ' x (g2.ok w') (st'.mono g2) hx _ fun σ2 st2 _ => ?_
    refine hr S0 H0 S1 S2 H2 σ2 _ (g2.ok w') ⟨(gb'.step g2).g, sm.trans g2.s⟩ st2 ⟨?_, ?_, ?_, ?_⟩
    · exact fun Δ3 S3 H3 σ3 n w3 gb3 st3 => ⟨Δ3, S3, n, w3, ⟨gb3.g, ((gb.step g1).b.trans gb3.b)⟩, gb3.b, st3⟩
    · exact r.rt
    · exact fun Δ3 S3 H3 σ3 n w3 gb3 st3 => r.nx Δ3 S3 H3 σ3 n w3 ⟨gb3.g, ((gb.step g1).b.trans gb3.b)⟩ st3
    · exact fun Δ3 S3 H3 σ3 n w3 gb3 st3 => ⟨Δ3, S3, n, w3, ⟨gb3.g, ((gb.step g1).b.trans gb3.b)⟩, gb3.b, st3⟩
  · have e : i = ds.length := by omega
    subst e
    exact .inl ⟨W.stop _ S' H' sm w' (Nat.le_refl _), r.nx Δ' S' H' σ' (hd ds Δ' p hI) w' gb' st'⟩
theorem run_for {wi : TI} {g : TG} {tb : TS} {ds : List D} (h : EvI F wi Δ fun r => r = ds) (I : Nat → List Sl → Prop) (h0 : I 0 Δ)
    (hs : ∀ i d Δ', ds[i]? = some d → I i Δ' → ∃ js Δ'', EvG F g d Δ' js Δ'' ∧ Run F fr tb Δ'' { nx := I (i + 1), ct := I (i + 1), bk := po.nx, rt := po.rt, ro := po.ro }) (hd : ∀ Δ', I ds.length Δ' → po.nx Δ') :
    Run F fr (tFor wi g tb) Δ po := run_forP h (fun _ => I) (fun _ _ => h0) (fun ds' i d Δ' e1 e2 z => by subst e1; exact hs i d Δ' e2 z) fun ds' Δ' e z => by subst e; exact hd Δ' z
theorem run_while {c : TT} {tb : TS} (I : List Sl → Prop) (μ : List Sl → Nat) (h0 : I Δ)
    (hs : ∀ Δ', I Δ' → ∃ P : Bool → Prop, EvT F c Δ' P ∧ (P true → Run F fr tb Δ' { nx := fun z => I z ∧ μ z < μ Δ', ct := fun z => I z ∧ μ z < μ Δ', bk := po.nx, rt := po.rt, ro := po.ro }) ∧ (P false → po.nx Δ')) : Run F fr (tWhile c tb) Δ po := fun S0 H0 B S H σ E w gb st r => by
  refine ⟨fun m σ' H' => ∃ Δ' S', m = μ Δ' ∧ I Δ' ∧ Okw F S' H' ∧ Gb F S0 H0 B S' H' ∧ StD F S' H' H0 σ' Δ', ⟨μ Δ, Δ, S, rfl, h0, w, gb, st⟩, ?_⟩
  rintro m σ' H' ⟨Δ', S', rfl, hI, w', gb', st'⟩
  obtain ⟨P, hc, ht, hf⟩ := hs Δ' hI
  refine hc H0 S' H' σ' w' st' _ fun b S2 H2 p g2 => ?_
  cases b with
  | false => exact r.nx Δ' S2 H2 σ' (hf p) (g2.ok w') (gb'.step g2) (st'.mono g2)
  | true =>
    refine ⟨fun σ3 H3 => ∃ Δ3 S3, (I Δ3 ∧ μ Δ3 < μ Δ') ∧ Okw F S3 H3 ∧ Gb F S0 H0 B S3 H3 ∧ StD F S3 H3 H0 σ3 Δ3, fun σ3 H3 ⟨Δ3, S3, ⟨i3, l3⟩, w3, gb3, st3⟩ => ⟨μ Δ3, l3, Δ3, S3, rfl, i3, w3, gb3, st3⟩, ?_⟩
    exact ht p S0 H0 B S2 H2 σ' _ (g2.ok w') (gb'.step g2) (st'.mono g2) ⟨fun Δ3 S3 H3 σ3 n w3 gb3 st3 => ⟨Δ3, S3, n, w3, gb3, st3⟩, r.rt, r.nx, fun Δ3 S3 H3 σ3 n w3 gb3 st3 => ⟨Δ3, S3, n, w3, gb3, st3⟩⟩
/-! comprehensions -/
def wipeD (Δ : List Sl) : List Nat → List Sl
  | [] => Δ
  | v :: vs => (wipeD Δ vs).set v .un
theorem StD.wipes {S H H0 : Hp} {σ : L2.St} (t : StD F S H H0 σ Δ) : ∀ vs : List Nat, StD F S H H0 (L2.wipe σ vs) (wipeD Δ vs)
  | [] => t
  | v :: vs => (StD.wipes t vs).wipe v
theorem wipe_get {σ : L2.St} {i : Nat} : ∀ {vs : List Nat}, (wipe σ vs)[i]? = if i ∈ vs then (if i < σ.length then some Option.none else Option.none) else σ[i]?
  | [] => by simp [wipe]
  | v :: vs => by
    unfold wipe
    by_cases h : i = v
    · subst h
      by_cases hl : i < σ.length
      · rw [List.getElem?_set_self (by rw [wipe_length]; exact hl)]
        simp [hl]
      · rw [List.getElem?_eq_none (by simp [wipe_length]; omega)]
        simp [hl]
    · rw [List.getElem?_set_ne (Ne.symm h), wipe_get (vs := vs)]
      simp [h]
theorem wipe_off {σ σ' : L2.St} {js vs : List Nat} (o : Off js σ σ') (hj : ∀ j ∈ js, j ∈ vs) : wipe σ' vs = wipe σ vs := by
  refine List.ext_getElem? fun i => ?_
  rw [wipe_get, wipe_get]
  by_cases h : i ∈ vs
  · simp [h, o.1]
  · simp only [h, if_false]
    exact o.2 i fun z => h (hj i z)
theorem wipe_wipe {σ : L2.St} {vs : List Nat} : wipe (wipe σ vs) vs = wipe σ vs := by
  refine List.ext_getElem? fun i => ?_
  rw [wipe_get, wipe_get]
  by_cases h : i ∈ vs <;> simp [h, wipe_length]
theorem ef_lcP {wi : TI} {g : TG} {tt : TT} {vs : List Nat} {Pd Pr : List D → Prop} (h : EvI F wi Δ Pd) (hz : ∀ ds, Pd ds → ds.length ≤ sizeLine) (J : List D → Nat → List D → Prop) (h0 : ∀ ds, Pd ds → J ds 0 [])
    (hs : ∀ ds i d acc, Pd ds → ds[i]? = some d → J ds i acc → acc.length ≤ i → ∃ js Δ', EvG F g d (wipeD Δ vs) js Δ' ∧ (∀ j ∈ js, j ∈ vs) ∧ ∃ Pt : Bool → Prop, EvT F tt Δ' Pt ∧ (Pt false → J ds (i + 1) acc) ∧ (Pt true → EvR F te Δ' fun e => J ds (i + 1) (acc ++ [e])))
    (hd : ∀ ds acc, Pd ds → J ds ds.length acc → Pr acc) : EvF F (tLc wi g tt te vs) Δ Pr := fun H0 S H σ w st Q k => by
  refine h H0 S H σ w st _ fun ds Jt S1 H1 p g1 W => ?_
  intro L hL
  have hLH : H L = Option.none := by
    cases e : H L with
    | none => rfl
    | some o =>
      obtain ⟨o', e'⟩ := g1.m L o e
      rw [hL] at e'
      cases e'
  have nfL : ¬ fp F L := fun z => by
    obtain ⟨a, c, ef, z⟩ := z
    obtain ⟨_, _, ns, l, m, t, e1, e2, _⟩ := (g1.ok w).src a c ef
    rcases z with rfl | rfl
    · rw [hL] at e1; cases e1
    · rw [hL] at e2; cases e2
  refine ⟨fun i m H' => m = ds.length - i ∧ i ≤ ds.length ∧ ∃ acc xs S', J ds i acc ∧ acc.length ≤ i ∧ Okw F S' H' ∧ Gr F S H S' H' ∧ Same S1 S' ∧ H' L = some (.lst xs) ∧ S' L = Option.none ∧ DtL S' acc xs,
    ⟨ds.length, rfl, Nat.zero_le _, [], [], S1, h0 ds p, Nat.le_refl _, (Gr.new (F := F) g1.h hL).ok (g1.ok w), g1.trans (Gr.new g1.h hL), Same.refl _, upd_same, Same.free g1.h hL, dtl_nil⟩, ?_⟩
  rintro i m H' ⟨rfl, hi, acc, xs, S', hJ, hla, w', g', sm, hx, hsx, hdl⟩
  by_cases hlt : i < ds.length
  · refine .inr ⟨W.go i S' H' sm w' hlt, fun H2 => ∃ acc xs S', J ds (i + 1) acc ∧ acc.length ≤ i + 1 ∧ Okw F S' H2 ∧ Gr F S H S' H2 ∧ Same S1 S' ∧ H2 L = some (.lst xs) ∧ S' L = Option.none ∧ DtL S' acc xs, fun H2 z => ⟨ds.length - (i + 1), by omega, rfl, hlt, z⟩, fun x H2 y => ?_⟩
    obtain ⟨d, S2, e, g2, hxd⟩ := W.yld i S' H' x H2 sm w' hlt y
    obtain ⟨js, Δ2, hg, hjs, Pt, hT, hF, hE⟩ := hs ds i d acc p e hJ hla
    have stw : StD F S2 H2 H0 (wipe σ vs) (wipeD Δ vs) := ((st.mono g').mono g2).wipes vs
    refine hg H0 S2 H2 (wipe σ vs) x (g2.ok w') stw hxd _ fun σ2 st2 off => ?_
    refine ⟨by rw [wipe_off off hjs, wipe_wipe], ?_⟩
    refine hT H0 S2 H2 σ2 (g2.ok w') st2 _ fun b S3 H3 pb g3 => ?_
    have gg := (g'.trans g2).trans g3
    have h3 : H3 L = some (.lst xs) := g3.k _ _ nfL (g2.k _ _ nfL hx)
    have s3 : S3 L = Option.none := by rw [g3.n _ _ (g2.k _ _ nfL hx), g2.n _ _ hx]; exact hsx
    cases b with
    | false => exact ⟨acc, xs, S3, hF pb, by omega, g3.ok (g2.ok w'), gg, (sm.trans g2.s).trans g3.s, h3, s3, (hdl.mono g2.s).mono g3.s⟩
    | true =>
      refine hE pb H0 S3 H3 σ2 (g3.ok (g2.ok w')) (st2.mono g3) _ fun ed v S4 H4 pe g4 hv => ?_
      have h4 : H4 L = some (.lst xs) := g4.k _ _ nfL h3
      have s4 : S4 L = Option.none := by rw [g4.n _ _ h3]; exact s3
      have hlen : xs.length = acc.length := hdl.len.symm
      refine ⟨xs, h4, ?_, acc ++ [ed], xs ++ [v], S4, pe, by simp; omega, ?_, (gg.trans g4).mut hLH s4 h4, ((sm.trans g2.s).trans g3.s).trans g4.s, upd_same, s4, (((hdl.mono g2.s).mono g3.s).mono g4.s).append (dtl_cons hv dtl_nil)⟩
      · have := hz ds p
        omega
      · have w4 := g4.ok (g3.ok (g2.ok w'))
        exact ((gg.trans g4).mut hLH s4 h4).ok w
  · have e : i = ds.length := by omega
    subst e
    exact .inl ⟨W.stop _ S' H' sm w' (Nat.le_refl _), k acc L xs S' H' (hd ds acc p hJ) g' hLH hx hsx hdl⟩
end
end Bc

/-! Core 4: promises by data, calls, a def's body. -/
namespace Bc
open PySem L2 PySem.Spec PyProof.Rows
/-- the arguments: the source ahead of them, or data alone -/
def ArgOk (src : Bool) (F : Fp) (S : Hp) (vs : List V) (ds : List D) : Prop :=
  match src with
  | true => ∃ a c us, F = some (a, c) ∧ vs = .ref a :: us ∧ DtL S ds us
  | false => F = Option.none ∧ DtL S ds vs
def SpD (src fr : Bool) (R : List D → D → Prop) : Sp := fun vs H Q _ => ∃ F S ds, Okw F S H ∧ ArgOk src F S vs ds ∧ (∃ d, R ds d) ∧ ∀ d v S' H', R ds d → Giv fr F S H d v S' H' → Q v H'
structure FnT (P : Program) (w : World) (K : PySem.W.Frag) (mg : Str → Option Value) (base : Heap) (k : Nat) (x : Str) (ps : List Str) (sp : Sp) : Prop where
  ex : ∃ f fd, mg x = some (.ref f) ∧ PySem.W.keepIn K (.ref f) = true ∧ Binds K fd ps [] ∧ FnOk P w K mg base CX0 k f fd ps sp
section
variable {F : Fp} {fr : Bool} {Δ : List Sl} {ta : TA} {R : List D → D → Prop} {E : XK}
theorem ev_call {Pa : List D → Prop} (h : EvA F ta Δ Pa) (hR : ∀ ds, Pa ds → ∃ d, R ds d) : EvR F (tCall (SpD false false R) [] E ta) Δ fun d => ∃ ds, Pa ds ∧ R ds d := fun H0 S H σ w t Q k =>
  h H0 S H σ w t _ fun ds vs S' H' p g hd => by
    rw [List.append_nil]
    exact ⟨Option.none, S', ds, (g.ok w).base, ⟨rfl, hd⟩, hR ds p, fun d v S2 H2 r gv => k d v S2 H2 ⟨ds, p, r⟩ (g.trans gv.g.up) (gv.vl rfl)⟩
theorem ev_call1 {ds : List D} {d : D} (h : EvA F ta Δ fun r => r = ds) (hR : R ds d) (hu : ∀ e, R ds e → e = d) : Ev1 F (tCall (SpD false false R) [] E ta) Δ d :=
  (ev_call h fun _ e => e ▸ ⟨d, hR⟩).imp fun e ⟨_, e1, e2⟩ => hu e (e1 ▸ e2)
theorem ef_call {Pa : List D → Prop} (h : EvA F ta Δ Pa) (hR : ∀ ds, Pa ds → ∃ d, R ds d) : EvF F (tCall (SpD false true R) [] E ta) Δ fun es => ∃ ds, Pa ds ∧ R ds (.list es) := fun H0 S H σ w t Q k =>
  h H0 S H σ w t _ fun ds vs S' H' p g hd => by
    rw [List.append_nil]
    refine ⟨Option.none, S', ds, (g.ok w).base, ⟨rfl, hd⟩, hR ds p, fun d v S2 H2 r gv => ?_⟩
    obtain ⟨es, q, xs, e1, e2, e3, e4, e5, e6⟩ := gv.f rfl
    subst e1
    subst e2
    refine k es q xs S2 H2 ⟨ds, p, r⟩ (g.trans gv.g.up) ?_ e3 e4 e6
    cases e : H q with
    | none => rfl
    | some o =>
      obtain ⟨o', e'⟩ := g.m q o e
      rw [e5] at e'
      cases e'
theorem ev_callS {i : Nat} {Pa : List D → Prop} (hi : Δ[i]? = some .src) (h : EvA F ta Δ Pa) (hR : ∀ ds, Pa ds → ∃ d, R ds d) : EvR F (tCall (SpD true false R) [] E (tCons (tVar i) ta)) Δ fun d => ∃ ds, Pa ds ∧ R ds d := fun H0 S H σ w t Q k => by
  obtain ⟨x, e1, a, c, e2, rfl⟩ := t.ok i _ hi
  refine ⟨_, e1, h H0 S H σ w t _ fun ds vs S' H' p g hd => ?_⟩
  show SpD true false R (.ref a :: vs ++ []) H' Q E
  rw [List.append_nil]
  exact ⟨F, S', ds, g.ok w, ⟨a, c, vs, e2, rfl, hd⟩, hR ds p, fun d v S2 H2 r gv => k d v S2 H2 ⟨ds, p, r⟩ (g.trans gv.g) (gv.vl rfl)⟩
theorem ef_callS {i : Nat} {Pa : List D → Prop} (hi : Δ[i]? = some .src) (h : EvA F ta Δ Pa) (hR : ∀ ds, Pa ds → ∃ d, R ds d) : EvF F (tCall (SpD true true R) [] E (tCons (tVar i) ta)) Δ fun es => ∃ ds, Pa ds ∧ R ds (.list es) := fun H0 S H σ w t Q k => by
  obtain ⟨x, e1, a, c, e2, rfl⟩ := t.ok i _ hi
  refine ⟨_, e1, h H0 S H σ w t _ fun ds vs S' H' p g hd => ?_⟩
  show SpD true true R (.ref a :: vs ++ []) H' Q E
  rw [List.append_nil]
  refine ⟨F, S', ds, g.ok w, ⟨a, c, vs, e2, rfl, hd⟩, hR ds p, fun d v S2 H2 r gv => ?_⟩
  obtain ⟨es, q, xs, z1, z2, e3, e4, e5, e6⟩ := gv.f rfl
  subst z1
  subst z2
  refine k es q xs S2 H2 ⟨ds, p, r⟩ (g.trans gv.g) ?_ e3 e4 e6
  cases e : H q with
  | none => rfl
  | some o =>
    obtain ⟨o', e'⟩ := g.m q o e
    rw [e5] at e'
    cases e'
end
section
variable {X : Cx} {k : Nat} {x : Str} {ps : List Str} {sp : Sp} {e : Expr} {es : List Expr} {t : TA} {p pos : Pos}
theorem pe_callT (G : FnT X.prog X.w X.K X.mg X.base k x ps sp) (hr : Room k X.A) (ha : PA X (e :: es) t) (hg : Gl X x := by rfl)
    (hdb : (x == ("__debug__" : Str)) = false := by decide) (he : starEach (e :: es) X.env = (false, eval e X.env) :: starEach es X.env := by rfl) (hpl : (backTo pos (starEach es X.env)).any (·.1) = false := by rfl) :
    PE X (.Call (.Name x p) (e :: es) [] pos) (tCall sp [] E0 t) := by
  obtain ⟨f, fd, h1, h2, h3, h4⟩ := G.ex
  exact pe_call h4 hr hg h1 h2 h3 .nil pass0 ha hdb he hpl
theorem pe_callT0 (G : FnT X.prog X.w X.K X.mg X.base k x ps sp) (hr : Room k X.A) (hg : Gl X x := by rfl) (hdb : (x == ("__debug__" : Str)) = false := by decide) :
    PE X (.Call (.Name x p) [] [] pos) (tCall sp [] E0 tNil) := by
  obtain ⟨f, fd, h1, h2, h3, h4⟩ := G.ex
  exact pe_call0 h4 hr hg h1 h2 h3 .nil pass0 hdb
end
/-- the slots at the entry -/
def ini (src : Bool) (n : Nat) (ds : List D) : List Sl := (if src then [Sl.src] else []) ++ (ds.map Sl.v ++ List.replicate (n - ds.length - (if src then 1 else 0)) Sl.un)
theorem okL {S : Hp} {F : Fp} {H H0 : Hp} : ∀ {ds : List D} {vs : List V} {i : Nat} {s : Sl}, DtL S ds vs → (ds.map Sl.v)[i]? = some s → ∃ x, (vs.map some)[i]? = some x ∧ SlOk F S H H0 s x := fun {ds vs i s} h e => by
  rw [List.getElem?_map] at e
  cases q : ds[i]? with
  | none => rw [q] at e; cases e
  | some d =>
    rw [q] at e
    cases e
    obtain ⟨x, e2, hx⟩ := h.get q
    exact ⟨some x, by rw [List.getElem?_map, e2]; rfl, x, rfl, hx⟩
theorem no_own {ds : List D} {m i : Nat} {l : List D} (h : (ds.map Sl.v ++ List.replicate m Sl.un)[i]? = some (.own l)) : False := by
  have := List.mem_of_getElem? h
  rw [List.mem_append, List.mem_map, List.mem_replicate] at this
  rcases this with ⟨d, _, e⟩ | ⟨_, e⟩ <;> cases e
theorem st_ini {src : Bool} {F : Fp} {S H : Hp} {N : List Str} {vs : List V} {ds : List D} (w : Okw F S H) (a : ArgOk src F S vs ds) (hl : vs.length ≤ N.length) : StD F S H H (L2.start N vs) (ini src N.length ds) := by
  have fh : ∀ x, fp F x → ∃ o, H x = some o := fun x ⟨a, c, e, z⟩ => by
    obtain ⟨_, _, ns, l, m, t, e1, e2, _⟩ := w.src a c e
    rcases z with rfl | rfl
    · exact ⟨_, e1⟩
    · exact ⟨_, e2⟩
  cases src with
  | false =>
    obtain ⟨_, hd⟩ := a
    have e : ini false N.length ds = ds.map Sl.v ++ List.replicate (N.length - ds.length) Sl.un := by simp [ini]
    rw [e]
    refine ⟨by simp [L2.start, hd.len], fun i s q => ?_, fun i j l m p q _ _ _ => (no_own q).elim, fh⟩
    unfold L2.start
    by_cases hi : i < ds.length
    · rw [List.getElem?_append_left (by simpa using hi)] at q
      rw [List.getElem?_append_left (by simpa [← hd.len] using hi)]
      exact okL hd q
    · rw [List.getElem?_append_right (by simpa using hi)] at q
      rw [List.getElem?_append_right (by simp [← hd.len]; omega)]
      have hm := List.mem_of_getElem? q
      have hlt := (List.getElem?_eq_some_iff.mp q).1
      rw [List.mem_replicate] at hm
      simp only [List.length_map, List.length_replicate] at hlt ⊢
      rw [hm.2]
      refine ⟨Option.none, ?_, trivial⟩
      rw [List.getElem?_replicate, if_pos]
      rw [← hd.len]
      exact hlt
  | true =>
    obtain ⟨a0, c, us, eF, rfl, hd⟩ := a
    have e : ini true N.length ds = Sl.src :: (ds.map Sl.v ++ List.replicate (N.length - ds.length - 1) Sl.un) := by simp [ini]
    have e2 : L2.start N (.ref a0 :: us) = some (.ref a0) :: (us.map some ++ List.replicate (N.length - us.length - 1) Option.none) := by
      simp only [L2.start, List.map_cons, List.length_cons, List.cons_append, Nat.sub_sub]
    rw [e, e2]
    refine ⟨by simp [hd.len], fun i s q => ?_, fun i j l m p q q2 _ _ => ?_, fh⟩
    · cases i with
      | zero =>
        simp only [List.getElem?_cons_zero, Option.some.injEq] at q
        subst q
        exact ⟨_, rfl, a0, c, eF, rfl⟩
      | succ i =>
        rw [List.getElem?_cons_succ] at q
        rw [List.getElem?_cons_succ]
        by_cases hi : i < ds.length
        · rw [List.getElem?_append_left (by simpa using hi)] at q
          rw [List.getElem?_append_left (by simpa [← hd.len] using hi)]
          exact okL hd q
        · rw [List.getElem?_append_right (by simpa using hi)] at q
          rw [List.getElem?_append_right (by simp [← hd.len]; omega)]
          have hm := List.mem_of_getElem? q
          have hlt := (List.getElem?_eq_some_iff.mp q).1
          rw [List.mem_replicate] at hm
          simp only [List.length_map, List.length_replicate] at hlt ⊢
          rw [hm.2]
          refine ⟨Option.none, ?_, trivial⟩
          rw [List.getElem?_replicate, if_pos]
          rw [← hd.len]
          exact hlt
    · cases i with
      | zero => simp at q
      | succ i => exact (no_own (by simpa using q)).elim
section
variable {P : Program} {w : World} {K : PySem.W.Frag} {mg : Str → Option Value} {base : Heap}
theorem arg_len {src : Bool} {F : Fp} {S : Hp} {vs : List V} {ds : List D} (a : ArgOk src F S vs ds) : vs.length = ds.length + (if src then 1 else 0) := by
  cases src with
  | false => obtain ⟨_, hd⟩ := a; rw [hd.len]; rfl
  | true => obtain ⟨_, _, us, _, rfl, hd⟩ := a; rw [hd.len]; rfl
theorem ok_D {x qual : Str} {st : Stmt} {f : Addr} {fd : FuncData} {N ps : List Str} {k : Nat} {src fr : Bool} {R : List D → D → Prop} (Fu : Fun K x qual st f fd) (S : FnScope N ps (defScope st)) (hl : ∀ ds d, R ds d → ds.length + (if src then 1 else 0) = ps.length)
    (hbody : ∀ (cdv : Value) (A : Around) (outer : List Env) (s : Shared) (H : Hp) (E : XK), Room k (A.deeper (envOfC qual (defScope st) s.heap.objs.size f cdv)) →
      ∃ t, PSs (cxOf CX0 P w K mg base N qual (defScope st) f cdv A outer s H E).nox (defBody st) t ∧ ∀ F ds, (src = false → F = Option.none) → (∃ d, R ds d) → Run F fr t (ini src N.length ds) { nx := fun _ => fr = false ∧ R ds .none, rt := R ds }) :
    FnOk P w K mg base CX0 (k + 1) f fd ps (SpD src fr R) := by
  have hps : ps.length ≤ N.length := by
    have := congrArg List.length S.pre
    rw [List.length_take] at this
    omega
  refine Fu.ok S (fun vs H Q E h => ?_) (fun cdv A outer s H vs Q E hr h => ?_)
  · obtain ⟨F, S', ds, _, a, ⟨d, r⟩, _⟩ := h
    rw [arg_len a]
    exact hl ds d r
  · obtain ⟨F, S', ds, w', a, ⟨d, r⟩, hk⟩ := h
    obtain ⟨t, ht, hrun⟩ := hbody cdv A outer s H E hr
    refine ⟨t, ht, hrun F ds (fun e => by subst e; exact a.1) ⟨d, r⟩ S' H S' S' H _ _ w' ⟨Gr.refl w'.s, Same.refl _⟩ (st_ini w' a (by rw [arg_len a, hl ds d r]; exact hps)) ⟨?_, ?_, fun _ _ _ _ z => z.elim, fun _ _ _ _ z => z.elim⟩⟩
    · exact fun Δ S2 H2 σ n w2 g2 _ => hk .none .non S2 H2 n.2 ⟨g2.g, fun _ => by simp only [Dt], fun e => by rw [n.1] at e; cases e⟩
    · exact fun d v _ S2 H2 _ q _ _ _ gv => hk d v S2 H2 q gv
end
end Bc

/-! Core G: promises where no repr is under way (guards = []): wanted by repr of lists and tuples. -/
namespace Bc
open PySem L2 PySem.Spec PyProof.Rows
structure FnOkG (P : Program) (w : World) (K : PySem.W.Frag) (mg : Str → Option Value) (base : Heap) (k : Nat) (f : Addr) (fd : FuncData) (ps : List Str) (sp : Sp) : Prop where
  len : ∀ vs H Q E, sp vs H Q E → vs.length = ps.length
  run : ∀ (A : Around) (outer : List Env) (s : Shared) (H : Hp) (args : Args) (us : List Value) (vs : List V) (Q : VK) (E : XK), A.guards = some [] → Room k A → Env0 P w K mg base A outer s H → BindsTo s fd args (ps.zip us) → Vals vs us → sp vs H Q E →
    codeAny (model P w) A (.call (.ref f) args) (CR CX0 outer P w H s Q E) s
theorem FnOkG.of {P : Program} {w : World} {K : PySem.W.Frag} {mg : Str → Option Value} {base : Heap} {k : Nat} {f : Addr} {fd : FuncData} {ps : List Str} {sp : Sp} (G : FnOk P w K mg base CX0 k f fd ps sp) : FnOkG P w K mg base k f fd ps sp :=
  ⟨G.len, fun A o s H args us vs Q E _ hr => G.run A o s H args us vs Q E hr⟩
structure FnTG (P : Program) (w : World) (K : PySem.W.Frag) (mg : Str → Option Value) (base : Heap) (k : Nat) (x : Str) (ps : List Str) (sp : Sp) : Prop where
  ex : ∃ f fd, mg x = some (.ref f) ∧ PySem.W.keepIn K (.ref f) = true ∧ Binds K fd ps [] ∧ FnOkG P w K mg base k f fd ps sp
theorem FnT.toG {P : Program} {w : World} {K : PySem.W.Frag} {mg : Str → Option Value} {base : Heap} {k : Nat} {x : Str} {ps : List Str} {sp : Sp} (T : FnT P w K mg base k x ps sp) : FnTG P w K mg base k x ps sp := by
  obtain ⟨f, fd, a, b, c, d⟩ := T.ex
  exact ⟨f, fd, a, b, c, .of d⟩
theorem FnT.mono {P : Program} {w : World} {K : PySem.W.Frag} {mg : Str → Option Value} {base : Heap} {k j : Nat} {x : Str} {ps : List Str} {sp : Sp} (T : FnT P w K mg base j x ps sp) (h : j ≤ k) : FnT P w K mg base k x ps sp := by
  obtain ⟨f, fd, a, b, c, d⟩ := T.ex
  exact ⟨f, fd, a, b, c, d.mono h⟩
section
variable {P : Program} {w : World} {K : PySem.W.Frag} {mg : Str → Option Value} {base : Heap} {k : Nat} {f : Addr} {fd : FuncData} {ps : List Str} {sp : Sp}
theorem bodyG {x qual : Str} {st : Stmt} {N : List Str} (Fu : Fun K x qual st f fd) (Sc : FnScope N ps (defScope st)) (len : ∀ vs H Q E, sp vs H Q E → vs.length = ps.length)
    (hbody : ∀ (cdv : Value) (A : Around) (outer : List Env) (s : Shared) (H : Hp) (vs : List V) (Q : VK) (E : XK), A.guards = some [] → Room k (A.deeper (envOfC qual (defScope st) s.heap.objs.size f cdv)) → sp vs H Q E →
      ∃ t, PSs (cxOf CX0 P w K mg base N qual (defScope st) f cdv A outer s H E).nox (defBody st) t ∧ t { nx := fun _ H' => Q .non H', rt := Q } (L2.start N vs) H) : FnOkG P w K mg base (k + 1) f fd ps sp := by
  obtain ⟨oc, od, kV, doc, pm, an, cdv, ct, osl, rfl, lk, hcd⟩ := Fu.ex
  refine ⟨len, fun A outer s0 H args us vs Q E gA rm env0 hb rel hsp => ?_⟩
  have nvs := len _ _ _ _ hsp
  have inK : K.In s0.heap := env0.mod.kin.keeps fun b o z => (env0.bs b o z).1
  have lim := env0.mod.nolimit.keeps fun b o z => (env0.bs b o z).1
  have kinds : ∀ y ∈ ps.zip us, (defScope st).names.lookup y.1 = some .local ∨ ((defScope st).names.lookup y.1 = some .cell ∧ ((cellsFrom (s0.heap.objs.size + 1) (defScope st).names []).lookup y.1).isSome = true) := by
    rintro ⟨n, v⟩ hy
    cases Sc.par n (List.of_mem_zip hy).1 with
    | inl q => exact Or.inl q
    | inr q => exact Or.inr ⟨q, PySem.W.cellsFrom_some _ _ _ (Or.inl q)⟩
  refine codeAny_call_function rm.depth (inK _ _ lk) rfl Sc.co Sc.gen rfl (PySem.W.codeRec_of inK hcd) (hb _ _ _ _ ?_)
  refine wpAny_newFunctionEnv_cells Sc.kind kinds ?_
  intro env ee s1 ic
  subst ee
  refine ⟨lim.keeps ic.toInCall.keep, codeAny_func ?_⟩
  obtain ⟨t, tk, tq⟩ := hbody cdv A outer s0 H vs Q E gA (rm.deeper _) hsp
  have I1 : Inv (cxOf CX0 P w K mg base N qual (defScope st) f cdv A outer s0 H E) [] (L2.start N vs) H s1 := inv_start Sc rm.hd env0 nvs rel ic
  refine wpAny_mono (tk.nox.run [] s1 (L2.start N vs) H _ I1 tq) (fun fl s2 hs => ?_) fun e s2 hs => hs
  cases fl with
  | ret u =>
    obtain ⟨v, _, H', J, rv, q⟩ := hs
    exact ⟨v, H', J.os, J.bare, J.base, J.hok, rv, q⟩
  | next =>
    obtain ⟨_, H', J, q⟩ := hs
    exact ⟨V.non, H', J.os, J.bare, J.base, J.hok, (rfl : RelV V.non Value.none), q⟩
  | brk =>
    obtain ⟨_, _, _, z⟩ := hs
    exact False.elim z
  | cont =>
    obtain ⟨_, _, _, z⟩ := hs
    exact False.elim z
theorem ok_DG {x qual : Str} {st : Stmt} {N : List Str} {src fr : Bool} {R : List D → D → Prop} (Fu : Fun K x qual st f fd) (S : FnScope N ps (defScope st)) (hl : ∀ ds d, R ds d → ds.length + (if src then 1 else 0) = ps.length)
    (hbody : ∀ (cdv : Value) (A : Around) (outer : List Env) (s : Shared) (H : Hp) (E : XK), A.guards = some [] → Room k (A.deeper (envOfC qual (defScope st) s.heap.objs.size f cdv)) →
      ∃ t, PSs (cxOf CX0 P w K mg base N qual (defScope st) f cdv A outer s H E).nox (defBody st) t ∧ ∀ F ds, (src = false → F = Option.none) → (∃ d, R ds d) → Run F fr t (ini src N.length ds) { nx := fun _ => fr = false ∧ R ds .none, rt := R ds }) :
    FnOkG P w K mg base (k + 1) f fd ps (SpD src fr R) := by
  have hps : ps.length ≤ N.length := by
    have := congrArg List.length S.pre
    rw [List.length_take] at this
    omega
  refine bodyG Fu S (fun vs H Q E h => ?_) (fun cdv A outer s H vs Q E gA hr h => ?_)
  · obtain ⟨F, S', ds, _, a, ⟨d, r⟩, _⟩ := h
    rw [arg_len a]
    exact hl ds d r
  · obtain ⟨F, S', ds, w', a, ⟨d, r⟩, hk⟩ := h
    obtain ⟨t, ht, hrun⟩ := hbody cdv A outer s H E gA hr
    refine ⟨t, ht, hrun F ds (fun e => by subst e; exact a.1) ⟨d, r⟩ S' H S' S' H _ _ w' ⟨Gr.refl w'.s, Same.refl _⟩ (st_ini w' a (by rw [arg_len a, hl ds d r]; exact hps)) ⟨?_, ?_, fun _ _ _ _ z => z.elim, fun _ _ _ _ z => z.elim⟩⟩
    · exact fun Δ S2 H2 σ n w2 g2 _ => hk .none .non S2 H2 n.2 ⟨g2.g, fun _ => by simp only [Dt], fun e => by rw [n.1] at e; cases e⟩
    · exact fun d v _ S2 H2 _ q _ _ _ gv => hk d v S2 H2 q gv
end
section
variable {X : Cx} {k : Nat} {x : Str} {ps : List Str} {sp : Sp} {e : Expr} {es : List Expr} {t : TA} {p pos : Pos}
theorem run_G {f : Addr} {fd : FuncData} {pins : List (Addr × Obj)} {σ : L2.St} {H : Hp} {s : Shared} {Q : VK} {us : List Value} {vs : List V} (G : FnOkG X.prog X.w X.K X.mg X.base k f fd ps sp) (hg : X.A.guards = some []) (hr : Room k X.A) (hb : Binds X.K fd ps [])
    (I : Inv X pins σ H s) (r : Vals vs us) (h : sp vs H Q E0) : wpAny (model X.prog X.w) X.A (call (.ref f) us) (EP X pins σ Q) X.xe s := by
  have hl : (us ++ []).length = ps.length := by rw [List.append_nil, ← r.length]; exact G.len _ _ _ _ h
  have bt := hb s us I.kIn hl
  rw [List.append_nil] at bt
  refine wpAny_call (codeAny_mono (G.run X.A X.stack s H ⟨us, []⟩ us vs Q E0 hg hr I.env0 bt r h) fun res s' hq => ?_)
  cases res with
  | error e => exact False.elim hq
  | ok fl =>
    cases fl with
    | ret u => exact I.after hq
    | next => exact False.elim hq
    | brk => exact False.elim hq
    | cont => exact False.elim hq
theorem pe_callG (G : FnTG X.prog X.w X.K X.mg X.base k x ps sp) (gd : X.A.guards = some []) (hr : Room k X.A) (ha : PA X (e :: es) t) (hg : Gl X x := by rfl)
    (hdb : (x == ("__debug__" : Str)) = false := by decide) (he : starEach (e :: es) X.env = (false, eval e X.env) :: starEach es X.env := by rfl) (hpl : (backTo pos (starEach es X.env)).any (·.1) = false := by rfl) :
    PE X (.Call (.Name x p) (e :: es) [] pos) (tCall sp [] E0 t) := by
  obtain ⟨f, fd, h1, h2, h3, h4⟩ := G.ex
  refine ⟨fun pins s σ H Q I h => wpAny_Call_Name_kw (ld_glob I hg h1 ?_ hdb)⟩
  refine PySem.W.callWith_K (h₀ := X.base) I.ok.mod.kin h2 (thn (ha.run pos pins s σ H _ I h) fun us s1 hv => ?_) he hpl
  obtain ⟨vs, H1, I1, r, q⟩ := hv
  rw [List.append_nil] at q
  exact ⟨I1.kIn, run_G h4 gd hr h3 I1 r q⟩
theorem pe_callG0 (G : FnTG X.prog X.w X.K X.mg X.base k x ps sp) (gd : X.A.guards = some []) (hr : Room k X.A) (hg : Gl X x := by rfl) (hdb : (x == ("__debug__" : Str)) = false := by decide) :
    PE X (.Call (.Name x p) [] [] pos) (tCall sp [] E0 tNil) := by
  obtain ⟨f, fd, h1, h2, h3, h4⟩ := G.ex
  refine ⟨fun pins s σ H Q I h => wpAny_Call_Name_kw (ld_glob I hg h1 ?_ hdb)⟩
  exact PySem.W.callWith_K0 I.kIn h2 (run_G (us := []) h4 gd hr h3 I .nil h)
end
/-! ### the law's call -/
/-- law's promise: a list of at most 63 ints, True comes out -/
def spLaw (K : PySem.W.Frag) : Sp := fun vs H Q _ => ∃ (a : Addr) (ns : List Int), vs = [.ref a] ∧ SqL K H a (ns.map V.int) ∧ ns.length ≤ 63 ∧ ∀ H', Q (.bl true) H'
theorem law_callG {P : Program} {w : World} {K : PySem.W.Frag} {mg mb : Str → Option Value} {k : Nat} {fa a : Addr} {fd : FuncData} {x : Str} {s : Shared} {vs : List Value} {ns : List Int}
    (inK : K.In s.heap) (hns : s.heap.Ns mainGlobals mg) (hb : s.heap.Ns builtinsNs mb) (hbb : ∀ x : Str, x ≠ "__name__" → mb x = bootBuiltins x) (lim : s.heap.NoLimit) (hg : s.gens = #[])
    (ha : s.heap.get? a = some { cls := .type "list", data := .seq vs.toArray }) (hi : IntsAre vs ns) (hl : ns.length ≤ 63) (hr : Room k callerA)
    (G : ∀ base : Heap, K.In base → base.Ns mainGlobals mg → FnOkG P w K mg base k fa fd [x] (spLaw K)) (hbind : ∀ (s : Shared) (u : Value), BindsTo s fd ⟨[u], []⟩ [(x, u)]) :
    codeAny (model P w) callerA (.call (.ref fa) ⟨[.ref a], []⟩) (fun r s' => r = .ok (.ret (.bool true)) ∧ OldK s.heap s'.heap ∧ s'.os = s.os ∧ AllBare s'.gens) s := by
  have rv := vals_ints hi
  have nl := hi.length
  have hl2 : ns.length ≤ sizeLine := Nat.le_trans hl (by decide)
  -- an abstract heap that tracks nothing but the script, locked
  suffices core : ∀ H : Hp, Only H → SqL K H a (ns.map V.int) → HOk P w H s.heap → (∀ b u, H b = some u → b = a ∧ K.lookup a = Option.none) →
      codeAny (model P w) callerA (.call (.ref fa) ⟨[.ref a], []⟩) (fun r s' => r = .ok (.ret (.bool true)) ∧ OldK s.heap s'.heap ∧ s'.os = s.os ∧ AllBare s'.gens) s by
    cases hk : K.lookup a with
    | some o =>
      have z := inK a o hk
      rw [ha] at z
      cases z
      refine core (fun _ => Option.none) (fun _ => Or.inl rfl) (Or.inr ⟨_, vs.toArray, _, hk, rfl, rfl, rfl, ?_, by simpa using rv⟩) (fun b u z => by cases z) fun b u z => by cases z
      rw [List.size_toArray, nl]
      exact hl2
    | none =>
      have at1 : ∀ b u, (if b = a then some (HO.frz { cls := .type "list", data := .seq vs.toArray } (.lst (ns.map V.int))) else Option.none) = some u → b = a ∧ u = HO.frz { cls := .type "list", data := .seq vs.toArray } (.lst (ns.map V.int)) := fun b u z => by
        by_cases hb : b = a
        · rw [if_pos hb] at z
          exact ⟨hb, (Option.some.inj z).symm⟩
        · rw [if_neg hb] at z
          cases z
      refine core (fun b => if b = a then some (.frz { cls := .type "list", data := .seq vs.toArray } (.lst (ns.map V.int))) else Option.none) (fun b => ?_) (Or.inl (Or.inr ⟨_, if_pos rfl⟩)) (fun b u z => ?_) fun b u z => ⟨(at1 b u z).1, hk⟩
      · by_cases hb : b = a
        · exact Or.inr ⟨_, _, if_pos hb⟩
        · exact Or.inl (if_neg hb)
      · obtain ⟨e1, e2⟩ := at1 b u z
        subst e1
        subst e2
        exact ⟨ha, by rw [List.length_map]; exact hl2, vs, _, rv, ha⟩
  intro H only sq hok own
  have free_of : ∀ {b : Addr} {o : Obj}, s.heap.get? b = some o → b ≠ a ∨ K.lookup a ≠ Option.none → H b = Option.none := fun {b o} _ z => by
    cases q : H b with
    | none => rfl
    | some u =>
      obtain ⟨z1, z2⟩ := own b u q
      rcases z with z | z
      · exact absurd z1 z
      · exact absurd z2 z
  have ns_of : ∀ {b : Addr} {m : Str → Option Value}, s.heap.Ns b m → (hidT s.heap H).Ns b m := fun {b m} ⟨o, es, ep, e, d, r⟩ => by
    refine ⟨o, es, ep, hidT_get e (free_of e (.inl fun z => ?_)), d, r⟩
    rw [z, ha] at e
    cases e
    cases d
  have inB : K.In (hidT s.heap H) := fun b o e => hidT_get (inK b o e) (by
    by_cases hb : b = a
    · exact free_of (inK b o e) (.inr fun z => by rw [← hb, e] at z; cases z)
    · exact free_of (inK b o e) (.inl hb))
  have hM : Mod K mg (hidT s.heap H) := ⟨inB, ns_of hns, ⟨mb, ns_of hb, hbb⟩, lim.elim fun mc h => ⟨mc, ns_of h.1, h.2⟩⟩
  have env0 : Env0 P w K mg (hidT s.heap H) callerA [] s H := ⟨rfl, hM, fun b o e => of_hidT e, Nat.le_of_eq (hidT_size _ _), trivial, fun b z => (List.not_mem_nil z).elim, hok, .of_eq hg⟩
  refine codeAny_mono ((G _ inB (ns_of hns)).run callerA [] s H ⟨[.ref a], []⟩ [.ref a] [.ref a] (fun v _ => v = .bl true) E0 rfl hr env0 (hbind s (.ref a)) (.cons rfl .nil) ⟨a, ns, rfl, sq, hl, fun _ => rfl⟩) fun r s' h => ?_
  match r, h with
  | .ok (.ret u), h =>
    obtain ⟨v, H', os, bare, un, hok', rel, q⟩ := h
    obtain rfl : v = .bl true := q
    obtain rfl : u = Value.bool true := rel
    refine ⟨rfl, OldK.of_keep fun b o e => ?_, os, bare⟩
    cases q : H b with
    | none => exact un.keep b o e q (fun z => (List.not_mem_nil z).elim) (by simp)
    | some u =>
      rcases only b with z | ⟨ob, xs, z⟩
      · rw [q] at z
        cases z
      · obtain ⟨f1, _⟩ := hok b _ z
        obtain ⟨f2, _⟩ := hok' b _ (un.frzs b ob _ z)
        rw [e] at f1
        cases f1
        exact f2
theorem walk_G {l : PySem.W.OpenLaw} {k : Nat} {q : Program} {loose : List Str} {XP : (Str → Option Value) → Heap → Prop} {YP : World → Heap → Prop} {d : DefRec} {K : Params → PySem.W.Frag} {x : Str}
    (hn : l.most = some 63) (hdf : d.params.defaults = []) (hr : Room k callerA) (hY : ∀ (w : World) (h : Heap), YP w h → (K w.params).In h)
    (F : ∀ (w : World) (mg : Str → Option Value) (fa : Addr) (h : Heap), (K w.params).In h → h.Ns mainGlobals mg → mg d.name = some (.ref fa) →
      ∃ fd : FuncData, (∀ (s : Shared) (u : Value), BindsTo s fd ⟨[u], []⟩ [(x, u)]) ∧ ∀ base : Heap, (K w.params).In base → base.Ns mainGlobals mg → FnOkG l.prog w (K w.params) mg base k fa fd [x] (spLaw (K w.params))) :
    PySem.W.WalkO q loose XP YP l.row.toRowW d [] (fun f vs => PySem.call f vs) := by
  refine Att.attach_call hn hdf fun w s₀ s₁ mg mb fa o pm cd doc a vs ns Gd Y ho hd hcd hmg hobj hints hlen hg => ?_
  have KX := hY w _ Y
  obtain ⟨fd, hb, hF⟩ := F w mg fa _ KX Gd.T.g hmg
  exact law_callG KX Gd.T.g Gd.T.b Gd.T.builtins Gd.T.nolimit hg hobj hints hlen hr hF hb
end Bc

/-! Core 5: operators and built-ins, whatever the kinds of their values. -/
namespace Bc
open PySem L2 PySem.Spec PyProof.Rows
/-! ### data as the library's -/
mutual
def D.py : D → PyData
  | .none => .none
  | .bool b => .bool b
  | .int i => .int i
  | .str s => .str s
  | .list l => .list (pyL l)
  | .tuple l => .tuple (pyL l)
  | .dict _ => .none
  | .obj _ _ => .none
  | .ref _ => .none
def pyL : List D → List PyData
  | [] => []
  | d :: ds => d.py :: pyL ds
end
mutual
def D.isPy : D → Bool
  | .none => true
  | .bool _ => true
  | .int _ => true
  | .str _ => true
  | .list l => isPyL l
  | .tuple l => isPyL l
  | .dict _ => false
  | .obj _ _ => false
  | .ref _ => false
def isPyL : List D → Bool
  | [] => true
  | d :: ds => d.isPy && isPyL ds
end
mutual
theorem Dt.dp {K : PySem.W.Frag} {S H : Hp} (e : Same S H) : ∀ (d : D) (v : V), d.isPy = true → Dt S d v → Dp K H v d.py
  | .none, v, _, h => by simp only [Dt] at h; subst h; exact .non
  | .bool b, v, _, h => by simp only [Dt] at h; subst h; exact .bl b
  | .int b, v, _, h => by simp only [Dt] at h; subst h; exact .int b
  | .str b, v, _, h => by simp only [Dt] at h; subst h; exact .str b
  | .ref a, v, q, _ => by simp [D.isPy] at q
  | .dict a, v, q, _ => by simp [D.isPy] at q
  | .obj C a, v, q, _ => by simp [D.isPy] at q
  | .list ds, v, q, h => by
    simp only [Dt] at h
    simp only [D.isPy] at q
    obtain ⟨a, xs, rfl, e1, h1⟩ := h
    exact .lst (SqL.of (e _ _ e1)) (DtL.dp e ds xs q h1)
  | .tuple ds, v, q, h => by
    simp only [Dt] at h
    simp only [D.isPy] at q
    obtain ⟨a, xs, rfl, e1, h1⟩ := h
    exact .tup (SqT.of (e _ _ e1)) (DtL.dp e ds xs q h1)
theorem DtL.dp {K : PySem.W.Frag} {S H : Hp} (e : Same S H) : ∀ (ds : List D) (xs : List V), isPyL ds = true → DtL S ds xs → DpAll K H xs (pyL ds)
  | [], xs, _, h => by simp only [DtL] at h; subst h; exact .nil
  | d :: ds, xs, q, h => by
    simp only [DtL] at h
    simp only [isPyL, Bool.and_eq_true] at q
    obtain ⟨x, ys, rfl, h1, h2⟩ := h
    exact .cons (Dt.dp e d x q.1 h1) (DtL.dp e ds ys q.2 h2)
end
section
variable {X : Cx} {K : PySem.W.Frag} {F : Fp}
/-! ### + -/
abbrev rAddP (K : PySem.W.Frag) : R2 := fun x y H Q => (rI0 fun i j => .int (i + j)) x y H Q ∨ ((∃ i j, x = .str i ∧ y = .str j ∧ i.length + j.length ≤ sizeLine ∧ Q (.str (i ++ j)) H) ∨ (rCat x y H Q ∨ rCatA K x y H Q))
theorem pAdd : OpR X (binaryOp .Add) (rAddP X.K) := op_add.or (op_add_str.or (op_cat.or op_catA))
def addF : D → D → D → Prop
  | .int i, .int j, d => d = .int (i + j)
  | .str a, .str b, d => a.length + b.length ≤ sizeLine ∧ d = .str (a ++ b)
  | .list a, .list b, d => a.length + b.length ≤ sizeLine ∧ d = .list (a ++ b)
  | .tuple a, .tuple b, d => a.length + b.length ≤ sizeLine ∧ d = .tuple (a ++ b)
  | _, _, _ => False
theorem sAdd : OpS F (rAddP K) addF := fun S H x y d u v Q w hx hy hf k => by
  unfold addF at hf
  split at hf
  · rename_i d i j
    simp only [Dt] at hx hy
    subst hx hy hf
    exact .inl ⟨i, j, rfl, rfl, k _ _ _ (Gr.refl w.s) (by simp only [Dt])⟩
  · rename_i d i j
    simp only [Dt] at hx hy
    obtain ⟨hz, rfl⟩ := hf
    subst hx hy
    exact .inr (.inl ⟨i, j, rfl, rfl, hz, k _ _ _ (Gr.refl w.s) (by simp only [Dt])⟩)
  · rename_i d a b
    obtain ⟨hz, rfl⟩ := hf
    simp only [Dt] at hx hy
    obtain ⟨p, xs, rfl, e1, h1⟩ := hx
    obtain ⟨q, ys, rfl, e2, h2⟩ := hy
    refine .inr (.inr (.inl ⟨p, q, xs, ys, rfl, rfl, w.s _ _ e1, w.s _ _ e2, by rw [← h1.len, ← h2.len]; exact hz, fun r hr => ?_⟩))
    refine k _ _ _ (Gr.newD w.s hr) ?_
    simp only [Dt]
    exact ⟨r, xs ++ ys, rfl, upd_same, (h1.append h2).mono (Gr.newD (F := F) (o := .lst (xs ++ ys)) w.s hr).s⟩
  · rename_i d a b
    obtain ⟨hz, rfl⟩ := hf
    simp only [Dt] at hx hy
    obtain ⟨p, xs, rfl, e1, h1⟩ := hx
    obtain ⟨q, ys, rfl, e2, h2⟩ := hy
    refine .inr (.inr (.inr ⟨p, q, xs, ys, rfl, rfl, SqT.of (w.s _ _ e1), SqT.of (w.s _ _ e2), by rw [← h1.len, ← h2.len]; exact hz, fun z => ?_, fun z1 z2 => ?_, fun z1 z2 r hr => ?_⟩))
    · subst z
      refine k _ _ _ (Gr.refl w.s) ?_
      have : a = [] := List.eq_nil_of_length_eq_zero (by rw [h1.len]; rfl)
      subst this
      simp only [Dt, List.nil_append]
      exact ⟨q, ys, rfl, e2, h2⟩
    · subst z2
      refine k _ _ _ (Gr.refl w.s) ?_
      have : b = [] := List.eq_nil_of_length_eq_zero (by rw [h2.len]; rfl)
      subst this
      simp only [Dt, List.append_nil]
      exact ⟨p, xs, rfl, e1, h1⟩
    · refine k _ _ _ (Gr.newD w.s hr) ?_
      simp only [Dt]
      exact ⟨r, xs ++ ys, rfl, upd_same, (h1.append h2).mono (Gr.newD (F := F) (o := .tup (xs ++ ys)) w.s hr).s⟩
  · exact hf.elim
/-! ### other arithmetic -/
def intF (C : Int → Int → Prop) (g : Int → Int → Int) : D → D → D → Prop
  | .int i, .int j, d => C i j ∧ d = .int (g i j)
  | _, _, _ => False
theorem sInt {C : Int → Int → Prop} {g : Int → Int → Int} : OpS F (rI C fun i j => .int (g i j)) (intF C g) := fun S H x y d u v Q w hx hy hf k => by
  unfold intF at hf
  split at hf
  · rename_i d i j
    simp only [Dt] at hx hy
    obtain ⟨hc, rfl⟩ := hf
    subst hx hy
    exact ⟨i, j, rfl, rfl, hc, k _ _ _ (Gr.refl w.s) (by simp only [Dt])⟩
  · exact hf.elim
theorem sInt0 {g : Int → Int → Int} : OpS F (rI0 fun i j => .int (g i j)) (intF (fun _ _ => True) g) := fun S H x y d u v Q w hx hy hf k => by
  unfold intF at hf
  split at hf
  · rename_i d i j
    simp only [Dt] at hx hy
    obtain ⟨hc, rfl⟩ := hf
    subst hx hy
    exact ⟨i, j, rfl, rfl, k _ _ _ (Gr.refl w.s) (by simp only [Dt])⟩
  · exact hf.elim
/-- int * int, text * int, list * int -/
abbrev rMulP : R2 := fun x y H Q => (rI CMul fun i j => .int (i * j)) x y H Q ∨ ((∃ z n, x = .str z ∧ y = .int n ∧ MulOk z n ∧ Q (.str (Txt.mul z n)) H) ∨ rRep x y H Q)
theorem op_mulStr : OpR X (binaryOp .Mult) (fun x y H Q => ∃ z n, x = .str z ∧ y = .int n ∧ MulOk z n ∧ Q (.str (Txt.mul z n)) H) := by
  intro pins s σ H x y v u Q I rx ry h
  obtain ⟨z, n, rfl, rfl, hok, q⟩ := h
  obtain ⟨t, rfl⟩ := rx
  obtain ⟨t', rfl⟩ := ry
  exact SB.mul hok fun t2 k => ⟨.str _, H, I.tok k, ⟨t2, rfl⟩, q⟩
theorem pMul : OpR X (binaryOp .Mult) rMulP := op_mul.or (op_mulStr.or op_rep)
def mulF : D → D → D → Prop
  | .int i, .int j, d => CMul i j ∧ d = .int (i * j)
  | .str z, .int n, d => MulOk z n ∧ d = .str (Txt.mul z n)
  | .list l, .int n, d => -(2 ^ 63) ≤ n ∧ n < 2 ^ 63 ∧ l.length * n.toNat ≤ sizeLine ∧ d = .list (List.replicate n.toNat l).flatten
  | _, _, _ => False
theorem DtL.rep {S : Hp} {ds : List D} {xs : List V} (h : DtL S ds xs) : ∀ n : Nat, DtL S (List.replicate n ds).flatten (List.replicate n xs).flatten
  | 0 => by simpa using dtl_nil
  | n + 1 => by
    rw [List.replicate_succ, List.replicate_succ, List.flatten_cons, List.flatten_cons]
    exact h.append (DtL.rep h n)
theorem sMul : OpS F rMulP mulF := fun S H x y d u v Q w hx hy hf k => by
  unfold mulF at hf
  split at hf
  · rename_i d i j
    simp only [Dt] at hx hy
    obtain ⟨hc, rfl⟩ := hf
    subst hx hy
    exact .inl ⟨i, j, rfl, rfl, hc, k _ _ _ (Gr.refl w.s) (by simp only [Dt])⟩
  · rename_i d i j
    simp only [Dt] at hx hy
    obtain ⟨hc, rfl⟩ := hf
    subst hx hy
    exact .inr (.inl ⟨i, j, rfl, rfl, hc, k _ _ _ (Gr.refl w.s) (by simp only [Dt])⟩)
  · rename_i d l n
    obtain ⟨h1, h2, h3, rfl⟩ := hf
    simp only [Dt] at hx hy
    obtain ⟨p, xs, rfl, e1, hd⟩ := hx
    subst hy
    refine .inr (.inr ⟨p, n, xs, rfl, rfl, w.s _ _ e1, h1, h2, by rw [← hd.len]; exact h3, fun r hr => ?_⟩)
    refine k _ _ _ (Gr.newD w.s hr) ?_
    simp only [Dt]
    exact ⟨r, _, rfl, upd_same, (hd.rep n.toNat).mono (Gr.newD (F := F) (o := .lst (List.replicate n.toNat xs).flatten) w.s hr).s⟩
  · exact hf.elim
/-! ### comparisons -/
def eqF (neg : Bool) (x y d : D) : Prop := x.isPy = true ∧ y.isPy = true ∧ SeqAt.shaped x.py = true ∧ SeqAt.shaped y.py = true ∧ d = .bool (if neg then !PyData.eqv x.py y.py else PyData.eqv x.py y.py)
theorem sEq : OpS F (rEqD K) (eqF false) := fun S H x y d u v Q w hx hy ⟨p1, p2, s1, s2, e⟩ k => by
  subst e
  exact ⟨x.py, y.py, Dt.dp w.s x u p1 hx, Dt.dp w.s y v p2 hy, s1, s2, k _ _ _ (Gr.refl w.s) (by simp only [Dt]; rfl)⟩
theorem sNe : OpS F (rNeD K) (eqF true) := fun S H x y d u v Q w hx hy ⟨p1, p2, s1, s2, e⟩ k => by
  subst e
  exact ⟨x.py, y.py, Dt.dp w.s x u p1 hx, Dt.dp w.s y v p2 hy, s1, s2, k _ _ _ (Gr.refl w.s) (by simp only [Dt]; rfl)⟩
abbrev rLtP : R2 := fun x y H Q => (rI0 fun i j => .bl (decide (i < j))) x y H Q ∨ (∃ i j, x = .str i ∧ y = .str j ∧ Q (.bl (decide (i.cps.toList < j.cps.toList))) H)
theorem pLt : OpR X (compareOp .Lt) rLtP := op_lt.or op_lt_str
abbrev rLeP : R2 := fun x y H Q => (rI0 fun i j => .bl (decide (i ≤ j))) x y H Q ∨ (∃ i j, x = .str i ∧ y = .str j ∧ Q (.bl (!decide (j.cps.toList < i.cps.toList))) H)
theorem pLe : OpR X (compareOp .LtE) rLeP := op_le.or op_le_str
def ltF : D → D → D → Prop
  | .int i, .int j, d => d = .bool (decide (i < j))
  | .str i, .str j, d => d = .bool (decide (i.cps.toList < j.cps.toList))
  | _, _, _ => False
def leF : D → D → D → Prop
  | .int i, .int j, d => d = .bool (decide (i ≤ j))
  | .str i, .str j, d => d = .bool (!decide (j.cps.toList < i.cps.toList))
  | _, _, _ => False
theorem sLt : OpS F rLtP ltF := fun S H x y d u v Q w hx hy hf k => by
  unfold ltF at hf
  split at hf
  · rename_i d i j
    simp only [Dt] at hx hy
    subst hx hy hf
    exact .inl ⟨i, j, rfl, rfl, k _ _ _ (Gr.refl w.s) (by simp only [Dt])⟩
  · rename_i d i j
    simp only [Dt] at hx hy
    subst hx hy hf
    exact .inr ⟨i, j, rfl, rfl, k _ _ _ (Gr.refl w.s) (by simp only [Dt])⟩
  · exact hf.elim
theorem sLe : OpS F rLeP leF := fun S H x y d u v Q w hx hy hf k => by
  unfold leF at hf
  split at hf
  · rename_i d i j
    simp only [Dt] at hx hy
    subst hx hy hf
    exact .inl ⟨i, j, rfl, rfl, k _ _ _ (Gr.refl w.s) (by simp only [Dt])⟩
  · rename_i d i j
    simp only [Dt] at hx hy
    subst hx hy hf
    exact .inr ⟨i, j, rfl, rfl, k _ _ _ (Gr.refl w.s) (by simp only [Dt])⟩
  · exact hf.elim
def cmpF (g : Int → Int → Bool) : D → D → D → Prop
  | .int i, .int j, d => d = .bool (g i j)
  | _, _, _ => False
theorem sCmp {g : Int → Int → Bool} : OpS F (rI0 fun i j => .bl (g i j)) (cmpF g) := fun S H x y d u v Q w hx hy hf k => by
  unfold cmpF at hf
  split at hf
  · rename_i d i j
    simp only [Dt] at hx hy
    subst hx hy hf
    exact ⟨i, j, rfl, rfl, k _ _ _ (Gr.refl w.s) (by simp only [Dt])⟩
  · exact hf.elim
/-- x is None -/
def D.isN : D → Bool
  | .none => true
  | _ => false
def isNF (neg : Bool) (x y d : D) : Prop := y = .none ∧ d = .bool (x.isN != neg)
theorem dt_none {S : Hp} {x : D} {u : V} (h : Dt S x u) : decide (u = .non) = x.isN := by
  cases x <;> simp only [Dt] at h <;> first
    | (subst h; rfl)
    | (obtain ⟨a, xs, rfl, _⟩ := h; rfl)
    | (obtain ⟨a, dx, xs, rfl, _⟩ := h; rfl)
theorem sIsN : OpS F (fun x y H Q => y = .non ∧ Q (.bl (decide (x = .non))) H) (isNF false) := fun S H x y d u v Q w hx hy ⟨e1, e2⟩ k => by
  subst e1 e2
  simp only [Dt] at hy
  refine ⟨hy, ?_⟩
  rw [dt_none hx]
  exact k _ _ _ (Gr.refl w.s) (by simp only [Dt]; cases x.isN <;> rfl)
theorem sNotN : OpS F (fun x y H Q => y = .non ∧ Q (.bl (!decide (x = .non))) H) (isNF true) := fun S H x y d u v Q w hx hy ⟨e1, e2⟩ k => by
  subst e1 e2
  simp only [Dt] at hy
  refine ⟨hy, ?_⟩
  rw [dt_none hx]
  exact k _ _ _ (Gr.refl w.s) (by simp only [Dt]; cases x.isN <;> rfl)
/-! ### in: a sign in a text, data in a list, a key in a dict -/
abbrev rInP (K : PySem.W.Frag) (neg : Bool) : R2 := fun x y H Q =>
  (∃ (c : Nat) (z : Str), x = .str ⟨#[c]⟩ ∧ y = .str z ∧ Q (.bl (if neg then !decide (c ∈ z.cps.toList) else decide (c ∈ z.cps.toList))) H) ∨
  ((∃ d ds, Dp K H x d ∧ Dp K H y (.list ds) ∧ SeqAt.shaped d = true ∧ SeqAt.shaped (.list ds) = true ∧ Q (.bl (if neg then !(ds.any fun z => PyData.eqv z d) else ds.any fun z => PyData.eqv z d)) H) ∨
  (∃ a o, y = .ref a ∧ DGet H a x o ∧ Q (.bl (if neg then !o.isSome else o.isSome)) H))
theorem pIn (hu : X.A.units + 65 < cLine) : OpR X (compareOp .In) (rInP X.K false) := by
  intro pins s σ H x y v u Q I rx ry h
  rcases h with h | h | ⟨a, o, rfl, g, q⟩
  · exact op_in_sign pins s σ H x y v u Q I rx ry h
  · exact op_inD hu pins s σ H x y v u Q I rx ry h
  · obtain rfl : u = Value.ref a := ry
    exact d_in (by omega) I g rx fun s3 I3 => ⟨.bl o.isSome, H, I3, rfl, q⟩
theorem pNotIn (hu : X.A.units + 65 < cLine) : OpR X (compareOp .NotIn) (rInP X.K true) := by
  intro pins s σ H x y v u Q I rx ry h
  rcases h with h | h | ⟨a, o, rfl, g, q⟩
  · exact op_notIn_sign pins s σ H x y v u Q I rx ry h
  · exact op_notInD hu pins s σ H x y v u Q I rx ry h
  · obtain rfl : u = Value.ref a := ry
    exact d_notIn (by omega) I g rx fun s3 I3 => ⟨.bl (!o.isSome), H, I3, rfl, q⟩
def keyD : D → Option Key
  | .int i => some (.inl i)
  | .str z => some (.inr z)
  | _ => Option.none
def inF (neg : Bool) : D → D → D → Prop
  | .str x, .str z, d => ∃ c, x = ⟨#[c]⟩ ∧ d = .bool (if neg then !decide (c ∈ z.cps.toList) else decide (c ∈ z.cps.toList))
  | x, .list ds, d => x.isPy = true ∧ isPyL ds = true ∧ SeqAt.shaped x.py = true ∧ SeqAt.shaped (.list (pyL ds)) = true ∧ d = .bool (if neg then !((pyL ds).any fun z => PyData.eqv z x.py) else (pyL ds).any fun z => PyData.eqv z x.py)
  | x, .dict kvs, d => ∃ k, keyD x = some k ∧ d = .bool (if neg then !(kvs.any fun q => decide (q.1 = k)) else kvs.any fun q => decide (q.1 = k))
  | _, _, _ => False
theorem DtK.has {S : Hp} {k : Key} : ∀ {kvs : List (Key × D)} {ks : List (Key × V)}, DtK S kvs ks → (valV ks k).isSome = kvs.any fun q => decide (q.1 = k)
  | [], ks, h => by simp only [DtK] at h; subst h; rfl
  | (k1, d) :: r, ks, h => by
    simp only [DtK] at h
    obtain ⟨x, ys, rfl, h1, h2⟩ := h
    by_cases e : k1 = k
    · subst e
      rw [valV_pos rfl]
      simp
    · rw [show valV ((k1, x) :: ys) k = valV ys k by simp [valV, List.find?_cons, e], DtK.has h2]
      simp [e]
theorem DtK.val {S : Hp} {k : Key} : ∀ {kvs : List (Key × D)} {ks : List (Key × V)} {d : D}, DtK S kvs ks → (kvs.find? fun q => decide (q.1 = k)).map (·.2) = some d → ∃ x, valV ks k = some x ∧ Dt S d x
  | [], ks, d, h, e => by cases e
  | (k1, d1) :: r, ks, d, h, e => by
    simp only [DtK] at h
    obtain ⟨x, ys, rfl, h1, h2⟩ := h
    by_cases q : k1 = k
    · subst q
      rw [valV_pos rfl]
      simp at e
      subst e
      exact ⟨x, rfl, h1⟩
    · rw [show valV ((k1, x) :: ys) k = valV ys k by simp [valV, List.find?_cons, q]]
      refine DtK.val h2 ?_
      simpa [List.find?_cons, q] using e
theorem dt_key {S : Hp} {x : D} {u : V} {k : Key} (h : Dt S x u) (e : keyD x = some k) : u = kV k := by
  cases x <;> simp only [keyD] at e <;> first | (cases e; done) | (cases e; simp only [Dt] at h; subst h; rfl)
theorem sIn {neg : Bool} : OpS F (rInP K neg) (inF neg) := fun S H x y d u v Q w hx hy hf k => by
  unfold inF at hf
  split at hf
  · rename_i d x z
    obtain ⟨c, rfl, rfl⟩ := hf
    simp only [Dt] at hx hy
    subst hx hy
    exact .inl ⟨c, z, rfl, rfl, k _ _ _ (Gr.refl w.s) (by simp only [Dt])⟩
  · rename_i l
    obtain ⟨p1, p2, s1, s2, rfl⟩ := hf
    exact .inr (.inl ⟨_, pyL l, Dt.dp w.s _ u p1 hx, Dt.dp w.s (.list l) v p2 hy, s1, s2, k _ _ _ (Gr.refl w.s) (by simp only [Dt])⟩)
  · rename_i x kvs d
    obtain ⟨q, e1, rfl⟩ := hf
    simp only [Dt] at hy
    obtain ⟨a, ks, rfl, e2, h2⟩ := hy
    have eu := dt_key hx e1
    subst eu
    refine .inr (.inr ⟨a, _, rfl, DGet.k (w.s _ _ e2), ?_⟩)
    rw [h2.has]
    exact k _ _ _ (Gr.refl w.s) (by simp only [Dt])
  · exact hf.elim
/-! ### items -/
def ixF : D → D → D → Prop
  | .list ds, .int i, d => atI ds i = some d
  | .tuple ds, .int i, d => atI ds i = some d
  | .str z, .int i, d => z.length ≤ sizeLine ∧ ∃ c, atI z.cps.toList i = some c ∧ d = .str ⟨#[c]⟩
  | _, _, _ => False
theorem atI_map {S : Hp} {ds : List D} {xs : List V} {i : Int} {d : D} (h : DtL S ds xs) (e : atI ds i = some d) : ∃ x, atI xs i = some x ∧ Dt S d x := by
  unfold atI at e ⊢
  rw [← h.len]
  cases q : ixN ds.length i with
  | none => rw [q] at e; cases e
  | some j =>
    rw [q] at e
    exact h.get e
theorem sIx : OpS F (rIx K) ixF := fun S H x y d u v Q w hx hy hf k => by
  unfold ixF at hf
  split at hf
  · rename_i d ds i
    simp only [Dt] at hx hy
    obtain ⟨p, xs, rfl, e1, h1⟩ := hx
    subst hy
    obtain ⟨x, e2, hd⟩ := atI_map h1 hf
    exact .inl ⟨p, xs, i, x, rfl, rfl, SqL.of (w.s _ _ e1), e2, k _ _ _ (Gr.refl w.s) hd⟩
  · rename_i d ds i
    simp only [Dt] at hx hy
    obtain ⟨p, xs, rfl, e1, h1⟩ := hx
    subst hy
    obtain ⟨x, e2, hd⟩ := atI_map h1 hf
    exact .inr (.inl ⟨p, xs, i, x, rfl, rfl, SqT.of (w.s _ _ e1), e2, k _ _ _ (Gr.refl w.s) hd⟩)
  · rename_i d z i
    obtain ⟨hz, c, e, rfl⟩ := hf
    simp only [Dt] at hx hy
    subst hx hy
    exact .inr (.inr ⟨z, i, c, rfl, rfl, hz, e, k _ _ _ (Gr.refl w.s) (by simp only [Dt])⟩)
  · exact hf.elim
/-- of what is read -/
theorem ev_ixS {b : Bool} {ta tb : TE} {Δ : List Sl} {Ps : List D → Prop} {Pi P : D → Prop} (h : EvS F b ta Δ Ps) (hi : EvR F tb Δ Pi) (hk : ∀ ds y, Ps ds → Pi y → ∃ i d, y = .int i ∧ atI ds i = some d ∧ P d) : EvR F (tOp (rIx K) ta tb) Δ P := fun H0 S H σ w t Q k => by
  refine h H0 S H σ w t _ fun ds p xs S1 H1 q g1 nf h1 hd => ?_
  refine hi H0 S1 H1 σ (g1.ok w) (t.mono g1) _ fun y v S2 H2 qy g2 hy => ?_
  obtain ⟨i, d, e1, e2, pd⟩ := hk ds y q qy
  subst e1
  simp only [Dt] at hy
  subst hy
  obtain ⟨x, e3, hx⟩ := atI_map (hd.mono g2.s) e2
  have z := g2.k _ _ nf h1
  cases b with
  | true => exact .inr (.inl ⟨p, xs, i, x, rfl, rfl, SqT.of z, e3, k _ _ _ _ pd (g1.trans g2) hx⟩)
  | false => exact .inl ⟨p, xs, i, x, rfl, rfl, SqL.of z, e3, k _ _ _ _ pd (g1.trans g2) hx⟩
/-! ### slices -/
abbrev rSlP (K : PySem.W.Frag) : V → Option Int → Option Int → Hp → VK → Prop := fun x lo hi H Q => rSlL K x lo hi H Q ∨ (rSlT K x lo hi H Q ∨ rSlS x lo hi H Q)
theorem pSl : SlR X (rSlP X.K) := sl_list.or (sl_tup.or sl_str)
def cutD (xs : List D) (lo hi : Option Int) : List D := (xs.drop (HT.sIx xs.length 0 lo)).take (HT.sIx xs.length xs.length hi - HT.sIx xs.length 0 lo)
theorem DtL.cut {S : Hp} {ds : List D} {xs : List V} (h : DtL S ds xs) (lo hi : Option Int) : DtL S (cutD ds lo hi) (cutV xs lo hi) := by
  unfold cutD cutV
  rw [← h.len]
  exact (h.drop _).take _
def slF (x : D) (lo hi : Option Int) (d : D) : Prop := match x with
  | .list ds => d = .list (cutD ds lo hi)
  | .tuple ds => ¬ (HT.sIx ds.length 0 lo = 0 ∧ HT.sIx ds.length ds.length hi = ds.length) ∧ d = .tuple (cutD ds lo hi)
  | .str z => z.length ≤ sizeLine ∧ d = .str (cutS z lo hi)
  | _ => False
theorem eo_none {Δ : List Sl} : EvO F tNoPart Δ fun o => o = Option.none := fun H0 S H σ w t Q k => k _ _ _ rfl (Gr.refl w.s)
theorem eo_some {te : TE} {Δ : List Sl} {i : Int} (h : Ev1 F te Δ (.int i)) : EvO F (tPart te) Δ fun o => o = some i := fun H0 S H σ w t Q k =>
  h H0 S H σ w t _ fun d v S' H' e g hd => by
    subst e
    simp only [Dt] at hd
    exact ⟨i, hd, k _ _ _ rfl g⟩
theorem eo_someP {te : TE} {Δ : List Sl} {P : Int → Prop} (h : EvR F te Δ fun d => ∃ i, d = .int i ∧ P i) : EvO F (tPart te) Δ fun o => ∃ i, o = some i ∧ P i := fun H0 S H σ w t Q k =>
  h H0 S H σ w t _ fun d v S' H' ⟨i, e, p⟩ g hd => by
    subst e
    simp only [Dt] at hd
    exact ⟨i, hd, k _ _ _ ⟨i, rfl, p⟩ g⟩
theorem ev_sl {te : TE} {tl th : TO} {Δ : List Sl} {x : D} {Pl Ph : Option Int → Prop} {P : D → Prop} (h : Ev1 F te Δ x) (hl : EvO F tl Δ Pl) (hh : EvO F th Δ Ph) (hk : ∀ lo hi, Pl lo → Ph hi → ∃ d, slF x lo hi d ∧ P d) : EvR F (tSl (rSlP K) te tl th) Δ P := fun H0 S H σ w t Q k => by
  refine h H0 S H σ w t _ fun d v S1 H1 e g1 hd => ?_
  subst e
  refine hl H0 S1 H1 σ (g1.ok w) (t.mono g1) _ fun lo S2 H2 pl g2 => ?_
  refine hh H0 S2 H2 σ (g2.ok (g1.ok w)) ((t.mono g1).mono g2) _ fun hi S3 H3 ph g3 => ?_
  obtain ⟨r, hf, pr⟩ := hk lo hi pl ph
  have w3 := g3.ok (g2.ok (g1.ok w))
  have hd3 := (hd.mono g2.s).mono g3.s
  have gg := (g1.trans g2).trans g3
  unfold slF at hf
  split at hf
  · rename_i ds
    subst hf
    simp only [Dt] at hd3
    obtain ⟨a, xs, rfl, e1, h1⟩ := hd3
    refine .inl ⟨a, xs, rfl, SqL.of (w3.s _ _ e1), fun p hp => k _ _ _ _ pr (gg.trans (Gr.newD w3.s hp)) ?_⟩
    simp only [Dt]
    exact ⟨p, _, rfl, upd_same, (h1.cut lo hi).mono (Gr.newD (F := F) (o := .lst (cutV xs lo hi)) w3.s hp).s⟩
  · rename_i ds
    obtain ⟨hn, rfl⟩ := hf
    simp only [Dt] at hd3
    obtain ⟨a, xs, rfl, e1, h1⟩ := hd3
    refine .inr (.inl ⟨a, xs, rfl, SqT.of (w3.s _ _ e1), by rw [← h1.len]; exact hn, fun p hp => k _ _ _ _ pr (gg.trans (Gr.newD w3.s hp)) ?_⟩)
    simp only [Dt]
    exact ⟨p, _, rfl, upd_same, (h1.cut lo hi).mono (Gr.newD (F := F) (o := .tup (cutV xs lo hi)) w3.s hp).s⟩
  · rename_i z
    obtain ⟨hz, rfl⟩ := hf
    simp only [Dt] at hd3
    subst hd3
    exact .inr (.inr ⟨z, rfl, hz, k _ _ _ _ pr gg (by simp only [Dt])⟩)
  · exact hf.elim
theorem ev_sl1 {te : TE} {tl th : TO} {Δ : List Sl} {x d : D} {lo hi : Option Int} (h : Ev1 F te Δ x) (hl : EvO F tl Δ fun o => o = lo) (hh : EvO F th Δ fun o => o = hi) (hk : slF x lo hi d) : Ev1 F (tSl (rSlP K) te tl th) Δ d :=
  ev_sl h hl hh fun a b e1 e2 => ⟨d, by rw [e1, e2]; exact hk, rfl⟩
/-! ### calls of built-ins -/
def CallS (F : Fp) (r : List V → Hp → VK → Prop) (f : List D → D → Prop) : Prop := ∀ (S H : Hp) (ds : List D) (d : D) (vs : List V) (Q : VK), Okw F S H → DtL S ds vs → f ds d → (∀ w S' H', Gr F S H S' H' → Dt S' d w → Q w H') → r vs H Q
theorem ev_cb {r : List V → Hp → VK → Prop} {f : List D → D → Prop} {ta : TA} {Δ : List Sl} {Pa : List D → Prop} {P : D → Prop} (hr : CallS F r f) (h : EvA F ta Δ Pa) (hk : ∀ ds, Pa ds → ∃ d, f ds d ∧ P d) : EvR F (tCB r ta) Δ P := fun H0 S H σ w t Q k =>
  h H0 S H σ w t _ fun ds vs S' H' p g hd => by
    obtain ⟨d, hf, pd⟩ := hk ds p
    exact hr S' H' ds d vs Q (g.ok w) hd hf fun u S2 H2 g2 hu => k d u S2 H2 pd (g.trans g2) hu
theorem ev_cb1 {r : List V → Hp → VK → Prop} {f : List D → D → Prop} {ta : TA} {Δ : List Sl} {ds : List D} {d : D} (hr : CallS F r f) (h : EvA F ta Δ fun x => x = ds) (hk : f ds d) : Ev1 F (tCB r ta) Δ d := ev_cb hr h fun _ e => ⟨d, by rw [e]; exact hk, rfl⟩
abbrev rLenP (K : PySem.W.Frag) : List V → Hp → VK → Prop := fun xs H Q => (∃ x n, xs = [x] ∧ LenV K x H n ∧ Q (.int n) H)
theorem pLen : CallR X (.builtin "len") (rLenP X.K) := call_len
def lenF : List D → D → Prop
  | [.list l], d => d = .int l.length
  | [.tuple l], d => d = .int l.length
  | [.str z], d => z.length ≤ sizeLine ∧ d = .int z.length
  | _, _ => False
theorem sLen : CallS F (rLenP K) lenF := fun S H ds d vs Q w hd hf k => by
  unfold lenF at hf
  split at hf
  · rename_i l
    subst hf
    simp only [DtL, Dt] at hd
    obtain ⟨x, ys, rfl, ⟨a, xs, rfl, e1, h1⟩, rfl⟩ := hd
    exact ⟨_, l.length, rfl, .inl ⟨xs, SqL.of (w.s _ _ e1), h1.len⟩, k _ _ _ (Gr.refl w.s) (by simp only [Dt])⟩
  · rename_i l
    subst hf
    simp only [DtL, Dt] at hd
    obtain ⟨x, ys, rfl, ⟨a, xs, rfl, e1, h1⟩, rfl⟩ := hd
    exact ⟨_, l.length, rfl, .inr ⟨xs, SqT.of (w.s _ _ e1), h1.len⟩, k _ _ _ (Gr.refl w.s) (by simp only [Dt])⟩
  · rename_i z
    obtain ⟨hz, rfl⟩ := hf
    simp only [DtL, Dt] at hd
    obtain ⟨x, ys, rfl, rfl, rfl⟩ := hd
    exact ⟨_, z.length, rfl, ⟨hz, rfl⟩, k _ _ _ (Gr.refl w.s) (by simp only [Dt])⟩
  · exact hf.elim
/-- len of what is read -/
theorem ev_lenS {b : Bool} {te : TE} {Δ : List Sl} {Ps : List D → Prop} (h : EvS F b te Δ Ps) : EvR F (tCB (rLenP K) (tCons te tNil)) Δ fun d => ∃ ds : List D, Ps ds ∧ d = .int ds.length := fun H0 S H σ w t Q k => by
  refine h H0 S H σ w t _ fun ds p xs S1 H1 q g1 nf h1 hd => ?_
  cases b with
  | true => exact ⟨_, ds.length, rfl, .inr ⟨xs, SqT.of h1, hd.len⟩, k _ _ _ _ ⟨ds, q, rfl⟩ g1 (by simp only [Dt])⟩
  | false => exact ⟨_, ds.length, rfl, .inl ⟨xs, SqL.of h1, hd.len⟩, k _ _ _ _ ⟨ds, q, rfl⟩ g1 (by simp only [Dt])⟩
theorem ev_lenO {i : Nat} {Δ : List Sl} {ds : List D} (h : Δ[i]? = some (.own ds)) : Ev1 F (tCB (rLenP K) (tCons (tVar i) tNil)) Δ (.int ds.length) := (ev_lenS (es_own h)).imp fun d ⟨_, e1, e2⟩ => by rw [e2, e1]
abbrev rIntP : List V → Hp → VK → Prop := fun xs H Q => ((∃ i, xs = [.int i] ∧ Q (.int i) H) ∨ ∃ k, xs = [.bl k] ∧ Q (.int (if k then 1 else 0)) H) ∨ (∃ a n, xs = [.str a] ∧ PySem.intText? a = some n ∧ a.length ≤ 640 ∧ Q (.int n) H)
theorem pInt : CallR X (.type "int") rIntP := CallR.or call_int1 call_int_str
def intOf : List D → D → Prop
  | [.int i], d => d = .int i
  | [.bool b], d => d = .int (if b then 1 else 0)
  | [.str z], d => z.length ≤ 640 ∧ ∃ n, PySem.intText? z = some n ∧ d = .int n
  | _, _ => False
theorem sIntC : CallS F rIntP intOf := fun S H ds d vs Q w hd hf k => by
  unfold intOf at hf
  split at hf
  · rename_i i
    subst hf
    simp only [DtL, Dt] at hd
    obtain ⟨x, ys, rfl, rfl, rfl⟩ := hd
    exact .inl (.inl ⟨i, rfl, k _ _ _ (Gr.refl w.s) (by simp only [Dt])⟩)
  · rename_i b
    subst hf
    simp only [DtL, Dt] at hd
    obtain ⟨x, ys, rfl, rfl, rfl⟩ := hd
    exact .inl (.inr ⟨b, rfl, k _ _ _ (Gr.refl w.s) (by simp only [Dt])⟩)
  · rename_i z
    obtain ⟨hz, n, e, rfl⟩ := hf
    simp only [DtL, Dt] at hd
    obtain ⟨x, ys, rfl, rfl, rfl⟩ := hd
    exact .inr ⟨z, n, rfl, e, hz, k _ _ _ (Gr.refl w.s) (by simp only [Dt])⟩
  · exact hf.elim
abbrev rStrP : List V → Hp → VK → Prop := fun xs H Q => (∃ i, xs = [.int i] ∧ i.natAbs.log2 < 1920 ∧ Q (.str (toString i)) H) ∨ (∃ a, xs = [.str a] ∧ Q (.str a) H)
theorem pStr : CallR X (.type "str") rStrP := CallR.or call_str_int SkE.call_str_str
def strOfF : List D → D → Prop
  | [.int i], d => i.natAbs.log2 < 1920 ∧ d = .str (toString i)
  | [.str z], d => d = .str z
  | _, _ => False
theorem sStrC : CallS F rStrP strOfF := fun S H ds d vs Q w hd hf k => by
  unfold strOfF at hf
  split at hf
  · rename_i i
    obtain ⟨hz, rfl⟩ := hf
    simp only [DtL, Dt] at hd
    obtain ⟨x, ys, rfl, rfl, rfl⟩ := hd
    exact .inl ⟨i, rfl, hz, k _ _ _ (Gr.refl w.s) (by simp only [Dt])⟩
  · rename_i z
    subst hf
    simp only [DtL, Dt] at hd
    obtain ⟨x, ys, rfl, rfl, rfl⟩ := hd
    exact .inr ⟨z, rfl, k _ _ _ (Gr.refl w.s) (by simp only [Dt])⟩
  · exact hf.elim
/-! list(x), tuple(x) -/
abbrev rListP (K : PySem.W.Frag) : List V → Hp → VK → Prop := fun xs H Q => ∃ p ys, xs = [.ref p] ∧ (SqL K H p ys ∨ SqT K H p ys) ∧ ∀ l, H l = Option.none → Q (.ref l) (upd H l (.lst ys))
theorem pList : CallR X (.type "list") (rListP X.K) := call_list_of
theorem ef_list {b : Bool} {te : TE} {Δ : List Sl} {Ps : List D → Prop} (h : EvS F b te Δ Ps) : EvF F (tCB (rListP K) (tCons te tNil)) Δ Ps := fun H0 S H σ w t Q k => by
  refine h H0 S H σ w t _ fun ds p xs S1 H1 q g1 nf h1 hd => ?_
  refine ⟨p, xs, rfl, (by cases b with | true => exact .inr (SqT.of h1) | false => exact .inl (SqL.of h1)), fun l hl => ?_⟩
  refine k ds l xs S1 _ q (g1.trans (Gr.new g1.h hl)) ?_ upd_same (Same.free g1.h hl) hd
  cases e : H l with
  | none => rfl
  | some o =>
    obtain ⟨o', e'⟩ := g1.m l o e
    rw [hl] at e'
    cases e'
abbrev rTupP (K : PySem.W.Frag) : List V → Hp → VK → Prop := fun xs H Q => ∃ p ys, xs = [.ref p] ∧ ((SqL K H p ys ∧ ∀ l, H l = Option.none → Q (.ref l) (upd H l (.tup ys))) ∨ (SqT K H p ys ∧ Q (.ref p) H))
theorem pTuple : CallR X (.type "tuple") (rTupP X.K) := call_tuple_of
def tupF : List D → D → Prop
  | [.list l], d => d = .tuple l
  | [.tuple l], d => d = .tuple l
  | _, _ => False
theorem sTup : CallS F (rTupP K) tupF := fun S H ds d vs Q w hd hf k => by
  unfold tupF at hf
  split at hf
  · rename_i l
    subst hf
    simp only [DtL, Dt] at hd
    obtain ⟨x, ys, rfl, ⟨a, xs, rfl, e1, h1⟩, rfl⟩ := hd
    refine ⟨a, xs, rfl, .inl ⟨SqL.of (w.s _ _ e1), fun p hp => k _ _ _ (Gr.newD w.s hp) ?_⟩⟩
    simp only [Dt]
    exact ⟨p, xs, rfl, upd_same, h1.mono (Gr.newD (F := F) (o := .tup xs) w.s hp).s⟩
  · rename_i l
    subst hf
    simp only [DtL, Dt] at hd
    obtain ⟨x, ys, rfl, ⟨a, xs, rfl, e1, h1⟩, rfl⟩ := hd
    refine ⟨a, xs, rfl, .inr ⟨SqT.of (w.s _ _ e1), k _ _ _ (Gr.refl w.s) ?_⟩⟩
    simp only [Dt]
    exact ⟨a, xs, rfl, e1, h1⟩
  · exact hf.elim
/-! isinstance(x, T), T a built-in class -/
def D.ty : D → String
  | .none => "NoneType"
  | .bool _ => "bool"
  | .int _ => "int"
  | .str _ => "str"
  | .list _ => "list"
  | .tuple _ => "tuple"
  | .dict _ => "dict"
  | _ => "?"
theorem dt_ty {S H : Hp} (e : Same S H) {d : D} {v : V} (h : Dt S d v) (hd : d.ty ≠ "?") : TyX K H v (.type d.ty) := by
  cases d <;> simp only [Dt] at h
  · subst h; exact .base .non
  · subst h; exact .base (.bl _)
  · subst h; exact .base (.int _)
  · subst h; exact .base (.str _)
  · obtain ⟨a, xs, rfl, e1, _⟩ := h; exact .base (.lst (e _ _ e1))
  · obtain ⟨a, xs, rfl, e1, _⟩ := h; exact .base (.tup (e _ _ e1))
  · obtain ⟨a, xs, rfl, e1, _⟩ := h; exact .base (.dK (e _ _ e1))
  · exact absurd rfl hd
  · exact absurd rfl hd
end
end Bc

/-! Core 6: short words for texts, globals, tests. -/
namespace Bc
open PySem L2 PySem.Spec PyProof.Rows
/-! texts as lists of code points -/
def txt (l : List Nat) : Str := ⟨l.toArray⟩
theorem txt_len (l : List Nat) : (txt l).length = l.length := by simp [txt, Str.length]
theorem txt_list (l : List Nat) : (txt l).cps.toList = l := by simp [txt]
theorem txt_eta (z : Str) : txt z.cps.toList = z := by simp [txt]
theorem txt_app (a b : List Nat) : txt a ++ txt b = txt (a ++ b) := by
  show Str.mk _ = Str.mk _
  simp [txt]
theorem txt_inj {a b : List Nat} (h : txt a = txt b) : a = b := by
  have := congrArg (fun z => z.cps.toList) h
  simpa [txt] using this
section
variable {X : Cx} {K : PySem.W.Frag} {F : Fp} {Δ : List Sl} {fr : Bool}
theorem pe_gs {x z : Str} {pos : Pos} (h : ∃ t, X.mg x = some (.str z t)) (hg : Gl X x := by rfl) (hd : (x == ("__debug__" : Str)) = false := by decide) : PE X (.Name x pos) (tC (.str z)) := by
  obtain ⟨t, h⟩ := h
  exact pe_glob hg h ⟨t, rfl⟩ hd
/-- a test, by its value -/
theorem et1 {te : TE} {b : Bool} (h : Ev1 F te Δ (.bool b)) : EvT F (tTest te) Δ fun c => c = b := et_test1 h
theorem run_if1 {c : TT} {b : Bool} {t u : TS} {po : Po} (h : EvT F c Δ fun x => x = b) (h1 : b = true → Run F fr t Δ po) (h2 : b = false → Run F fr u Δ po) : Run F fr (tIfS c t u) Δ po := run_if h (fun e => h1 e.symm) fun e => h2 e.symm
theorem run_if1S {c : TT} {b : Bool} {t u v : TS} {po : Po} (h : EvT F c Δ fun x => x = b) (h1 : b = true → Run F fr (tSeq t v) Δ po) (h2 : b = false → Run F fr (tSeq u v) Δ po) : Run F fr (tSeq (tIfS c t u) v) Δ po := run_ifS h (fun e => h1 e.symm) fun e => h2 e.symm

abbrev rEqP (K : PySem.W.Frag) : R2 := fun x y H Q => rEq x y H Q ∨ rEqD K x y H Q
abbrev rNeP (K : PySem.W.Frag) : R2 := fun x y H Q => rNe x y H Q ∨ rNeD K x y H Q
theorem pEq (hu : X.A.units + 65 < cLine) : OpR X (compareOp .Eq) (rEqP X.K) := op_eq.or (op_eqD (by omega))
theorem pNe (hu : X.A.units + 65 < cLine) : OpR X (compareOp .NotEq) (rNeP X.K) := op_ne.or (op_neD (by omega))
variable {te ta tb : TE} {i j : Int} {a b : List Nat} {x y d : D}
theorem ev_addI (ha : Ev1 F ta Δ (.int i)) (hb : Ev1 F tb Δ (.int j)) : Ev1 F (tOp (rAddP K) ta tb) Δ (.int (i + j)) := ev_op1 sAdd ha hb rfl
theorem ev_subI (ha : Ev1 F ta Δ (.int i)) (hb : Ev1 F tb Δ (.int j)) : Ev1 F (tOp (rI0 fun i j => .int (i - j)) ta tb) Δ (.int (i - j)) := ev_op1 sInt0 ha hb ⟨trivial, rfl⟩
theorem ev_mulI (ha : Ev1 F ta Δ (.int i)) (hb : Ev1 F tb Δ (.int j)) (h : CMul i j) : Ev1 F (tOp rMulP ta tb) Δ (.int (i * j)) := ev_op1 sMul ha hb ⟨h, rfl⟩
theorem ev_addS (ha : Ev1 F ta Δ (.str (txt a))) (hb : Ev1 F tb Δ (.str (txt b))) (hl : a.length + b.length ≤ sizeLine) : Ev1 F (tOp (rAddP K) ta tb) Δ (.str (txt (a ++ b))) := ev_op1 sAdd ha hb ⟨by rw [txt_len, txt_len]; exact hl, by rw [txt_app]⟩
theorem ev_addL {l m : List D} (ha : Ev1 F ta Δ (.list l)) (hb : Ev1 F tb Δ (.list m)) (hl : l.length + m.length ≤ sizeLine) : Ev1 F (tOp (rAddP K) ta tb) Δ (.list (l ++ m)) := ev_op1 sAdd ha hb ⟨hl, rfl⟩
theorem ev_addT {l m : List D} (ha : Ev1 F ta Δ (.tuple l)) (hb : Ev1 F tb Δ (.tuple m)) (hl : l.length + m.length ≤ sizeLine) : Ev1 F (tOp (rAddP K) ta tb) Δ (.tuple (l ++ m)) := ev_op1 sAdd ha hb ⟨hl, rfl⟩
theorem ev_ltI (ha : Ev1 F ta Δ (.int i)) (hb : Ev1 F tb Δ (.int j)) : Ev1 F (tOp rLtP ta tb) Δ (.bool (decide (i < j))) := ev_op1 sLt ha hb rfl
theorem ev_leI (ha : Ev1 F ta Δ (.int i)) (hb : Ev1 F tb Δ (.int j)) : Ev1 F (tOp rLeP ta tb) Δ (.bool (decide (i ≤ j))) := ev_op1 sLe ha hb rfl
theorem ev_gtI (ha : Ev1 F ta Δ (.int i)) (hb : Ev1 F tb Δ (.int j)) : Ev1 F (tOp (rI0 fun i j => .bl (decide (j < i))) ta tb) Δ (.bool (decide (j < i))) := ev_op1 sCmp ha hb rfl
theorem ev_geI (ha : Ev1 F ta Δ (.int i)) (hb : Ev1 F tb Δ (.int j)) : Ev1 F (tOp (rI0 fun i j => .bl (decide (j ≤ i))) ta tb) Δ (.bool (decide (j ≤ i))) := ev_op1 sCmp ha hb rfl
theorem sEqL {f : D → D → D → Prop} (h : OpS F rEq f) : OpS F (rEqP K) f := fun S H x y d u v Q w hx hy hf k => .inl (h S H x y d u v Q w hx hy hf k)
def scF (neg : Bool) : D → D → D → Prop
  | .int i, .int j, d => d = .bool (decide (i = j) != neg)
  | .str i, .str j, d => d = .bool (decide (i = j) != neg)
  | .bool i, .bool j, d => d = .bool (decide (i = j) != neg)
  | _, _, _ => False
theorem sScE : OpS F (rEqP K) (scF false) := fun S H x y d u v Q w hx hy hf k => by
  unfold scF at hf
  refine .inl ?_
  split at hf
  all_goals first
    | exact hf.elim
    | (simp only [Dt] at hx hy
       subst hx hy hf
       refine ⟨rfl, k _ _ _ (Gr.refl w.s) ?_⟩
       simp [Dt])
theorem sScN : OpS F (rNeP K) (scF true) := fun S H x y d u v Q w hx hy hf k => by
  unfold scF at hf
  refine .inl ?_
  split at hf
  all_goals first
    | exact hf.elim
    | (simp only [Dt] at hx hy
       subst hx hy hf
       refine ⟨rfl, k _ _ _ (Gr.refl w.s) ?_⟩
       simp [Dt])
theorem sEqDP : OpS F (rEqP K) (eqF false) := fun S H x y d u v Q w hx hy hf k => .inr (sEq S H x y d u v Q w hx hy hf k)
theorem sNeDP : OpS F (rNeP K) (eqF true) := fun S H x y d u v Q w hx hy hf k => .inr (sNe S H x y d u v Q w hx hy hf k)
theorem ev_eqI (ha : Ev1 F ta Δ (.int i)) (hb : Ev1 F tb Δ (.int j)) : Ev1 F (tOp (rEqP K) ta tb) Δ (.bool (decide (i = j))) := ev_op1 sScE ha hb (by simp [scF])
theorem ev_neI (ha : Ev1 F ta Δ (.int i)) (hb : Ev1 F tb Δ (.int j)) : Ev1 F (tOp (rNeP K) ta tb) Δ (.bool (!decide (i = j))) := ev_op1 sScN ha hb (by simp [scF])
theorem ev_eqZ {u v : Str} (ha : Ev1 F ta Δ (.str u)) (hb : Ev1 F tb Δ (.str v)) : Ev1 F (tOp (rEqP K) ta tb) Δ (.bool (decide (u = v))) := ev_op1 sScE ha hb (by simp [scF])
theorem ev_neZ {u v : Str} (ha : Ev1 F ta Δ (.str u)) (hb : Ev1 F tb Δ (.str v)) : Ev1 F (tOp (rNeP K) ta tb) Δ (.bool (!decide (u = v))) := ev_op1 sScN ha hb (by simp [scF])
/-- data that == may look at -/
def D.eqOk (d : D) : Prop := d.isPy = true ∧ SeqAt.shaped d.py = true
def D.eqb (x y : D) : Bool := PyData.eqv x.py y.py
theorem ev_eqD (ha : Ev1 F ta Δ x) (hb : Ev1 F tb Δ y) (hx : x.eqOk) (hy : y.eqOk) : Ev1 F (tOp (rEqP K) ta tb) Δ (.bool (x.eqb y)) := ev_op1 sEqDP ha hb ⟨hx.1, hy.1, hx.2, hy.2, rfl⟩
theorem ev_neD (ha : Ev1 F ta Δ x) (hb : Ev1 F tb Δ y) (hx : x.eqOk) (hy : y.eqOk) : Ev1 F (tOp (rNeP K) ta tb) Δ (.bool (!x.eqb y)) := ev_op1 sNeDP ha hb ⟨hx.1, hy.1, hx.2, hy.2, rfl⟩
theorem ev_isN (ha : Ev1 F ta Δ x) : Ev1 F (tOp (fun x y H Q => y = .non ∧ Q (.bl (decide (x = .non))) H) ta (tC .non)) Δ (.bool x.isN) := ev_op1 sIsN ha ev_non ⟨rfl, by cases x.isN <;> rfl⟩
theorem ev_notN (ha : Ev1 F ta Δ x) : Ev1 F (tOp (fun x y H Q => y = .non ∧ Q (.bl (!decide (x = .non))) H) ta (tC .non)) Δ (.bool (!x.isN)) := ev_op1 sNotN ha ev_non ⟨rfl, by cases x.isN <;> rfl⟩
theorem ev_inT {c : Nat} (ha : Ev1 F ta Δ (.str ⟨#[c]⟩)) (hb : Ev1 F tb Δ (.str (txt b))) : Ev1 F (tOp (rInP K false) ta tb) Δ (.bool (decide (c ∈ b))) := ev_op1 sIn ha hb ⟨c, rfl, by rw [txt_list]; rfl⟩
theorem ev_ninT {c : Nat} (ha : Ev1 F ta Δ (.str ⟨#[c]⟩)) (hb : Ev1 F tb Δ (.str (txt b))) : Ev1 F (tOp (rInP K true) ta tb) Δ (.bool (!decide (c ∈ b))) := ev_op1 sIn ha hb ⟨c, rfl, by rw [txt_list]; rfl⟩
theorem sz (h : a.length ≤ 100000) : (txt a).length ≤ sizeLine := by
  rw [txt_len]
  exact Nat.le_trans h (by decide)
theorem ev_lenT (h : Ev1 F te Δ (.str (txt a))) (hl : a.length ≤ 100000) : Ev1 F (tCB (rLenP K) (tCons te tNil)) Δ (.int (a.length : Nat)) := (ev_cb1 sLen (ea_cons1 h ea_nil) ⟨sz hl, rfl⟩).eq (by rw [txt_len])
theorem ev_lenL {l : List D} (h : Ev1 F te Δ (.list l)) : Ev1 F (tCB (rLenP K) (tCons te tNil)) Δ (.int (l.length : Nat)) := ev_cb1 sLen (ea_cons1 h ea_nil) rfl
theorem ev_lenU {l : List D} (h : Ev1 F te Δ (.tuple l)) : Ev1 F (tCB (rLenP K) (tCons te tNil)) Δ (.int (l.length : Nat)) := ev_cb1 sLen (ea_cons1 h ea_nil) rfl
theorem ev_ixT {q c : Nat} (ha : Ev1 F ta Δ (.str (txt a))) (hb : Ev1 F tb Δ (.int (q : Nat))) (hl : a.length ≤ 100000) (hc : a[q]? = some c) : Ev1 F (tOp (rIx K) ta tb) Δ (.str ⟨#[c]⟩) :=
  ev_op1 sIx ha hb ⟨sz hl, c, by rw [txt_list]; exact atI_nat hc, rfl⟩
theorem ev_ixL {l : List D} {q : Nat} (ha : Ev1 F ta Δ (.list l)) (hb : Ev1 F tb Δ (.int (q : Nat))) (hc : l[q]? = some d) : Ev1 F (tOp (rIx K) ta tb) Δ d := ev_op1 sIx ha hb (atI_nat hc)
theorem ev_ixU {l : List D} {q : Nat} (ha : Ev1 F ta Δ (.tuple l)) (hb : Ev1 F tb Δ (.int (q : Nat))) (hc : l[q]? = some d) : Ev1 F (tOp (rIx K) ta tb) Δ d := ev_op1 sIx ha hb (atI_nat hc)
theorem ev_ixLa {l : List D} (ha : Ev1 F ta Δ (.list l)) (hb : Ev1 F tb Δ (.int i)) (hc : atI l i = some d) : Ev1 F (tOp (rIx K) ta tb) Δ d := ev_op1 sIx ha hb hc
theorem ev_ixUa {l : List D} (ha : Ev1 F ta Δ (.tuple l)) (hb : Ev1 F tb Δ (.int i)) (hc : atI l i = some d) : Ev1 F (tOp (rIx K) ta tb) Δ d := ev_op1 sIx ha hb hc
theorem cutS_txt {p q : Nat} (hp : p ≤ a.length) (hq : q ≤ a.length) : cutS (txt a) (some (p : Int)) (some (q : Int)) = txt ((a.drop p).take (q - p)) := by
  unfold cutS
  rw [txt_list, HT.sIx_nat, HT.sIx_nat, txt_len, Nat.min_eq_left hp, Nat.min_eq_left hq]
  rfl
theorem ev_slT {tl th : TE} {p q : Nat} (h : Ev1 F te Δ (.str (txt a))) (hl : Ev1 F tl Δ (.int (p : Nat))) (hh : Ev1 F th Δ (.int (q : Nat))) (hz : a.length ≤ 100000) (hp : p ≤ a.length) (hq : q ≤ a.length) :
    Ev1 F (tSl (rSlP K) te (tPart tl) (tPart th)) Δ (.str (txt ((a.drop p).take (q - p)))) := ev_sl1 h (eo_some hl) (eo_some hh) ⟨sz hz, by rw [cutS_txt hp hq]⟩
/-! chains -/
theorem ev_chain {r r' : R2} {f f' : D → D → D → Prop} {tc : TE} {z : D} {k k' : Bool} (hr : OpS F r f) (hr' : OpS F r' f') (ha : Ev1 F ta Δ x) (hb : Ev1 F tb Δ y) (hc : Ev1 F tc Δ z) (h1 : f x y (.bool k)) (h2 : f' y z (.bool k')) : Ev1 F (tChain r r' ta tb tc) Δ (.bool (k && k')) := fun H0 S H σ w t Q q => by
  refine ha H0 S H σ w t _ fun d u S1 H1 e1 g1 hu => ?_
  subst e1
  refine hb H0 S1 H1 σ (g1.ok w) (t.mono g1) _ fun d v S2 H2 e2 g2 hv => ?_
  subst e2
  refine hr S2 H2 _ _ _ u v _ (g2.ok (g1.ok w)) (hu.mono g2.s) hv h1 fun bz S3 H3 g3 hb3 => ?_
  simp only [Dt] at hb3
  refine ⟨k, hb3, ?_⟩
  cases k with
  | false =>
    show Q (.bl false) H3
    exact q _ _ S3 H3 rfl ((g1.trans g2).trans g3) (by simp only [Dt, Bool.false_and])
  | true =>
    show tc σ H3 _
    refine hc H0 S3 H3 σ (g3.ok (g2.ok (g1.ok w))) (((t.mono g1).mono g2).mono g3) _ fun d c S4 H4 e4 g4 hcc => ?_
    subst e4
    exact hr' S4 H4 _ _ _ v c Q (g4.ok (g3.ok (g2.ok (g1.ok w)))) ((hv.mono g3.s).mono g4.s) hcc h2 fun o S5 H5 g5 ho => q _ o S5 H5 rfl ((((g1.trans g2).trans g3).trans g4).trans g5) (by simpa only [Bool.true_and] using ho)
end
end Bc

/-! Core 7: in a range; methods of texts; the own list changed; dicts that are written. -/
namespace Bc
open PySem L2 PySem.Spec PyProof.Rows
section
variable {X : Cx} {K : PySem.W.Frag} {F : Fp} {Δ : List Sl} {fr : Bool}
abbrev rRng (neg : Bool) : R2 := fun x y H Q => ∃ i a lo hi, x = V.int i ∧ y = V.ref a ∧ H a = some (.rng lo hi) ∧ Q (.bl (if neg then !decide (lo ≤ i ∧ i < hi) else decide (lo ≤ i ∧ i < hi))) H
theorem pInRng : OpR X (compareOp .In) (rRng false) := op_in_rng
theorem pNotInRng : OpR X (compareOp .NotIn) (rRng true) := by
  intro pins s σ H x y v u Q I rx ry h
  obtain ⟨i, a, lo, hi, rfl, rfl, ha, q⟩ := h
  obtain ⟨k, rfl⟩ := rx
  obtain rfl : u = Value.ref a := ry
  obtain ⟨t1, t2, t3, ob⟩ := I.hok a _ ha
  show wpAny _ _ (do return Value.bool (!(← contains (Value.ref a) (Value.int i k)))) _ _ s
  have mt := q_contains a lo hi i t1 t2 t3 k
  refine wpAny_bind (wpAny_contains_slot (T := "range") ⟨_, ob, rfl⟩ F.slot_range_contains (call_meets F.slot_range_contains ⟨_, ob, rfl⟩ F.entry_range_contains (F.args_range_contains_2 _ _) mt ⟨ob, wpAny_truthy_bool ?_⟩))
  refine wpAny_pure ⟨.bl _, H, I, rfl, ?_⟩
  rw [place1]
  exact q
abbrev rRange2 : List V → Hp → VK → Prop := fun vs H Q => ∃ i j, vs = [V.int i, V.int j] ∧ ∀ p, H p = Option.none → Q (.ref p) (upd H p (.rng i j))
theorem ev_rng {neg : Bool} {ta tb tc : TE} {i lo hi : Int} (ha : Ev1 F ta Δ (.int i)) (hb : Ev1 F tb Δ (.int lo)) (hc : Ev1 F tc Δ (.int hi)) :
    Ev1 F (tOp (rRng neg) ta (tCB rRange2 (tCons tb (tCons tc tNil)))) Δ (.bool (if neg then !decide (lo ≤ i ∧ i < hi) else decide (lo ≤ i ∧ i < hi))) := fun H0 S H σ w t Q k => by
  refine ha H0 S H σ w t _ fun d u S1 H1 e1 g1 hu => ?_
  subst e1
  simp only [Dt] at hu
  subst hu
  refine hb H0 S1 H1 σ (g1.ok w) (t.mono g1) _ fun d v S2 H2 e2 g2 hv => ?_
  subst e2
  simp only [Dt] at hv
  subst hv
  refine hc H0 S2 H2 σ (g2.ok (g1.ok w)) ((t.mono g1).mono g2) _ fun d z S3 H3 e3 g3 hz => ?_
  subst e3
  simp only [Dt] at hz
  subst hz
  refine ⟨lo, hi, rfl, fun p hp => ⟨i, p, lo, hi, rfl, rfl, upd_same, ?_⟩⟩
  exact k _ _ S3 _ rfl (((g1.trans g2).trans g3).trans (Gr.new g3.h hp)) (by simp only [Dt])
/-! methods of texts -/
theorem ev_bm0 {T : String} {r : V → List V → Hp → VK → Prop} {te : TE} {x d : D} (h : Ev1 F te Δ x) (hr : ∀ S H v Q, Okw F S H → Dt S x v → (∀ S' H' w, Gr F S H S' H' → Dt S' d w → Q w H') → tyV K T v H ∧ r v [] H Q) : Ev1 F (tBM0 K T r te) Δ d := fun H0 S H σ w t Q k =>
  h H0 S H σ w t _ fun y v S1 H1 e g1 hv => by
    subst e
    exact hr S1 H1 v Q (g1.ok w) hv fun S2 H2 u g2 hu => k _ _ S2 H2 rfl (g1.trans g2) hu
theorem ev_alnum {te : TE} {z : Str} (h : Ev1 F te Δ (.str z)) : Ev1 F (tBM0 K "str" (fun x xs H Q => ∃ a, x = .str a ∧ xs = [] ∧ True ∧ Q (.bl (Txt.isalnum a)) H) te) Δ (.bool (Txt.isalnum z)) :=
  ev_bm0 h fun S H v Q w hv k => by
    simp only [Dt] at hv
    subst hv
    exact ⟨rfl, z, rfl, rfl, trivial, k S H _ (Gr.refl w.s) (by simp only [Dt])⟩
theorem ev_digit {te : TE} {z : Str} (h : Ev1 F te Δ (.str z)) : Ev1 F (tBM0 K "str" (fun x xs H Q => ∃ a, x = .str a ∧ xs = [] ∧ True ∧ Q (.bl (Txt.isdigit a)) H) te) Δ (.bool (Txt.isdigit z)) :=
  ev_bm0 h fun S H v Q w hv k => by
    simp only [Dt] at hv
    subst hv
    exact ⟨rfl, z, rfl, rfl, trivial, k S H _ (Gr.refl w.s) (by simp only [Dt])⟩
theorem ev_strip {te ta : TE} {z y : Str} (h : Ev1 F te Δ (.str z)) (ha : Ev1 F ta Δ (.str y)) (hl : z.length ≤ sizeLine) :
    Ev1 F (tBM K "str" (fun x xs H Q => ∃ a b, x = .str a ∧ xs = [.str b] ∧ a.length ≤ sizeLine ∧ Q (.str (Txt.stripChars a b)) H) te (tCons ta tNil)) Δ (.str (Txt.stripChars z y)) := fun H0 S H σ w t Q k => by
  refine h H0 S H σ w t _ fun d v S1 H1 e1 g1 hv => ?_
  subst e1
  simp only [Dt] at hv
  subst hv
  refine ⟨rfl, ?_⟩
  refine ha H0 S1 H1 σ (g1.ok w) (t.mono g1) _ fun d u S2 H2 e2 g2 hu => ?_
  subst e2
  simp only [Dt] at hu
  subst hu
  exact ⟨z, y, rfl, rfl, hl, k _ _ S2 H2 rfl (g1.trans g2) (by simp only [Dt])⟩
/-! the own list grows -/
theorem run_app {i : Nat} {te : TE} {po : Po} {ds : List D} {P : D → Prop} (hi : Δ[i]? = some (.own ds)) (h : EvR F te Δ P) (hl : ds.length < sizeLine) (k : ∀ d, P d → po.nx (Δ.set i (.own (ds ++ [d])))) :
    Run F fr (tDrop (tBM K "list" rAppend (tVar i) (tCons te tNil))) Δ po := fun S0 H0 B S H σ E w gb st r => by
  obtain ⟨x, e1, p, xs, rfl, h1, h2, h3, h4⟩ := st.ok i _ hi
  refine ⟨_, e1, Or.inl ⟨rfl, xs, SqL.of h1⟩, ?_⟩
  refine h H0 S H σ w st _ fun d v S1 H1 pd g1 hv => ?_
  have nf : ¬ fp F p := fun z => by
    obtain ⟨o, q⟩ := st.fh p z
    rw [h3] at q
    cases q
  have q1 := g1.k _ _ nf h1
  have q2 : S1 p = Option.none := by rw [g1.n _ _ h1]; exact h2
  refine ⟨p, xs, v, rfl, rfl, q1, by rw [← h4.len]; exact hl, ?_⟩
  have gg := (gb.step g1).g.mut h3 q2 q1 (o := .lst (xs ++ [v]))
  have st1 := st.mono g1
  have w2 : Okw F S1 (upd H1 p (.lst (xs ++ [v]))) := ⟨gg.h, fun a c e => by
    obtain ⟨z1, z2, ns, l, m, t, z3, z4, z5⟩ := (g1.ok w).src a c e
    have n1 : a ≠ p := fun z => nf ⟨a, c, e, .inl z.symm⟩
    have n2 : c ≠ p := fun z => nf ⟨a, c, e, .inr z.symm⟩
    exact ⟨z1, z2, ns, l, m, t, by rw [upd_ne n1]; exact z3, by rw [upd_ne n2]; exact z4, z5⟩⟩
  refine r.nx _ S1 _ σ (k d pd) w2 ⟨gg, (gb.step g1).b⟩ ⟨by simp [st.len], fun j s' ej => ?_, fun j l es fs q f1 f2 f3 f4 => ?_, st.fh⟩
  · by_cases hj : j = i
    · subst hj
      have hlt : j < Δ.length := (List.getElem?_eq_some_iff.mp hi).1
      rw [List.getElem?_set_self hlt] at ej
      cases ej
      exact ⟨_, e1, p, _, rfl, upd_same, q2, h3, (h4.mono g1.s).append (dtl_cons hv dtl_nil)⟩
    · rw [List.getElem?_set_ne (Ne.symm hj)] at ej
      obtain ⟨y, f1, f2⟩ := st1.ok j s' ej
      refine ⟨y, f1, ?_⟩
      cases s' with
      | un => trivial
      | v d => exact f2
      | src => exact f2
      | ob a dx C fs =>
        obtain ⟨vs, z1, z2, z3, z4, z5, z6, z7, z8⟩ := f2
        have n1 : a ≠ p := fun z => by rw [z, q1] at z2; cases z2
        have n2 : dx ≠ p := fun z => by rw [z, q1] at z3; cases z3
        exact ⟨vs, z1, by rw [upd_ne n1]; exact z2, by rw [upd_ne n2]; exact z3, z4, z5, z6, z7, z8⟩
      | xc W PX l => exact XcOk.mono f2 (Gw.mut (g1.ok w).s q1 q2 h3 nf f2.hd)
      | fz a fs => exact f2
      | own es =>
        obtain ⟨q, ys, rfl, y1, y2, y3, y4⟩ := f2
        refine ⟨q, ys, rfl, ?_, y2, y3, y4⟩
        rw [upd_ne (fun z => hj ?_)]
        · exact y1
        · subst z
          exact st.nd j i es ds q ej hi f1 e1
  · have hlt : i < Δ.length := (List.getElem?_eq_some_iff.mp hi).1
    by_cases hj : j = i
    · by_cases hk : l = i
      · rw [hj, hk]
      · subst hj
        rw [List.getElem?_set_ne (Ne.symm hk)] at f2
        exact st.nd j l ds fs q hi f2 f3 f4
    · rw [List.getElem?_set_ne (Ne.symm hj)] at f1
      by_cases hk : l = i
      · subst hk
        exact st.nd j l es ds q f1 hi f3 f4
      · rw [List.getElem?_set_ne (Ne.symm hk)] at f2
        exact st.nd j l es fs q f1 f2 f3 f4
theorem run_appS {i : Nat} {te : TE} {u : TS} {po : Po} {ds : List D} {P : D → Prop} (hi : Δ[i]? = some (.own ds)) (h : EvR F te Δ P) (hl : ds.length < sizeLine) (k : ∀ d, P d → Run F fr u (Δ.set i (.own (ds ++ [d]))) po) :
    Run F fr (tSeq (tDrop (tBM K "list" rAppend (tVar i) (tCons te tNil))) u) Δ po :=
  run_seqM (N := fun Δ' => ∃ d, P d ∧ Δ' = Δ.set i (.own (ds ++ [d]))) (run_app hi h hl fun d p => ⟨d, p, rfl⟩) fun Δ' ⟨d, p, e⟩ => e ▸ k d p
theorem run_app1S {i : Nat} {te : TE} {u : TS} {po : Po} {ds : List D} {d : D} (hi : Δ[i]? = some (.own ds)) (h : Ev1 F te Δ d) (hl : ds.length < sizeLine) (k : Run F fr u (Δ.set i (.own (ds ++ [d]))) po) :
    Run F fr (tSeq (tDrop (tBM K "list" rAppend (tVar i) (tCons te tNil))) u) Δ po := run_appS hi h hl fun _ e => e ▸ k
/-! x in ['..', ..]: keys that are texts -/
theorem ev_isi {te : TE} {d : D} {T : String} {b : Bool} (h : Ev1 F te Δ d) (hd : d.ty ≠ "?") (hb : kitB d.ty T = some b) : Ev1 F (tCB (rIsi K) (tCons te (tCons (tC (.ty T)) tNil))) Δ (.bool b) := fun H0 S H σ w t Q k => by
  refine h H0 S H σ w t _ fun y v S1 H1 e g1 hv => ?_
  subst e
  exact ⟨v, .ty T, .type y.ty, .type T, b, rfl, .ty T, dt_ty (g1.ok w).s hv hd, kit_ty hb, k _ _ S1 H1 rfl g1 (by simp only [Dt])⟩
/-! dicts -/
inductive EvP (F : Fp) (Δ : List Sl) : List (TE × TE) → List (Key × D) → Prop where
  | nil : EvP F Δ [] []
  | s {x : Str} {tv : TE} {d : D} {r : List (TE × TE)} {ds : List (Key × D)} : Ev1 F tv Δ d → EvP F Δ r ds → EvP F Δ ((tC (.str x), tv) :: r) ((Sum.inr x, d) :: ds)
  | i {x : Int} {tv : TE} {d : D} {r : List (TE × TE)} {ds : List (Key × D)} : Ev1 F tv Δ d → EvP F Δ r ds → EvP F Δ ((tC (.int x), tv) :: r) ((Sum.inl x, d) :: ds)
theorem merge_app : ∀ (kvs acc : List (Key × V)), ((acc ++ kvs).map (·.1)).Nodup → mergeK acc kvs = acc ++ kvs
  | [], acc, _ => by simp [mergeK]
  | (k, v) :: r, acc, h => by
    have e : putK acc k v = acc ++ [(k, v)] := by
      unfold putK
      rw [if_neg]
      intro z
      rw [List.any_eq_true] at z
      obtain ⟨p, hp, q⟩ := z
      have q := of_decide_eq_true q
      rw [List.map_append, List.nodup_append] at h
      exact h.2.2 p.1 (List.mem_map_of_mem hp) k (by simp) q
    show mergeK (putK acc k v) r = _
    rw [e, merge_app r (acc ++ [(k, v)]) (by simpa using h)]
    simp
theorem dtk_keys {S : Hp} : ∀ {kvs : List (Key × D)} {ks : List (Key × V)}, DtK S kvs ks → ks.map (·.1) = kvs.map (·.1)
  | [], ks, h => by simp only [DtK] at h; subst h; rfl
  | (k, d) :: r, ks, h => by
    simp only [DtK] at h
    obtain ⟨x, ys, rfl, _, h2⟩ := h
    simp [dtk_keys h2]
theorem ev_pairs {trs : List (TE × TE)} {kvs : List (Key × D)} (h : EvP F Δ trs kvs) : ∀ (H0 S H : Hp) (σ : L2.St), Okw F S H → StD F S H H0 σ Δ → ∀ Q : List (V × V) → Hp → Prop, (∀ ks S' H', Gr F S H S' H' → DtK S' kvs ks → Q (ks.map fun kv => (kV kv.1, kv.2)) H') → tPairs trs σ H Q := by
  induction h with
  | nil => exact fun H0 S H σ w t Q k => k [] S H (Gr.refl w.s) (by simp only [DtK])
  | s hv hr ih =>
    intro H0 S H σ w t Q k
    refine hv H0 S H σ w t _ fun d v S1 H1 e g1 hd => ?_
    subst e
    refine ih H0 S1 H1 σ (g1.ok w) (t.mono g1) _ fun ks S2 H2 g2 hk => ?_
    exact k ((Sum.inr _, v) :: ks) S2 H2 (g1.trans g2) (by simp only [DtK]; exact ⟨v, ks, rfl, hd.mono g2.s, hk⟩)
  | i hv hr ih =>
    intro H0 S H σ w t Q k
    refine hv H0 S H σ w t _ fun d v S1 H1 e g1 hd => ?_
    subst e
    refine ih H0 S1 H1 σ (g1.ok w) (t.mono g1) _ fun ks S2 H2 g2 hk => ?_
    exact k ((Sum.inl _, v) :: ks) S2 H2 (g1.trans g2) (by simp only [DtK]; exact ⟨v, ks, rfl, hd.mono g2.s, hk⟩)
theorem ev_disp {trs : List (TE × TE)} {kvs : List (Key × D)} (h : EvP F Δ trs kvs) (hl : kvs.length ≤ 15) (hn : (kvs.map (·.1)).Nodup) : Ev1 F (tDisp trs) Δ (.dict kvs) := fun H0 S H σ w t Q k => by
  intro p hp
  have g0 : Gr F S H S (upd H p (.dK [])) := Gr.new w.s hp
  refine ev_pairs h H0 S _ σ (g0.ok w) (t.mono g0) _ fun ks S1 H1 g1 hk => ?_
  have nf : ¬ fp F p := fun z => by
    obtain ⟨o, q⟩ := (fun ⟨a, c, e, z⟩ => by
      obtain ⟨_, _, ns, l, m, t, e1, e2, _⟩ := w.src a c e
      rcases z with rfl | rfl
      · exact ⟨_, e1⟩
      · exact ⟨_, e2⟩ : fp F p → ∃ o, H p = some o) z
    rw [hp] at q
    cases q
  have h1 := g1.k _ _ nf upd_same
  have lk : ks.length = kvs.length := by
    have := congrArg List.length (dtk_keys hk)
    simpa using this
  refine ⟨h1, ks, rfl, by rw [lk]; exact hl, ?_⟩
  rw [merge_app ks [] (by simpa [dtk_keys hk] using hn), List.nil_append]
  have s1 : S1 p = Option.none := by rw [g1.n _ _ upd_same]; exact Same.free w.s hp
  have gm := (g0.trans g1).mut hp s1 h1 (o := .dK ks)
  refine k _ _ _ _ rfl (gm.freeze hp upd_same) ?_
  simp only [Dt]
  exact ⟨p, ks, rfl, upd_same, DtK.mono (fun x u e => by rw [upd_ne (ne_of_none e s1)]; exact e) _ _ hk⟩
theorem ev_get2 {td ty tx : TE} {kvs : List (Key × D)} {x e d : D} {k : Key} (h : Ev1 F td Δ (.dict kvs)) (hx : Ev1 F ty Δ x) (hk : keyD x = some k) (he : Ev1 F tx Δ e) (hd : ((kvs.find? fun q => decide (q.1 = k)).map (·.2)).getD e = d) : Ev1 F (tDGet2 td ty tx) Δ d := fun H0 S H σ w t Q q => by
  refine h H0 S H σ w t _ fun y u S1 H1 e1 g1 hu => ?_
  subst e1
  simp only [Dt] at hu
  obtain ⟨a, ks, rfl, z1, z2⟩ := hu
  refine ⟨a, rfl, .inl ⟨ks, .inl (g1.h _ _ z1)⟩, ?_⟩
  refine hx H0 S1 H1 σ (g1.ok w) (t.mono g1) _ fun y v S2 H2 e2 g2 hv => ?_
  subst e2
  refine he H0 S2 H2 σ (g2.ok (g1.ok w)) ((t.mono g1).mono g2) _ fun y z S3 H3 e3 g3 hz => ?_
  subst e3
  have gg := (g1.trans g2).trans g3
  have a3 := g3.h _ _ (g3.s _ _ (g2.s _ _ z1))
  have k3 : DtK S3 kvs ks := DtK.mono g3.s _ _ (DtK.mono g2.s _ _ z2)
  refine ⟨_, by rw [dt_key hv hk]; exact DGet.k a3, ?_⟩
  cases e : (kvs.find? fun q => decide (q.1 = k)).map (·.2) with
  | some d' =>
    rw [e] at hd
    obtain ⟨x', f1, f2⟩ := k3.val e
    rw [f1]
    exact q _ x' S3 H3 hd gg f2
  | none =>
    rw [e] at hd
    have hn : valV ks k = Option.none := by
      have := k3.has (k := k)
      cases f : valV ks k with
      | none => rfl
      | some x' =>
        rw [f] at this
        have this := this.symm
        rw [show (some x').isSome = true from rfl, List.any_eq_true] at this
        obtain ⟨p, hp, hq⟩ := this
        rw [Option.map_eq_none_iff, List.find?_eq_none] at e
        exact absurd hq (e p hp)
    rw [hn]
    exact q _ z S3 H3 hd gg hz
end
end Bc

/-! Core 8: comprehensions that are known item by item. -/
namespace Bc
open PySem L2 PySem.Spec PyProof.Rows
section
variable {X : Cx} {K : PySem.W.Frag} {F : Fp} {Δ : List Sl} {fr : Bool}
theorem et_yes : EvT F tYes Δ fun b => b = true := fun H0 S H σ w t Q k => k true S H rfl (Gr.refl w.s)
theorem ef_lcM {wi : TI} {g : TG} {tt : TT} {te : TE} {vs : List Nat} {ds : List D} (h : EvI F wi Δ fun r => r = ds) (hz : ds.length ≤ sizeLine) (f : D → Option D)
    (hs : ∀ (i : Nat) (d : D), ds[i]? = some d → ∃ js Δ', EvG F g d (wipeD Δ vs) js Δ' ∧ (∀ j ∈ js, j ∈ vs) ∧ ∃ b : Bool, EvT F tt Δ' (fun c => c = b) ∧ (b = false → f d = Option.none) ∧ (b = true → ∃ e, f d = some e ∧ Ev1 F te Δ' e)) :
    EvF F (tLc wi g tt te vs) Δ fun r => r = ds.filterMap f := by
  refine ef_lcP h (fun _ e => e ▸ hz) (fun ds' i acc => acc = (ds'.take i).filterMap f) (fun ds' _ => by simp) (fun ds' i d acc e hi ha _ => ?_) fun ds' acc e ha => by subst e; rw [ha, List.take_length]
  subst e
  obtain ⟨js, Δ', hg, hj, b, ht, h0, h1⟩ := hs i d hi
  have hl := (List.getElem?_eq_some_iff.mp hi)
  have tk : ds'.take (i + 1) = ds'.take i ++ [d] := by rw [List.take_succ, hi]; rfl
  refine ⟨js, Δ', hg, hj, fun c => c = b, ht, fun e => ?_, fun e => ?_⟩
  · rw [ha, tk, List.filterMap_append]
    simp [h0 e.symm]
  · obtain ⟨x, e1, e2⟩ := h1 e.symm
    refine e2.imp fun y ey => ?_
    rw [ha, tk, List.filterMap_append, ey]
    simp [e1]
theorem ef_map {wi : TI} {g : TG} {te : TE} {vs : List Nat} {ds : List D} (h : EvI F wi Δ fun r => r = ds) (hz : ds.length ≤ sizeLine) (f : D → D)
    (hs : ∀ (i : Nat) (d : D), ds[i]? = some d → ∃ js Δ', EvG F g d (wipeD Δ vs) js Δ' ∧ (∀ j ∈ js, j ∈ vs) ∧ Ev1 F te Δ' (f d)) : EvF F (tLc wi g tYes te vs) Δ fun r => r = ds.map f := by
  have := ef_lcM (tt := tYes) h hz (fun d => some (f d)) fun i d e => by
    obtain ⟨js, Δ', a, b, c⟩ := hs i d e
    exact ⟨js, Δ', a, b, true, et_yes, (nomatch ·), fun _ => ⟨_, rfl, c⟩⟩
  rw [show ds.filterMap (fun d => some (f d)) = ds.map f by simp] at this
  exact this
/-- each item is one of some, as many as are walked -/
theorem ef_each {wi : TI} {g : TG} {te : TE} {vs : List Nat} {Pd : List D → Prop} {P : D → Prop} (h : EvI F wi Δ Pd) (hz : ∀ ds, Pd ds → ds.length ≤ sizeLine)
    (hs : ∀ (ds : List D) (i : Nat) (d : D), Pd ds → ds[i]? = some d → ∃ js Δ', EvG F g d (wipeD Δ vs) js Δ' ∧ (∀ j ∈ js, j ∈ vs) ∧ EvR F te Δ' P) : EvF F (tLc wi g tYes te vs) Δ fun r => ∃ ds, Pd ds ∧ r.length = ds.length ∧ ∀ d ∈ r, P d := by
  refine ef_lcP h hz (fun ds' i acc => acc.length = i ∧ ∀ d ∈ acc, P d) (fun ds' _ => ⟨rfl, fun _ h => (List.not_mem_nil h).elim⟩) (fun ds' i d acc e hi ha _ => ?_) fun ds' acc e ha => ⟨ds', e, ha.1, ha.2⟩
  obtain ⟨js, Δ', hg, hj, he⟩ := hs ds' i d e hi
  refine ⟨js, Δ', hg, hj, fun c => c = true, et_yes, (nomatch ·), fun _ => he.imp fun x hx => ⟨by simp [ha.1], fun y hy => ?_⟩⟩
  rw [List.mem_append, List.mem_singleton] at hy
  rcases hy with hy | rfl
  · exact ha.2 y hy
  · exact hx
/-! == of data -/
theorem eqb_nil : ∀ l : List D, D.eqb (.list l) (.list []) = l.isEmpty
  | [] => rfl
  | _ :: _ => rfl
mutual
theorem eqb_refl : ∀ d : D, PyData.eqv d.py d.py = true
  | .none => rfl
  | .bool b => by simp [D.py, PyData.eqv]
  | .int b => by simp [D.py, PyData.eqv]
  | .str b => by simp [D.py, PyData.eqv]
  | .list l => by simp only [D.py, PyData.eqv]; exact eqbL_refl l
  | .tuple l => by simp only [D.py, PyData.eqv]; exact eqbL_refl l
  | .dict _ => rfl
  | .obj _ _ => rfl
  | .ref _ => rfl
theorem eqbL_refl : ∀ l : List D, PyData.eqvAll (pyL l) (pyL l) = true
  | [] => rfl
  | d :: ds => by simp only [pyL, PyData.eqvAll, eqb_refl d, eqbL_refl ds, Bool.and_true]
end
/-! what == may look at: by depth and signs -/
mutual
def D.okn : Nat → D → Bool
  | _, .none => true
  | _, .bool _ => true
  | _, .int _ => true
  | _, .str s => s.cps.all (· < 0x110000)
  | 0, .list _ => false
  | n + 1, .list l => oknL n l
  | 0, .tuple _ => false
  | n + 1, .tuple l => oknL n l
  | _, .dict _ => false
  | _, .obj _ _ => false
  | _, .ref _ => false
def oknL : Nat → List D → Bool
  | _, [] => true
  | n, d :: ds => d.okn n && oknL n ds
end
mutual
theorem okn_py : ∀ (n : Nat) (d : D), d.okn n = true → d.isPy = true ∧ d.py.canLay0 = true ∧ d.py.depth ≤ n
  | n, .none, _ => by cases n <;> exact ⟨rfl, rfl, Nat.zero_le _⟩
  | n, .bool _, _ => by cases n <;> exact ⟨rfl, rfl, Nat.zero_le _⟩
  | n, .int _, _ => by cases n <;> exact ⟨rfl, rfl, Nat.zero_le _⟩
  | n, .str s, h => by
    have h : s.cps.all (· < 0x110000) = true := by cases n <;> simpa only [D.okn] using h
    exact ⟨rfl, h, Nat.zero_le _⟩
  | 0, .list _, h => by simp [D.okn] at h
  | n + 1, .list l, h => by
    simp only [D.okn] at h
    obtain ⟨a, b, c⟩ := oknL_py n l h
    exact ⟨a, b, Nat.succ_le_succ c⟩
  | 0, .tuple _, h => by simp [D.okn] at h
  | n + 1, .tuple l, h => by
    simp only [D.okn] at h
    obtain ⟨a, b, c⟩ := oknL_py n l h
    exact ⟨a, b, Nat.succ_le_succ c⟩
  | n, .dict _, h => by cases n <;> simp [D.okn] at h
  | n, .obj _ _, h => by cases n <;> simp [D.okn] at h
  | n, .ref _, h => by cases n <;> simp [D.okn] at h
theorem oknL_py : ∀ (n : Nat) (l : List D), oknL n l = true → isPyL l = true ∧ PyData.canLayAll0 (pyL l) = true ∧ PyData.depthAll (pyL l) ≤ n
  | n, [], _ => ⟨rfl, rfl, Nat.zero_le _⟩
  | n, d :: ds, h => by
    simp only [oknL, Bool.and_eq_true] at h
    obtain ⟨a, b, c⟩ := okn_py n d h.1
    obtain ⟨a', b', c'⟩ := oknL_py n ds h.2
    exact ⟨by simp [isPyL, a, a'], by simp [pyL, PyData.canLayAll0, b, b'], Nat.max_le.mpr ⟨c, c'⟩⟩
end
theorem D.okn_ok {d : D} (h : d.okn 64 = true) : d.eqOk := by
  obtain ⟨a, b, c⟩ := okn_py 64 d h
  exact ⟨a, by simp [SeqAt.shaped, b, c]⟩
theorem oknL_of {n : Nat} : ∀ {l : List D}, (∀ d ∈ l, d.okn n = true) → oknL n l = true
  | [], _ => rfl
  | d :: ds, h => by
    have h1 := h d (List.mem_cons_self)
    have h2 : oknL n ds = true := oknL_of fun x hx => h x (List.mem_cons_of_mem _ hx)
    simp only [oknL, h1, h2, Bool.and_true]
theorem okn_txt {n : Nat} {l : List Nat} (h : ∀ c ∈ l, c < 128) : (D.str (txt l)).okn n = true := by
  cases n <;> (simp only [D.okn, txt, List.all_toArray, List.all_eq_true, decide_eq_true_eq]; exact fun c hc => Nat.lt_trans (h c hc) (by decide))
end
end Bc

/-! Core 9: the rules with the written part named (within comprehensions the context is another one). -/
namespace Bc
open PySem L2 PySem.Spec PyProof.Rows
section
variable {X : Cx} {K : PySem.W.Frag}
theorem qAdd (hK : X.K = K := by rfl) : OpR X (binaryOp .Add) (rAddP K) := by subst hK; exact pAdd
theorem qEq (hu : X.A.units + 65 < cLine) (hK : X.K = K := by rfl) : OpR X (compareOp .Eq) (rEqP K) := by subst hK; exact pEq hu
theorem qNe (hu : X.A.units + 65 < cLine) (hK : X.K = K := by rfl) : OpR X (compareOp .NotEq) (rNeP K) := by subst hK; exact pNe hu
theorem qIn (hu : X.A.units + 65 < cLine) (hK : X.K = K := by rfl) : OpR X (compareOp .In) (rInP K false) := by subst hK; exact pIn hu
theorem qNotIn (hu : X.A.units + 65 < cLine) (hK : X.K = K := by rfl) : OpR X (compareOp .NotIn) (rInP K true) := by subst hK; exact pNotIn hu
theorem qIx (hK : X.K = K := by rfl) : IxR X (rIx K) := by subst hK; exact ix_seq
theorem qSl (hK : X.K = K := by rfl) : SlR X (rSlP K) := by subst hK; exact pSl
theorem qLen (hK : X.K = K := by rfl) : CallR X (.builtin "len") (rLenP K) := by subst hK; exact pLen
theorem qList (hK : X.K = K := by rfl) : CallR X (.type "list") (rListP K) := by subst hK; exact pList
theorem qTuple (hK : X.K = K := by rfl) : CallR X (.type "tuple") (rTupP K) := by subst hK; exact pTuple
theorem qIsi (hK : X.K = K := by rfl) : CallR X (.builtin "isinstance") (rIsi K) := by subst hK; exact call_isi
theorem qi_any {tg l : Expr} {tl : TE} (hl : PE X l tl) (hK : X.K = K := by rfl) : PI X tg l (iAny K tl) := by subst hK; exact pi_any hl
theorem qBm0 {o : Expr} {to : TE} {name : Str} {apos cpos : Pos} {T id : String} {r : V → List V → Hp → VK → Prop} (pa : PlainAttrs T) (slot : Slot T name id) (hty : typeOf (.builtin id) = pure (.type "method_descriptor")) (hm : MtR X id r) (ho : PE X o to) (hK : X.K = K := by rfl)
    (hbase : attributeBase o name X.env (eval o X.env) = eval o X.env := by rfl) (hline : (apos.endLine == cpos.line) = true := by rfl) : PE X (.Call (.Attribute o name apos) [] [] cpos) (tBM0 K T r to) := by
  subst hK
  exact pe_bm0 pa slot hty hm ho hbase hline
theorem qBm {o e : Expr} {es : List Expr} {to : TE} {t : TA} {name : Str} {apos cpos : Pos} {T id : String} {r : V → List V → Hp → VK → Prop} (pa : PlainAttrs T) (slot : Slot T name id) (hty : typeOf (.builtin id) = pure (.type "method_descriptor")) (hm : MtR X id r) (ho : PE X o to) (ha : PA X (e :: es) t) (hK : X.K = K := by rfl)
    (hbase : attributeBase o name X.env (eval o X.env) = eval o X.env := by rfl)
    (hfew : ((backTo cpos (starEach (e :: es) X.env)).all (fun x => !x.1) && (backToKw cpos (keywordEach [] X.env)).all (fun x => x.1.isSome) && decide ((e :: es).length + ([] : List Keyword).length + (if ([] : List Keyword).isEmpty then 0 else 1) < 30)) = true := by rfl)
    (hline : (apos.endLine == cpos.line) = true := by rfl) (hs : starEach (e :: es) X.env = (false, eval e X.env) :: starEach es X.env := by rfl) (hplain : (backTo cpos (starEach es X.env)).any (·.1) = false := by rfl) :
    PE X (.Call (.Attribute o name apos) (e :: es) [] cpos) (tBM K T r to t) := by
  subst hK
  exact pe_bm pa slot hty hm ho ha hbase hfew hline hs hplain
theorem qg_tup {es : List Expr} {k : Nat} {t : TGs} {n : Nat} {pos : Pos} (hc : X.calm = true) (h : PGs X es t) (hK : X.K = K := by rfl) (hn : (assignEach es X.env).length = n := by rfl) (hst : (assignEach es X.env).findIdx? (·.1) = Option.none := by rfl) : PG X (.Tuple es k pos) (gTup K n t) := by
  subst hK
  exact pg_tup hc h hn hst
end
end Bc

/-! Core I: an own exception whose __init__ says super().__init__('..') and stores its parameters. -/
namespace Bc
namespace XI
open PySem PySem.W PySem.Calls PyProof.Rows PySem.HandSPX
/-- what the written part says of an exception class -/
structure XCls (K : Frag) (C : Addr) (B newId initId : String) (bmB : List Value) : Prop where
  F : ExcBaseFacts B newId initId bmB
  X : KxsFacts B initId
  cls : ∃ nm q N bs bm sn sub ab col dd k0 k1 k2 k3 k5, K.lookup C = some (excClassObj nm q C N bs bm true sn sub ab col dd k0 k1 k2 k3 k5 newId) ∧ (∀ X, bm.contains (.type X) = bmB.contains (.type X)) ∧ ∀ self, refuseLoop self "__setattr__" (.ref C :: bm) = pure ()
  ob : bmB.contains (.type "object") = true
  sa : findIn K (.ref C) "__setattr__" = some (some (.builtin "object.__setattr__"))
  kC : keepIn K (.ref C) = true
  exC : subIn K (.ref C) (.type "BaseException") = some true
  tyC : typeIn K (.ref C) = some (.type "type")
  sB : subIn K (.ref C) (.type B) = some true
abbrev exR (C t1 : Addr) (d : Option Addr) : Obj := { cls := .ref C, dict := d, data := .fields #[.ref t1, .none, .none, .none, .bool false, .none] }
def AsgL : List Stmt → List (Str × Str) → Prop
  | [], fs => fs = []
  | st :: r, fs => ∃ a p s, fs = (a, p) :: s ∧ (∃ q1 q2 q3 q4, st = .Assign [.Attribute (.Name "self" q1) a q2] (.Name p q3) q4) ∧ AsgL r s
/-- the text of __init__ -/
structure XIn (P : Program) (K : Frag) (C fI : Addr) (initId : String) (ps : List Str) (fs : List (Str × Str)) : Prop where
  iC : findIn K (.ref C) "__init__" = some (some (.ref fI))
  tI : typeIn K (.ref fI) = some (.type "function")
  noN : ∀ p ∈ fs, findIn K (.ref C) p.1 = some none
  fn : ∃ (oc : Value) (od : Option Addr) (qual : Str) (params : Arguments) (scope : Scope) (cc cda D : Addr) (dV kV doc pm ct : Value) (an : Option Addr) (osl : Array (Option Value)) (p0 p1 p2 p3 p4 p5 : Pos) (msg : Str) (j : Nat) (rest : List Stmt) (cdD : ClassData),
    K.lookup fI = some ⟨oc, od, .func (fnX "__init__" qual params (.Expr (.Call (.Attribute (.Call (.Name "super" p0) [] [] p1) "__init__" p2) [.Constant (.str msg) j p3] [] p4) p5 :: rest) scope [("__class__", cc)] dV kV doc pm an (.ref cda) ct), osl⟩ ∧
    codeIn K (.ref cda) qual = true ∧ AsgL rest fs ∧
    (p2.endLine == p4.line) = true ∧ (∃ ar, (params.posonlyargs ++ params.args).head? = some ar ∧ ar.arg = "self") ∧
    scope.kind = .function ∧ scope.isCoroutine = false ∧ scope.isGenerator = false ∧ scope.names.lookup ("super" : Str) = some .globalImplicit ∧ scope.names.lookup ("__class__" : Str) = some .free ∧ (∀ x ∈ ("self" : Str) :: ps, scope.names.lookup x = some .local) ∧ (∀ x ∈ scope.names, x.2 ≠ .cell) ∧
    (∃ ccl cdd vs ccs file tf, K.lookup cda = some ⟨ccl, cdd, .fields vs, ccs⟩ ∧ vs[2]? = some (.str file tf) ∧ ((P.main.file : Str) == file) = true) ∧
    (∃ cl cld csl, K.lookup cc = some ⟨cl, cld, .cell (some (.ref D)), csl⟩) ∧ clsIn K D = some cdD ∧ mroIn K C (.ref D) = some true ∧ ks_superIn K C D "__init__" = some (some (.builtin initId)) ∧
    (∀ us : List Value, us.length = ps.length + 1 → bindArgs (fnX "__init__" qual params (.Expr (.Call (.Attribute (.Call (.Name "super" p0) [] [] p1) "__init__" p2) [.Constant (.str msg) j p3] [] p4) p5 :: rest) scope [("__class__", cc)] dV kV doc pm an (.ref cda) ct) ⟨us, []⟩ = pure ((("self" : Str) :: ps).zip us))
  nodup : (("self" : Str) :: ps).Nodup
  mem : ∀ p ∈ fs, p.2 ∈ ps
  few : fs.length ≤ 900
  ndbg : ∀ p ∈ fs, (p.2 == ("__debug__" : Str)) = false
  nda : (fs.map (·.1)).Nodup
  notop : (P.main.scope.names.lookup ("super" : Str)).isSome = false
  opq : nsIn K cStatics "thirdparty.any" = some none
section
open Builtin Builtin.ObjectAttr
variable {prog : Program} {w : World} {A : Around} {E : Value → Shared → Prop} {R : Result → Shared → Prop} {hp : Heap} {g : Array GenState} {d : Drawn} {t : Nat} {os : OsState} {K : Frag} {C fI : Addr} {B newId initId : String} {bmB : List Value}
theorem osa_x {name : Str} {tk : Tok} {v : Value} {x : Addr} {ox : Obj} {od : Option Obj} {cd : ClassData}
    (X : K.In hp) (I : InstAt hp x ox C od) (hcd : clsIn K C = some cd) (hob : cd.mro.contains (.type "object") = true) (hpass : refuseLoop (.ref x) "__setattr__" cd.mro = pure ()) (ha : findIn K (.ref C) name = some none)
    (hq : wpAny (model prog w) A.in1 (storeInOwnDict (.ref x) (.ref C) (.str name tk) name v false)
      (fun fin s' => match fin with | .done f => R (.ok f) s' | .again c' => c'.quiet = true ∧ codeAny (model prog w) A c' R s') (fun e s' => R (.error e) s') ⟨hp, g, d, t, os⟩) :
    codeAny (model prog w) A (.call (.builtin "object.__setattr__") ⟨[.ref x, .str name tk, v], []⟩) R ⟨hp, g, d, t, os⟩ := by
  have SF := PySem.F.store_object
  have hne : cd.mro.isEmpty = false := by
    cases h : cd.mro with
    | nil => rw [h] at hob; cases hob
    | cons a l => rfl
  have sub : Looks (model prog w) hp (isInstance (.ref x) (.type "object")) true := I.type.andThen (looks_mroIn X (by unfold mroIn; rw [hcd, Option.bind_some, hne, if_neg (by decide), hob]))
  refine codeAny_call_builtin SF.slot.plain SF.entry (@check_slot (model prog w) _ _ ⟨hp, g, d, t, os⟩ "object.__setattr__" "object" "__setattr__" (.ref x) [.str name tk, v] [] _ SF.kind SF.split sub (SF.args (.ref x) (.str name tk) v) ?_)
  have hmr : Looks (model prog w) hp (mroOf (.ref C)) cd.mro := (looks_clsIn X hcd).andThen .now
  have L3 : Looks (model prog w) hp (storeTaker? none) none := .now
  rw [osa_eq, refuse_eq]
  refine wpAny_bind (wpAny_bind (I.type.at (wpAny_bind (hmr.at ?_))))
  rw [hpass]
  refine wpAny_pure (wpAny_bind (I.type.at (wpAny_bind ((looks_findIn X ha).at (wpAny_bind (L3.at ?_))))))
  exact hq
theorem osa_new {name : Str} {tk : Tok} {v : Value} {x : Addr} {fv : Array Value} {cd : ClassData}
    (X : K.In hp) (hx : hp.get? x = some { cls := .ref C, data := .fields fv }) (hcd : clsIn K C = some cd) (hob : cd.mro.contains (.type "object") = true) (hpass : refuseLoop (.ref x) "__setattr__" cd.mro = pure ()) (hh : cd.hasDict = true) (ha : findIn K (.ref C) name = some none)
    (hq : ∀ h' tk' dx, (∀ b o, b ≠ x → hp.get? b = some o → h'.get? b = some o) → hp.objs.size ≤ dx → dx ≠ x → h'.get? x = some { cls := .ref C, dict := some dx, data := .fields fv } →
      h'.Ns1 dx (fun y => if y = name then some v else none) → R (.ok (.ret .none)) ⟨h', g, d, tk', os⟩) :
    codeAny (model prog w) A (.call (.builtin "object.__setattr__") ⟨[.ref x, .str name tk, v], []⟩) R ⟨hp, g, d, t, os⟩ := by
  have I : InstAt hp x { cls := .ref C, dict := none, data := .fields fv } C none := ⟨hx, rfl, rfl, trivial⟩
  have hxs : x ≠ hp.objs.size := Nat.ne_of_lt (Heap.lt_size hx)
  refine osa_x X I hcd hob hpass ha ?_
  have hcls : Looks (model prog w) hp (classData C) cd := looks_clsIn X hcd
  obtain ⟨nm, bs, mro, ns, qn, hd, sn, sb, ab, col, del⟩ := cd
  dsimp only at hh
  subst hh
  unfold storeInOwnDict ownDictForStores
  repeat (first | with_reducible refine HandSPX.store_in_new ?_ ?_ | with_reducible refine wpAny_loadPart_at hx ?_ | with_reducible refine hcls.at ?_ | wp_step)
  · exact ⟨_, #[], _, (Heap.get?_update_ne _ _ _ _ hxs.symm).trans (Heap.get?_push_at rfl rfl), rfl, fun e he => absurd he (by simp), fun _ => rfl⟩
  · intro h' tk' hn' hs
    have hx₁ : (hp.push { cls := .type "dict", data := .dict #[] }).get? x = some { cls := .ref C, data := .fields fv } := Heap.get?_push_of_some _ hx
    refine hq h' tk' hp.objs.size (fun b o hb ho => ?_) (Nat.le_refl _) hxs.symm ?_ hn'
    · exact (hs.2 b (Nat.ne_of_lt (Heap.lt_size ho))).trans ((Heap.get?_update_ne _ _ _ _ hb).trans (Heap.get?_push_of_some _ ho))
    · exact (hs.2 x hxs).trans (Heap.get?_update_self _ hx₁ rfl)
theorem osa_old {name : Str} {tk : Tok} {v : Value} {x dx : Addr} {fv : Array Value} {cd : ClassData} {m0 : Str → Option Value} {nl : List Str}
    (X : K.In hp) (hx : hp.get? x = some { cls := .ref C, dict := some dx, data := .fields fv }) (hns : hp.Ns1 dx m0) (hw : Within m0 nl) (hz : nl.length ≤ 1000) (hcd : clsIn K C = some cd) (hob : cd.mro.contains (.type "object") = true) (hpass : refuseLoop (.ref x) "__setattr__" cd.mro = pure ()) (hh : cd.hasDict = true)
    (ha : findIn K (.ref C) name = some none)
    (hq : ∀ h' tk', (∀ b o, b ≠ dx → hp.get? b = some o → h'.get? b = some o) → h'.Ns1 dx (fun y => if y = name then some v else m0 y) → R (.ok (.ret .none)) ⟨h', g, d, tk', os⟩) :
    codeAny (model prog w) A (.call (.builtin "object.__setattr__") ⟨[.ref x, .str name tk, v], []⟩) R ⟨hp, g, d, t, os⟩ := by
  obtain ⟨oD, esD, epD, hoD, hdD, _⟩ := hns.count hw
  have I : InstAt hp x { cls := .ref C, dict := some dx, data := .fields fv } C (some oD) := ⟨hx, rfl, rfl, hoD⟩
  refine osa_x X I hcd hob hpass ha ?_
  have hcls : Looks (model prog w) hp (classData C) cd := looks_clsIn X hcd
  obtain ⟨nm, bs, mro, ns, qn, hd, sn, sb, ab, col, del⟩ := cd
  dsimp only at hh
  subst hh
  unfold storeInOwnDict ownDictForStores
  repeat (first | with_reducible refine PySem.OEX.store_in_old hns hw hz ?_ | with_reducible refine wpAny_loadPart_at hx ?_ | with_reducible refine hcls.at ?_ | wp_step)
  intro h' tk' hn' hs
  exact hq h' tk' (fun b o hb ho => (hs.2 b hb).trans ho) hn'
end
/-! ### the stores -/
/-- midway: the fields so far (the last one first); the frame L -/
structure Mid (h0 h : Heap) (L x C : Addr) (m : Str → Option Value) (fs : List (Str × Value)) : Prop where
  keep : ∀ b o, b ≠ x → h0.get? b = some o → h.get? b = some o
  ns : h.Ns L m
  lx : L ≠ x
  sz : h0.objs.size ≤ h.objs.size
  obj : ∃ t1, (fs = [] ∧ h.get? x = some (exR C t1 none)) ∨ ∃ dx, h0.objs.size ≤ dx ∧ L ≠ dx ∧ dx ≠ x ∧ h.get? x = some (exR C t1 (some dx)) ∧ h.Ns1 dx fun y => fs.lookup y
def Got (m : Str → Option Value) : List (Str × Str) → List (Str × Value) → Prop
  | [], vs => vs = []
  | p :: s, vs => ∃ v r, vs = (p.1, v) :: r ∧ m p.2 = some v ∧ Got m s r
theorem lookup_put (f y : Str) (v : Value) (fs : List (Str × Value)) : ((f, v) :: fs).lookup y = if y = f then some v else fs.lookup y := by
  by_cases h : y = f
  · subst h
    simp [List.lookup]
  · have e : (y == f) = false := by simpa using h
    rw [if_neg h]
    simp [List.lookup, e]
theorem within_lookup (fs : List (Str × Value)) : Within (fun y => fs.lookup y) (fs.map (·.1)) := fun y hy => by
  induction fs with
  | nil => exact absurd rfl hy
  | cons p fs ih =>
    obtain ⟨f, v⟩ := p
    have hy2 : ((f, v) :: fs).lookup y ≠ none := hy
    rw [lookup_put] at hy2
    by_cases e : y = f
    · rw [e]; exact List.mem_cons_self ..
    · rw [if_neg e] at hy2
      have hy := hy2
      exact List.mem_cons_of_mem _ (ih hy)
section
variable {prog : Program} {w : World} {A : Around} {E : Value → Shared → Prop} {h0 : Heap} {g : Array GenState} {d : Drawn} {os : OsState} {K : Frag} {C L x : Addr} {B newId initId : String} {bmB : List Value} {env : Env} {m : Str → Option Value}
theorem stores (T : XCls K C B newId initId bmB) (X0 : K.In h0) (hx0 : K.lookup x = none) (hk : env.scope.kind = .function) (hL : env.locals = L) (hself : env.kindOf "self" = some .local) (mself : m "self" = some (.ref x)) :
    ∀ (sts : List Stmt) (fs : List (Str × Str)) (done : List (Str × Value)) (h : Heap) (t : Nat) (Q : Flow → Shared → Prop), AsgL sts fs → (∀ p ∈ fs, findIn K (.ref C) p.1 = some none ∧ env.kindOf p.2 = some .local ∧ (p.2 == ("__debug__" : Str)) = false ∧ ∃ v, m p.2 = some v) → done.length + fs.length ≤ 900 → Mid h0 h L x C m done →
      (∀ h' t' vs, Mid h0 h' L x C m (vs.reverse ++ done) → Got m fs vs → Q .next ⟨h', g, d, t', os⟩) →
      wpAny (model prog w) A (execs sts env) Q E ⟨h, g, d, t, os⟩
  | [], fs, done, h, t, Q, ha, hf, hl, M, hq => by
    subst ha
    exact wpAny_execs_nil (hq h t [] M rfl)
  | st :: sts, fs, done, h, t, Q, ha, hf, hl, M, hq => by
    obtain ⟨a, p, s, rfl, ⟨q1, q2, q3, q4, rfl⟩, ha⟩ := ha
    obtain ⟨no, hp, hdb, v, hv⟩ := hf (a, p) (List.mem_cons_self ..)
    obtain ⟨nm, q, N, bs, bm, sn, sub, ab, col, dd, k0, k1, k2, k3, k5, hC, hT, hpass⟩ := T.cls
    have hcl : clsIn K C = some { name := nm, bases := bs, mro := .ref C :: bm, ns := N, qualname := q, hasDict := true, slotNames := sn, subclasses := sub, abstract := ab, collection := col, hasDel := false } := by unfold clsIn; rw [hC] <;> rfl
    have hob : (Value.ref C :: bm).contains (.type "object") = true := by
      rw [List.contains_cons, hT "object", T.ob, Bool.or_true]
    have X : K.In h := fun b o e => M.keep b o (fun z => by rw [z, hx0] at e; cases e) (X0 b o e)
    have ns := M.ns
    rw [← hL] at ns
    refine wpAny_execs_cons (plainObj_wpAny_Assign_Attribute (wpAny_Name (wpAny_loadName_local hk hp ns hv (wpAny_Name (wpAny_loadName_local hk hself ns mself ?_) (by decide))) hdb))
    obtain ⟨t1, ⟨rfl, hx⟩ | ⟨dx, hdb2, hLd, hdx, hx, hns⟩⟩ := M.obj
    · refine set_plain X (ox := exR C t1 none) (od := none) ⟨hx, rfl, rfl, trivial⟩ T.sa ?_
      refine osa_new X hx hcl hob (hpass _) rfl no fun h' tk' dx k dn dne hx' hn' => ?_
      obtain ⟨oL, esL, epL, hoL, hrL⟩ := id M.ns
      have hLlt : L < h.objs.size := Heap.lt_size hoL
      have hd' : dx < h'.objs.size := by
        obtain ⟨o, _, _, e, _⟩ := id hn'
        exact Heap.lt_size e
      refine stores T X0 hx0 hk hL hself mself sts s [(a, v)] h' tk' Q ha (fun p hp => hf p (List.mem_cons_of_mem _ hp)) (by simp at hl ⊢; omega) ⟨fun b o hb e => k b o hb (M.keep b o hb e), ⟨oL, esL, epL, k _ _ M.lx hoL, hrL⟩, M.lx, Nat.le_trans M.sz (Nat.le_trans dn (Nat.le_of_lt hd')), t1, .inr ⟨dx, Nat.le_trans M.sz dn, Nat.ne_of_lt (Nat.lt_of_lt_of_le hLlt dn), dne, hx', ?_⟩⟩ fun h2 t2 vs M2 f2 => ?_
      · simpa only [lookup_put, List.lookup_nil] using hn'
      · exact hq h2 t2 ((a, v) :: vs) (by simpa using M2) ⟨v, vs, rfl, hv, f2⟩
    · refine set_plain X (ox := exR C t1 (some dx)) (od := some hns.choose) ⟨hx, rfl, rfl, hns.choose_spec.choose_spec.choose_spec.1⟩ T.sa ?_
      refine osa_old X hx hns (within_lookup done) (by rw [List.length_map]; simp at hl; omega) hcl hob (hpass _) rfl no fun h' tk' k hn' => ?_
      obtain ⟨oL, esL, epL, hoL, hrL⟩ := id M.ns
      have hd' : dx < h'.objs.size := by
        obtain ⟨o, _, _, e, _⟩ := id hn'
        exact Heap.lt_size e
      refine stores T X0 hx0 hk hL hself mself sts s ((a, v) :: done) h' tk' Q ha (fun p hp => hf p (List.mem_cons_of_mem _ hp)) (by simp at hl ⊢; omega) ⟨fun b o hb e => k b o (fun z => ?_) (M.keep b o hb e), ⟨oL, esL, epL, k _ _ hLd hoL, hrL⟩, M.lx, Nat.le_trans hdb2 (Nat.le_of_lt hd'), t1, .inr ⟨dx, hdb2, hLd, hdx, k _ _ (Ne.symm hdx) hx, ?_⟩⟩ fun h2 t2 vs M2 f2 => ?_
      · have := Heap.lt_size e
        rw [z] at this
        exact absurd this (Nat.not_lt.mpr hdb2)
      · simpa only [lookup_put] using hn'
      · exact hq h2 t2 ((a, v) :: vs) (by simpa using M2) ⟨v, vs, rfl, hv, f2⟩
end

theorem mc_eq {o c : Expr} {m : Str} {apos pos : Pos} {env : Env} {e1 : starEach [c] env = [(false, eval c env)]} (h : (apos.endLine == pos.line) = true) :
    eval (.Call (.Attribute o m apos) [c] [] pos) env = (do
      let ov ← attributeBase o m env (eval o env)
      standAt apos.atName
      let (f, first) ← holding [ov] (getMethod ov m (do return (← importBound o env).getD true))
      callWith pos f first (backTo pos (starEach [c] env)) []) := by
  rw [arm_eval_Call]
  have hf : methodCallForm ([c].length + ([] : List Keyword).length) (backTo pos (starEach [c] env)) (backToKw pos (keywordEach [] env)) = true := by
    rw [e1]
    rfl
  unfold methodCall calleeOf methodCallPos
  rw [hf]
  simp only [h, Bool.not_true, Bool.false_or, if_true, pure_bind]
  rfl
/-- a made exception: its dict, if it has fields -/
structure Made (h h' : Heap) (e C : Addr) (dd : Option Addr) (vs : List (Str × Value)) : Prop where
  keep : ∀ b o, b ≠ e → h.get? b = some o → h'.get? b = some o
  obj : ∃ t1, h'.get? e = some (exR C t1 dd)
  dct : match dd with | none => vs = [] | some dx => h.objs.size ≤ dx ∧ dx ≠ e ∧ h'.Ns1 dx fun y => vs.reverse.lookup y
section
variable {prog : Program} {w : World} {A : Around} {E : Value → Shared → Prop} {R : Result → Shared → Prop} {s : Shared} {K : Frag} {C fI x : Addr} {B newId initId : String} {bmB : List Value} {ps : List Str} {fs : List (Str × Str)} {mg mb : Str → Option Value}
theorem init_raw (T : XCls K C B newId initId bmB) (I : XIn prog K C fI initId ps fs) {t0 : Addr} {us : List Value} (hus : us.length = ps.length) (X : K.In s.heap) (hg : s.heap.Ns mainGlobals mg) (gs : mg "super" = none) (hb : s.heap.Ns builtinsNs mb) (bs : mb "super" = some (.type "super"))
    (hlim : s.heap.NoLimit) (hx : s.heap.get? x = some (exR C t0 none)) (hnx : K.lookup x = none) (hroom : A.depth < recursionLimit)
    (hq : ∀ h' tk dd vs, Made s.heap h' x C dd vs → Got (fun y => ((("self" : Str) :: ps).zip (.ref x :: us)).reverse.lookup y) fs vs → R (.ok (.ret .none)) { s with heap := h', toks := tk }) :
    codeAny (model prog w) A (.call (.ref fI) ⟨.ref x :: us, []⟩) R s := by
  obtain ⟨oc, od, qual, params, scope, cc, cda, D, dV, kV, doc, pm, ct, an, osl, p0, p1, p2, p3, p4, p5, msg, j, rest, cdD, lk, hcd, hasg, hpos, ⟨ar, har, hself⟩, sk, sco, sgen, ssup, scls, sloc, snoc, ⟨ccl, cdd, cvs, ccs, file, tf, lcda, hvs, hfile⟩, ⟨cl, cld, csl, lcc⟩, hD, hsub, hsuper, hbind⟩ := I.fn
  obtain ⟨nm, q, N, bs', bm, sn, sub, ab, col, dd, k0, k1, k2, k3, k5, hC, hT, hpass⟩ := T.cls
  refine ks_codeAny_call_defAt hroom (X _ _ lk) rfl hlim (codeRec_of X hcd) rfl (BindsTo.of_eq (hbind _ (by simp [hus]))) snoc (fun y hy => sloc _ (List.of_mem_zip (show (y.1, y.2) ∈ _ from hy)).1) (fun h₀ hns hk₀ => ?_) sco sgen sk
  have hLx : s.heap.objs.size ≠ x := Nat.ne_of_gt (Heap.lt_size hx)
  obtain ⟨hp, g, d, tk, os⟩ := s
  dsimp only at hns hk₀ hx hg hb X hlim hLx hq ⊢
  have X₀ : K.In h₀ := fun b o e => hk₀ b o (X b o e)
  have hx₀ := hk₀ _ _ hx
  have hg₀ := hg.keeps hk₀
  have hb₀ := hb.keeps hk₀
  have nself : (fun y => ((("self" : Str) :: ps).zip (.ref x :: us)).reverse.lookup y) "self" = some (.ref x) := NdefX.zip_look (i := 0) I.nodup rfl rfl
  show _root_.PySem.wpAt (model prog w) (A.deeper (ksEnv qual scope hp.objs.size fI (.ref cda) cc)) (.func _ (ksEnv qual scope hp.objs.size fI (.ref cda) cc)) (execs _ (ksEnv qual scope hp.objs.size fI (.ref cda) cc)) _ _ _
  refine ks_wpAt_execs_cons (ks_wpAt_Expr_any (ks_wpAt_MethodCall ?_ (mc_eq (e1 := rfl) hpos)) (hi := by unfold interactive; rw [show (ksEnv qual scope hp.objs.size fI (.ref cda) cc).scope.kind = .function from sk]; rfl))
  obtain ⟨oD, hD1, hD2⟩ : ∃ oD, h₀.get? D = some oD ∧ oD.data = .cls cdD := by
    unfold clsIn at hD
    split at hD
    · rename_i c d cd' sl ho
      cases hD
      exact ⟨_, X₀ _ _ ho, rfl⟩
    · cases hD
  have inst : ∀ {h : Heap} {t1 : Addr}, h.get? x = some (exR C t1 none) → InstAt h x (exR C t1 none) C none := fun e => ⟨e, rfl, rfl, trivial⟩
  refine ks_wpAt_super_base (env := ksEnv qual scope hp.objs.size fI (.ref cda) cc) ssup scls rfl rfl (X₀ _ _ lk) rfl har rfl (X₀ _ _ lcda) rfl hvs hfile I.notop ?_
  refine ks_loadName_global sk ssup (loadGlobal_builtin (env := ksEnv qual scope hp.objs.size fI (.ref cda) cc) hg₀ gs hb₀ bs ⟨rfl, ?_⟩)
  refine wpAny_loadName_free sk scls rfl ⟨_, X₀ _ _ lcc, rfl⟩ ?_
  rw [hself]
  refine wpAny_loadName_local (env := ksEnv qual scope hp.objs.size fI (.ref cda) cc) sk (sloc _ (List.mem_cons_self ..)) hns nself ?_
  refine ks_wpAny_isType_cls hD1 hD2 ⟨rfl, ?_⟩
  refine ks_wpAny_call_super hD1 hD2 hx₀ rfl (fun c e => by cases e) (looks_mroIn X₀ hsub) (fun h1 e1 k1 => ?_)
  have X1 : K.In h1 := fun b o e => k1 b o (X₀ b o e)
  have hx1 := k1 _ _ hx₀
  have hcl : clsIn K C = some { name := nm, bases := bs', mro := .ref C :: bm, ns := N, qualname := q, hasDict := true, slotNames := sn, subclasses := sub, abstract := ab, collection := col, hasDel := false } := by unfold clsIn; rw [hC] <;> rfl
  have hf : alongIn K "__init__" (((Value.ref C :: bm).dropWhile (· != .ref D)).drop 1) = some (some (.builtin initId)) := by
    unfold ks_superIn at hsuper
    rw [hcl] at hsuper
    exact hsuper
  have hI : Looks (model prog w) h1 (isInstance (.ref x) (.type B)) true := (inst hx1).type.andThen (looks_subIn X1 T.sB)
  refine kxs_getMethod T.X e1 (looks_opaque X1 I.opq) (l₀ := .ref C :: bm) (fun A Q E s k q => wpAny_bind ((looks_clsIn X1 hcl) A _ E s k (wpAny_pure q))) rfl X1 hf hI (ks_ne X1 (inst hx1) hcl) rfl ?_
  have k2 : ∀ b o, h1.get? b = some o → (h1.push (kxs_mw initId x)).get? b = some o := fun b o e => Heap.get?_push_of_some _ e
  have hu2 : (h1.push (kxs_mw initId x)).get? h1.objs.size = some (kxs_mw initId x) := Heap.get?_push_at rfl rfl
  have hx2 := k2 _ _ hx1
  refine kxs_callWith (i := initId) (x := x) rfl ?_
  show wpAny _ _ (evalArgs _ true (backTo p4 (starEach (.Constant (.str msg) j p3 :: []) _)) []) _ _ _
  refine evalArgs_plain (spliced_more (Calls.Constant_str (spliced_none ⟨hu2, ?_⟩)))
  show wpAny _ _ (call (.ref h1.objs.size) [.str msg _]) _ _ _
  have X2 : K.In (h1.push (kxs_mw initId x)) := fun b o e => k2 b o (X1 b o e)
  refine wpAny_call (codeAny_of_tree ?_)
  show wpAny _ _ (callAny (.ref h1.objs.size) ⟨[.str msg _], []⟩) _ _ _
  simp only [callAny]
  refine wpAny_bind (wpAny_load hu2 ?_)
  simp only [kxs_mw, show (Value.type "method-wrapper" == Value.type "method" || Value.type "method-wrapper" == Value.type "builtin_function_or_method" || Value.type "method-wrapper" == Value.type "method-wrapper") = true by decide, if_true]
  refine KFB.if_so (by decide) ?_
  refine wpAny_bind (check_bound_init T.F.toExcCallFacts (X2 _ _ hC) hx2 rfl ?_)
  refine wpAny_bind (wpAny_pure (wpAny_pure ?_))
  refine ⟨plainId_quiet T.F.init.plain _, codeAny_builtin T.F.initEntry ?_⟩
  refine exc_init_tree (cls := .ref C) (t0 := t0) (dv := none) (c2 := .none) (c3 := .none) (b4 := .bool false) hx2 (by simp [sizeLine_eq]) fun h3 k3 e3 _ => ?_
  show _root_.PySem.wpAt _ _ _ _ _ _ _
  refine wpAt_of_wpAny ?_
  have kx : ∀ b o, b ≠ x → hp.get? b = some o → h3.get? b = some o := fun b o hb e => k3 b o hb (k2 b o (k1 b o (hk₀ b o e)))
  have kL : ∀ o, h₀.get? hp.objs.size = some o → h3.get? hp.objs.size = some o := fun o e => k3 _ o hLx (k2 _ o (k1 _ o e))
  obtain ⟨oL, esL, epL, hoL, hrL⟩ := id hns
  have hsz : hp.objs.size ≤ h3.objs.size := Nat.le_of_lt (Heap.lt_size (kL _ hoL))
  refine wpAny_mono (stores (env := ksEnv qual scope hp.objs.size fI (.ref cda) cc) (m := fun y => ((("self" : Str) :: ps).zip (.ref x :: us)).reverse.lookup y) T X hnx sk rfl (sloc _ (List.mem_cons_self ..)) nself rest fs [] h3 _ hasg ?_ (by simpa using I.few) ⟨kx, ⟨oL, esL, epL, kL _ hoL, hrL⟩, hLx, hsz, _, .inl ⟨rfl, e3⟩⟩ (Q := fun f s' => f = .next ∧ R (.ok (.ret .none)) s') fun h4 t4 vs M4 G4 => ⟨rfl, ?_⟩) ?_ fun _ _ z => z
  · intro p hp'
    refine ⟨I.noN p hp', sloc _ (List.mem_cons_of_mem _ (I.mem p hp')), I.ndbg p hp', ?_⟩
    obtain ⟨i, hi⟩ := List.mem_iff_getElem?.mp (I.mem p hp')
    have hlt : i < us.length := by rw [hus]; exact (List.getElem?_eq_some_iff.mp hi).1
    exact ⟨us[i], NdefX.zip_look (i := i + 1) I.nodup (by simpa using hi) (by simp [hlt])⟩
  · have M5 : ∃ dd, Made hp h4 x C dd vs := by
      obtain ⟨t1, ⟨e, hx4⟩ | ⟨dx, a1, a2, a3, a4, a5⟩⟩ := M4.obj
      · exact ⟨none, M4.keep, ⟨t1, hx4⟩, by simpa using e⟩
      · exact ⟨some dx, M4.keep, ⟨t1, a4⟩, a1, a3, by simpa using a5⟩
    obtain ⟨dd, M5⟩ := M5
    exact hq h4 t4 dd vs M5 G4
  · rintro f s' ⟨rfl, z⟩
    exact z
theorem got_zip {m : Str → Option Value} : ∀ {ps : List Str} {us : List Value} {vs : List (Str × Value)}, us.length = ps.length → (∀ (i : Nat) (p : Str), ps[i]? = some p → m p = us[i]?) → Got m (ps.map fun p => (p, p)) vs → vs = ps.zip us
  | [], us, vs, h, _, g => g
  | p :: ps, [], vs, h, _, g => by cases h
  | p :: ps, u :: us, vs, h, hm, g => by
    obtain ⟨v, r, rfl, e, g⟩ := g
    have e2 := hm 0 p rfl
    simp only [List.getElem?_cons_zero] at e2
    rw [show m p = some v from e] at e2
    cases e2
    rw [got_zip (us := us) (by simpa using h) (fun i q hq => by simpa using hm (i + 1) q (by simpa using hq)) g]
    rfl
theorem made_raw (T : XCls K C B newId initId bmB) (I : XIn prog K C fI initId ps (ps.map fun p => (p, p))) {us : List Value} (hus : us.length = ps.length) (X : K.In s.heap) (hg : s.heap.Ns mainGlobals mg) (gs : mg "super" = none) (hb : s.heap.Ns builtinsNs mb) (bs : mb "super" = some (.type "super"))
    (hlim : s.heap.NoLimit) (hroom : A.depth + 1 < recursionLimit) (hz : us.length ≤ 1000)
    (hq : ∀ h' tk e dd, s.heap.objs.size ≤ e → (∀ b o, s.heap.get? b = some o → h'.get? b = some o) → (∃ t1, h'.get? e = some (exR C t1 dd)) → (match dd with | none => ps = [] | some dx => s.heap.objs.size ≤ dx ∧ dx ≠ e ∧ h'.Ns1 dx fun y => (ps.zip us).reverse.lookup y) → R (.ok (.ret (.ref e))) { s with heap := h', toks := tk }) :
    codeAny (model prog w) A (.call (.ref C) ⟨us, []⟩) R s := by
  obtain ⟨nm, q, N, bs', bm, sn, sub, ab, col, dd, k0, k1, k2, k3, k5, hC, hT, hpass⟩ := T.cls
  obtain ⟨hp, g, dr, tk, os⟩ := s
  have k : ∀ b o, hp.get? b = some o → ((hp.push (kdv_tup us)).push (excO C hp.objs.size)).get? b = some o := fun b o e => Heap.get?_push_of_some _ (Heap.get?_push_of_some _ e)
  have hget : ((hp.push (kdv_tup us)).push (excO C hp.objs.size)).get? (hp.objs.size + 1) = some (excO C hp.objs.size) := by heap_get
  have hnx : K.lookup (hp.objs.size + 1) = none := by
    cases e : K.lookup (hp.objs.size + 1) with
    | none => rfl
    | some o =>
      have z : hp.get? (hp.objs.size + 1) = some o := X _ _ e
      exact absurd (Nat.lt_of_succ_lt (Heap.lt_size z)) (Nat.lt_irrefl _)
  refine call_own T.F hT (X _ _ hC) (looks_findIn X I.iC) (fun self => bind_fn X self I.tI) (by rw [sizeLine_eq]; omega) ?_
  refine init_raw (s := ⟨(hp.push (kdv_tup us)).push (excO C hp.objs.size), g, dr, tk, os⟩) T I (t0 := hp.objs.size) hus (X.keeps k) (hg.keeps k) gs (hb.keeps k) bs (hlim.keeps k) hget hnx hroom fun h' tk' dd vs M G => ?_
  have old : ∀ b o, hp.get? b = some o → h'.get? b = some o := fun b o e => M.keep b o (Nat.ne_of_lt (Nat.lt_succ_of_lt (Heap.lt_size e))) (k b o e)
  have ev : vs = ps.zip us := got_zip hus (fun i p hi => by
    have hlt : i < us.length := by rw [hus]; exact (List.getElem?_eq_some_iff.mp hi).1
    rw [List.getElem?_eq_getElem hlt]
    exact NdefX.zip_look (i := i + 1) I.nodup (by simpa using hi) (by simp [hlt])) G
  refine ⟨rfl, hq h' tk' (hp.objs.size + 1) dd (Nat.le_succ _) old M.obj ?_⟩
  have dct := M.dct
  cases dd with
  | none =>
    have dct : vs = [] := dct
    rw [ev] at dct
    show ps = []
    cases ps with
    | nil => rfl
    | cons p ps => cases us with
      | nil => cases hus
      | cons u us => cases dct
  | some dx =>
    obtain ⟨a1, a2, a3⟩ := dct
    rw [ev] at a3
    have z : hp.objs.size + 1 + 1 ≤ dx := by
      have q := a1
      rw [Heap.size_push, Heap.size_push] at q
      exact q
    exact ⟨Nat.le_trans (Nat.le_trans (Nat.le_succ _) (Nat.le_succ _)) z, a2, a3⟩
end
end XI
section
open PySem PySem.W PySem.Calls PyProof.Rows PySem.HandSPX L2
theorem lookup_zip_none {α : Type} {f : Str} : ∀ {ps : List Str} {us : List α}, f ∉ ps → (ps.zip us).lookup f = none
  | [], us, h => rfl
  | p :: ps, [], h => rfl
  | p :: ps, u :: us, h => by
    have e : (f == p) = false := by
      have : f ≠ p := fun z => h (by rw [z]; exact List.mem_cons_self ..)
      simpa using this
    rw [List.zip_cons_cons, List.lookup_cons, e]
    exact lookup_zip_none fun z => h (List.mem_cons_of_mem _ z)
theorem lookup_zip_some {α : Type} {f : Str} : ∀ {ps : List Str} {us : List α} {i : Nat} {u : α}, ps.Nodup → ps[i]? = some f → us[i]? = some u → (ps.zip us).lookup f = some u
  | [], us, i, u, _, h, _ => by simp at h
  | p :: ps, [], i, u, _, _, h => by simp at h
  | p :: ps, v :: us, 0, u, nd, h1, h2 => by
    simp at h1 h2
    subst h1
    subst h2
    simp [List.lookup]
  | p :: ps, v :: us, i + 1, u, nd, h1, h2 => by
    have hm : f ∈ ps := List.mem_of_getElem? (by simpa using h1)
    have e : (f == p) = false := by
      have : f ≠ p := fun z => (List.nodup_cons.mp nd).1 (by rw [← z]; exact hm)
      simpa using this
    rw [List.zip_cons_cons, List.lookup_cons, e]
    exact lookup_zip_some (i := i) (List.nodup_cons.mp nd).2 (by simpa using h1) (by simpa using h2)
theorem lookup_rev_none {f : Str} {l : List (Str × Value)} (h : ∀ v, (f, v) ∉ l) : l.reverse.lookup f = none := by
  cases e : l.reverse.lookup f with
  | none => rfl
  | some v => exact absurd (List.mem_reverse.mp (PySem.mem_of_lookup e)) (h v)
theorem rel_zip {ps : List Str} {vs : List V} {us : List Value} (nd : ps.Nodup) (r : Vals vs us) (hl : us.length = ps.length) (f : Str) : RelO ((ps.zip vs).lookup f) ((ps.zip us).reverse.lookup f) := by
  by_cases hf : f ∈ ps
  · obtain ⟨i, hi⟩ := List.mem_iff_getElem?.mp hf
    have hlt : i < us.length := by rw [hl]; exact (List.getElem?_eq_some_iff.mp hi).1
    have hv : vs[i]? = some (vs[i]'(by rw [r.length]; exact hlt)) := by simp
    obtain ⟨u, hu, rv⟩ := r.get hv
    rw [lookup_zip_some nd hi hv, NdefX.zip_look nd hi hu]
    exact rv
  · rw [lookup_zip_none hf, lookup_rev_none fun v hv => hf (List.of_mem_zip hv).1]
    trivial
/-- C(e, ..): a new exception; its dict -/
def tMkX (C : Addr) (ps : List Str) (ta : TA) : L2.St → Hp → XK → Prop := fun σ H Q => ta σ H fun vs H1 => vs.length = ps.length ∧ (ps = [] → Q (.ref C) none H1) ∧ ∀ d, H1 d = none → Q (.ref C) (some d) (upd H1 d (.xd (ps.zip vs)))
structure XC (P : Program) (K : Frag) (mg : Str → Option Value) (x : Str) (C : Addr) (ps : List Str) : Prop where
  ex : ∃ fI B newId initId bmB, XI.XCls K C B newId initId bmB ∧ XI.XIn P K C fI initId ps (ps.map fun p => (p, p))
  gC : mg x = some (.ref C)
  gs : mg "super" = none
  few : ps.length ≤ 1000
variable {X : Cx} {x : Str} {C : Addr} {ps : List Str} {k : Nat} {p pos : Pos} {e : Expr} {es : List Expr} {ta : TA}
theorem pmk_X (T : XC X.prog X.K X.mg x C ps) (hr : Room k X.A) (ha : PA X (e :: es) ta) (hg : Gl X x := by rfl) (hdb : (x == ("__debug__" : Str)) = false := by decide)
    (he : starEach (e :: es) X.env = (false, eval e X.env) :: starEach es X.env := by rfl) (hpl : (backTo pos (starEach es X.env)).any (·.1) = false := by rfl) :
    PMk X (.Call (.Name x p) (e :: es) [] pos) (tMkX C ps ta) := by
  intro pins s σ H Q I h
  obtain ⟨fI, B, newId, initId, bmB, TC, TI⟩ := T.ex
  refine wpAny_Call_Name_kw (ld_glob I hg T.gC ?_ hdb)
  refine PySem.W.callWith_K (h₀ := X.base) I.ok.mod.kin TC.kC (thn (ha.run pos pins s σ H _ I h) fun us s1 hh => ?_) he hpl
  obtain ⟨vs, H1, I1, r1, hl, q0, q1⟩ := hh
  have hus : us.length = ps.length := by rw [← r1.length]; exact hl
  refine ⟨I1.kIn, ?_⟩
  show wpAny _ _ (call (.ref C) us) _ _ _
  obtain ⟨mb, hb1, hb2⟩ := I1.mod.blt
  have hlim := I1.nolimit
  have bk := I1.bk
  have kin := I1.kIn
  obtain ⟨hp, g, dr, tk, os⟩ := s1
  refine wpAny_call (XI.made_raw TC TI hus kin (I1.mod.glob.keeps bk) T.gs (hb1.keeps bk) ((hb2 "super" (by decide)).trans (by decide +kernel)) hlim (by have := hr.dp; omega) (by have := T.few; omega) fun h' tk' e dd hnew keep hoe hdd => ?_)
  show MkP X pins σ Q (.ref e) ⟨h', g, dr, tk', os⟩
  obtain ⟨t1, hoe⟩ := hoe
  obtain ⟨G', g1, g2⟩ := restrict h' fun b => decide (b ≠ e)
  have gk : ∀ b, b ≠ e → G'.get? b = h'.get? b := fun b hb => g1 b (decide_eq_true hb)
  have ge : G'.get? e = none := g2 e (by simp)
  have old : ∀ b o, hp.get? b = some o → G'.get? b = some o := fun b o q => (gk b (Nat.ne_of_lt (Nat.lt_of_lt_of_le (Heap.lt_size q) hnew))).trans (keep b o q)
  have up : ∀ b o, G'.get? b = some o → h'.get? b = some o := fun b o q => by
    by_cases hb : b = e
    · rw [hb, ge] at q; cases q
    · exact (gk b hb).symm.trans q
  have ne : H1 e = none := I1.hok.fresh hnew
  cases dd with
  | none =>
    have J : Inv X pins σ H1 ⟨G', g, dr, tk', os⟩ := I1.kept (t' := tk') old
    exact ⟨e, _, _, ⟨G', g, dr, tk', os⟩, _, .ref C, none, rfl, J, up, ge, hoe, ⟨rfl, rfl⟩, rfl, rfl, ne, rfl, I1.bare, raises_own TC.exC TC.tyC, q0 hdd⟩
  | some d =>
    obtain ⟨dbig, dne, hns⟩ := hdd
    have ob : ObjOk X.prog X.w (upd H1 d (.xd (ps.zip vs))) G' d (.xd (ps.zip vs)) := ⟨_, hns.at (fun o q => (gk d dne).trans q), fun f => rel_zip (List.nodup_cons.mp TI.nodup).2 r1 hus f⟩
    have J : Inv X pins σ (upd H1 d (.xd (ps.zip vs))) ⟨G', g, dr, tk', os⟩ := I1.laid (t' := tk') old dbig ob
    exact ⟨e, _, _, ⟨G', g, dr, tk', os⟩, _, .ref C, some d, rfl, J, up, ge, hoe, ⟨rfl, rfl⟩, rfl, rfl, by rw [upd_ne (Ne.symm dne)]; exact ne, rfl, I1.bare, raises_own TC.exC TC.tyC, q1 d (I1.hok.fresh dbig)⟩
end
end Bc

/-! Core X: defs that raise, calls of them, try .. except .. as .. -/
namespace Bc
open PySem L2 PySem.Spec PyProof.Rows
abbrev FX := Option (List (Str × D))
abbrev RX1 := List D → Value → FX → Prop
def SpX (src fr : Bool) (R : List D → D → Prop) (RX : RX1) : Sp := fun vs H Q E => ∃ F S ds, Okw F S H ∧ ArgOk src F S vs ds ∧ ((∃ d, R ds d) ∨ ∃ c f, RX ds c f) ∧ (∀ d v S' H', R ds d → Giv fr F S H d v S' H' → Q v H') ∧
  ∀ c f d S' H', RX ds c f → Gr F S H S' H' → XdAt S' d f → E c d H'
/-- which slots are told -/
def Hm : List (Option D) → List Sl → Prop
  | [], Δ => Δ = []
  | Option.none :: l, Δ => ∃ s r, Δ = s :: r ∧ Hm l r
  | some d :: l, Δ => ∃ r, Δ = .v d :: r ∧ Hm l r
theorem Hm.len : ∀ {l : List (Option D)} {Δ : List Sl}, Hm l Δ → Δ.length = l.length
  | [], Δ, h => by rw [show Δ = [] from h]; rfl
  | Option.none :: l, Δ, h => by
    obtain ⟨s, r, rfl, h⟩ := h
    rw [List.length_cons, List.length_cons, h.len]
  | some d :: l, Δ, h => by
    obtain ⟨r, rfl, h⟩ := h
    rw [List.length_cons, List.length_cons, h.len]
theorem Hm.get : ∀ {l : List (Option D)} {Δ : List Sl} {i : Nat} {d : D}, Hm l Δ → l[i]? = some (some d) → Δ[i]? = some (.v d)
  | [], Δ, i, d, h, e => by simp at e
  | Option.none :: l, Δ, 0, d, h, e => by simp at e
  | Option.none :: l, Δ, i + 1, d, h, e => by
    obtain ⟨s, r, rfl, h⟩ := h
    simpa using Hm.get h (by simpa using e)
  | some x :: l, Δ, 0, d, h, e => by
    obtain ⟨r, rfl, h⟩ := h
    simp at e
    subst e
    rfl
  | some x :: l, Δ, i + 1, d, h, e => by
    obtain ⟨r, rfl, h⟩ := h
    simpa using Hm.get h (by simpa using e)
theorem hm_none : ∀ {Δ : List Sl} {n : Nat}, Δ.length = n → Hm (List.replicate n Option.none) Δ
  | [], n, h => by
    subst h
    rfl
  | s :: r, n, h => by
    subst h
    exact ⟨s, r, rfl, hm_none rfl⟩
section
variable {F : Fp} {fr : Bool} {Δ : List Sl} {ta : TA} {R : List D → D → Prop} {RX : RX1} {W : WX} {PX : Value → FX → Prop} {l : List (Option D)} {ix : Nat}
/-- an exception goes its way -/
theorem xc_go {H0 S H S' H' : Hp} {σ : L2.St} {c : Value} {d : Option Addr} {f : FX} (t : StD F S H H0 σ Δ) (hx : Δ[ix]? = some (.xc W PX l)) (hm : Hm l Δ) (hp : PX c f) (g : Gr F S H S' H') (a : XdAt S' d f) : W c d σ H' := by
  obtain ⟨x, _, h⟩ := t.ok ix _ hx
  have h : XcOk F S H H0 W PX l := h
  refine h.go S' H' c d f σ (g.w h.hd) hp a (by rw [t.len, hm.len]) fun i y e => ?_
  obtain ⟨z, e1, h1⟩ := t.get (hm.get e)
  exact ⟨z, e1, h1.mono g.s⟩
theorem ev_callX {Pa : List D → Prop} (hx : Δ[ix]? = some (.xc W PX l)) (hm : Hm l Δ) (h : EvA F ta Δ Pa) (hR : ∀ ds, Pa ds → (∃ d, R ds d) ∨ ∃ c f, RX ds c f) (hp : ∀ ds c f, Pa ds → RX ds c f → PX c f) :
    EvR F (tCallS (SpX false false R RX) (WE W) ta) Δ fun d => ∃ ds, Pa ds ∧ R ds d := fun H0 S H σ w t Q k =>
  h H0 S H σ w t _ fun ds vs S' H' p g hd =>
    ⟨Option.none, S', ds, (g.ok w).base, ⟨rfl, hd⟩, hR ds p, fun d v S2 H2 r gv => k d v S2 H2 ⟨ds, p, r⟩ (g.trans gv.g.up) (gv.vl rfl), fun c f d S2 H2 r g2 a => xc_go t hx hm (hp ds c f p r) (g.trans g2.up) a⟩
theorem ef_callX {Pa : List D → Prop} (hx : Δ[ix]? = some (.xc W PX l)) (hm : Hm l Δ) (h : EvA F ta Δ Pa) (hR : ∀ ds, Pa ds → (∃ d, R ds d) ∨ ∃ c f, RX ds c f) (hp : ∀ ds c f, Pa ds → RX ds c f → PX c f) :
    EvF F (tCallS (SpX false true R RX) (WE W) ta) Δ fun es => ∃ ds, Pa ds ∧ R ds (.list es) := fun H0 S H σ w t Q k =>
  h H0 S H σ w t _ fun ds vs S' H' p g hd => by
    refine ⟨Option.none, S', ds, (g.ok w).base, ⟨rfl, hd⟩, hR ds p, fun d v S2 H2 r gv => ?_, fun c f d S2 H2 r g2 a => xc_go t hx hm (hp ds c f p r) (g.trans g2.up) a⟩
    obtain ⟨es, q, xs, e1, e2, e3, e4, e5, e6⟩ := gv.f rfl
    subst e1
    subst e2
    refine k es q xs S2 H2 ⟨ds, p, r⟩ (g.trans gv.g.up) ?_ e3 e4 e6
    cases e : H q with
    | none => rfl
    | some o =>
      obtain ⟨o', e'⟩ := g.m q o e
      rw [e5] at e'
      cases e'
theorem ev_callX1 {ds : List D} {d : D} (hx : Δ[ix]? = some (.xc W PX l)) (hm : Hm l Δ) (h : EvA F ta Δ fun r => r = ds) (hR : R ds d) (hu : ∀ e, R ds e → e = d) (hp : ∀ c f, RX ds c f → PX c f) : Ev1 F (tCallS (SpX false false R RX) (WE W) ta) Δ d :=
  (ev_callX hx hm h (fun _ e => .inl (e ▸ ⟨d, hR⟩)) fun _ c f e r => hp c f (e ▸ r)).imp fun e ⟨_, e1, e2⟩ => hu e (e1 ▸ e2)
theorem dtf_zip {S : Hp} : ∀ {ps : List Str} {ds : List D} {vs : List V}, DtL S ds vs → DtF S (ps.zip ds) (ps.zip vs)
  | [], ds, vs, h => by simp [DtF]
  | p :: ps, [], vs, h => by
    simp only [DtL] at h
    subst h
    simp [DtF]
  | p :: ps, d :: ds, vs, h => by
    simp only [DtL] at h
    obtain ⟨x, ys, rfl, h1, h2⟩ := h
    simp only [List.zip_cons_cons, DtF]
    exact ⟨x, ps.zip ys, rfl, h1, dtf_zip h2⟩
/-- raise C(e, ..) -/
theorem run_raise {po : Po} {C : Addr} {ps : List Str} {Pa : List D → Prop} (hx : Δ[ix]? = some (.xc W PX l)) (hm : Hm l Δ) (h : EvA F ta Δ Pa) (hl : ∀ ds, Pa ds → ds.length = ps.length) (hne : ps ≠ []) (hp : ∀ ds, Pa ds → PX (.ref C) (some (ps.zip ds))) :
    Run F fr (fun _ σ H => tMkX C ps ta σ H fun cls d H' => W cls d σ H') Δ po := fun S0 H0 B S H σ E w g st r =>
  h H0 S H σ w st _ fun ds vs S' H' p g' hd => by
    refine ⟨by rw [← hd.len, hl ds p], fun e => absurd e hne, fun d hn => ?_⟩
    have hs : S' d = Option.none := Same.free g'.h hn
    refine xc_go st hx hm (hp ds p) (g'.trans (Gr.newD (o := .xd (ps.zip vs)) g'.h hn)) ⟨d, ps.zip vs, rfl, upd_same, ?_⟩
    exact DtF.mono (fun x u e => by rw [upd_ne (ne_of_none e hs)]; exact e) _ _ (dtf_zip hd)
end
theorem StD.put {F : Fp} {S H H0 : Hp} {σ : L2.St} {Δ : List Sl} (t : StD F S H H0 σ Δ) {i : Nat} {s : Sl} (h : ∀ x, SlOk F S H H0 s x) (hn : ∀ ds, s ≠ .own ds) : StD F S H H0 σ (Δ.set i s) := by
  refine ⟨by rw [t.len]; simp, fun j s' e => ?_, fun j k ds es p e1 e2 f1 f2 => ?_, t.fh⟩
  · have hj : j < Δ.length := by
      have := (List.getElem?_eq_some_iff.mp e).1
      simpa using this
    by_cases hji : j = i
    · subst hji
      rw [List.getElem?_set_self hj] at e
      cases e
      have hjs : j < σ.length := by rw [t.len]; exact hj
      exact ⟨σ[j], by simp [hjs], h _⟩
    · rw [List.getElem?_set_ne (Ne.symm hji)] at e
      exact t.ok j s' e
  · have hj : j ≠ i := fun z => by
      subst z
      have := (List.getElem?_eq_some_iff.mp e1).1
      rw [List.getElem?_set_self (by simpa using this)] at e1
      cases e1
      exact hn _ rfl
    have hk : k ≠ i := fun z => by
      subst z
      have := (List.getElem?_eq_some_iff.mp e2).1
      rw [List.getElem?_set_self (by simpa using this)] at e2
      cases e2
      exact hn _ rfl
    rw [List.getElem?_set_ne (Ne.symm hj)] at e1
    rw [List.getElem?_set_ne (Ne.symm hk)] at e2
    exact t.nd j k ds es p e1 e2 f1 f2
abbrev WOf (E : XK) : WX := fun c d _ H => E c d H
/-- the slots at the entry of a def that raises: the last one is the way out -/
def iniX (E : XK) (src : Bool) (n : Nat) (ds : List D) (PX : Value → FX → Prop) : List Sl := (ini src n ds).set (n - 1) (.xc (WOf E) PX (List.replicate n Option.none))
structure FnTX (P : Program) (w : World) (K : PySem.W.Frag) (mg : Str → Option Value) (base : Heap) (k : Nat) (x : Str) (ps : List Str) (sp : Sp) : Prop where
  ex : ∃ f fd, mg x = some (.ref f) ∧ PySem.W.keepIn K (.ref f) = true ∧ Binds K fd ps [] ∧ FnOk P w K mg base (L2.CX P w) k f fd ps sp
section
variable {P : Program} {w : World} {K : PySem.W.Frag} {mg : Str → Option Value} {base : Heap}
theorem ok_X {x qual : Str} {st : Stmt} {f : Addr} {fd : FuncData} {N ps : List Str} {k : Nat} {src fr : Bool} {R : List D → D → Prop} {RX : RX1} (Fu : Fun K x qual st f fd) (S : FnScope N ps (defScope st)) (hl : ∀ ds, ((∃ d, R ds d) ∨ ∃ c f, RX ds c f) → ds.length + (if src then 1 else 0) = ps.length)
    (hbody : ∀ (cdv : Value) (A : Around) (outer : List Env) (s : Shared) (H : Hp) (E : XK), Room k (A.deeper (envOfC qual (defScope st) s.heap.objs.size f cdv)) →
      Takes (cxOf (L2.CX P w) P w K mg base N qual (defScope st) f cdv A outer s H E) (WOf E) →
      ∃ t, PSs (cxOf (L2.CX P w) P w K mg base N qual (defScope st) f cdv A outer s H E) (defBody st) t ∧ ∀ F ds, (src = false → F = Option.none) → ((∃ d, R ds d) ∨ ∃ c f, RX ds c f) → Run F fr t (iniX E src N.length ds (RX ds)) { nx := fun _ => fr = false ∧ R ds .none, rt := R ds }) :
    FnOk P w K mg base (L2.CX P w) (k + 1) f fd ps (SpX src fr R RX) := by
  have hps : ps.length ≤ N.length := by
    have := congrArg List.length S.pre
    rw [List.length_take] at this
    omega
  refine Fu.okX S (fun vs H Q E h => ?_) (fun cdv A outer s H vs Q E hr h => ?_)
  · obtain ⟨F, S', ds, _, a, r, _⟩ := h
    rw [arg_len a]
    exact hl ds r
  · obtain ⟨F, S', ds, w', a, r, hk, hx⟩ := h
    obtain ⟨t, ht, hrun⟩ := hbody cdv A outer s H E hr (takes_of rfl rfl rfl rfl)
    have st0 := st_ini (N := N) w' a (by rw [arg_len a, hl ds r]; exact hps)
    have st1 : StD F S' H H (L2.start N vs) (iniX E src N.length ds (RX ds)) := st0.put (fun y => show XcOk F S' H H _ _ _ from
      ⟨fun x o e => ⟨o, e⟩, fun S2 H2 c d f σ g p a2 _ _ => hx c f d S2 H2 p ⟨g.s, g.h, g.n, fun x o nf e => g.k x o o nf e e, g.m, g.src⟩ a2⟩) (fun _ z => by cases z)
    refine ⟨t, ht, hrun F ds (fun e => by subst e; exact a.1) r S' H S' S' H _ _ w' ⟨Gr.refl w'.s, Same.refl _⟩ st1 ⟨?_, ?_, fun _ _ _ _ z => z.elim, fun _ _ _ _ z => z.elim⟩⟩
    · exact fun Δ S2 H2 σ n w2 g2 _ => hk .none .non S2 H2 n.2 ⟨g2.g, fun _ => by simp only [Dt], fun e => by rw [n.1] at e; cases e⟩
    · exact fun d v _ S2 H2 _ q _ _ _ gv => hk d v S2 H2 q gv
end
section
variable {X : Cx} {k : Nat} {x : Str} {ps : List Str} {sp : Sp} {e : Expr} {es : List Expr} {t : TA} {p pos : Pos} {W : WX}
theorem pe_callTX (tk : Takes X W) (G : FnTX X.prog X.w X.K X.mg X.base k x ps sp) (hr : Room k X.A) (ha : PA X (e :: es) t) (hg : Gl X x := by rfl)
    (hdb : (x == ("__debug__" : Str)) = false := by decide) (he : starEach (e :: es) X.env = (false, eval e X.env) :: starEach es X.env := by rfl) (hpl : (backTo pos (starEach es X.env)).any (·.1) = false := by rfl) :
    PE X (.Call (.Name x p) (e :: es) [] pos) (tCallS sp (WE W) t) := by
  obtain ⟨f, fd, h1, h2, h3, h4⟩ := G.ex
  exact pe_callS h4 hr hg h1 h2 h3 (fun σ => passAt tk σ) ha hdb he hpl
end
/-- the slots that a handler knows -/
def hdl (l : List (Option D)) : List Sl := l.map fun o => match o with | some d => .v d | Option.none => .un
theorem std_hdl {F : Fp} {S H H0 : Hp} {σ : L2.St} {l : List (Option D)} (fh : ∀ x, fp F x → ∃ o, H0 x = some o) (hl : σ.length = l.length) (h : ∀ (i : Nat) (x : D), l[i]? = some (some x) → ∃ y, σ[i]? = some (some y) ∧ Dt S x y) : StD F S H H0 σ (hdl l) := by
  refine ⟨by simp [hdl, hl], fun j s e => ?_, fun j k ds es p e1 _ _ _ => ?_, fh⟩
  · rw [hdl, List.getElem?_map, Option.map_eq_some_iff] at e
    obtain ⟨o, e1, e2⟩ := e
    cases o with
    | none =>
      subst e2
      have hj : j < σ.length := by rw [hl]; exact (List.getElem?_eq_some_iff.mp e1).1
      exact ⟨σ[j], by simp [hj], trivial⟩
    | some d =>
      subst e2
      obtain ⟨y, e3, h3⟩ := h j d e1
      exact ⟨_, e3, y, rfl, h3⟩
  · rw [hdl, List.getElem?_map, Option.map_eq_some_iff] at e1
    obtain ⟨o, _, e2⟩ := e1
    cases o <;> cases e2
theorem StD.gone {F : Fp} {S H H0 : Hp} {σ : L2.St} {Δ : List Sl} (t : StD F S H H0 σ Δ) (i : Nat) : StD F S H H0 (σ.set i Option.none) (Δ.set i .un) := by
  refine ⟨by simp [t.len], fun j s e => ?_, fun j k ds es p e1 e2 f1 f2 => ?_, t.fh⟩
  · by_cases hj : j = i
    · subst hj
      have hlt := (List.getElem?_eq_some_iff.mp e).1
      have hlt : j < Δ.length := by simpa using hlt
      rw [List.getElem?_set_self hlt] at e
      cases e
      exact ⟨_, List.getElem?_set_self (by rw [t.len]; exact hlt), trivial⟩
    · rw [List.getElem?_set_ne (Ne.symm hj)] at e ⊢
      exact t.ok j s e
  · have hj : j ≠ i := fun z => by
      subst z
      have := (List.getElem?_eq_some_iff.mp e1).1
      rw [List.getElem?_set_self (by simpa using this)] at e1
      cases e1
    have hk : k ≠ i := fun z => by
      subst z
      have := (List.getElem?_eq_some_iff.mp e2).1
      rw [List.getElem?_set_self (by simpa using this)] at e2
      cases e2
    rw [List.getElem?_set_ne (Ne.symm hj)] at e1 f1
    rw [List.getElem?_set_ne (Ne.symm hk)] at e2 f2
    exact t.nd j k ds es p e1 e2 f1 f2
def tTry (K : PySem.W.Frag) (c0 : Value) (i : Nat) (tb : WX → TS) (ts : Addr → Value → Option Addr → TS) (Wout : WX) : TS := fun D σ H => tb (wAs K c0 i ts Wout D) D σ H
theorem ps_tryA {X : Cx} {x n : Str} {c : Value} {i : Nat} {body suite : List Stmt} {b₀ : Stmt} {np pos pos' : Pos} {tb : WX → TS} {ts : Addr → Value → Option Addr → TS} {Wout : WX} (hs : X.stack = X.env :: X.outer) (hf : X.env.frame = some X.env.locals) (hN : X.N.Nodup) (hi : X.N[i]? = some n) (hln : X.env.kindOf n = some .local) (hc : Names X x c) (tk : Takes X Wout)
    (hb : ∀ (W : WX) (pn : List (Addr × Obj)) (xe : Value → Shared → Prop), Takes (X.tr pn xe) W → PassesOwn (model X.prog X.w) X.A X.env xe → PSs (X.tr pn xe) body (tb W))
    (hsu : ∀ (a : Addr) (oe : Obj) (cls : Value) (d : Option Addr) (pn : List (Addr × Obj)), Zc cls d oe → (∃ vs, oe.data = .fields vs) → PSs (X.suite a ((a, oe) :: pn)) (b₀ :: suite) (ts a cls d)) :
    PS X (.Try body [.ExceptHandler (some (.Name x np)) (some n) (b₀ :: suite) pos'] [] [] pos) (tTry X.K c i tb ts Wout) := ps_try_as hs hf hN hi hln hc tk hb hsu
section
variable {F : Fp} {fr : Bool} {Δ : List Sl} {po : Po} {K : PySem.W.Frag} {c0 : Value} {i ix : Nat} {tb : WX → TS} {ts : Addr → Value → Option Addr → TS} {Wout : WX}
/-- try: .. except c0 as x: .. (x in slot i; slot ix is the way out) -/
theorem run_try (PX : Value → FX → Prop) (l : List (Option D)) (hno : ∀ c, ¬ PX c Option.none) (hc : ∀ c f, PX c f → PySem.W.exmOne K c c0 = some true)
    (hb : ∀ W, Run F fr (tb W) (Δ.set ix (.xc W PX l)) { nx := fun Δ' => po.nx (Δ'.set ix .un), rt := po.rt, ro := fun d Δ' => po.ro d (Δ'.set ix .un), bk := fun Δ' => po.bk (Δ'.set ix .un), ct := fun Δ' => po.ct (Δ'.set ix .un) })
    (hs : ∀ a c dd fs, PX c (some fs) → Run F fr (ts a c (some dd)) (((hdl l).set i (.v (.ref a))).set ix (.fz dd fs)) { nx := fun Δ' => po.nx ((Δ'.set i .un).set ix .un), rt := po.rt, ro := fun d Δ' => po.ro d (Δ'.set ix .un), bk := fun Δ' => po.bk ((Δ'.set i .un).set ix .un), ct := fun Δ' => po.ct ((Δ'.set i .un).set ix .un) }) :
    Run F fr (tTry K c0 i tb ts Wout) Δ po := fun S0 H0 B S H σ E w gb st r => by
  have un : ∀ {S H : Hp} {σ : L2.St} {Δ' : List Sl}, StD F S H H0 σ Δ' → StD F S H H0 σ (Δ'.set ix .un) := fun t => t.put (fun _ => trivial) fun _ z => by cases z
  refine hb (wAs K c0 i ts Wout E) S0 H0 B S H σ E w gb (st.put (fun y => show XcOk F S H H0 _ _ _ from ⟨gb.g.m, ?_⟩) fun _ z => by cases z)
    ⟨fun Δ' S' H' σ' n w' g' t => r.nx _ S' H' σ' n w' g' (un t), fun d v Δ' S' H' σ' a b w' t gv => r.rt d v _ S' H' σ' a b w' (un t) gv, fun Δ' S' H' σ' n w' g' t => r.bk _ S' H' σ' n w' g' (un t), fun Δ' S' H' σ' n w' g' t => r.ct _ S' H' σ' n w' g' (un t)⟩
  intro S' H' c d f σ' gw px xd hlen hsl
  refine ⟨true, hc c f px, fun _ a ha => ?_, fun z => nomatch z⟩
  cases f with
  | none => exact absurd px (hno c)
  | some fs =>
    obtain ⟨dd, vs, rfl, hd, hf⟩ := xd
    have t1 : StD F S' H' H0 σ' (hdl l) := std_hdl st.fh hlen hsl
    have t2 : StD F S' H' H0 (σ'.set i (some (.ref a))) (((hdl l).set i (.v (.ref a))).set ix (.fz dd fs)) := (t1.setV (i := i) (v := .ref a) (d := .ref a) (by simp only [Dt])).put (fun y => show ∃ vs, _ from ⟨vs, hd, hf⟩) fun _ z => by cases z
    refine hs a c dd fs px S0 H0 B S' H' _ _ (gw.ok w st.fh) ⟨gw.gr gb.g, gb.b.trans gw.s⟩ t2 ⟨?_, fun d v Δ' S' H' σ' a b w' t gv => r.rt d v _ S' H' σ' a b w' (un t) gv, ?_, ?_⟩
    · exact fun Δ' S2 H2 σ2 n w2 g2 t => r.nx _ S2 H2 _ n w2 g2 (un (t.gone i))
    · exact fun Δ' S2 H2 σ2 n w2 g2 t => r.bk _ S2 H2 _ n w2 g2 (un (t.gone i))
    · exact fun Δ' S2 H2 σ2 n w2 g2 t => r.ct _ S2 H2 _ n w2 g2 (un (t.gone i))
/-- x.f, x the caught exception -/
theorem ev_xf {a C dd : Addr} {fs : List (Str × D)} {f : Str} {d : D} {te : TE} (hx : Δ[ix]? = some (.fz dd fs)) (h : Ev1 F te Δ (.ref a)) (hf : fs.lookup f = some d) : Ev1 F (tXf a (.ref C) (some dd) C f te) Δ d := fun H0 S H σ w t Q k =>
  h H0 S H σ w t _ fun y v S' H' e g hd => by
    subst e
    simp only [Dt] at hd
    refine ⟨hd, rfl, ?_⟩
    obtain ⟨x, _, vs, e1, e2⟩ := (t.mono g).ok ix _ hx
    have key : ∀ {fs : List (Str × D)} {vs : List (Str × V)}, DtF S' fs vs → fs.lookup f = some d → ∃ u, vs.lookup f = some u ∧ Dt S' d u := by
      intro fs
      induction fs with
      | nil => intro vs _ e; cases e
      | cons p fs ih =>
        intro vs h e
        obtain ⟨n, q⟩ := p
        simp only [DtF] at h
        obtain ⟨u, us, rfl, h1, h2⟩ := h
        rw [List.lookup_cons] at e ⊢
        by_cases hn : f = n
        · subst hn
          simp only [beq_self_eq_true] at e ⊢
          cases e
          exact ⟨u, rfl, h1⟩
        · have hn' : (f == n) = false := by simpa using hn
          rw [hn'] at e ⊢
          exact ih h2 e
    obtain ⟨u, e3, h3⟩ := key e2 hf
    exact ⟨dd, vs, u, rfl, g.h _ _ e1, e3, k d u S' H' rfl g h3⟩
end
end Bc

/-! Core O: objects that a def changes; expressions that change them. -/
namespace Bc
open PySem L2 PySem.Spec PyProof.Rows
abbrev FS := List (Str × D)
def Dm (H0 H : Hp) : Prop := ∀ x o, H0 x = some o → ∃ o', H x = some o'
section
variable (F : Fp)
def EvM (te : TE) (Δ : List Sl) (P : D → List Sl → Prop) : Prop := ∀ (H0 S H : Hp) (σ : L2.St), Okw F S H → StD F S H H0 σ Δ → Dm H0 H → ∀ Q : VK, (∀ d v S' H' Δ', P d Δ' → Okw F S' H' → Gw F H0 S H S' H' → StD F S' H' H0 σ Δ' → Dt S' d v → Q v H') → te σ H Q
def EvTM (tt : TT) (Δ : List Sl) (P : Bool → List Sl → Prop) : Prop := ∀ (H0 S H : Hp) (σ : L2.St), Okw F S H → StD F S H H0 σ Δ → Dm H0 H → ∀ Q : Bool → Hp → Prop, (∀ b S' H' Δ', P b Δ' → Okw F S' H' → Gw F H0 S H S' H' → StD F S' H' H0 σ Δ' → Q b H') → tt σ H Q
def EvAM (ta : TA) (Δ : List Sl) (P : List D → List Sl → Prop) : Prop := ∀ (H0 S H : Hp) (σ : L2.St), Okw F S H → StD F S H H0 σ Δ → Dm H0 H → ∀ Q : List V → Hp → Prop, (∀ ds vs S' H' Δ', P ds Δ' → Okw F S' H' → Gw F H0 S H S' H' → StD F S' H' H0 σ Δ' → DtL S' ds vs → Q vs H') → ta σ H Q
/-- a new list -/
def EvFM (te : TE) (Δ : List Sl) (P : List D → List Sl → Prop) : Prop := ∀ (H0 S H : Hp) (σ : L2.St), Okw F S H → StD F S H H0 σ Δ → Dm H0 H → ∀ Q : VK, (∀ ds p xs S' H' Δ', P ds Δ' → Okw F S' H' → Gw F H0 S H S' H' → StD F S' H' H0 σ Δ' → H p = Option.none → H' p = some (.lst xs) → S' p = Option.none → DtL S' ds xs → Q (.ref p) H') → te σ H Q
end
section
variable {F : Fp} {fr : Bool} {te ta tb : TE} {ts t u : TS} {tr : TA} {Δ : List Sl} {P : D → List Sl → Prop} {po : Po}
theorem EvM.imp {P' : D → List Sl → Prop} (h : EvM F te Δ P) (i : ∀ d Δ', P d Δ' → P' d Δ') : EvM F te Δ P' := fun H0 S H σ w t dm Q k => h H0 S H σ w t dm Q fun d v S' H' Δ' p => k d v S' H' Δ' (i d Δ' p)
theorem EvTM.imp {tt : TT} {P P' : Bool → List Sl → Prop} (h : EvTM F tt Δ P) (i : ∀ d Δ', P d Δ' → P' d Δ') : EvTM F tt Δ P' := fun H0 S H σ w t dm Q k => h H0 S H σ w t dm Q fun d S' H' Δ' p => k d S' H' Δ' (i d Δ' p)
theorem EvAM.imp {P P' : List D → List Sl → Prop} (h : EvAM F tr Δ P) (i : ∀ d Δ', P d Δ' → P' d Δ') : EvAM F tr Δ P' := fun H0 S H σ w t dm Q k => h H0 S H σ w t dm Q fun d v S' H' Δ' p => k d v S' H' Δ' (i d Δ' p)
theorem EvFM.imp {P P' : List D → List Sl → Prop} (h : EvFM F te Δ P) (i : ∀ d Δ', P d Δ' → P' d Δ') : EvFM F te Δ P' := fun H0 S H σ w t dm Q k => h H0 S H σ w t dm Q fun d p xs S' H' Δ' q => k d p xs S' H' Δ' (i d Δ' q)
/-- what changes nothing -/
theorem EvR.m {P : D → Prop} (h : EvR F te Δ P) : EvM F te Δ fun d Δ' => P d ∧ Δ' = Δ := fun H0 S H σ w t dm Q k => h H0 S H σ w t Q fun d v S' H' p g hd => k d v S' H' Δ ⟨p, rfl⟩ (g.ok w) (g.w dm) (t.mono g) hd
theorem EvT.m {tt : TT} {P : Bool → Prop} (h : EvT F tt Δ P) : EvTM F tt Δ fun d Δ' => P d ∧ Δ' = Δ := fun H0 S H σ w t dm Q k => h H0 S H σ w t Q fun d S' H' p g => k d S' H' Δ ⟨p, rfl⟩ (g.ok w) (g.w dm) (t.mono g)
theorem eam_nil : EvAM F tNil Δ fun ds Δ' => ds = [] ∧ Δ' = Δ := fun H0 S H σ w t dm Q k => k _ _ S H Δ ⟨rfl, rfl⟩ w ((Gr.refl w.s).w dm) t (by simp only [DtL])
theorem eam_cons {Pr : D → List Sl → List D → List Sl → Prop} (h : EvM F te Δ P) (hr : ∀ d Δ', P d Δ' → EvAM F tr Δ' (Pr d Δ')) : EvAM F (tCons te tr) Δ fun ds Δ'' => ∃ d Δ' r, ds = d :: r ∧ P d Δ' ∧ Pr d Δ' r Δ'' := fun H0 S H σ w t dm Q k => by
  refine h H0 S H σ w t dm _ fun d v S1 H1 Δ1 p1 w1 g1 t1 hd => ?_
  refine hr d Δ1 p1 H0 S1 H1 σ w1 t1 g1.m _ fun ds vs S2 H2 Δ2 p2 w2 g2 t2 hds => ?_
  exact k _ _ S2 H2 Δ2 ⟨d, Δ1, ds, rfl, p1, p2⟩ w2 (g1.trans g2) t2 (dtl_cons (hd.mono g2.s) hds)
theorem evm_tup {Pa : List D → List Sl → Prop} (h : EvAM F tr Δ Pa) (hl : ∀ ds Δ', Pa ds Δ' → ds.length ≤ sizeLine) : EvM F (tTup tr) Δ fun d Δ' => ∃ ds, Pa ds Δ' ∧ d = .tuple ds := fun H0 S H σ w t dm Q k => by
  refine h H0 S H σ w t dm _ fun ds vs S1 H1 Δ1 p1 w1 g1 t1 hd => ?_
  refine ⟨by rw [← hd.len]; exact hl ds Δ1 p1, fun p hp => ?_⟩
  have g2 : Gr F S1 H1 (upd S1 p (.tup vs)) (upd H1 p (.tup vs)) := Gr.newD g1.h hp
  refine k (.tuple ds) (.ref p) _ _ Δ1 ⟨ds, p1, rfl⟩ (g2.ok w1) (g1.trans (g2.w g1.m)) (t1.mono g2) ?_
  simp only [Dt]
  exact ⟨p, vs, rfl, upd_same, hd.mono g2.s⟩
theorem evm_op {r : R2} {f : D → D → D → Prop} {Pb : D → List Sl → D → List Sl → Prop} (hr : OpS F r f) (ha : EvM F ta Δ P) (hb : ∀ x Δ', P x Δ' → EvM F tb Δ' (Pb x Δ')) {P2 : D → List Sl → Prop} (h : ∀ x Δ1 y Δ2, P x Δ1 → Pb x Δ1 y Δ2 → ∃ d, f x y d ∧ P2 d Δ2) : EvM F (tOp r ta tb) Δ P2 := fun H0 S H σ w t dm Q k => by
  refine ha H0 S H σ w t dm _ fun x u S1 H1 Δ1 p1 w1 g1 t1 hx => ?_
  refine hb x Δ1 p1 H0 S1 H1 σ w1 t1 g1.m _ fun y v S2 H2 Δ2 p2 w2 g2 t2 hy => ?_
  obtain ⟨d, hf, hd⟩ := h x Δ1 y Δ2 p1 p2
  exact hr S2 H2 x y d u v Q w2 (hx.mono g2.s) hy hf fun w' S3 H3 g3 q => k d w' S3 H3 Δ2 hd (g3.ok w2) ((g1.trans g2).trans (g3.w g2.m)) (t2.mono g3) q
theorem evm_cb {r : List V → Hp → VK → Prop} {f : List D → D → Prop} {Pa : List D → List Sl → Prop} {P2 : D → List Sl → Prop} (hr : CallS F r f) (h : EvAM F tr Δ Pa) (hk : ∀ ds Δ', Pa ds Δ' → ∃ d, f ds d ∧ P2 d Δ') : EvM F (tCB r tr) Δ P2 := fun H0 S H σ w t dm Q k =>
  h H0 S H σ w t dm _ fun ds vs S1 H1 Δ1 p1 w1 g1 t1 hd => by
    obtain ⟨d, hf, p⟩ := hk ds Δ1 p1
    exact hr S1 H1 ds d vs Q w1 hd hf fun w' S3 H3 g3 q => k d w' S3 H3 Δ1 p (g3.ok w1) (g1.trans (g3.w g1.m)) (t1.mono g3) q
theorem etm_test {Pb : Bool → List Sl → Prop} (h : EvM F te Δ fun d Δ' => ∃ b, d = .bool b ∧ Pb b Δ') : EvTM F (tTest te) Δ Pb := fun H0 S H σ w t dm Q k =>
  h H0 S H σ w t dm _ fun d v S' H' Δ' ⟨b, e, p⟩ w' g t' hd => by
    subst e
    simp only [Dt] at hd
    exact ⟨b, hd, k b S' H' Δ' p w' g t'⟩
theorem etm_B {Pb : Bool → List Sl → Prop} (h : EvM F te Δ fun d Δ' => ∃ b, d = .bool b ∧ Pb b Δ') : EvTM F (tB te) Δ Pb := fun H0 S H σ w t dm Q k =>
  h H0 S H σ w t dm _ fun d v S' H' Δ' ⟨b, e, p⟩ w' g t' hd => by
    subst e
    simp only [Dt] at hd
    exact ⟨b, hd, k b S' H' Δ' p w' g t'⟩
theorem etm_not {tt : TT} {Pb : Bool → List Sl → Prop} (h : EvTM F tt Δ Pb) : EvTM F (tNot tt) Δ fun b Δ' => Pb (!b) Δ' := fun H0 S H σ w t dm Q k =>
  h H0 S H σ w t dm _ fun b S' H' Δ' p w' g t' => k (!b) S' H' Δ' (by show Pb (!(!b)) Δ'; rw [Bool.not_not]; exact p) w' g t'
/-! statements -/
theorem Gb.stepM {S0 H0 B S H S' H' : Hp} (x : Gb F S0 H0 B S H) (g : Gw F H0 S H S' H') : Gb F S0 H0 B S' H' := ⟨g.gr x.g, x.b.trans g.s⟩
theorem run_setM {i : Nat} (h : EvM F te Δ P) (k : ∀ d Δ', P d Δ' → Run F fr u (Δ'.set i (.v d)) po) : Run F fr (tSeq (tAsg te (gName i)) u) Δ po := fun S0 H0 B S H σ E w g st r =>
  h H0 S H σ w st g.g.m _ fun d v S' H' Δ' p w' g' t' hd => k d Δ' p S0 H0 B S' H' _ E w' (g.stepM g') (t'.setV hd) r
theorem run_set1M {i : Nat} (h : EvM F te Δ P) (k : ∀ d Δ', P d Δ' → po.nx (Δ'.set i (.v d))) : Run F fr (tAsg te (gName i)) Δ po := fun S0 H0 B S H σ E w g st r =>
  h H0 S H σ w st g.g.m _ fun d v S' H' Δ' p w' g' t' hd => r.nx _ S' H' _ (k d Δ' p) w' (g.stepM g') (t'.setV hd)
theorem run_dropM (h : EvM F te Δ P) (k : ∀ d Δ', P d Δ' → po.nx Δ') : Run F fr (tDrop te) Δ po := fun S0 H0 B S H σ E w g st r =>
  h H0 S H σ w st g.g.m _ fun d v S' H' Δ' p w' g' t' hd => r.nx _ S' H' _ (k d Δ' p) w' (g.stepM g') t'
theorem run_dropMS (h : EvM F te Δ P) (k : ∀ d Δ', P d Δ' → Run F fr u Δ' po) : Run F fr (tSeq (tDrop te) u) Δ po :=
  run_seqM (N := fun Δ' => ∃ d, P d Δ') (run_dropM h fun d Δ' p => ⟨d, p⟩) fun Δ' ⟨d, p⟩ => k d Δ' p
theorem run_retM (h : EvM F te Δ P) (k : ∀ d Δ', P d Δ' → po.rt d ∧ po.ro d Δ') : Run F false (tRet te) Δ po := fun S0 H0 B S H σ E w g st r =>
  h H0 S H σ w st g.g.m _ fun d v S' H' Δ' p w' g' t' hd => r.rt d v Δ' S' H' σ (k d Δ' p).1 (k d Δ' p).2 w' t' ⟨(g.stepM g').g, fun _ => hd, fun e => nomatch e⟩
theorem run_retMS (h : EvM F te Δ P) (k : ∀ d Δ', P d Δ' → po.rt d ∧ po.ro d Δ') : Run F false (tSeq (tRet te) u) Δ po := run_seqM (N := fun _ => False) (run_retM (po := { po with nx := fun _ => False }) h k) fun _ n => n.elim
theorem run_retFM {Pa : List D → List Sl → Prop} (h : EvFM F te Δ Pa) (k : ∀ ds Δ', Pa ds Δ' → po.rt (.list ds) ∧ po.ro (.list ds) Δ') : Run F true (tRet te) Δ po := fun S0 H0 B S H σ E w g st r =>
  h H0 S H σ w st g.g.m _ fun ds p xs S' H' Δ' q w' g' t' hp h' hs hd => r.rt (.list ds) _ Δ' S' H' σ (k ds Δ' q).1 (k ds Δ' q).2 w' t' ⟨(g.stepM g').g, fun e => (nomatch e), fun _ => ⟨ds, p, xs, rfl, rfl, h', hs, (by
    cases e : H0 p with
    | none => rfl
    | some o =>
      obtain ⟨o', e'⟩ := g.g.m p o e
      rw [hp] at e'
      cases e'), hd⟩⟩
theorem run_ifM {c : TT} {Pb : Bool → List Sl → Prop} (h : EvTM F c Δ Pb) (h1 : ∀ Δ', Pb true Δ' → Run F fr t Δ' po) (h2 : ∀ Δ', Pb false Δ' → Run F fr u Δ' po) : Run F fr (tIfS c t u) Δ po := fun S0 H0 B S H σ E w g st r =>
  h H0 S H σ w st g.g.m _ fun b S' H' Δ' p w' g' t' => by
    cases b with
    | true => exact h1 Δ' p S0 H0 B S' H' σ E w' (g.stepM g') t' r
    | false => exact h2 Δ' p S0 H0 B S' H' σ E w' (g.stepM g') t' r
theorem run_ifMS {c : TT} {Pb : Bool → List Sl → Prop} {v : TS} (h : EvTM F c Δ Pb) (h1 : ∀ Δ', Pb true Δ' → Run F fr (tSeq t v) Δ' po) (h2 : ∀ Δ', Pb false Δ' → Run F fr (tSeq u v) Δ' po) : Run F fr (tSeq (tIfS c t u) v) Δ po := fun S0 H0 B S H σ E w g st r =>
  h H0 S H σ w st g.g.m _ fun b S' H' Δ' p w' g' t' => by
    cases b with
    | true => exact h1 Δ' p S0 H0 B S' H' σ E w' (g.stepM g') t' r
    | false => exact h2 Δ' p S0 H0 B S' H' σ E w' (g.stepM g') t' r
theorem run_whileM {c : TT} {tb : TS} (I : List Sl → Prop) (μ : List Sl → Nat) (h0 : I Δ)
    (hs : ∀ Δ', I Δ' → ∃ P : Bool → List Sl → Prop, EvTM F c Δ' P ∧ (∀ Δ'', P true Δ'' → Run F fr tb Δ'' { nx := fun z => I z ∧ μ z < μ Δ', ct := fun z => I z ∧ μ z < μ Δ', bk := po.nx, rt := po.rt, ro := po.ro }) ∧ (∀ Δ'', P false Δ'' → po.nx Δ'')) : Run F fr (tWhile c tb) Δ po := fun S0 H0 B S H σ E w gb st r => by
  refine ⟨fun m σ' H' => ∃ Δ' S', m = μ Δ' ∧ I Δ' ∧ Okw F S' H' ∧ Gb F S0 H0 B S' H' ∧ StD F S' H' H0 σ' Δ', ⟨μ Δ, Δ, S, rfl, h0, w, gb, st⟩, ?_⟩
  rintro m σ' H' ⟨Δ', S', rfl, hI, w', gb', st'⟩
  obtain ⟨P, hc, ht, hf⟩ := hs Δ' hI
  refine hc H0 S' H' σ' w' st' gb'.g.m _ fun b S2 H2 Δ2 p w2 g2 t2 => ?_
  cases b with
  | false => exact r.nx Δ2 S2 H2 σ' (hf Δ2 p) w2 (gb'.stepM g2) t2
  | true =>
    refine ⟨fun σ3 H3 => ∃ Δ3 S3, (I Δ3 ∧ μ Δ3 < μ Δ') ∧ Okw F S3 H3 ∧ Gb F S0 H0 B S3 H3 ∧ StD F S3 H3 H0 σ3 Δ3, fun σ3 H3 ⟨Δ3, S3, ⟨i3, l3⟩, w3, gb3, st3⟩ => ⟨μ Δ3, l3, Δ3, S3, rfl, i3, w3, gb3, st3⟩, ?_⟩
    exact ht Δ2 p S0 H0 B S2 H2 σ' _ w2 (gb'.stepM g2) t2 ⟨fun Δ3 S3 H3 σ3 n w3 gb3 st3 => ⟨Δ3, S3, n, w3, gb3, st3⟩, r.rt, r.nx, fun Δ3 S3 H3 σ3 n w3 gb3 st3 => ⟨Δ3, S3, n, w3, gb3, st3⟩⟩
end
/-! ### objects -/
def Sl.isOb : Sl → Bool
  | .ob _ _ _ _ => true
  | _ => false
/-- no other object in the slots -/
def ob1 (i : Nat) (Δ : List Sl) : Bool := (Δ.set i .un).all fun s => !s.isOb
theorem ob1_ne {i j : Nat} {Δ : List Sl} {s : Sl} (h : ob1 i Δ = true) (e : Δ[j]? = some s) (hj : j ≠ i) : s.isOb = false := by
  have := List.all_eq_true.mp h s (List.mem_of_getElem? (i := j) (by rw [List.getElem?_set_ne (Ne.symm hj)]; exact e))
  simpa using this
def prot (H : Hp) (a dx : Addr) : Hp := fun b => if b = a ∨ b = dx then Option.none else H b
theorem prot_ne {H : Hp} {a dx b : Addr} (h1 : b ≠ a) (h2 : b ≠ dx) : prot H a dx b = H b := if_neg fun z => z.elim h1 h2
theorem prot_some {H : Hp} {a dx b : Addr} {o : HO} (h : prot H a dx b = some o) : b ≠ a ∧ b ≠ dx ∧ H b = some o := by
  unfold prot at h
  split at h
  · cases h
  · rename_i n
    exact ⟨fun z => n (.inl z), fun z => n (.inr z), h⟩
/-- a def or method whose first argument is an object of the class at C that it may change: R (fields ahead) arguments result (fields behind) -/
def SpO (C : Addr) (fr : Bool) (R : FS → List D → D → FS → Prop) : Sp := fun vs H Q _ => ∃ S a dx fsV fs us ds, vs = .ref a :: us ∧ Same S H ∧ H a = some (.ins C dx fsV) ∧ H dx = some (.own a) ∧ S a = Option.none ∧ S dx = Option.none ∧ DtF S fs fsV ∧ DtL S ds us ∧ (∃ d fs', R fs ds d fs') ∧
  ∀ d v fs' vs' S' H', R fs ds d fs' → Giv fr Option.none S (prot H a dx) d v S' H' → H' a = some (.ins C dx vs') → H' dx = some (.own a) → S' a = Option.none → S' dx = Option.none → DtF S' fs' vs' → Q v H'
section
variable {F : Fp} {S H H0 S' H' : Hp} {σ : L2.St} {Δ : List Sl} {i : Nat} {a dx C : Addr} {fs fs' : FS} {vs vs' : List (Str × V)}
/-- the object was changed by another def -/
theorem ob_gw (t : StD F S H H0 σ Δ) (hi : Δ[i]? = some (.ob a dx C fs)) (dm : Dm H0 H) (g : Gr Option.none S (prot H a dx) S' H') : Gw F H0 S H S' H' := by
  obtain ⟨_, _, vs, _, e1, e2, _, _, e5, e6, _⟩ := t.ok i _ hi
  have ne : ∀ x o, H0 x = some o → x ≠ a ∧ x ≠ dx := fun x o e => ⟨fun z => (by rw [z, e5] at e; cases e), fun z => (by rw [z, e6] at e; cases e)⟩
  refine ⟨g.s, g.h, fun x o e => ?_, fun x o u nf e e' => ?_, fun x o e => ?_, fun p c e z => ?_⟩
  · obtain ⟨n1, n2⟩ := ne x o e
    obtain ⟨o', e'⟩ := dm x o e
    exact g.n x o' (by rw [prot_ne n1 n2]; exact e')
  · obtain ⟨n1, n2⟩ := ne x o e
    exact g.k x u (nfp0 x) (by rw [prot_ne n1 n2]; exact e')
  · obtain ⟨n1, n2⟩ := ne x o e
    obtain ⟨o', e'⟩ := dm x o e
    exact g.m x o' (by rw [prot_ne n1 n2]; exact e')
  · obtain ⟨ns, l, m, tt, z1, z2, z3⟩ := z
    have k : ∀ {y : Addr} {u : HO}, H y = some u → (∀ D dy w, u ≠ .ins D dy w) → (∀ y, u ≠ .own y) → H' y = some u := fun {y u} hy h1 h2 => g.k y u (nfp0 y) (by
      rw [prot_ne (fun z => by rw [z, e1] at hy; cases hy; exact h1 _ _ _ rfl) fun z => by rw [z, e2] at hy; cases hy; exact h2 _ rfl]
      exact hy)
    exact ⟨ns, l, m, tt, k z1 (fun _ _ _ z => by cases z) (fun _ z => by cases z), k z2 (fun _ _ _ z => by cases z) (fun _ z => by cases z), z3⟩
theorem ob_std (t : StD F S H H0 σ Δ) (hi : Δ[i]? = some (.ob a dx C fs)) (h1 : ob1 i Δ = true) (gw : Gw F H0 S H S' H') (k : ∀ x o, x ≠ a → x ≠ dx → H x = some o → S' x = S x ∧ (¬ fp F x → H' x = some o)) (ea : H' a = some (.ins C dx vs')) (ed : H' dx = some (.own a)) (sa : S' a = Option.none) (sd : S' dx = Option.none) (hf : DtF S' fs' vs') :
    StD F S' H' H0 σ (Δ.set i (.ob a dx C fs')) := by
  obtain ⟨x, ex, vs, rfl, e1, e2, _, _, e5, e6, _⟩ := t.ok i _ hi
  have hlt : i < Δ.length := (List.getElem?_eq_some_iff.mp hi).1
  refine ⟨by simp [t.len], fun j s e => ?_, fun j l ds es p f1 f2 f3 f4 => ?_, t.fh⟩
  · by_cases hj : j = i
    · subst hj
      rw [List.getElem?_set_self hlt] at e
      cases e
      exact ⟨_, ex, vs', rfl, ea, ed, sa, sd, e5, e6, hf⟩
    · rw [List.getElem?_set_ne (Ne.symm hj)] at e
      obtain ⟨y, ey, h⟩ := t.ok j s e
      refine ⟨y, ey, ?_⟩
      have nob := ob1_ne h1 e hj
      cases s with
      | un => trivial
      | v d =>
        obtain ⟨z, q1, q2⟩ := h
        exact ⟨z, q1, q2.mono gw.s⟩
      | own l =>
        obtain ⟨p, xs, q1, q2, q3, q4, q5⟩ := h
        have n1 : p ≠ a := fun z => by rw [z, e1] at q2; cases q2
        have n2 : p ≠ dx := fun z => by rw [z, e2] at q2; cases q2
        have nf : ¬ fp F p := fun z => by
          obtain ⟨o, q⟩ := t.fh p z
          rw [q4] at q
          cases q
        obtain ⟨k1, k2⟩ := k p _ n1 n2 q2
        exact ⟨p, xs, q1, k2 nf, by rw [k1]; exact q3, q4, q5.mono gw.s⟩
      | src => exact h
      | ob => cases nob
      | xc W PX l => exact XcOk.mono h gw
      | fz b gs =>
        obtain ⟨ws, q1, q2⟩ := h
        exact ⟨ws, gw.s _ _ q1, q2.mono gw.s⟩
  · have n1 : j ≠ i := fun z => by
      subst z
      rw [List.getElem?_set_self hlt] at f1
      cases f1
    have n2 : l ≠ i := fun z => by
      subst z
      rw [List.getElem?_set_self hlt] at f2
      cases f2
    rw [List.getElem?_set_ne (Ne.symm n1)] at f1
    rw [List.getElem?_set_ne (Ne.symm n2)] at f2
    exact t.nd j l ds es p f1 f2 f3 f4
end
section
variable {F : Fp} {fr : Bool} {te ta tb tv : TE} {ts t u : TS} {tr : TA} {Δ : List Sl} {P : D → List Sl → Prop} {po : Po} {K : PySem.W.Frag} {i : Nat} {a dx C : Addr} {fs : FS} {R : FS → List D → D → FS → Prop} {E : XK} {m : Str}
/-- the promise at a call, the object in slot i -/
theorem spo_use {S0 S H H0 : Hp} {σ : L2.St} {us : List V} {ds : List D} {Q : VK} {fr : Bool} (w : Okw F S H) (t : StD F S H H0 σ Δ) (dm : Dm H0 H) (hi : Δ[i]? = some (.ob a dx C fs)) (h1 : ob1 i Δ = true) (hd : DtL S ds us) (hR : ∃ d fs', R fs ds d fs')
    (k : ∀ d v fs' S' H', R fs ds d fs' → Okw F S' H' → Gw F H0 S H S' H' → StD F S' H' H0 σ (Δ.set i (.ob a dx C fs')) → Giv fr Option.none S (prot H a dx) d v S' H' → Q v H') : SpO C fr R (.ref a :: us) H Q E := by
  obtain ⟨x, ex, vs, rfl, e1, e2, e3, e4, e5, e6, hf⟩ := t.ok i _ hi
  refine ⟨S, a, dx, vs, fs, us, ds, rfl, w.s, e1, e2, e3, e4, hf, hd, hR, fun d v fs' vs' S' H' r gv ea ed sa sd hf' => ?_⟩
  have gw := ob_gw t hi dm gv.g
  refine k d v fs' S' H' r (gw.ok w t.fh) gw (ob_std t hi h1 gw (fun x o n1 n2 e => ?_) ea ed sa sd hf') gv
  have e' : prot H a dx x = some o := by rw [prot_ne n1 n2]; exact e
  exact ⟨gv.g.n x o e', fun _ => gv.g.k x o (nfp0 x) e'⟩
theorem ob_var {S H H0 : Hp} {σ : L2.St} (t : StD F S H H0 σ Δ) (hi : Δ[i]? = some (.ob a dx C fs)) : ∃ vs, σ[i]? = some (some (.ref a)) ∧ H a = some (.ins C dx vs) ∧ DtF S fs vs := by
  obtain ⟨x, ex, vs, rfl, e1, _, _, _, _, _, hf⟩ := t.ok i _ hi
  exact ⟨vs, ex, e1, hf⟩
theorem dtf_lookup {S : Hp} {f : Str} : ∀ {fs : FS} {vs : List (Str × V)}, DtF S fs vs → (∀ d, fs.lookup f = some d → ∃ u, vs.lookup f = some u ∧ Dt S d u) ∧ (fs.lookup f = Option.none → vs.lookup f = Option.none)
  | [], vs, h => by
    simp only [DtF] at h
    subst h
    exact ⟨fun d e => (by cases e), fun _ => rfl⟩
  | (n, q) :: fs, vs, h => by
    simp only [DtF] at h
    obtain ⟨u, us, rfl, h1, h2⟩ := h
    obtain ⟨k1, k2⟩ := dtf_lookup (f := f) h2
    by_cases hn : f = n
    · subst hn
      refine ⟨fun d e => ?_, fun e => ?_⟩
      · simp only [List.lookup_cons, beq_self_eq_true] at e ⊢
        cases e
        exact ⟨u, rfl, h1⟩
      · simp only [List.lookup_cons, beq_self_eq_true] at e
        cases e
    · have hn' : (f == n) = false := by simpa using hn
      simp only [List.lookup_cons, hn']
      exact ⟨k1, k2⟩
/-- f(o, ..) -/
theorem evm_callO {Pa : List D → Prop} (hi : Δ[i]? = some (.ob a dx C fs)) (h1 : ob1 i Δ = true) (h : EvA F tr Δ Pa) (hR : ∀ ds, Pa ds → ∃ d fs', R fs ds d fs') : EvM F (tCall (SpO C false R) [] E (tCons (tVar i) tr)) Δ fun d Δ' => ∃ ds fs', Pa ds ∧ R fs ds d fs' ∧ Δ' = Δ.set i (.ob a dx C fs') := fun H0 S H σ w t dm Q k => by
  obtain ⟨vs, e1, _, _⟩ := ob_var t hi
  refine ⟨_, e1, h H0 S H σ w t _ fun ds us S1 H1 p g1 hd => ?_⟩
  show SpO C false R (.ref a :: us ++ []) H1 Q E
  rw [List.append_nil]
  refine spo_use (S0 := S) (g1.ok w) (t.mono g1) (fun x o e => (dm x o e).elim fun o' e' => g1.m x o' e') hi h1 hd (hR ds p) fun d v fs' S' H' r w' gw t' gv => k d v S' H' _ ⟨ds, fs', p, r, rfl⟩ w' ((g1.w dm).trans gw) t' (gv.vl rfl)
theorem efm_callO {Pa : List D → Prop} (hi : Δ[i]? = some (.ob a dx C fs)) (h1 : ob1 i Δ = true) (h : EvA F tr Δ Pa) (hR : ∀ ds, Pa ds → ∃ d fs', R fs ds d fs') : EvFM F (tCall (SpO C true R) [] E (tCons (tVar i) tr)) Δ fun es Δ' => ∃ ds fs', Pa ds ∧ R fs ds (.list es) fs' ∧ Δ' = Δ.set i (.ob a dx C fs') := fun H0 S H σ w t dm Q k => by
  obtain ⟨vs, e1, ea, _⟩ := ob_var t hi
  refine ⟨_, e1, h H0 S H σ w t _ fun ds us S1 H1 p g1 hd => ?_⟩
  show SpO C true R (.ref a :: us ++ []) H1 Q E
  rw [List.append_nil]
  have t1 := t.mono g1
  refine spo_use (S0 := S) (g1.ok w) t1 (fun x o e => (dm x o e).elim fun o' e' => g1.m x o' e') hi h1 hd (hR ds p) fun d v fs' S' H' r w' gw t' gv => ?_
  obtain ⟨es, q, xs, z1, z2, e3, e4, e5, e6⟩ := gv.f rfl
  subst z1
  subst z2
  refine k es q xs S' H' _ ⟨ds, fs', p, r, rfl⟩ w' ((g1.w dm).trans gw) t' ?_ e3 e4 e6
  obtain ⟨x, _, _, _, ea1, ed1, _⟩ := t1.ok i _ hi
  obtain ⟨x', _, _, _, ea2, ed2, _⟩ := t'.ok i _ (List.getElem?_set_self (List.getElem?_eq_some_iff.mp hi).1)
  have n1 : q ≠ a := fun z => by rw [z, ea2] at e3; cases e3
  have n2 : q ≠ dx := fun z => by rw [z, ed2] at e3; cases e3
  rw [prot_ne n1 n2] at e5
  cases e : H q with
  | none => rfl
  | some o =>
    obtain ⟨o', e'⟩ := g1.m q o e
    rw [e5] at e'
    cases e'
/-- o.m(..) -/
theorem evm_meth {Pa : List D → Prop} (hi : Δ[i]? = some (.ob a dx C fs)) (h1 : ob1 i Δ = true) (hm : fs.lookup m = Option.none) (h : EvA F tr Δ Pa) (hR : ∀ ds, Pa ds → ∃ d fs', R fs ds d fs') : EvM F (tMeth C m (SpO C false R) [] E (tVar i) tr) Δ fun d Δ' => ∃ ds fs', Pa ds ∧ R fs ds d fs' ∧ Δ' = Δ.set i (.ob a dx C fs') := fun H0 S H σ w t dm Q k => by
  obtain ⟨vs, e1, ea, hf⟩ := ob_var t hi
  refine ⟨_, e1, a, dx, vs, rfl, ea, (dtf_lookup hf).2 hm, h H0 S H σ w t _ fun ds us S1 H1 p g1 hd => ?_⟩
  show SpO C false R (.ref a :: (us ++ [])) H1 Q E
  rw [List.append_nil]
  refine spo_use (S0 := S) (g1.ok w) (t.mono g1) (fun x o e => (dm x o e).elim fun o' e' => g1.m x o' e') hi h1 hd (hR ds p) fun d v fs' S' H' r w' gw t' gv => k d v S' H' _ ⟨ds, fs', p, r, rfl⟩ w' ((g1.w dm).trans gw) t' (gv.vl rfl)
/-- o.f -/
theorem ev_fldO {f : Str} {d : D} (hi : Δ[i]? = some (.ob a dx C fs)) (c : Cls K C) (n : NoAttr K C f) (hf : fs.lookup f = some d) : Ev1 F (tFld K (tVar i) f) Δ d := fun H0 S H σ w t Q k => by
  obtain ⟨vs, e1, ea, hd⟩ := ob_var t hi
  obtain ⟨u, e2, h2⟩ := (dtf_lookup hd).1 d hf
  exact ⟨_, e1, a, C, dx, vs, u, rfl, ea, c, n, e2, k d u S H rfl (Gr.refl w.s) h2⟩
/-- .. of an object that is data -/
theorem ev_fldD {f : Str} {d : D} (h : Ev1 F te Δ (.obj C fs)) (c : Cls K C) (n : NoAttr K C f) (hf : fs.lookup f = some d) : Ev1 F (tFld K te f) Δ d := fun H0 S H σ w t Q k =>
  h H0 S H σ w t _ fun x v S' H' e g hx => by
    subst e
    simp only [Dt] at hx
    obtain ⟨b, dy, vs, rfl, e1, h1⟩ := hx
    obtain ⟨u, e2, h2⟩ := (dtf_lookup h1).1 d hf
    exact ⟨b, C, dy, vs, u, rfl, g.h _ _ e1, c, n, e2, k d u S' H' rfl g h2⟩
def putD (f : Str) (d : D) : FS → FS
  | [] => [(f, d)]
  | (g, x) :: r => if g = f then (g, d) :: r else (g, x) :: putD f d r
theorem dtf_put {S : Hp} {f : Str} {d : D} {v : V} (hv : Dt S d v) : ∀ {fs : FS} {vs : List (Str × V)}, DtF S fs vs → DtF S (putD f d fs) (L2.putF f v vs)
  | [], vs, h => by
    simp only [DtF] at h
    subst h
    simp only [putD, L2.putF, DtF]
    exact ⟨v, [], rfl, hv, rfl⟩
  | (n, q) :: fs, vs, h => by
    simp only [DtF] at h
    obtain ⟨u, us, rfl, h1, h2⟩ := h
    by_cases hn : n = f
    · simp only [putD, L2.putF, if_pos hn, DtF]
      exact ⟨v, us, rfl, hv, h2⟩
    · simp only [putD, L2.putF, if_neg hn, DtF]
      exact ⟨u, _, rfl, h1, dtf_put hv h2⟩
theorem dtf_len {S : Hp} : ∀ {fs : FS} {vs : List (Str × V)}, DtF S fs vs → fs.length = vs.length
  | [], vs, h => by simp only [DtF] at h; subst h; rfl
  | (n, q) :: fs, vs, h => by
    simp only [DtF] at h
    obtain ⟨u, us, rfl, _, h2⟩ := h
    rw [List.length_cons, List.length_cons, dtf_len h2]
/-- o.f = e -/
theorem run_fldM {f : Str} (c : Cls K C) (n : NoAttr K C f) (h : EvM F tv Δ P) (k : ∀ d Δ', P d Δ' → ∃ fs, Δ'[i]? = some (.ob a dx C fs) ∧ ob1 i Δ' = true ∧ fs.length < 1000 ∧ po.nx (Δ'.set i (.ob a dx C (putD f d fs)))) : Run F fr (sFld K (tVar i) tv f) Δ po := fun S0 H0 B S H σ E w gb st r =>
  h H0 S H σ w st gb.g.m _ fun d v S1 H1 Δ1 p w1 g1 t1 hd => by
    obtain ⟨fs, hi, h1, hl, hk⟩ := k d Δ1 p
    obtain ⟨x, ex, vs, rfl, e1, e2, e3, e4, e5, e6, hf⟩ := t1.ok i _ hi
    refine ⟨_, ex, a, C, dx, vs, rfl, e1, c, n, by rw [← dtf_len hf]; exact hl, ?_⟩
    have nf : ¬ fp F a := fun z => by
      obtain ⟨o, q⟩ := t1.fh a z
      rw [e5] at q
      cases q
    have gw : Gw F H0 S1 H1 S1 (upd H1 a (.ins C dx (L2.putF f v vs))) := Gw.mut w1.s e1 e3 e5 nf g1.m
    have hda : dx ≠ a := fun z => by rw [z, e1] at e2; cases e2
    refine r.nx _ S1 _ σ hk (gw.ok w1 t1.fh) ((gb.stepM g1).stepM gw) (ob_std t1 hi h1 gw (fun x o n1 n2 e => ⟨rfl, fun _ => by rw [upd_ne n1]; exact e⟩) upd_same (by rw [upd_ne hda]; exact e2) e3 e4 (dtf_put hd hf))
theorem run_fldMS {f : Str} (c : Cls K C) (n : NoAttr K C f) (h : EvM F tv Δ P) (k : ∀ d Δ', P d Δ' → ∃ fs, Δ'[i]? = some (.ob a dx C fs) ∧ ob1 i Δ' = true ∧ fs.length < 1000 ∧ Run F fr u (Δ'.set i (.ob a dx C (putD f d fs))) po) : Run F fr (tSeq (sFld K (tVar i) tv f) u) Δ po :=
  run_seqM (N := fun Δ' => Run F fr u Δ' po) (run_fldM c n h k) fun _ h => h
end
/-! ### a def's body, the object its first parameter -/
def iniO (n : Nat) (a dx C : Addr) (fs : FS) (ds : List D) : List Sl := .ob a dx C fs :: (ds.map Sl.v ++ List.replicate (n - ds.length - 1) Sl.un)
theorem prot_gr {S H : Hp} {a dx : Addr} (w : Same S H) : Gr Option.none S (prot H a dx) S H :=
  ⟨fun _ _ e => e, w, fun _ _ _ => rfl, fun x o _ e => (prot_some e).2.2, fun x o e => ⟨o, (prot_some e).2.2⟩, fun _ _ e => nomatch e⟩
theorem st_iniO {S H : Hp} {N : List Str} {a dx C : Addr} {fs : FS} {fsV : List (Str × V)} {us : List V} {ds : List D} (w : Same S H) (e1 : H a = some (.ins C dx fsV)) (e2 : H dx = some (.own a)) (e3 : S a = Option.none) (e4 : S dx = Option.none) (hf : DtF S fs fsV) (hd : DtL S ds us) (hl : us.length + 1 ≤ N.length) :
    StD Option.none S H (prot H a dx) (L2.start N (.ref a :: us)) (iniO N.length a dx C fs ds) := by
  have es : L2.start N (.ref a :: us) = some (.ref a) :: (us.map some ++ List.replicate (N.length - us.length - 1) Option.none) := by
    simp only [L2.start, List.map_cons, List.length_cons, List.cons_append, Nat.sub_sub]
  rw [es]
  refine ⟨by simp [iniO, hd.len], fun i s q => ?_, fun i j l m p q _ _ _ => ?_, fun x ⟨_, _, e, _⟩ => nomatch e⟩
  · cases i with
    | zero =>
      simp only [iniO, List.getElem?_cons_zero, Option.some.injEq] at q
      subst q
      exact ⟨_, rfl, fsV, rfl, e1, e2, e3, e4, if_pos (.inl rfl), if_pos (.inr rfl), hf⟩
    | succ i =>
      rw [iniO, List.getElem?_cons_succ] at q
      rw [List.getElem?_cons_succ]
      by_cases hi : i < ds.length
      · rw [List.getElem?_append_left (by simpa using hi)] at q
        rw [List.getElem?_append_left (by simpa [← hd.len] using hi)]
        exact okL hd q
      · rw [List.getElem?_append_right (by simpa using hi)] at q
        rw [List.getElem?_append_right (by simp [← hd.len]; omega)]
        have hm := List.mem_of_getElem? q
        have hlt := (List.getElem?_eq_some_iff.mp q).1
        rw [List.mem_replicate] at hm
        simp only [List.length_map, List.length_replicate] at hlt ⊢
        rw [hm.2]
        refine ⟨Option.none, ?_, trivial⟩
        rw [List.getElem?_replicate, if_pos]
        rw [← hd.len]
        exact hlt
  · cases i with
    | zero =>
      simp only [iniO, List.getElem?_cons_zero, Option.some.injEq] at q
      cases q
    | succ i => exact (no_own (by simpa [iniO] using q)).elim
section
variable {P : Program} {w : World} {K : PySem.W.Frag} {mg : Str → Option Value} {base : Heap}
theorem ok_O {x qual : Str} {st : Stmt} {f : Addr} {fd : FuncData} {N ps : List Str} {k : Nat} {C : Addr} {fr : Bool} {R : FS → List D → D → FS → Prop} (Fu : Fun K x qual st f fd) (Sc : FnScope N ps (defScope st)) (hl : ∀ fs ds d fs', R fs ds d fs' → ds.length + 1 = ps.length)
    (hbody : ∀ (cdv : Value) (A : Around) (outer : List Env) (s : Shared) (H : Hp) (E : XK), Room k (A.deeper (envOfC qual (defScope st) s.heap.objs.size f cdv)) →
      ∃ t, PSs (cxOf CX0 P w K mg base N qual (defScope st) f cdv A outer s H E).nox (defBody st) t ∧ ∀ a dx fs ds, (∃ d fs', R fs ds d fs') → Run Option.none fr t (iniO N.length a dx C fs ds) { nx := fun Δ => fr = false ∧ ∃ fs', Δ[0]? = some (.ob a dx C fs') ∧ R fs ds .none fs', rt := fun _ => True, ro := fun d Δ => ∃ fs', Δ[0]? = some (.ob a dx C fs') ∧ R fs ds d fs' }) :
    FnOk P w K mg base CX0 (k + 1) f fd ps (SpO C fr R) := by
  have hps : ps.length ≤ N.length := by
    have := congrArg List.length Sc.pre
    rw [List.length_take] at this
    omega
  refine Fu.ok Sc (fun vs H Q E h => ?_) (fun cdv A outer s H vs Q E hr h => ?_)
  · obtain ⟨S, a, dx, fsV, fs, us, ds, rfl, _, _, _, _, _, _, hd, ⟨d, fs', r⟩, _⟩ := h
    rw [List.length_cons, ← hd.len]
    exact hl fs ds d fs' r
  · obtain ⟨S, a, dx, fsV, fs, us, ds, rfl, same, e1, e2, e3, e4, hf, hd, ⟨d, fs', r⟩, hk⟩ := h
    obtain ⟨t, ht, hrun⟩ := hbody cdv A outer s H E hr
    have hlen : us.length + 1 ≤ N.length := by
      rw [← hd.len, hl fs ds d fs' r]
      exact hps
    refine ⟨t, ht, hrun a dx fs ds ⟨d, fs', r⟩ S (prot H a dx) S S H _ _ ⟨same, fun _ _ e => nomatch e⟩ ⟨prot_gr same, Same.refl _⟩ (st_iniO same e1 e2 e3 e4 hf hd hlen) ⟨?_, ?_, fun _ _ _ _ z => z.elim, fun _ _ _ _ z => z.elim⟩⟩
    · rintro Δ S2 H2 σ ⟨efr, fs2, q, r2⟩ w2 g2 t2
      obtain ⟨x, _, vs2, _, z1, z2, z3, z4, _, _, z5⟩ := t2.ok 0 _ q
      exact hk .none .non fs2 vs2 S2 H2 r2 ⟨g2.g, fun _ => by simp only [Dt], fun e => by rw [efr] at e; cases e⟩ z1 z2 z3 z4 z5
    · rintro d v Δ S2 H2 σ _ ⟨fs2, q, r2⟩ w2 t2 gv
      obtain ⟨x, _, vs2, _, z1, z2, z3, z4, _, _, z5⟩ := t2.ok 0 _ q
      exact hk d v fs2 vs2 S2 H2 r2 gv z1 z2 z3 z4 z5
end
/-! ### C(..) -/
section
variable {F : Fp} {fr : Bool} {tr : TA} {u : TS} {Δ : List Sl} {po : Po} {i : Nat} {C : Addr} {R : FS → List D → D → FS → Prop} {E : XK}
theorem mk_use {S H : Hp} {us : List V} {ds : List D} {Q : VK} (w : Same S H) (hd : DtL S ds us) (hR : ∃ d fs', R [] ds d fs') (hn : ∀ d fs', R [] ds d fs' → d = .none) {x dx : Addr} (hx : H x = Option.none) (hdx : H dx = Option.none) (hne : dx ≠ x)
    (k : ∀ fs' vs' S' H', R [] ds .none fs' → Gr Option.none S H S' H' → H' x = some (.ins C dx vs') → H' dx = some (.own x) → S' x = Option.none → S' dx = Option.none → DtF S' fs' vs' → Q (.ref x) H') :
    SpO C false R (.ref x :: us) (upd (upd H dx (.own x)) x (.ins C dx [])) (fun v H2 => v = .non ∧ Q (.ref x) H2) E := by
  have ep : prot (upd (upd H dx (.own x)) x (.ins C dx [])) x dx = H := by
    funext b
    unfold prot
    by_cases h1 : b = x
    · rw [if_pos (.inl h1), h1, hx]
    · by_cases h2 : b = dx
      · rw [if_pos (.inr h2), h2, hdx]
      · rw [if_neg (fun z => z.elim h1 h2), upd_ne h1, upd_ne h2]
  refine ⟨S, x, dx, [], [], us, ds, rfl, fun b o e => ?_, upd_same, by rw [upd_ne hne, upd_same], Same.free w hx, Same.free w hdx, by simp only [DtF], hd, hR, fun d v fs' vs' S' H' r gv ea ed sa sd hf => ?_⟩
  · have e' := w b o e
    rw [upd_ne (ne_of_none e' hx), upd_ne (ne_of_none e' hdx)]
    exact e'
  · have e := hn d fs' r
    subst e
    have hv := gv.vl rfl
    simp only [Dt] at hv
    have g := gv.g
    rw [ep] at g
    exact ⟨hv, k fs' vs' S' H' r g ea ed sa sd hf⟩
/-- x = C(..), the object the def's own -/
theorem run_mk {Pa : List D → Prop} (h : EvA F tr Δ Pa) (hR : ∀ ds, Pa ds → ∃ d fs', R [] ds d fs') (hn : ∀ ds d fs', R [] ds d fs' → d = .none) (k : ∀ ds fs' a dx, Pa ds → R [] ds .none fs' → Run F fr u (Δ.set i (.ob a dx C fs')) po) : Run F fr (tSeq (tAsg (tMake C (SpO C false R) [] E tr) (gName i)) u) Δ po := fun S0 H0 B S H σ En w gb st r =>
  h H0 S H σ w st _ fun ds us S1 H1 p g1 hd x dx hx hdx hne => by
    rw [List.append_nil]
    refine mk_use (Q := fun v H2 => gName i v σ H2 (u En)) g1.h hd (hR ds p) (hn ds) hx hdx hne fun fs' vs' S' H' r' g ea ed sa sd hf => ?_
    have dm : ∀ y, H1 y = Option.none → H0 y = Option.none := fun y e => by
      cases q : H0 y with
      | none => rfl
      | some o =>
        obtain ⟨o', e'⟩ := (gb.step g1).g.m y o q
        rw [e] at e'
        cases e'
    have g2 : Gr F S H S' H' := g1.trans g.up
    exact k ds fs' x dx p r' S0 H0 B S' H' _ En (g2.ok w) (gb.step g2) ((st.mono g2).set (s := .ob x dx C fs') ⟨vs', rfl, ea, ed, sa, sd, dm x hx, dm dx hdx, hf⟩ fun _ z => by cases z) r
/-- C(..) as data -/
theorem ev_mkD {Pa : List D → Prop} (h : EvA F tr Δ Pa) (hR : ∀ ds, Pa ds → ∃ d fs', R [] ds d fs') (hn : ∀ ds d fs', R [] ds d fs' → d = .none) : EvR F (tMake C (SpO C false R) [] E tr) Δ fun d => ∃ ds fs', Pa ds ∧ R [] ds .none fs' ∧ d = .obj C fs' := fun H0 S H σ w t Q k =>
  h H0 S H σ w t _ fun ds us S1 H1 p g1 hd x dx hx hdx hne => by
    rw [List.append_nil]
    refine mk_use (Q := Q) g1.h hd (hR ds p) (hn ds) hx hdx hne fun fs' vs' S' H' r' g ea ed sa sd hf => ?_
    have hx0 : H x = Option.none := by
      cases q : H x with
      | none => rfl
      | some o =>
        obtain ⟨o', e'⟩ := g1.m x o q
        rw [hx] at e'
        cases e'
    refine k (.obj C fs') (.ref x) _ H' ⟨ds, fs', p, r', rfl⟩ ((g1.trans g.up).freeze hx0 ea) ?_
    simp only [Dt]
    exact ⟨x, dx, vs', rfl, upd_same, DtF.mono (fun b o e => by rw [upd_ne (ne_of_none e sa)]; exact e) _ _ hf⟩
end
/-! ### own lists grow by what changes an object -/
section
variable {F : Fp} {fr : Bool} {te : TE} {Δ : List Sl} {K : PySem.W.Frag}
theorem run_appM {i : Nat} {po : Po} {P : D → List Sl → Prop} (hi : ∃ ds, Δ[i]? = some (.own ds)) (h : EvM F te Δ P) (k : ∀ d Δ', P d Δ' → ∃ ds, Δ'[i]? = some (.own ds) ∧ ds.length < sizeLine ∧ po.nx (Δ'.set i (.own (ds ++ [d])))) :
    Run F fr (tDrop (tBM K "list" rAppend (tVar i) (tCons te tNil))) Δ po := fun S0 H0 B S H σ E w gb st r => by
  obtain ⟨ds0, hi⟩ := hi
  obtain ⟨x, e1, p, xs0, rfl, h1, h2, h3, h4⟩ := st.ok i _ hi
  refine ⟨_, e1, Or.inl ⟨rfl, xs0, SqL.of h1⟩, ?_⟩
  refine h H0 S H σ w st gb.g.m _ fun d v S1 H1 Δ1 pd w1 g1 st1 hv => ?_
  obtain ⟨ds, hi1, hl, hk⟩ := k d Δ1 pd
  obtain ⟨x, f1, p1, xs, rfl, q1, q2, q3, q4⟩ := st1.ok i _ hi1
  rw [e1] at f1
  cases f1
  have nf : ¬ fp F p := fun z => by
    obtain ⟨o, q⟩ := st.fh p z
    rw [h3] at q
    cases q
  refine ⟨p, xs, v, rfl, rfl, q1, by rw [← q4.len]; exact hl, ?_⟩
  have gw : Gw F H0 S1 H1 S1 (upd H1 p (.lst (xs ++ [v]))) := Gw.mut w1.s q1 q2 q3 nf g1.m
  have hlt : i < Δ1.length := (List.getElem?_eq_some_iff.mp hi1).1
  refine r.nx _ S1 _ σ hk (gw.ok w1 st1.fh) ((gb.stepM g1).stepM gw) ⟨by simp [st1.len], fun j s' ej => ?_, fun j l es fs q f1 f2 f3 f4 => ?_, st1.fh⟩
  · by_cases hj : j = i
    · subst hj
      rw [List.getElem?_set_self hlt] at ej
      cases ej
      exact ⟨_, e1, p, _, rfl, upd_same, q2, q3, q4.append (dtl_cons hv dtl_nil)⟩
    · rw [List.getElem?_set_ne (Ne.symm hj)] at ej
      obtain ⟨y, f1, f2⟩ := st1.ok j s' ej
      refine ⟨y, f1, ?_⟩
      cases s' with
      | un => trivial
      | v d => exact f2
      | src => exact f2
      | ob a dx C fs =>
        obtain ⟨vs, z1, z2, z3, z4, z5, z6, z7, z8⟩ := f2
        have n1 : a ≠ p := fun z => by rw [z, q1] at z2; cases z2
        have n2 : dx ≠ p := fun z => by rw [z, q1] at z3; cases z3
        exact ⟨vs, z1, by rw [upd_ne n1]; exact z2, by rw [upd_ne n2]; exact z3, z4, z5, z6, z7, z8⟩
      | xc W PX l => exact XcOk.mono f2 gw
      | fz a fs => exact f2
      | own es =>
        obtain ⟨q, ys, rfl, y1, y2, y3, y4⟩ := f2
        refine ⟨q, ys, rfl, ?_, y2, y3, y4⟩
        rw [upd_ne (fun z => hj ?_)]
        · exact y1
        · subst z
          exact st1.nd j i es ds q ej hi1 f1 e1
  · by_cases n1 : j = i
    · by_cases n2 : l = i
      · rw [n1, n2]
      · subst n1
        rw [List.getElem?_set_ne (Ne.symm n2)] at f2
        exact st1.nd j l ds fs q hi1 f2 f3 f4
    · rw [List.getElem?_set_ne (Ne.symm n1)] at f1
      by_cases n2 : l = i
      · subst n2
        exact st1.nd j l es ds q f1 hi1 f3 f4
      · rw [List.getElem?_set_ne (Ne.symm n2)] at f2
        exact st1.nd j l es fs q f1 f2 f3 f4
end
/-! ### comprehensions whose items change objects -/
def noX (Δ : List Sl) : Bool := Δ.all fun s => match s with | .xc _ _ _ => false | _ => true
theorem noX_at {Δ : List Sl} {j : Nat} {W : WX} {PX : Value → FX → Prop} {l : List (Option D)} (h : noX Δ = true) (e : Δ[j]? = some (.xc W PX l)) : False := by
  have := List.all_eq_true.mp h _ (List.mem_of_getElem? e)
  cases this
theorem Gw.less {F : Fp} {H0 S H S' H' : Hp} {L : Addr} {o : HO} (g : Gw F (upd H0 L o) S H S' H') (hL : H0 L = Option.none) : Gw F H0 S H S' H' := by
  have up : ∀ x u, H0 x = some u → upd H0 L o x = some u := fun x u e => by rw [upd_ne (ne_of_none e hL)]; exact e
  exact ⟨g.s, g.h, fun x u e => g.n x u (up x u e), fun x u v nf e => g.k x u v nf (up x u e), fun x u e => g.m x u (up x u e), g.src⟩
section
variable {F : Fp} {S H H0 : Hp} {σ : L2.St} {Δ : List Sl} {L : Addr} {o u : HO}
/-- one more object is kept -/
theorem StD.more (t : StD F S H H0 σ Δ) (hL : H0 L = Option.none) (hf : ∀ (j : Nat) (s : Sl), Δ[j]? = some s → (∀ ds : List D, s = Sl.own ds → σ[j]? ≠ some (some (V.ref L))) ∧ ∀ (a dx C : Addr) (fs : FS), s = Sl.ob a dx C fs → a ≠ L ∧ dx ≠ L) (hx : noX Δ = true) : StD F S H (upd H0 L o) σ Δ := by
  refine ⟨t.len, fun j s e => ?_, t.nd, fun x z => ?_⟩
  · obtain ⟨x, e1, h⟩ := t.ok j s e
    refine ⟨x, e1, ?_⟩
    cases s with
    | un => trivial
    | v d => exact h
    | src => exact h
    | xc W PX l => exact (noX_at hx e).elim
    | fz a fs => exact h
    | own l =>
      obtain ⟨p, xs, rfl, q2, q3, q4, q5⟩ := h
      exact ⟨p, xs, rfl, q2, q3, by rw [upd_ne (fun z => (hf j _ e).1 l rfl (by rw [e1, z]))]; exact q4, q5⟩
    | ob a dx C fs =>
      obtain ⟨vs, q1, q2, q3, q4, q5, q6, q7, q8⟩ := h
      obtain ⟨n1, n2⟩ := (hf j _ e).2 a dx C fs rfl
      exact ⟨vs, q1, q2, q3, q4, q5, by rw [upd_ne n1]; exact q6, by rw [upd_ne n2]; exact q7, q8⟩
  · obtain ⟨w, e⟩ := t.fh x z
    exact ⟨w, by rw [upd_ne (ne_of_none e hL)]; exact e⟩
theorem StD.less (t : StD F S H (upd H0 L o) σ Δ) (hL : H0 L = Option.none) (hf : ∀ x, fp F x → ∃ o, H0 x = some o) (hx : noX Δ = true) : StD F S H H0 σ Δ := by
  have dn : ∀ {x : Addr}, upd H0 L o x = Option.none → H0 x = Option.none := fun {x} e => by
    by_cases h : x = L
    · rw [h]; exact hL
    · rw [upd_ne h] at e; exact e
  refine ⟨t.len, fun j s e => ?_, t.nd, hf⟩
  obtain ⟨x, e1, h⟩ := t.ok j s e
  refine ⟨x, e1, ?_⟩
  cases s with
  | un => trivial
  | v d => exact h
  | src => exact h
  | xc W PX l => exact (noX_at hx e).elim
  | fz a fs => exact h
  | own l =>
    obtain ⟨p, xs, rfl, q2, q3, q4, q5⟩ := h
    exact ⟨p, xs, rfl, q2, q3, dn q4, q5⟩
  | ob a dx C fs =>
    obtain ⟨vs, q1, q2, q3, q4, q5, q6, q7, q8⟩ := h
    exact ⟨vs, q1, q2, q3, q4, q5, dn q6, dn q7, q8⟩
/-- a kept object that no slot holds is changed -/
theorem StD.mutL (t : StD F S H (upd H0 L o) σ Δ) (hx : noX Δ = true) : StD F S (upd H L u) (upd H0 L o) σ Δ := by
  have ne : ∀ {x : Addr}, upd H0 L o x = Option.none → x ≠ L := fun {x} e z => by rw [z, upd_same] at e; cases e
  refine ⟨t.len, fun j s e => ?_, t.nd, t.fh⟩
  obtain ⟨x, e1, h⟩ := t.ok j s e
  refine ⟨x, e1, ?_⟩
  cases s with
  | un => trivial
  | v d => exact h
  | src => exact h
  | xc W PX l => exact (noX_at hx e).elim
  | fz a fs => exact h
  | own l =>
    obtain ⟨p, xs, rfl, q2, q3, q4, q5⟩ := h
    exact ⟨p, xs, rfl, by rw [upd_ne (ne q4)]; exact q2, q3, q4, q5⟩
  | ob a dx C fs =>
    obtain ⟨vs, q1, q2, q3, q4, q5, q6, q7, q8⟩ := h
    exact ⟨vs, q1, by rw [upd_ne (ne q6)]; exact q2, by rw [upd_ne (ne q7)]; exact q3, q4, q5, q6, q7, q8⟩
/-- behind a turn: the comprehension's own names go -/
theorem StD.back {σ2 : L2.St} {js vs : List Nat} {Δ' : List Sl} (t : StD F S H H0 σ2 Δ') (hl : σ.length = σ2.length) (h : ∀ j, j ∉ vs → σ2[j]? = σ[j]?) : StD F S H H0 σ (wipeD Δ' vs) := by
  have wl : ∀ vs : List Nat, (wipeD Δ' vs).length = Δ'.length := fun vs => by
    induction vs with
    | nil => rfl
    | cons v vs ih => simp only [wipeD, List.length_set, ih]
  have wg : ∀ (vs : List Nat) (j : Nat), j < Δ'.length → (wipeD Δ' vs)[j]? = if j ∈ vs then some .un else Δ'[j]? := fun vs => by
    induction vs with
    | nil => intro j _; simp [wipeD]
    | cons v vs ih =>
      intro j hj
      simp only [wipeD]
      by_cases e : j = v
      · subst e
        rw [List.getElem?_set_self (by rw [wl]; exact hj), if_pos (List.mem_cons_self ..)]
      · rw [List.getElem?_set_ne (Ne.symm e), ih j hj]
        simp [e]
  refine ⟨by rw [hl, t.len, wl], fun j s e => ?_, fun i j ds es p e1 e2 f1 f2 => ?_, t.fh⟩
  · have hj : j < Δ'.length := by
      have := (List.getElem?_eq_some_iff.mp e).1
      rw [wl] at this
      exact this
    rw [wg vs j hj] at e
    by_cases m : j ∈ vs
    · rw [if_pos m] at e
      cases e
      have hj' : j < σ.length := by rw [hl, t.len]; exact hj
      exact ⟨σ[j], by simp [hj'], trivial⟩
    · rw [if_neg m] at e
      obtain ⟨x, e1, h1⟩ := t.ok j s e
      exact ⟨x, by rw [← h j m]; exact e1, h1⟩
  · have key : ∀ {i : Nat} {ds : List D}, (wipeD Δ' vs)[i]? = some (.own ds) → i ∉ vs ∧ Δ'[i]? = some (.own ds) := fun {i ds} e => by
      have hi : i < Δ'.length := by
        have := (List.getElem?_eq_some_iff.mp e).1
        rw [wl] at this
        exact this
      rw [wg vs i hi] at e
      by_cases m : i ∈ vs
      · rw [if_pos m] at e; cases e
      · rw [if_neg m] at e; exact ⟨m, e⟩
    obtain ⟨m1, g1⟩ := key e1
    obtain ⟨m2, g2⟩ := key e2
    exact t.nd i j ds es p g1 g2 (by rw [h i m1]; exact f1) (by rw [h j m2]; exact f2)
end
section
variable {F : Fp} {te : TE} {Δ : List Sl}
theorem efm_lcP {wi : TI} {g : TG} {tt : TT} {vs : List Nat} {Pd : List D → Prop} {Pr : List D → List Sl → Prop} (h : EvI F wi Δ Pd) (hz : ∀ ds, Pd ds → ds.length ≤ sizeLine) (J : List D → Nat → List D → List Sl → Prop) (h0 : ∀ ds, Pd ds → J ds 0 [] Δ) (hx : ∀ ds i acc Δi, J ds i acc Δi → noX Δi = true)
    (hs : ∀ ds i d acc Δi, Pd ds → ds[i]? = some d → J ds i acc Δi → acc.length ≤ i → ∃ js Δ', EvG F g d (wipeD Δi vs) js Δ' ∧ (∀ j ∈ js, j ∈ vs) ∧ ∃ Pt : Bool → Prop, EvT F tt Δ' Pt ∧ (Pt false → J ds (i + 1) acc (wipeD Δ' vs)) ∧ (Pt true → EvM F te Δ' fun e Δ'' => J ds (i + 1) (acc ++ [e]) (wipeD Δ'' vs)))
    (hd : ∀ ds acc Δn, Pd ds → J ds ds.length acc Δn → Pr acc Δn) : EvFM F (tLc wi g tt te vs) Δ Pr := fun H0 S H σ w st dm Q k => by
  refine h H0 S H σ w st _ fun ds Jt S1 H1 p g1 W => ?_
  intro L hL
  have hLH : H L = Option.none := by
    cases e : H L with
    | none => rfl
    | some o =>
      obtain ⟨o', e'⟩ := g1.m L o e
      rw [hL] at e'
      cases e'
  have hL0 : H0 L = Option.none := by
    cases e : H0 L with
    | none => rfl
    | some o =>
      obtain ⟨o', e'⟩ := dm L o e
      rw [hLH] at e'
      cases e'
  have nfL : ¬ fp F L := fun z => by
    obtain ⟨o, e⟩ := st.fh L z
    rw [hL0] at e
    cases e
  have g0 : Gr F S1 H1 S1 (upd H1 L (.lst [])) := Gr.new g1.h hL
  have st0 : StD F S1 (upd H1 L (.lst [])) (upd H0 L (.lst [])) σ Δ := by
    refine ((st.mono g1).mono g0).more hL0 (fun j s e => ⟨fun l es z => ?_, fun a dx C fs es => ?_⟩) (hx ds 0 [] Δ (h0 ds p))
    · subst es
      obtain ⟨x, e1, q, xs, rfl, q2, _⟩ := (st.mono g1).ok j _ e
      rw [z] at e1
      cases e1
      rw [hL] at q2
      cases q2
    · subst es
      obtain ⟨x, e1, vs, _, q2, q3, _⟩ := (st.mono g1).ok j _ e
      exact ⟨fun z => (by rw [z, hL] at q2; cases q2), fun z => (by rw [z, hL] at q3; cases q3)⟩
  refine ⟨fun i m H' => m = ds.length - i ∧ i ≤ ds.length ∧ ∃ acc xs S' Δi, J ds i acc Δi ∧ acc.length ≤ i ∧ Okw F S' H' ∧ Gw F H0 S H S' H' ∧ StD F S' H' (upd H0 L (.lst [])) σ Δi ∧ Same S1 S' ∧ H' L = some (.lst xs) ∧ S' L = Option.none ∧ DtL S' acc xs,
    ⟨ds.length, rfl, Nat.zero_le _, [], [], S1, Δ, h0 ds p, Nat.le_refl _, g0.ok (g1.ok w), (g1.trans g0).w dm, st0, Same.refl _, upd_same, Same.free g1.h hL, dtl_nil⟩, ?_⟩
  rintro i m H' ⟨rfl, hi, acc, xs, S', Δi, hJ, hla, w', g', t', sm, hxL, hsx, hdl⟩
  by_cases hlt : i < ds.length
  · refine .inr ⟨W.go i S' H' sm w' hlt, fun H2 => ∃ acc xs S' Δi, J ds (i + 1) acc Δi ∧ acc.length ≤ i + 1 ∧ Okw F S' H2 ∧ Gw F H0 S H S' H2 ∧ StD F S' H2 (upd H0 L (.lst [])) σ Δi ∧ Same S1 S' ∧ H2 L = some (.lst xs) ∧ S' L = Option.none ∧ DtL S' acc xs, fun H2 z => ⟨ds.length - (i + 1), by omega, rfl, hlt, z⟩, fun x H2 y => ?_⟩
    obtain ⟨d, S2, e, g2, hxd⟩ := W.yld i S' H' x H2 sm w' hlt y
    obtain ⟨js, Δ2, hg, hjs, Pt, hT, hF, hE⟩ := hs ds i d acc Δi p e hJ hla
    have stw : StD F S2 H2 (upd H0 L (.lst [])) (wipe σ vs) (wipeD Δi vs) := (t'.mono g2).wipes vs
    have dm' : Dm (upd H0 L (.lst [])) H' := fun x o e => by
      by_cases hxl : x = L
      · exact ⟨_, by rw [hxl]; exact hxL⟩
      · rw [upd_ne hxl] at e
        exact g'.m x o e
    refine hg _ S2 H2 (wipe σ vs) x (g2.ok w') stw hxd _ fun σ2 st2 off => ?_
    refine ⟨by rw [wipe_off off hjs, wipe_wipe], ?_⟩
    have hlen : σ.length = σ2.length := by
      obtain ⟨o1, _⟩ := off
      rw [o1, wipe_length]
    have hoff : ∀ j, j ∉ vs → σ2[j]? = σ[j]? := fun j hj => by
      obtain ⟨_, o2⟩ := off
      rw [o2 j (fun z => hj (hjs j z)), wipe_get, if_neg hj]
    refine hT _ S2 H2 σ2 (g2.ok w') st2 _ fun b S3 H3 pb g3 => ?_
    have gg : Gw F H0 S H S3 H3 := (g'.trans (g2.w g'.m)).trans (g3.w ((g'.trans (g2.w g'.m)).m))
    have h3 : H3 L = some (.lst xs) := g3.k _ _ nfL (g2.k _ _ nfL hxL)
    have s3 : S3 L = Option.none := by rw [g3.n _ _ (g2.k _ _ nfL hxL), g2.n _ _ hxL]; exact hsx
    cases b with
    | false => exact ⟨acc, xs, S3, _, hF pb, by omega, g3.ok (g2.ok w'), gg, (st2.mono g3).back (js := js) hlen hoff, (sm.trans g2.s).trans g3.s, h3, s3, (hdl.mono g2.s).mono g3.s⟩
    | true =>
      have dm3 : Dm (upd H0 L (.lst [])) H3 := fun x o e => by
        obtain ⟨o1, e1⟩ := dm' x o e
        obtain ⟨o2, e2⟩ := g2.m x o1 e1
        exact g3.m x o2 e2
      refine hE pb _ S3 H3 σ2 (g3.ok (g2.ok w')) (st2.mono g3) dm3 _ fun ed v S4 H4 Δ4 pe w4 g4 st4 hv => ?_
      have h4 : H4 L = some (.lst xs) := g4.k _ (.lst []) _ nfL upd_same h3
      have s4 : S4 L = Option.none := by rw [g4.n L (.lst []) upd_same]; exact s3
      have hlen2 : xs.length = acc.length := hdl.len.symm
      have gw4 : Gw F H0 S H S4 H4 := gg.trans (g4.less hL0)
      have gwm : Gw F H0 S4 H4 S4 (upd H4 L (.lst (xs ++ [v]))) := Gw.mut w4.s h4 s4 hL0 nfL gw4.m
      refine ⟨xs, h4, ?_, acc ++ [ed], xs ++ [v], S4, _, pe, by simp; omega, gwm.ok w4 st.fh, gw4.trans gwm, ((st4.back (js := js) hlen hoff).mutL (hx _ _ _ _ pe)), ((sm.trans g2.s).trans g3.s).trans g4.s, upd_same, s4, (((hdl.mono g2.s).mono g3.s).mono g4.s).append (dtl_cons hv dtl_nil)⟩
      have := hz ds p
      omega
  · have e : i = ds.length := by omega
    subst e
    exact .inl ⟨W.stop _ S' H' sm w' (Nat.le_refl _), k acc L xs S' H' Δi (hd ds acc Δi p hJ) w' g' (t'.less hL0 st.fh (hx _ _ _ _ hJ)) hLH hxL hsx hdl⟩
/-- a starred list within arguments -/
theorem eam_star {K : PySem.W.Frag} {tr : TA} {Pa : List D → List Sl → Prop} {Pr : List D → List Sl → List D → List Sl → Prop} (h : EvFM F te Δ Pa) (hr : ∀ l Δ', Pa l Δ' → EvAM F tr Δ' (Pr l Δ')) : EvAM F (StX.tStar K te tr) Δ fun ds Δ'' => ∃ l Δ' r, ds = l ++ r ∧ Pa l Δ' ∧ Pr l Δ' r Δ'' := fun H0 S H σ w t dm Q k => by
  refine h H0 S H σ w t dm _ fun l p xs S1 H1 Δ1 p1 w1 g1 t1 hp h1 hs hd => ?_
  refine ⟨p, xs, rfl, .inr (SqL.of h1), ?_⟩
  refine hr l Δ1 p1 H0 S1 H1 σ w1 t1 g1.m _ fun ds vs S2 H2 Δ2 p2 w2 g2 t2 hds => ?_
  exact k _ _ S2 H2 Δ2 ⟨l, Δ1, ds, rfl, p1, p2⟩ w2 (g1.trans g2) t2 ((hd.mono g2.s).append hds)
theorem ea_star {K : PySem.W.Frag} {tr : TA} {Pa Pr : List D → Prop} (h : EvF F te Δ Pa) (hr : EvA F tr Δ Pr) : EvA F (StX.tStar K te tr) Δ fun ds => ∃ l r, ds = l ++ r ∧ Pa l ∧ Pr r := fun H0 S H σ w t Q k => by
  refine h H0 S H σ w t _ fun l p xs S1 H1 p1 g1 hp h1 hs hd => ?_
  refine ⟨p, xs, rfl, .inr (SqL.of h1), ?_⟩
  refine hr H0 S1 H1 σ (g1.ok w) (t.mono g1) _ fun ds vs S2 H2 p2 g2 hds => ?_
  exact k _ _ S2 H2 ⟨l, ds, rfl, p1, p2⟩ (g1.trans g2) ((hd.mono g2.s).append hds)
end
/-! ### methods and constructors, bundled -/
structure MethT (P : Program) (w : World) (K : PySem.W.Frag) (mg : Str → Option Value) (base : Heap) (k : Nat) (C : Addr) (m : Str) (ps : List Str) (sp : Sp) : Prop where
  ex : ∃ f fd, Meth K C m f ∧ Binds K fd ps [] ∧ FnOk P w K mg base CX0 k f fd ps sp
  cls : Cls K C
structure MkT (P : Program) (w : World) (K : PySem.W.Frag) (mg : Str → Option Value) (base : Heap) (k : Nat) (x : Str) (C : Addr) (ps : List Str) (sp : Sp) : Prop where
  ex : ∃ f fd, Mk K C f ∧ Binds K fd ps [] ∧ FnOk P w K mg base CX0 k f fd ps sp
  gl : mg x = some (.ref C)
section
variable {X : Cx} {k : Nat} {C : Addr} {x m : Str} {ps : List Str} {sp : Sp} {o e : Expr} {es : List Expr} {to : TE} {t : TA} {p pos apos : Pos}
theorem pe_methT {pl : Sem Bool} (G : MethT X.prog X.w X.K X.mg X.base k C m ps sp) (hr : Room k X.A) (he : PE X o to) (ha : PA X (e :: es) t)
    (hst : starEach (e :: es) X.env = (false, eval e X.env) :: starEach es X.env := by rfl) (hpl : (backTo pos (starEach es X.env)).any (·.1) = false := by rfl)
    (ht : eval (.Call (.Attribute o m apos) (e :: es) [] pos) X.env = (do
      let ov ← eval o X.env
      standAt apos.atName
      let (f, first) ← holding [ov] (getMethod ov m pl)
      callWith pos f first (backTo pos (starEach (e :: es) X.env)) (backToKw pos (keywordEach [] X.env))) := by rfl) :
    PE X (.Call (.Attribute o m apos) (e :: es) [] pos) (tMeth C m sp [] E0 to t) := by
  obtain ⟨f, fd, h1, h2, h3⟩ := G.ex
  exact pe_meth he G.cls h1 h3 hr h2 .nil pass0 ha hst hpl ht
theorem pe_methT0 {pl : Sem Bool} (G : MethT X.prog X.w X.K X.mg X.base k C m ps sp) (hr : Room k X.A) (he : PE X o to)
    (ht : eval (.Call (.Attribute o m apos) [] [] pos) X.env = (do
      let ov ← eval o X.env
      standAt apos.atName
      let (f, first) ← holding [ov] (getMethod ov m pl)
      callWith pos f first (backTo pos (starEach [] X.env)) (backToKw pos (keywordEach [] X.env))) := by rfl) :
    PE X (.Call (.Attribute o m apos) [] [] pos) (tMeth C m sp [] E0 to tNil) := by
  obtain ⟨f, fd, h1, h2, h3⟩ := G.ex
  exact pe_meth0 he G.cls h1 h3 hr h2 .nil pass0 ht
theorem pe_makeT (G : MkT X.prog X.w X.K X.mg X.base k x C ps sp) (hr : Room (k + 1) X.A) (ha : PA X (e :: es) t) (hg : Gl X x := by rfl)
    (hdb : (x == ("__debug__" : Str)) = false := by decide) (he : starEach (e :: es) X.env = (false, eval e X.env) :: starEach es X.env := by rfl) (hpl : (backTo pos (starEach es X.env)).any (·.1) = false := by rfl) :
    PE X (.Call (.Name x p) (e :: es) [] pos) (tMake C sp [] E0 t) := by
  obtain ⟨f, fd, h1, h2, h3⟩ := G.ex
  exact pe_make h1 h3 hr hg G.gl h2 .nil pass0 ha hdb he hpl
end
end Bc

/-! Core R: the exact repr of lists and tuples, where no repr is under way. -/
namespace Bc
open PySem L2 PySem.Spec PyProof.Rows
abbrev rReprD (K : PySem.W.Frag) : List V → Hp → VK → Prop := fun xs H Q => ∃ (a : Addr) (d : PyData), xs = [.ref a] ∧ Dp K H (.ref a) d ∧ d.showable = true ∧ d.hasDict = false ∧ d.depth ≤ 64 ∧ d.shown.length ≤ sizeLine ∧ Q (.str d.shown) H
theorem pRepr {X : Cx} {K : PySem.W.Frag} (hg : X.A.guards = some []) (hu : X.A.units + 65 < cLine) (hK : X.K = K := by rfl) : CallR X (.builtin "repr") (rReprD K) := by
  subst hK
  intro pins s σ H xs us Q I r h
  obtain ⟨a, d, rfl, hd, hs, hdi, hdp, hz, q⟩ := h
  obtain ⟨u, rfl, hu1⟩ := vals1 r
  obtain rfl : u = Value.ref a := hu1
  obtain ⟨as, r1⟩ := Dp.reads I d (.ref a) (.ref a) hd rfl
  obtain ⟨hp, g, dr, tk, os⟩ := s
  exact repr_of_reads' r1 hs (fun h => by rw [hdi] at h; cases h) hg (by omega) (fun _ _ e => e) (fun h' u tk' hk => ⟨.str d.shown, H, I.kept (t' := tk') hk, ⟨u, rfl⟩, q⟩) hz
section
variable {F : Fp} {Δ : List Sl} {te : TE} {K : PySem.W.Frag}
/-- repr of a list or tuple that is data -/
theorem ev_repr {x : D} (h : Ev1 F te Δ x) (hx : (∃ l, x = .list l) ∨ ∃ l, x = .tuple l) (hp : x.isPy = true) (hs : x.py.showable = true) (hd : x.py.hasDict = false) (hn : x.py.depth ≤ 64) (hz : x.py.shown.length ≤ sizeLine) : Ev1 F (tCB (rReprD K) (tCons te tNil)) Δ (.str x.py.shown) := fun H0 S H σ w t Q k =>
  h H0 S H σ w t _ fun d v S' H' e g hv => by
    have hv : Dt S' x v := e ▸ hv
    have dp := Dt.dp (K := K) g.h x v hp hv
    obtain ⟨a, rfl⟩ : ∃ a, v = .ref a := by
      rcases hx with ⟨l, rfl⟩ | ⟨l, rfl⟩
      · simp only [Dt] at hv
        obtain ⟨a, _, e, _⟩ := hv
        exact ⟨a, e⟩
      · simp only [Dt] at hv
        obtain ⟨a, _, e, _⟩ := hv
        exact ⟨a, e⟩
    exact ⟨a, x.py, rfl, dp, hs, hd, hn, hz, k _ _ S' H' rfl g (by simp only [Dt])⟩
end
/-! ### law: behind the source -/
theorem law_start {rest : TS} {n : Nat} {H' : Hp} {σ : L2.St} {p c : Addr} {Q : VK} (hp : SrcAt H' p c) (hl : σ.length = n + 2) (h1 : σ[1]? = some (some (.ref p)))
    (hrun : Run (some (p, c)) false rest (Sl.un :: Sl.src :: List.replicate n Sl.un) { nx := fun _ => False, rt := fun d => d = .bool true }) (hQ : ∀ H, Q (.bl true) H) : rest { nx := fun _ H => Q .non H, rt := Q } σ H' := by
  have w : Okw (some (p, c)) (fun _ => Option.none) H' := ⟨fun _ _ e => (by cases e), fun a b e => by cases e; exact ⟨rfl, rfl, hp⟩⟩
  have hf : ∀ x, fp (some (p, c)) x → ∃ o, H' x = some o := fun x ⟨a, b, e, z⟩ => by
    cases e
    obtain ⟨ns, l, m, t, e1, e2, _⟩ := hp
    rcases z with rfl | rfl
    · exact ⟨_, e1⟩
    · exact ⟨_, e2⟩
  refine hrun (fun _ => Option.none) H' (fun _ => Option.none) (fun _ => Option.none) H' σ _ w ⟨Gr.refl w.s, Same.refl _⟩ ⟨by simp [hl], fun i s e => ?_, fun i j ds es q e1 _ _ _ => ?_, hf⟩ ⟨fun _ _ _ _ n => n.elim, fun d v Δ S H σ e _ _ _ gv => ?_, fun _ _ _ _ n => n.elim, fun _ _ _ _ n => n.elim⟩
  · have hi : i < n + 2 := by
      have := (List.getElem?_eq_some_iff.mp e).1
      simpa using this
    have hx : σ[i]? = some (σ[i]'(by omega)) := by simp
    cases i with
    | zero =>
      cases e
      exact ⟨_, hx, trivial⟩
    | succ i => cases i with
      | zero =>
        cases e
        exact ⟨_, h1, p, c, rfl, rfl⟩
      | succ i =>
        have := List.mem_of_getElem? (show (List.replicate n Sl.un)[i]? = some s from e)
        rw [List.mem_replicate] at this
        rw [this.2]
        exact ⟨_, hx, trivial⟩
  · cases i with
    | zero => cases e1
    | succ i => cases i with
      | zero => cases e1
      | succ i =>
        have := List.mem_of_getElem? (show (List.replicate n Sl.un)[i]? = some _ from e1)
        rw [List.mem_replicate] at this
        cases this.2
  · have hv := gv.vl rfl
    rw [e] at hv
    simp only [Dt] at hv
    rw [hv]
    exact hQ _
end Bc

/-! Core S: how long an exact repr may get; repr of the def's own list. -/
namespace Bc
open PySem L2 PySem.Spec PyProof.Rows
theorem textFrom_le : ∀ (ts : List Str) (k : Nat) (acc : Str), (textFrom k acc ts).length ≤ acc.length + piled ts
  | [], k, acc => by show acc.length ≤ _; omega
  | t :: r, k, acc => by
    have h := textFrom_le r (k + 1) (acc ++ (if k > 0 then ", " else "" : String) ++ t)
    have e : (acc ++ (if k > 0 then ", " else "" : String) ++ t).length = acc.length + (if k > 0 then 2 else 0) + t.length := by
      rw [strLen_append, strLen_append]
      split <;> rfl
    have h2 : (if k > 0 then 2 else 0 : Nat) ≤ 2 := by split <;> omega
    show (textFrom (k + 1) _ r).length ≤ _
    rw [piled_cons]
    omega
theorem listText_le (ts : List Str) : (listText ts).length ≤ 2 + piled ts := by
  have h := textFrom_le ts 0 "["
  have e : (("[" : String) : Str).length = 1 := rfl
  have e2 : (("]" : String) : Str).length = 1 := rfl
  unfold listText
  rw [strLen_append, e2]
  omega
theorem tupleText_le (ts : List Str) : (tupleText ts).length ≤ 3 + piled ts := by
  have e1 : ((("(" : String) : Str)).length = 1 := rfl
  have e3 : (((if ts.length == 1 then ",)" else ")" : String) : Str)).length ≤ 2 := by split <;> decide
  unfold tupleText
  rw [strLen_append, strLen_append, e1]
  by_cases h : ts = []
  · subst h
    simp only [piled_nil, Nat.add_zero]
    exact (by decide : 1 + (Str.join ", " []).length + ((if ([] : List Str).length == 1 then ",)" else ")" : String) : Str).length ≤ 3)
  · have := join_length_add ts h
    omega
mutual
/-- a bound of the shown text -/
def D.rsz : D → Nat
  | .none => 4
  | .bool _ => 5
  | .int i => (toString i : Str).length
  | .str s => 10 * s.length + 2
  | .list l => 2 + rszL l
  | .tuple l => 3 + rszL l
  | .dict _ => 4
  | .obj _ _ => 4
  | .ref _ => 4
def rszL : List D → Nat
  | [] => 0
  | d :: ds => d.rsz + 2 + rszL ds
end
mutual
/-- texts of code points -/
def D.cpok : D → Bool
  | .str s => s.cps.toList.all fun c => decide (c < 1114112)
  | .list l => cpokL l
  | .tuple l => cpokL l
  | _ => true
def cpokL : List D → Bool
  | [] => true
  | d :: ds => d.cpok && cpokL ds
end
mutual
theorem D.shown_le : ∀ d : D, d.cpok = true → d.py.shown.length ≤ d.rsz
  | .none, _ => by simp only [D.py, PyData.shown, D.rsz]; decide
  | .bool b, _ => by cases b <;> simp only [D.py, PyData.shown, D.rsz] <;> decide
  | .int i, _ => by
    simp only [D.py, PyData.shown, D.rsz]
    exact Nat.le_refl _
  | .str s, h => by
    simp only [D.py, PyData.shown, D.rsz]
    refine PySem.StrLaws.reprText_len s fun c hc => ?_
    simp only [D.cpok, List.all_eq_true, decide_eq_true_eq] at h
    exact Nat.lt_trans (h c hc) (by decide)
  | .list l, h => by
    simp only [D.py, PyData.shown, D.rsz]
    exact Nat.le_trans (listText_le _) (Nat.add_le_add_left (shownL_le l (by simpa only [D.cpok] using h)) _)
  | .tuple l, h => by
    simp only [D.py, PyData.shown, D.rsz]
    exact Nat.le_trans (tupleText_le _) (Nat.add_le_add_left (shownL_le l (by simpa only [D.cpok] using h)) _)
  | .dict _, _ => by simp only [D.py, PyData.shown, D.rsz]; decide
  | .obj _ _, _ => by simp only [D.py, PyData.shown, D.rsz]; decide
  | .ref _, _ => by simp only [D.py, PyData.shown, D.rsz]; decide
theorem shownL_le : ∀ l : List D, cpokL l = true → piled (PyData.shownAll (pyL l)) ≤ rszL l
  | [], _ => by simp only [pyL, PyData.shownAll, rszL, piled_nil]; exact Nat.le_refl _
  | d :: l, h => by
    simp only [cpokL, Bool.and_eq_true] at h
    simp only [pyL, PyData.shownAll, rszL, piled_cons]
    have := D.shown_le d h.1
    have := shownL_le l h.2
    omega
end
theorem cpokL_of : ∀ {l : List D}, (∀ d ∈ l, d.cpok = true) → cpokL l = true
  | [], _ => rfl
  | d :: l, h => by
    simp only [cpokL, Bool.and_eq_true]
    exact ⟨h d (List.mem_cons_self ..), cpokL_of fun e he => h e (List.mem_cons_of_mem _ he)⟩
theorem rszL_le {b : Nat} : ∀ {l : List D}, (∀ d ∈ l, d.rsz ≤ b) → rszL l ≤ (b + 2) * l.length
  | [], _ => Nat.zero_le _
  | d :: l, h => by
    have h1 := h d (List.mem_cons_self ..)
    have h2 := rszL_le fun e he => h e (List.mem_cons_of_mem _ he)
    simp only [rszL, List.length_cons]
    rw [Nat.mul_add_one]
    omega
theorem isPyL_of : ∀ {l : List D}, (∀ d ∈ l, d.isPy = true) → isPyL l = true
  | [], _ => rfl
  | d :: l, h => by
    simp only [isPyL, Bool.and_eq_true]
    exact ⟨h d (List.mem_cons_self ..), isPyL_of fun e he => h e (List.mem_cons_of_mem _ he)⟩
theorem showL_of : ∀ {l : List D}, (∀ d ∈ l, d.py.showable = true) → PyData.showableAll (pyL l) = true
  | [], _ => rfl
  | d :: l, h => by
    simp only [pyL, PyData.showableAll, Bool.and_eq_true]
    exact ⟨h d (List.mem_cons_self ..), showL_of fun e he => h e (List.mem_cons_of_mem _ he)⟩
theorem nodL_of : ∀ {l : List D}, (∀ d ∈ l, d.py.hasDict = false) → PyData.hasDictAll (pyL l) = false
  | [], _ => rfl
  | d :: l, h => by
    simp only [pyL, PyData.hasDictAll, Bool.or_eq_false_iff]
    exact ⟨h d (List.mem_cons_self ..), nodL_of fun e he => h e (List.mem_cons_of_mem _ he)⟩
theorem depL_of {b : Nat} : ∀ {l : List D}, (∀ d ∈ l, d.py.depth ≤ b) → PyData.depthAll (pyL l) ≤ b
  | [], _ => Nat.zero_le _
  | d :: l, h => by
    simp only [pyL, PyData.depthAll]
    exact Nat.max_le.mpr ⟨h d (List.mem_cons_self ..), depL_of fun e he => h e (List.mem_cons_of_mem _ he)⟩
section
variable {F : Fp} {Δ : List Sl} {K : PySem.W.Frag}
/-- repr of the def's own list -/
theorem ev_reprO {i : Nat} {ds : List D} (e : Δ[i]? = some (.own ds)) (hp : isPyL ds = true) (hs : (D.list ds).py.showable = true) (hd : (D.list ds).py.hasDict = false) (hn : (D.list ds).py.depth ≤ 64) (hz : (D.list ds).py.shown.length ≤ sizeLine) : Ev1 F (tCB (rReprD K) (tCons (tVar i) tNil)) Δ (.str (D.list ds).py.shown) := fun H0 S H σ w t Q k =>
  es_own e H0 S H σ w t _ fun ds' p xs S' H' e1 g nf h1 h2 => by
    subst e1
    have dp : Dp K H' (.ref p) (D.list ds').py := by
      simp only [D.py]
      exact .lst (SqL.of h1) (DtL.dp g.h ds' xs hp h2)
    exact ⟨p, _, rfl, dp, hs, hd, hn, hz, k _ _ S' H' rfl g (by simp only [Dt])⟩
end
end Bc

/-! The mathematics of lexemes, over lists of code points. -/
namespace Lex
/-- how many of the first signs are in z -/
def run (z : List Nat) (l : List Nat) : Nat := (l.takeWhile fun c => decide (c ∈ z)).length
def endOf (t : List Nat) (p : Nat) (z : List Nat) : Nat := p + run z (t.drop p)
theorem run_le (z l : List Nat) : run z l ≤ l.length := by
  unfold run
  exact (List.takeWhile_sublist _).length_le
theorem endOf_le {t z : List Nat} {p : Nat} (h : p ≤ t.length) : endOf t p z ≤ t.length := by
  have := run_le z (t.drop p)
  rw [List.length_drop] at this
  unfold endOf
  omega
theorem le_endOf (t z : List Nat) (p : Nat) : p ≤ endOf t p z := Nat.le_add_right _ _
theorem endOf_step {t z : List Nat} {p : Nat} {c : Nat} (h : t[p]? = some c) (hc : c ∈ z) : endOf t (p + 1) z = endOf t p z := by
  have hp := (List.getElem?_eq_some_iff.mp h)
  obtain ⟨hl, e⟩ := hp
  unfold endOf run
  rw [List.drop_eq_getElem_cons hl, e, List.takeWhile_cons, if_pos (by simpa using hc)]
  simp only [List.length_cons]
  omega
theorem endOf_stop {t z : List Nat} {p : Nat} (h : ∀ c, t[p]? = some c → c ∉ z) : endOf t p z = p := by
  unfold endOf run
  cases e : t.drop p with
  | nil => rfl
  | cons c r =>
    have hc : t[p]? = some c := by rw [← List.head?_drop, e]; rfl
    rw [List.takeWhile_cons, if_neg (by simpa using h c hc)]
    rfl
theorem takeWhile_take {α : Type} (f : α → Bool) : ∀ l : List α, l.take (l.takeWhile f).length = l.takeWhile f
  | [] => rfl
  | a :: l => by
    by_cases h : f a = true
    · rw [List.takeWhile_cons, if_pos h, List.length_cons, List.take_succ_cons, takeWhile_take f l]
    · rw [List.takeWhile_cons, if_neg h]; rfl
def blanks : List Nat := [32, 10]
def signs : List Nat := [40, 41, 123, 125, 44, 59]
def digits : List Nat := [48, 49, 50, 51, 52, 53, 54, 55, 56, 57]
def letters : List Nat := [97, 98, 99, 100, 101, 102, 103, 104, 105, 106, 107, 108, 109, 110, 111, 112, 113, 114, 115, 116, 117, 118, 119, 120, 121, 122]
inductive Lk where
  | fin | sign | num | word | bad
  deriving DecidableEq
/-- the lexeme at the beginning of l (no blank stands there) -/
def lexL : List Nat → Lk × List Nat
  | [] => (.fin, [])
  | c :: r =>
    if c ∈ signs then (.sign, [c])
    else if c ∈ digits then (.num, if c = 48 then [48] else (c :: r).takeWhile fun c => decide (c ∈ digits))
    else
      let w := (c :: r).takeWhile fun c => decide (c ∈ letters ++ digits)
      if 1 ≤ w.length ∧ w.length ≤ 12 then (.word, w) else (.bad, [])
structure Lm where
  k : Lk
  w : List Nat
  p : Nat
  deriving DecidableEq
def lexAt (t : List Nat) (p : Nat) : Lm :=
  let q := endOf t p blanks
  ⟨(lexL (t.drop q)).1, (lexL (t.drop q)).2, q⟩
theorem lexL_sign {c : Nat} {r : List Nat} (h : c ∈ signs) : lexL (c :: r) = (.sign, [c]) := if_pos h
theorem lexL_zero {c : Nat} {r : List Nat} (h : c = 48) : lexL (c :: r) = (.num, [48]) := by
  subst h
  rfl
theorem lexL_num {c : Nat} {r : List Nat} (h1 : c ∉ signs) (h2 : c ∈ digits) (h3 : c ≠ 48) : lexL (c :: r) = (.num, (c :: r).takeWhile fun c => decide (c ∈ digits)) := by
  show (if c ∈ signs then _ else if c ∈ digits then (Lk.num, if c = 48 then [48] else _) else _) = _
  rw [if_neg h1, if_pos h2, if_neg h3]
theorem lexL_else {c : Nat} {r : List Nat} (h1 : c ∉ signs) (h2 : c ∉ digits) : lexL (c :: r) = if 1 ≤ ((c :: r).takeWhile fun c => decide (c ∈ letters ++ digits)).length ∧ ((c :: r).takeWhile fun c => decide (c ∈ letters ++ digits)).length ≤ 12 then (.word, (c :: r).takeWhile fun c => decide (c ∈ letters ++ digits)) else (.bad, []) := by
  show (if c ∈ signs then _ else if c ∈ digits then _ else _) = _
  rw [if_neg h1, if_neg h2]
theorem lexL_len : ∀ l : List Nat, (lexL l).2.length ≤ l.length ∧ ((lexL l).1 ≠ .fin → (lexL l).1 ≠ .bad → 1 ≤ (lexL l).2.length) := by
  intro l
  cases l with
  | nil => exact ⟨Nat.le_refl _, fun h _ => absurd rfl h⟩
  | cons c r =>
    by_cases h1 : c ∈ signs
    · rw [lexL_sign h1]; exact ⟨by simp, fun _ _ => Nat.le_refl _⟩
    · by_cases h2 : c ∈ digits
      · by_cases h3 : c = 48
        · rw [lexL_zero h3]; exact ⟨by simp, fun _ _ => Nat.le_refl _⟩
        · rw [lexL_num h1 h2 h3]
          refine ⟨(List.takeWhile_sublist _).length_le, fun _ _ => ?_⟩
          rw [List.takeWhile_cons, if_pos (by simpa using h2)]
          simp
      · rw [lexL_else h1 h2]
        split
        · rename_i h
          exact ⟨(List.takeWhile_sublist _).length_le, fun _ _ => h.1⟩
        · exact ⟨Nat.zero_le _, fun _ h => absurd rfl h⟩
theorem lexL_fin {l : List Nat} (h : (lexL l).1 = .fin) : l = [] := by
  cases l with
  | nil => rfl
  | cons c r =>
    by_cases h1 : c ∈ signs
    · rw [lexL_sign h1] at h; cases h
    · by_cases h2 : c ∈ digits
      · by_cases h3 : c = 48
        · rw [lexL_zero h3] at h; cases h
        · rw [lexL_num h1 h2 h3] at h; cases h
      · rw [lexL_else h1 h2] at h
        split at h <;> cases h
/-- all lexemes from place p on, or the place of the first that is none -/
def lexN : Nat → List Nat → Nat → Except Nat (List Lm)
  | 0, _, _ => .ok []
  | f + 1, t, p =>
    let m := lexAt t p
    match m.k with
    | .fin => .ok []
    | .bad => .error m.p
    | _ => match lexN f t (m.p + m.w.length) with
      | .ok l => .ok (m :: l)
      | .error e => .error e
def lexT (t : List Nat) : Except Nat (List Lm) := lexN (t.length + 1) t 0
theorem lexN_succ (f : Nat) (t : List Nat) (p : Nat) : lexN (f + 1) t p = match (lexAt t p).k with
    | .fin => .ok []
    | .bad => .error (lexAt t p).p
    | _ => match lexN f t ((lexAt t p).p + (lexAt t p).w.length) with
      | .ok l => .ok (lexAt t p :: l)
      | .error e => .error e := rfl
theorem lexAt_len (t : List Nat) {p : Nat} (hp : p ≤ t.length) : p ≤ (lexAt t p).p ∧ (lexAt t p).p + (lexAt t p).w.length ≤ t.length := by
  have h1 := endOf_le (z := blanks) hp
  have h2 := (lexL_len (t.drop (endOf t p blanks))).1
  rw [List.length_drop] at h2
  refine ⟨le_endOf _ _ _, ?_⟩
  show endOf t p blanks + (lexL (t.drop (endOf t p blanks))).2.length ≤ t.length
  omega
theorem lexAt_pos {t : List Nat} {p : Nat} (h1 : (lexAt t p).k ≠ .fin) (h2 : (lexAt t p).k ≠ .bad) : 1 ≤ (lexAt t p).w.length := (lexL_len (t.drop (endOf t p blanks))).2 h1 h2
/-- enough is enough -/
theorem lexN_more : ∀ (f : Nat) (t : List Nat) (p : Nat), p ≤ t.length → t.length - p < f → lexN (f + 1) t p = lexN f t p := by
  intro f
  induction f with
  | zero => intro t p _ h; omega
  | succ f ih =>
    intro t p hp hf
    rw [lexN_succ (f + 1) t p, lexN_succ f t p]
    cases hk : (lexAt t p).k with
    | fin => rfl
    | bad => rfl
    | _ =>
      have h1 := lexAt_len t hp
      have h2 := lexAt_pos (t := t) (p := p) (by rw [hk]; decide) (by rw [hk]; decide)
      show (match lexN (f + 1) t _ with | .ok l => _ | .error e => _) = (match lexN f t _ with | .ok l => _ | .error e => _)
      rw [ih t _ h1.2 (by omega)]
theorem lexN_eq {t : List Nat} {p : Nat} (hp : p ≤ t.length) : ∀ f : Nat, t.length - p < f → lexN f t p = lexN (t.length - p + 1) t p := by
  intro f hf
  obtain ⟨d, rfl⟩ : ∃ d, f = t.length - p + 1 + d := ⟨f - (t.length - p + 1), by omega⟩
  induction d with
  | zero => rfl
  | succ d ih =>
    rw [show t.length - p + 1 + (d + 1) = (t.length - p + 1 + d) + 1 from rfl, lexN_more _ t p hp (by omega)]
    exact ih (by omega)
def lexF (t : List Nat) (p : Nat) : Except Nat (List Lm) := lexN (t.length - p + 1) t p
theorem lexF_step {t : List Nat} {p : Nat} (hp : p ≤ t.length) (h1 : (lexAt t p).k ≠ .fin) (h2 : (lexAt t p).k ≠ .bad) : lexF t p = match lexF t ((lexAt t p).p + (lexAt t p).w.length) with
      | .ok l => .ok (lexAt t p :: l)
      | .error e => .error e := by
  have h3 := lexAt_len t hp
  have h4 := lexAt_pos h1 h2
  conv => lhs; unfold lexF; rw [lexN_succ]
  have e : lexN (t.length - p) t ((lexAt t p).p + (lexAt t p).w.length) = lexF t ((lexAt t p).p + (lexAt t p).w.length) := lexN_eq h3.2 _ (by omega)
  cases hk : (lexAt t p).k with
  | fin => exact absurd hk h1
  | bad => exact absurd hk h2
  | _ => rw [e]
theorem lexF_fin {t : List Nat} {p : Nat} (h1 : (lexAt t p).k = .fin) : lexF t p = .ok [] := by
  unfold lexF
  rw [lexN_succ, h1]
theorem lexF_bad {t : List Nat} {p : Nat} (h1 : (lexAt t p).k = .bad) : lexF t p = .error (lexAt t p).p := by
  unfold lexF
  rw [lexN_succ, h1]
theorem lexT_eq (t : List Nat) : lexT t = lexF t 0 := rfl
end Lex

namespace K14
open PySem L2 PySem.Spec PyProof.Rows Bc
def top (i : Nat) : Stmt := PySem.Challenge.pw_bushcoins_k14_texts_of_scripts.main.body.getD i (.Pass ⟨0, 0, 0, 0⟩)
structure Tx (K : PySem.W.Frag) (mg : Str → Option Value) : Prop where
  n_ValueError : mg "ValueError" = none
  n_abs : mg "abs" = none
  n_int : mg "int" = none
  n_len : mg "len" = none
  n_list : mg "list" = none
  n_max : mg "max" = none
  n_range : mg "range" = none
  n_repr : mg "repr" = none
  n_str : mg "str" = none
  n_super : mg "super" = none
  n_tuple : mg "tuple" = none
  g_LETTERS : ∃ t, mg "LETTERS" = some (.str "abcdefghijklmnopqrstuvwxyz" t)
  g_DIGITS : ∃ t, mg "DIGITS" = some (.str "0123456789" t)
  g_BLANKS : ∃ t, mg "BLANKS" = some (.str " \n" t)
  g_SIGNS : ∃ t, mg "SIGNS" = some (.str "(){},;" t)
section
variable {P : Program} {w : World} {K : PySem.W.Frag} {mg : Str → Option Value} {base : Heap}
abbrev s__law_source : Stmt := top 22
theorem sc__law_source : FnScope ["_law_script", "_law_mixed", "_law_cell"] ["_law_script"] (defScope s__law_source) := ⟨rfl, rfl, rfl, by decide +kernel, rfl, by decide +kernel, by decide +kernel⟩
/-- the source's promise -/
def spSource (K : PySem.W.Frag) : Sp := fun vs H Q _ => ∃ (a : Addr) (ns : List Int), vs = [.ref a] ∧ SqL K H a (ns.map V.int) ∧ ns.length ≤ 63 ∧ ∀ p c H', H p = Option.none → H c = Option.none → SrcAt H' p c → Same H H' → Q (.ref p) H'
theorem key_ne {x y : Str} (h : ¬ x = y) : ¬ (Sum.inr x : Key) = Sum.inr y := fun e => h (Sum.inr.inj e)
theorem ok__law_source {k : Nat} {f : Addr} {fd : FuncData} (T : Tx K mg) (Fu : Fun K "_law_source" "_law_source" s__law_source f fd) : FnOk P w K mg base CX0 (k + 1) f fd ["_law_script"] (spSource K) := by
  refine Fu.ok sc__law_source (fun vs H Q E h => ?_) (fun cdv A outer s H vs Q E hr h => ?_)
  · obtain ⟨a, ns, rfl, _⟩ := h
    rfl
  · obtain ⟨a, ns, rfl, hS, hl, hk⟩ := h
    have hu := hr.units
    refine ⟨_, (pss_cons (ps_set (i := 1) sc__law_source.nd rfl (Or.inl rfl) pe_int)
    (pss_cons (ps_for PassesOwn.never rfl (pi_list (pv 0)) (pg_name (i := 2) sc__law_source.nd rfl (Or.inl rfl))
      (pss_one (ps_set (i := 1) sc__law_source.nd rfl (Or.inl rfl) (pe_op op_modN (pe_callTy pInt (by rfl) T.n_int (by decide +kernel) (pa_cons (pe_op pAdd (pe_op pAdd (pe_op pMul (pv 1) pe_int) (pe_op pMul (pv 2) pe_int)) pe_int) pa_nil)) pe_int))))
    (pss_one (ps_ret (pe_disp (pps_cons pe_str (pe_revL (pe_lc (own := [("_law_cell", 2)]) rfl sc__law_source.nd (pi_list (pv 0)) (blkOk_by (own := [("_law_cell", 2)]) (N := ["_law_script", "_law_mixed", "_law_cell"]) (sc := defScope s__law_source) (by decide +kernel)) (fun _ _ _ _ _ => (pg_name (i := 2) sc__law_source.nd rfl (by first | exact Or.inl rfl | exact Or.inr rfl))) (fun _ _ _ _ _ => pts_nil) (fun _ _ _ _ _ => (pe_callB call_abs (by rfl) T.n_abs (by decide +kernel) (pa_cons (pv 2) pa_nil))))) (pps_cons pe_str pe_int (pps_cons pe_str (pv 1) (pps_cons pe_str pe_int pps_nil)))) (by rfl) (by rfl) (fun z => by cases z) (by decide)))))), ?_⟩
    have item : ∀ {i : Nat} {x : V}, (ns.map V.int)[i]? = some x → ∃ z, x = V.int z := fun {i x} e => by
      rw [List.getElem?_map] at e
      cases q : ns[i]? with
      | none => rw [q] at e; cases e
      | some z => rw [q] at e; cases e; exact ⟨z, rfl⟩
    refine ⟨_, rfl, a, rfl, ⟨_, hS⟩, for_list (K := K) (a := a) (xs := ns.map V.int) (fun i σ H2 => ∃ (m : Int) (v : Option V), σ = [some (.ref a), some (.int m), v] ∧ H2 = H) ⟨11, none, rfl, rfl⟩ (fun i σ H2 _ ⟨_, _, _, e⟩ => e ▸ hS) ?_ ?_⟩
    · rintro i x σ H2 hi ⟨m, v, rfl, rfl⟩
      obtain ⟨z, rfl⟩ := item hi
      exact ⟨_, rfl, Or.inl ⟨_, _, rfl, rfl, Or.inr (by decide), _, rfl, Or.inl ⟨_, _, rfl, rfl, Or.inr (by decide), Or.inl ⟨_, _, rfl, rfl, Or.inl ⟨_, _, rfl, rfl, Or.inl (Or.inl ⟨_, rfl, _, _, rfl, rfl, (show (2147483629 : Int) ≠ 0 by decide), _, _, rfl, rfl⟩)⟩⟩⟩⟩⟩
    · rintro σ H2 ⟨m, v, rfl, rfl⟩
      intro p hp
      have sS : SqL K (upd H2 p (.dK [])) a (ns.map V.int) := Same.seq (H := H2) (fun b o e => by rw [upd_ne (ne_of_none e hp)]; exact e) hS
      refine ⟨_, rfl, a, rfl, ⟨_, sS⟩, fun L hL => ?_⟩
      have hpL : L ≠ p := fun z => by rw [z, upd_same] at hL; cases hL
      have nL : H2 L = Option.none := by rw [upd_ne hpL] at hL; exact hL
      have keep : ∀ (o : HO), Same H2 (upd (upd H2 p (.dK [])) L o) := fun o b u e => by
        rw [upd_ne (ne_of_none e nL), upd_ne (ne_of_none e hp)]
        exact e
      refine lc_list (K := K) (a := a) (xs := ns.map V.int) (fun i H3 => ∃ l : List Int, H3 = upd (upd H2 p (.dK [])) L (.lst (l.map V.int)) ∧ l.length = i) ⟨[], rfl, rfl⟩ (fun i H3 _ ⟨l, e, _⟩ => e ▸ (keep _).seq hS) ?_ ?_
      · rintro i x H3 hi ⟨l, rfl, rfl⟩
        obtain ⟨z, rfl⟩ := item hi
        have hlt : l.length < 63 := by
          have := (List.getElem?_eq_some_iff.mp hi).1
          rw [List.length_map] at this
          omega
        refine ⟨rfl, ?_⟩
        unfold tYes
        dsimp only
        rw [if_pos rfl]
        refine ⟨_, rfl, _, rfl, l.map V.int, upd_same, by rw [List.length_map]; exact Nat.lt_trans hlt (by decide), l ++ [if z < 0 then -z else z], ?_, by simp⟩
        rw [upd_upd, List.map_append]
        rfl
      · rintro H3 ⟨l, rfl, e⟩
        refine ⟨L, _, rfl, SqL.of upd_same, fun c hc => ?_⟩
        have ll : l.length ≤ 63 := by rw [List.length_map] at e; omega
        have hcL : c ≠ L := fun z => by rw [z, upd_same] at hc; cases hc
        have hcp : c ≠ p := fun z => by rw [z, upd_ne (Ne.symm hpL), upd_same] at hc; cases hc
        have nc : H2 c = Option.none := by rw [upd_ne hcL, upd_ne hcp] at hc; exact hc
        refine ⟨_, rfl, ?_⟩
        refine ⟨by rw [upd_ne (Ne.symm hcp), upd_ne (Ne.symm hpL), upd_same], [(Sum.inr "cells", .ref c), (Sum.inr "left", .int 1), (Sum.inr "mixed", .int m), (Sum.inr "turn", .int 0)], rfl, by show 4 ≤ 15; decide, ?_⟩
        have me : mergeK [] [((Sum.inr "cells" : Key), V.ref c), (Sum.inr "left", .int 1), (Sum.inr "mixed", .int m), (Sum.inr "turn", .int 0)] = [((Sum.inr "cells" : Key), V.ref c), (Sum.inr "left", .int 1), (Sum.inr "mixed", .int m), (Sum.inr "turn", .int 0)] := rfl
        rw [me]
        refine hk p c _ hp nc ⟨l.reverse, 1, m, 0, upd_same, ?_, by rw [List.length_reverse]; exact ll⟩ fun b o e => ?_
        · rw [upd_ne hcp, upd_same, List.map_reverse]
        · rw [upd_ne (ne_of_none e hp), upd_ne (ne_of_none e nc)]
          exact keep _ b o e
abbrev s__law_pick : Stmt := top 23
theorem sc__law_pick : FnScope ["_law_source_here", "_law_many", "_law_left", "_law_mixed"] ["_law_source_here", "_law_many"] (defScope s__law_pick) := ⟨rfl, rfl, rfl, by decide +kernel, rfl, by decide +kernel, by decide +kernel⟩
/-- a number from 0 to many - 1 -/
def RPick (ds : List D) (d : D) : Prop := ∃ n r : Int, ds = [.int n] ∧ n < 2 ^ 30 ∧ 0 ≤ r ∧ r < max 1 n ∧ d = .int r
abbrev srcD (c : Addr) (l m t : Int) : List (Key × V) := [(Sum.inr "cells", .ref c), (Sum.inr "left", .int l), (Sum.inr "mixed", .int m), (Sum.inr "turn", .int t)]
theorem src_cells (c : Addr) (l m t : Int) : valV (srcD c l m t) (Sum.inr "cells") = some (.ref c) := rfl
theorem src_left (c : Addr) (l m t : Int) : valV (srcD c l m t) (Sum.inr "left") = some (.int l) := rfl
theorem src_mixed (c : Addr) (l m t : Int) : valV (srcD c l m t) (Sum.inr "mixed") = some (.int m) := rfl
theorem src_turn (c : Addr) (l m t : Int) : valV (srcD c l m t) (Sum.inr "turn") = some (.int t) := rfl
theorem put_left (c : Addr) (l m t x : Int) : putK (srcD c l m t) (Sum.inr "left") (.int x) = srcD c x m t := rfl
theorem put_turn (c : Addr) (l m t x : Int) : putK (srcD c l m t) (Sum.inr "turn") (.int x) = srcD c l m x := rfl
theorem ans_or2 {t u : TT} {σ : L2.St} {H : Hp} {b1 b2 : Bool} (h1 : Ans t σ H b1) (h2 : Ans u σ H b2) : Ans (tOr t u) σ H (b1 || b2) := by
  cases b1 with
  | true => exact ans_or1 h1
  | false => exact ans_or h1 h2
theorem max_eq (n : Int) : (if n > 1 then n else 1) = max 1 n := by
  by_cases h : n > 1
  · rw [if_pos h]; omega
  · rw [if_neg h]; omega
theorem ok__law_pick {k : Nat} {f : Addr} {fd : FuncData} (T : Tx K mg) (Fu : Fun K "_law_pick" "_law_pick" s__law_pick f fd) : FnOk P w K mg base CX0 (k + 1) f fd ["_law_source_here", "_law_many"] (SpD true false RPick) := by
  refine Fu.ok sc__law_pick (fun vs H Q E h => ?_) (fun cdv A outer s H vs Q E hr h => ?_)
  · obtain ⟨F, S, ds, _, a, ⟨d, n, r, rfl, _⟩, _⟩ := h
    rw [arg_len a]
    rfl
  · obtain ⟨F, S, ds, w', ⟨a, c, us, rfl, rfl, hd⟩, ⟨d, n, r0, rfl, hn, _⟩, hk⟩ := h
    simp only [DtL, Dt] at hd
    obtain ⟨_, _, rfl, rfl, rfl⟩ := hd
    have hu := hr.units
    have hu1 : (A.deeper (envOfC "_law_pick" (defScope s__law_pick) s.heap.objs.size f cdv)).units + 1 < cLine := by omega
    obtain ⟨sa, sc, ns, l, m, t, ea, ec, hl⟩ := w'.src a c rfl
    have hac : a ≠ c := ne_of ea ec (by intro z; cases z)
    -- what the heap is like behind each step
    have fin : ∀ (l' m' t' : Int) (ns' : List Int) (H' : Hp) (r : Int), H' a = some (.dK (srcD c l' m' t')) → H' c = some (.lst (ns'.map V.int)) → ns'.length ≤ 63 → (∀ b, b ≠ a → b ≠ c → H' b = H b) → 0 ≤ r → r < max 1 n → Q (.int r) H' := fun l' m' t' ns' H' r h1 h2 h3 h4 h5 h6 => by
      refine hk (.int r) (.int r) S H' ⟨n, r, rfl, hn, h5, h6, rfl⟩ ⟨⟨fun _ _ e => e, fun b o e => ?_, fun _ _ _ => rfl, fun b o hb e => ?_, fun b o e => ?_, fun p q e _ => ?_⟩, fun _ => by simp only [Dt], fun e => (nomatch e)⟩
      · have z := w'.s b o e
        rw [h4 b (fun q => by rw [q, sa] at e; cases e) (fun q => by rw [q, sc] at e; cases e)]
        exact z
      · rw [h4 b (fun q => hb ⟨a, c, rfl, .inl q⟩) (fun q => hb ⟨a, c, rfl, .inr q⟩)]
        exact e
      · by_cases q1 : b = a
        · subst q1; exact ⟨_, h1⟩
        · by_cases q2 : b = c
          · subst q2; exact ⟨_, h2⟩
          · exact ⟨o, by rw [h4 b q1 q2]; exact e⟩
      · cases e
        exact ⟨ns', l', m', t', h1, h2, h3⟩
    refine ⟨_, (pss_cons (ps_while PassesOwn.never (PW.pt (pw_and (pt_cmpR op_gt (pv 1) pe_int (nomark _)) (pw_and (pt_cmpR pLt (pe_dget hu1 (pv 0) pe_str (fun _ _ => rfl)) pe_int (nomark _)) (pw_and1 (pt_cmpR op_gt (pe_callB pLen (by rfl) T.n_len (by decide +kernel) (pa_cons (pe_dget hu1 (pv 0) pe_str (fun _ _ => rfl)) pa_nil)) pe_int (nomark _))))))
      (pss_one (ps_dput hu1 (pv 0) pe_str (pe_bm0 PySem.F.plainAttrs_list PySem.F.slot_list_pop PySem.F.type_list_pop mt_pop (pe_dget hu1 (pv 0) pe_str (fun _ _ => rfl))) rfl)))
    (pss_cons (ps_set (i := 2) sc__law_pick.nd rfl (Or.inl rfl) (pe_dget hu1 (pv 0) pe_str (fun _ _ => rfl)))
    (pss_cons (ps_if (PW.pt (pw_or (pt_cmpR pLt (pv 1) pe_int (nomark _)) (pw_or1 (pt_cmpR op_gt (pv 2) pe_int (nomark _)))))
      (pss_cons (ps_dput hu1 (pv 0) pe_str (pe_op op_fdivN (pv 2) (pe_callB (call_max2 rfl) (by rfl) T.n_max (by decide +kernel) (pa_cons pe_int (pa_cons (pv 1) pa_nil)))) rfl)
      (pss_one (ps_ret (pe_op op_modN (pe_callTy pInt (by rfl) T.n_int (by decide +kernel) (pa_cons (pv 2) pa_nil)) (pe_callB (call_max2 rfl) (by rfl) T.n_max (by decide +kernel) (pa_cons pe_int (pa_cons (pv 1) pa_nil)))))))
      pss_nil)
    (pss_cons (ps_dput hu1 (pv 0) pe_str (pe_op pAdd (pe_dget hu1 (pv 0) pe_str (fun _ _ => rfl)) pe_int) rfl)
    (pss_cons (ps_set (i := 3) sc__law_pick.nd rfl (Or.inl rfl) (pe_op op_modN (pe_callTy pInt (by rfl) T.n_int (by decide +kernel) (pa_cons (pe_op pAdd (pe_dget hu1 (pv 0) pe_str (fun _ _ => rfl)) (pe_op pMul (pe_dget hu1 (pv 0) pe_str (fun _ _ => rfl)) pe_int)) pa_nil)) pe_int))
    (pss_cons (ps_set (i := 3) sc__law_pick.nd rfl (Or.inl rfl) (pe_op op_modN (pe_callTy pInt (by rfl) T.n_int (by decide +kernel) (pa_cons (pe_op pAdd (pe_op pMul (pv 3) (pv 3)) (pe_op pMul (pe_dget hu1 (pv 0) pe_str (fun _ _ => rfl)) pe_int)) pa_nil)) pe_int))
    (pss_one (ps_ret (pe_op op_modN (pe_callTy pInt (by rfl) T.n_int (by decide +kernel) (pa_cons (pe_op op_fdivN (pv 3) pe_int) pa_nil)) (pv 1)))))))))), ?_⟩
    -- the while
    refine ⟨fun j σ H2 => ∃ (l' : Int) (ns' : List Int), σ = [some (.ref a), some (.int n), none, none] ∧ H2 a = some (.dK (srcD c l' m t)) ∧ H2 c = some (.lst (ns'.map V.int)) ∧ ns'.length = j ∧ j ≤ 63 ∧ ∀ b, b ≠ a → b ≠ c → H2 b = H b,
      ⟨ns.length, l, ns, rfl, ea, ec, rfl, hl, fun _ _ _ => rfl⟩, ?_⟩
    rintro j σ H2 ⟨l', ns', rfl, fa, fc, rfl, hj, fo⟩
    have dg : ∀ {H3 : Hp} {l' m' t' : Int} {x : Str} {v : V}, H3 a = some (.dK (srcD c l' m' t')) → valV (srcD c l' m' t') (Sum.inr x) = some v → DGet H3 a (.str x) (some v) := fun {H3 l' m' t' x v} e1 e2 => e2 ▸ DGet.k (k := Sum.inr x) e1
    have dp : ∀ {H3 : Hp} {l' m' t' : Int} {x : Str} {v : V}, H3 a = some (.dK (srcD c l' m' t')) → DPut H3 a (.str x) v (upd H3 a (.dK (putK (srcD c l' m' t') (Sum.inr x) v))) := fun {H3 l' m' t' x v} e1 => DPut.k (k := Sum.inr x) e1 (by show 4 < sizeLine; decide)
    refine L2.ans_and2 (b1 := decide (1 < n)) (b2 := decide (l' < 2) && decide ((0 : Int) < (ns'.map V.int).length)) (fun Q q => ⟨_, rfl, _, _, rfl, rfl, _, rfl, q⟩) (L2.ans_and2 (fun Q q => ⟨_, rfl, a, _, rfl, dg fa (src_left ..), Or.inl ⟨_, _, rfl, rfl, _, rfl, q⟩⟩)
      (fun Q q => ⟨_, rfl, a, _, rfl, dg fa (src_cells ..), _, _, rfl, Or.inl ⟨_, SqL.of fc, rfl⟩, _, _, rfl, rfl, _, rfl, q⟩)) _ ?_
    cases hb : (decide (1 < n) && (decide (l' < 2) && decide ((0 : Int) < (ns'.map V.int).length))) with
    | true =>
      refine iteT ?_
      have hb2 : 0 < ns'.length := by
        simp only [Bool.and_eq_true, decide_eq_true_eq, List.length_map] at hb
        omega
      obtain ⟨z, hz⟩ : ∃ z, (ns'.map V.int)[(ns'.map V.int).length - 1]? = some (V.int z) := ⟨ns'[ns'.length - 1], by simp⟩
      have he : (ns'.map V.int).dropLast = ns'.dropLast.map V.int := by rw [List.map_dropLast]
      refine ⟨fun σ3 H3 => ∃ (l3 : Int) (ns3 : List Int), σ3 = [some (.ref a), some (.int n), none, none] ∧ H3 a = some (.dK (srcD c l3 m t)) ∧ H3 c = some (.lst (ns3.map V.int)) ∧ ns3.length + 1 = ns'.length ∧ ∀ b, b ≠ a → b ≠ c → H3 b = H b, fun σ3 H3 ⟨l3, ns3, e1, e2, e3, e4, e5⟩ => ⟨ns3.length, by omega, l3, ns3, e1, e2, e3, rfl, by omega, e5⟩, ?_⟩
      refine ⟨_, rfl, a, _, rfl, dg fa (src_cells ..), Or.inl ⟨rfl, _, SqL.of fc⟩, c, _, _, rfl, rfl, fc, hz, _, rfl, a, _, rfl, dp (by rw [upd_ne hac]; exact fa), z, ns'.dropLast, rfl, by rw [upd_same, put_left], ?_, by simp; omega, fun b h1 h2 => ?_⟩
      · rw [upd_ne (Ne.symm hac), upd_same, he]
      · rw [upd_ne h1, upd_ne h2]
        exact fo b h1 h2
    | false =>
      refine iteF ?_
      refine ⟨_, rfl, a, _, rfl, dg fa (src_left ..), ?_⟩
      have hm := max_eq n
      have h1 : 0 < max 1 n := by omega
      dsimp only [gName, List.set]
      refine ans_or2 (b1 := decide (n < 2)) (b2 := decide (1 < l')) (fun Q q => ⟨_, rfl, Or.inl ⟨_, _, rfl, rfl, _, rfl, q⟩⟩) (fun Q q => ⟨_, rfl, _, _, rfl, rfl, _, rfl, q⟩) _ ?_
      cases hc : (decide (n < 2) || decide (1 < l')) with
      | true =>
        refine iteT ⟨_, rfl, _, rfl, _, _, rfl, ⟨l', max 1 n, rfl, congrArg V.int hm, ⟨by omega, by omega⟩, _, rfl, a, _, rfl, dp fa, ?_⟩⟩
        refine ⟨_, rfl, Or.inl (Or.inl ⟨_, rfl, _, rfl, _, _, rfl, ⟨l', max 1 n, rfl, congrArg V.int hm, by omega, ?_⟩⟩)⟩
        refine fin (l'.fdiv (max 1 n)) m t ns' _ _ (by rw [upd_same, put_left]) (by rw [upd_ne (Ne.symm hac)]; exact fc) (by omega) (fun b h1 h2 => by rw [upd_ne h1]; exact fo b h1 h2) (Int.fmod_nonneg_of_pos _ h1) (Int.fmod_lt_of_pos _ h1)
      | false =>
        have hn2 : 0 < n := by
          simp only [Bool.or_eq_false_iff, decide_eq_false_iff_not] at hc
          omega
        refine iteF ?_
        refine ⟨_, rfl, a, _, rfl, dg fa (src_turn ..), Or.inl ⟨_, _, rfl, rfl, _, rfl, a, _, rfl, dp fa, ?_⟩⟩
        have fa2 : (upd H2 a (.dK (putK (srcD c l' m t) (Sum.inr "turn") (.int (t + 1))))) a = some (.dK (srcD c l' m (t + 1))) := by rw [upd_same, put_turn]
        refine ⟨_, rfl, a, _, rfl, dg fa2 (src_mixed ..), _, rfl, a, _, rfl, dg fa2 (src_turn ..), Or.inl ⟨_, _, rfl, rfl, Or.inr (by decide), Or.inl ⟨_, _, rfl, rfl, Or.inl (Or.inl ⟨_, rfl, _, _, rfl, rfl, (show (998244353 : Int) ≠ 0 by decide), ?_⟩)⟩⟩⟩
        have b1 := Int.fmod_nonneg_of_pos (m + (t + 1) * 104729) (show (0 : Int) < 998244353 by decide)
        have b2 := Int.fmod_lt_of_pos (m + (t + 1) * 104729) (show (0 : Int) < 998244353 by decide)
        refine ⟨_, rfl, _, rfl, Or.inl ⟨_, _, rfl, rfl, Or.inl ⟨by omega, by omega⟩, _, rfl, a, _, rfl, dg fa2 (src_turn ..), Or.inl ⟨_, _, rfl, rfl, Or.inr (by decide), Or.inl ⟨_, _, rfl, rfl, Or.inl (Or.inl ⟨_, rfl, _, _, rfl, rfl, (show (2147483647 : Int) ≠ 0 by decide), ?_⟩)⟩⟩⟩⟩
        refine ⟨_, rfl, _, _, rfl, rfl, ⟨by decide, by decide⟩, Or.inl (Or.inl ⟨_, rfl, _, rfl, _, _, rfl, rfl, (show n ≠ 0 by omega), ?_⟩)⟩
        refine fin l' m (t + 1) ns' _ _ fa2 (by rw [upd_ne (Ne.symm hac)]; exact fc) (by omega) (fun b h1 h2 => by rw [upd_ne h1]; exact fo b h1 h2) (Int.fmod_nonneg_of_pos _ hn2) (Int.lt_of_lt_of_le (Int.fmod_lt_of_pos _ hn2) (by omega))
end
end K14

namespace K14
open PySem L2 PySem.Spec PyProof.Rows Bc
open Lex (endOf run lexAt Lm Lk lexL)
section
variable {P : Program} {w : World} {K : PySem.W.Frag} {mg : Str → Option Value} {base : Heap}
theorem txt_iff {a b : List Nat} : txt a = txt b ↔ a = b := ⟨txt_inj, fun e => by rw [e]⟩
theorem nat_iff {a b : Nat} : D.int (a : Int) = D.int (b : Int) ↔ a = b := ⟨fun e => by injection e with e; omega, fun e => by rw [e]⟩
abbrev Short (t : List Nat) : Prop := t.length ≤ 100000
def REnd (ds : List D) (d : D) : Prop := ∃ (t z : List Nat) (p : Nat), ds = [.str (txt t), .int (p : Nat), .str (txt z)] ∧ Short t ∧ p ≤ t.length ∧ d = .int (endOf t p z : Nat)
theorem uEnd {t z : List Nat} {p : Nat} {e : D} (h : REnd [.str (txt t), .int (p : Nat), .str (txt z)] e) : e = .int (endOf t p z : Nat) := by
  obtain ⟨t', z', p', e1, _, _, e2⟩ := h
  simp only [List.cons.injEq, D.str.injEq, txt_iff, nat_iff, and_true] at e1
  obtain ⟨rfl, rfl, rfl⟩ := e1
  exact e2
theorem ev_end {F : Fp} {Δ : List Sl} {ta tb tc : TE} {t z : List Nat} {p : Nat} {E : XK} (ha : Ev1 F ta Δ (.str (txt t))) (hb : Ev1 F tb Δ (.int (p : Nat))) (hc : Ev1 F tc Δ (.str (txt z))) (ht : Short t) (hp : p ≤ t.length) :
    Ev1 F (tCall (SpD false false REnd) [] E (tCons ta (tCons tb (tCons tc tNil)))) Δ (.int (endOf t p z : Nat)) := ev_call1 (ea_cons1 ha (ea_cons1 hb (ea_cons1 hc ea_nil))) ⟨t, z, p, rfl, ht, hp, rfl⟩ fun _ h => uEnd h
abbrev s_end_of : Stmt := top 8
theorem sc_end_of : FnScope ["text", "place", "signs"] ["text", "place", "signs"] (defScope s_end_of) := ⟨rfl, rfl, rfl, by decide +kernel, rfl, by decide +kernel, by decide +kernel⟩
/-- the loop, once for both defs -/
theorem run_end {F : Fp} {t z : List Nat} {p : Nat} (ht : Short t) (hp : p ≤ t.length) : Run F false
    (tSeq (tWhile (tAnd (tTest (tOp rLtP (tVar 1) (tCB (rLenP K) (tCons (tVar 0) tNil)))) (tTest (tOp (rInP K false) (tOp (rIx K) (tVar 0) (tVar 1)) (tVar 2)))) (tAsg (tOp (rAddP K) (tVar 1) (tC (.int 1))) (gName 1))) (tRet (tVar 1)))
    [.v (.str (txt t)), .v (.int (p : Nat)), .v (.str (txt z))] { nx := fun _ => False, rt := fun d => d = .int (endOf t p z : Nat) } := by
  refine run_seqM (N := fun Δ => ∃ q : Nat, Δ = [.v (.str (txt t)), .v (.int (q : Nat)), .v (.str (txt z))] ∧ q = endOf t p z) ?_ fun Δ ⟨q, e, eq⟩ => ?_
  · refine run_while (fun Δ => ∃ q : Nat, Δ = [.v (.str (txt t)), .v (.int (q : Nat)), .v (.str (txt z))] ∧ q ≤ t.length ∧ endOf t q z = endOf t p z) (fun Δ => match Δ with | [_, .v (.int i), _] => t.length - i.toNat | _ => 0) ⟨p, rfl, hp, rfl⟩ ?_
    rintro Δ ⟨q, rfl, hq, eq⟩
    refine ⟨_, et_and1 (a := decide ((q : Int) < t.length)) (b := match t[q]? with | some c => decide (c ∈ z) | Option.none => false) (et1 (ev_ltI (ev_var rfl) (ev_lenT (ev_var rfl) ht))) (fun h1 => ?_), fun hb => ?_, fun hb => ?_⟩
    · have hl : q < t.length := by have := of_decide_eq_true h1; omega
      have e : t[q]? = some t[q] := by simp [hl]
      rw [e]
      exact et1 (ev_inT (ev_ixT (ev_var rfl) (ev_var rfl) ht e) (ev_var rfl))
    · have hb := hb.symm
      rw [Bool.and_eq_true] at hb
      have hl : q < t.length := by have := of_decide_eq_true hb.1; omega
      have e : t[q]? = some t[q] := by simp [hl]
      rw [e] at hb
      refine run_set1 (d := .int ((q : Int) + 1)) (ev_addI (ev_var rfl) ev_int) ⟨⟨q + 1, rfl, hl, by rw [Lex.endOf_step e (of_decide_eq_true hb.2)]; exact eq⟩, ?_⟩
      show t.length - ((q : Int) + 1).toNat < t.length - (q : Int).toNat
      omega
    · refine ⟨q, rfl, ?_⟩
      rw [← eq, Lex.endOf_stop fun c hc hz => ?_]
      have hl := (List.getElem?_eq_some_iff.mp hc).1
      have hb := hb.symm
      rw [hc] at hb
      simp only [hz, decide_true, Bool.and_true] at hb
      have := of_decide_eq_false hb
      omega
  · subst e
    exact run_ret1 (ev_var rfl) (by rw [eq])
theorem Run.rt {F : Fp} {fr : Bool} {ts : TS} {Δ : List Sl} {p q : Po} (h : Run F fr ts Δ p) (h1 : ∀ Δ, p.nx Δ → q.nx Δ) (h2 : ∀ d, p.rt d → q.rt d) (h3 : ∀ Δ, p.bk Δ → q.bk Δ) (h4 : ∀ Δ, p.ct Δ → q.ct Δ) (h5 : ∀ d Δ, p.ro d Δ → q.ro d Δ := by intros; exact True.intro) : Run F fr ts Δ q := fun S0 H0 B S H σ E w g st r =>
  h S0 H0 B S H σ E w g st ⟨fun D S H σ n => r.nx D S H σ (h1 D n), fun d v D S H σ n m => r.rt d v D S H σ (h2 d n) (h5 d D m), fun D S H σ n => r.bk D S H σ (h3 D n), fun D S H σ n => r.ct D S H σ (h4 D n)⟩
theorem ok_end_of {k : Nat} {f : Addr} {fd : FuncData} (T : Tx K mg) (Fu : Fun K "end_of" "end_of" s_end_of f fd) : FnOk P w K mg base CX0 (k + 1) f fd ["text", "place", "signs"] (SpD false false REnd) := by
  refine ok_D Fu sc_end_of (fun ds d ⟨t, z, p, e, _⟩ => by rw [e]; rfl) fun cdv A outer s H E hr => ?_
  have hu2 : (A.deeper (envOfC "end_of" (defScope s_end_of) s.heap.objs.size f cdv)).units + 65 < cLine := by have := hr.un; omega
  refine ⟨_, (pss_cons (ps_while PassesOwn.never (PW.pt (pw_and (pt_cmpR pLt (pv 1) (pe_callB pLen (by rfl) T.n_len (by decide +kernel) (pa_cons (pv 0) pa_nil)) (nomark _)) (pw_and1 (pt_cmpR (pIn hu2) (pe_ix ix_seq (pv 0) (pv 1) (fun _ _ => rfl)) (pv 2) rfl))))
      (pss_one (ps_set (i := 1) sc_end_of.nd rfl (Or.inl rfl) (pe_op pAdd (pv 1) pe_int))))
    (pss_one (ps_ret (pv 1)))), fun F ds hF hR => ?_⟩
  obtain ⟨_, t, z, p, rfl, ht, hp, rfl⟩ := hR
  exact Run.rt (run_end ht hp) (fun _ h => h.elim) (fun d e => ⟨t, z, p, rfl, ht, hp, e⟩) (fun _ h => h.elim) (fun _ h => h.elim)
abbrev s__law_of : Stmt := top 24
theorem sc__law_of : FnScope ["_law_source_here", "_law_some"] ["_law_source_here", "_law_some"] (defScope s__law_of) := ⟨rfl, rfl, rfl, by decide +kernel, rfl, by decide +kernel, by decide +kernel⟩
/-- an item of a list that is not empty -/
def ROf (ds : List D) (d : D) : Prop := ∃ l : List D, ds = [.list l] ∧ 0 < l.length ∧ l.length ≤ 100000 ∧ d ∈ l
theorem ok__law_of {k : Nat} {f : Addr} {fd : FuncData} (T : Tx K mg) (G__law_pick : FnT P w K mg base k "_law_pick" ["_law_source_here", "_law_many"] (SpD true false RPick)) (Fu : Fun K "_law_of" "_law_of" s__law_of f fd) : FnOk P w K mg base CX0 (k + 1) f fd ["_law_source_here", "_law_some"] (SpD true false ROf) := by
  refine ok_D Fu sc__law_of (fun ds d ⟨l, e, _⟩ => by rw [e]; rfl) fun cdv A outer s H E hr => ?_
  refine ⟨_, (pss_one (ps_ret (pe_ix ix_seq (pv 1) (pe_callT G__law_pick hr (pa_cons (pv 0) (pa_cons (pe_callB pLen (by rfl) T.n_len (by decide +kernel) (pa_cons (pv 1) pa_nil)) pa_nil))) (fun _ _ => rfl)))), fun F ds hF hR => ?_⟩
  obtain ⟨_, l, rfl, h0, h1, _⟩ := hR
  refine run_ret (P := fun d => d ∈ l) (ev_op sIx (P1 := fun d => d = .list l) (ev_var rfl) (ev_callS (i := 0) (Pa := fun ds => ds = [.int (l.length : Nat)]) rfl (ea_cons1 (ev_lenL (ev_var rfl)) ea_nil) fun ds e => ⟨.int 0, l.length, 0, e, by omega, by omega, by omega, rfl⟩) ?_) fun d hd => ⟨l, rfl, h0, h1, hd⟩
  rintro x y rfl ⟨ds, rfl, n, r, e, _, h2, h3, rfl⟩
  simp only [List.cons.injEq, and_true, D.int.injEq] at e
  subst e
  have hr : r.toNat < l.length := by omega
  refine ⟨l[r.toNat], ?_, List.getElem_mem hr⟩
  have z : atI l ((r.toNat : Nat) : Int) = some l[r.toNat] := atI_nat (by simp [hr])
  rw [show ((r.toNat : Nat) : Int) = r by omega] at z
  exact z
end
end K14

namespace K14
open PySem L2 PySem.Spec PyProof.Rows Bc
open Lex (endOf run lexAt Lm Lk lexL)
section
variable {P : Program} {w : World} {K : PySem.W.Frag} {mg : Str → Option Value} {base : Heap}
/-! ### lexeme_at -/
def kD : Lk → D
  | .fin => .none
  | .sign => .str "sign"
  | .num => .str "number"
  | .word => .str "word"
  | .bad => .str "none"
def lmD (m : Lm) : D := .tuple [kD m.k, .str (txt m.w), .int (m.p : Nat)]
def RLexAt (ds : List D) (d : D) : Prop := ∃ (t : List Nat) (p : Nat), ds = [.str (txt t), .int (p : Nat)] ∧ Short t ∧ p ≤ t.length ∧ d = lmD (lexAt t p)
theorem lit_blanks : (" \n" : Str) = txt Lex.blanks := by decide +kernel
theorem lit_signs : ("(){},;" : Str) = txt Lex.signs := by decide +kernel
theorem lit_digits : ("0123456789" : Str) = txt Lex.digits := by decide +kernel
theorem lit_letters : ("abcdefghijklmnopqrstuvwxyz" : Str) = txt Lex.letters := by decide +kernel
theorem one_txt (c : Nat) : (⟨#[c]⟩ : Str) = txt [c] := rfl
/-- what lexAt tells at a place where no blank stands -/
theorem lexAt_at {t : List Nat} {p q : Nat} (e : endOf t p Lex.blanks = q) : lexAt t p = ⟨(lexL (t.drop q)).1, (lexL (t.drop q)).2, q⟩ := by
  subst e
  rfl
theorem drop_at {t : List Nat} {q : Nat} {c : Nat} (h : t[q]? = some c) : t.drop q = c :: t.drop (q + 1) := by
  obtain ⟨hl, e⟩ := List.getElem?_eq_some_iff.mp h
  rw [List.drop_eq_getElem_cons hl, e]
theorem take_end (t z : List Nat) (q : Nat) : (t.drop q).take (endOf t q z - q) = (t.drop q).takeWhile fun c => decide (c ∈ z) := by
  unfold Lex.endOf Lex.run
  rw [Nat.add_sub_cancel_left, Lex.takeWhile_take]
abbrev s_lexeme_at : Stmt := top 9
theorem sc_lexeme_at : FnScope ["text", "place", "sign", "run"] ["text", "place"] (defScope s_lexeme_at) := ⟨rfl, rfl, rfl, by decide +kernel, rfl, by decide +kernel, by decide +kernel⟩
theorem ok_lexeme_at {k : Nat} {f : Addr} {fd : FuncData} (T : Tx K mg) (G_end_of : FnT P w K mg base k "end_of" ["text", "place", "signs"] (SpD false false REnd)) (Fu : Fun K "lexeme_at" "lexeme_at" s_lexeme_at f fd) : FnOk P w K mg base CX0 (k + 1) f fd ["text", "place"] (SpD false false RLexAt) := by
  refine ok_D Fu sc_lexeme_at (fun ds d ⟨t, p, e, _⟩ => by rw [e]; rfl) fun cdv A outer s H E hr => ?_
  have hu2 : (A.deeper (envOfC "lexeme_at" (defScope s_lexeme_at) s.heap.objs.size f cdv)).units + 65 < cLine := by have := hr.un; omega
  refine ⟨_, (pss_cons (ps_set (i := 1) sc_lexeme_at.nd rfl (Or.inl rfl) (pe_callT G_end_of hr (pa_cons (pv 0) (pa_cons (pv 1) (pa_cons (pe_gs T.g_BLANKS) pa_nil)))))
    (pss_cons (ps_if (pt_cmpR (pEq hu2) (pv 1) (pe_callB pLen (by rfl) T.n_len (by decide +kernel) (pa_cons (pv 0) pa_nil)) (nomark _))
      (pss_one (ps_ret (pe_tup (pa_cons pe_non (pa_cons pe_str (pa_cons (pv 1) pa_nil))))))
      pss_nil)
    (pss_cons (ps_set (i := 2) sc_lexeme_at.nd rfl (Or.inl rfl) (pe_ix ix_seq (pv 0) (pv 1) (fun _ _ => rfl)))
    (pss_cons (ps_if (pt_cmpR (pIn hu2) (pv 2) (pe_gs T.g_SIGNS) rfl)
      (pss_one (ps_ret (pe_tup (pa_cons pe_str (pa_cons (pv 2) (pa_cons (pv 1) pa_nil))))))
      pss_nil)
    (pss_cons (ps_if (pt_cmpR (pIn hu2) (pv 2) (pe_gs T.g_DIGITS) rfl)
      (pss_one (ps_ret (pe_tup (pa_cons pe_str (pa_cons (pe_ifExp (pt_cmpR (pEq hu2) (pv 2) pe_str (nomark _)) (pv 2) (pe_slice pSl (pv 0) (po_some (pv 1)) (po_some (pe_callT G_end_of hr (pa_cons (pv 0) (pa_cons (pv 1) (pa_cons (pe_gs T.g_DIGITS) pa_nil))))))) (pa_cons (pv 1) pa_nil))))))
      pss_nil)
    (pss_cons (ps_set (i := 3) sc_lexeme_at.nd rfl (Or.inl rfl) (pe_slice pSl (pv 0) (po_some (pv 1)) (po_some (pe_callT G_end_of hr (pa_cons (pv 0) (pa_cons (pv 1) (pa_cons (pe_op pAdd (pe_gs T.g_LETTERS) (pe_gs T.g_DIGITS)) pa_nil)))))))
    (pss_cons (ps_if (pt_cmpR pNotInRng (pe_callB pLen (by rfl) T.n_len (by decide +kernel) (pa_cons (pv 3) pa_nil)) (pe_callTy cr_range2 (by rfl) T.n_range (by decide +kernel) (pa_cons pe_int (pa_cons pe_int pa_nil))) rfl)
      (pss_one (ps_ret (pe_tup (pa_cons pe_str (pa_cons pe_str (pa_cons (pv 1) pa_nil))))))
      pss_nil)
    (pss_one (ps_ret (pe_tup (pa_cons pe_str (pa_cons (pv 3) (pa_cons (pv 1) pa_nil))))))))))))), fun F ds hF hR => ?_⟩
  obtain ⟨_, t, p, rfl, ht, hp, rfl⟩ := hR
  have hq := Lex.endOf_le (z := Lex.blanks) hp
  generalize eq : endOf t p Lex.blanks = q at hq
  have fin : ∀ {k : Lk} {wd : List Nat} {d : D}, d = .tuple [kD k, .str (txt wd), .int (q : Nat)] → lexL (t.drop q) = (k, wd) → RLexAt [.str (txt t), .int (p : Nat)] d := fun {k wd d} e1 e2 => ⟨t, p, rfl, ht, hp, by rw [e1, lexAt_at eq, e2]; rfl⟩
  refine run_set (d := .int (q : Nat)) (eq ▸ ev_end (ev_var rfl) (ev_var rfl) (ev_str.eq (congrArg D.str lit_blanks)) ht hp) ?_
  refine run_if1S (et1 (ev_eqI (ev_var rfl) (ev_lenT (ev_var rfl) ht))) (fun hb => ?_) fun hb => ?_
  · have e : q = t.length := by have := of_decide_eq_true hb; omega
    exact run_ret1S (ev_tup (ea_cons1 ev_non (ea_cons1 ev_str (ea_cons1 (ev_var rfl) ea_nil)))) (fin (k := .fin) (wd := []) rfl (by rw [e, List.drop_length]; rfl))
  refine run_nextS ?_
  have hl : q < t.length := by have := of_decide_eq_false hb; omega
  have hc : t[q]? = some t[q] := by simp [hl]
  generalize t[q] = c at hc
  have hd := drop_at hc
  refine run_set (ev_ixT (ev_var rfl) (ev_var rfl) ht hc) ?_
  refine run_if1S (et1 (ev_inT (b := Lex.signs) (ev_var rfl) (ev_str.eq (congrArg D.str lit_signs)))) (fun hb => ?_) fun hb => ?_
  · exact run_ret1S (ev_tup (ea_cons1 ev_str (ea_cons1 (ev_var rfl) (ea_cons1 (ev_var rfl) ea_nil)))) (fin (k := .sign) (wd := [c]) rfl (by rw [hd]; exact Lex.lexL_sign (of_decide_eq_true hb)))
  refine run_nextS ?_
  have n1 : c ∉ Lex.signs := of_decide_eq_false hb
  refine run_if1S (et1 (ev_inT (b := Lex.digits) (ev_var rfl) (ev_str.eq (congrArg D.str lit_digits)))) (fun hb => ?_) fun hb => ?_
  · have n2 : c ∈ Lex.digits := of_decide_eq_true hb
    refine run_ret1S (ev_tup (ea_cons1 ev_str (ea_cons1 (ev_if (P := fun d => d = .str (txt (lexL (t.drop q)).2)) (et1 (ev_eqZ (ev_var rfl) ev_str)) (fun h => ?_) fun h => ?_) (ea_cons1 (ev_var rfl) ea_nil)))) (fin (k := .num) (wd := (lexL (t.drop q)).2) rfl ?_)
    · have h3 : c = 48 := by
        have z : txt [c] = txt [48] := of_decide_eq_true h.symm
        simpa using txt_inj z
      refine (ev_var rfl : Ev1 F _ _ _).eq ?_
      rw [hd, Lex.lexL_zero h3, h3]
      rfl
    · have h3 : c ≠ 48 := fun e => by
        have := of_decide_eq_false h.symm
        rw [e] at this
        exact this rfl
      refine (ev_slT (ev_var rfl) (ev_var rfl) (ev_end (z := Lex.digits) (ev_var rfl) (ev_var rfl) (ev_str.eq (congrArg D.str lit_digits)) ht hq) ht hq (Lex.endOf_le hq)).eq ?_
      rw [take_end, hd, Lex.lexL_num n1 n2 h3]
    · rw [hd]
      by_cases h3 : c = 48
      · rw [Lex.lexL_zero h3]
      · rw [Lex.lexL_num n1 n2 h3]
  refine run_nextS ?_
  have n2 : c ∉ Lex.digits := of_decide_eq_false hb
  have hw := Lex.lexL_else (r := t.drop (q + 1)) n1 n2
  rw [← hd] at hw
  have hz : ((t.drop q).takeWhile fun c => decide (c ∈ Lex.letters ++ Lex.digits)).length ≤ 100000 := by
    have := (List.takeWhile_sublist (l := t.drop q) fun c => decide (c ∈ Lex.letters ++ Lex.digits)).length_le
    rw [List.length_drop] at this
    have : t.length ≤ 100000 := ht
    omega
  refine run_set (d := .str (txt ((t.drop q).takeWhile fun c => decide (c ∈ Lex.letters ++ Lex.digits)))) ((ev_slT (ev_var rfl) (ev_var rfl) (ev_end (z := Lex.letters ++ Lex.digits) (ev_var rfl) (ev_var rfl) (ev_addS (a := Lex.letters) (b := Lex.digits) (ev_str.eq (congrArg D.str lit_letters)) (ev_str.eq (congrArg D.str lit_digits)) (by decide)) ht hq) ht hq (Lex.endOf_le hq)).eq (by rw [take_end])) ?_
  generalize (t.drop q).takeWhile (fun c => decide (c ∈ Lex.letters ++ Lex.digits)) = wd at hw hz
  refine run_if1S (et1 (ev_rng (neg := true) (ev_lenT (ev_var rfl) hz) ev_int ev_int)) (fun hb => ?_) fun hb => ?_
  · refine run_ret1S (ev_tup (ea_cons1 ev_str (ea_cons1 ev_str (ea_cons1 (ev_var rfl) ea_nil)))) (fin (k := .bad) (wd := []) rfl ?_)
    rw [hw, if_neg]
    simp at hb
    omega
  · refine run_nextS (run_ret1 (ev_tup (ea_cons1 ev_str (ea_cons1 (ev_var rfl) (ea_cons1 (ev_var rfl) ea_nil)))) (fin (k := .word) (wd := wd) rfl ?_))
    rw [hw, if_pos]
    simp at hb
    omega
end
end K14

namespace K14
open PySem L2 PySem.Spec PyProof.Rows Bc
open Lex (endOf run lexAt Lm Lk lexL lexF blanks)
/-! ### the reader: a lexer stands at a lexeme -/
def kS : Lk → Str
  | .fin => "" | .sign => "sign" | .num => "number" | .word => "word" | .bad => "none"
theorem kD_S {k : Lk} (h : k ≠ .fin) : kD k = .str (kS k) := by
  cases k <;> first | rfl | exact absurd rfl h
theorem kD_isN (k : Lk) : (!(kD k).isN) = !decide (k = .fin) := by cases k <;> rfl
theorem kD_inj {a b : Lk} (h : kD a = kD b) : a = b := by
  cases a <;> cases b <;> first | rfl | (simp only [kD] at h; first | (cases h; done) | (injection h with h; exact absurd h (by decide +kernel)))
theorem lmD_inj {a b : Lm} (h : lmD a = lmD b) : a = b := by
  obtain ⟨k, w, p⟩ := a
  obtain ⟨k', w', p'⟩ := b
  simp only [lmD, D.tuple.injEq, List.cons.injEq, D.str.injEq, txt_iff, nat_iff, and_true] at h
  obtain ⟨h1, h2, h3⟩ := h
  rw [kD_inj h1, h2, h3]
theorem ev_lexeme_at {F : Fp} {Δ : List Sl} {ta tb : TE} {t : List Nat} {p : Nat} {E : XK} (ha : Ev1 F ta Δ (.str (txt t))) (hb : Ev1 F tb Δ (.int (p : Nat))) (ht : Short t) (hp : p ≤ t.length) :
    Ev1 F (tCall (SpD false false RLexAt) [] E (tCons ta (tCons tb tNil))) Δ (lmD (lexAt t p)) := ev_call1 (ea_cons1 ha (ea_cons1 hb ea_nil)) ⟨t, p, rfl, ht, hp, rfl⟩ fun e ⟨t', p', h1, _, _, h2⟩ => by
  simp only [List.cons.injEq, D.str.injEq, txt_iff, nat_iff, and_true] at h1
  obtain ⟨rfl, rfl⟩ := h1
  exact h2
abbrev LxS (t : List Nat) (m : Lm) : FS := [("text", .str (txt t)), ("now", lmD m)]
theorem lxs_inj {t t' : List Nat} {m m' : Lm} (h : LxS t m = LxS t' m') : t = t' ∧ m = m' := by
  simp only [LxS, List.cons.injEq, Prod.mk.injEq, D.str.injEq, txt_iff, and_true, true_and] at h
  exact ⟨h.1, lmD_inj h.2⟩
/-- the place behind a lexeme -/
abbrev nx (m : Lm) : Nat := m.p + m.w.length
/-- from the lexeme m on the lexemes ls are left -/
def Rem (t : List Nat) (m : Lm) (ls : List Lm) : Prop := ∃ p, p ≤ t.length ∧ m = lexAt t p ∧ lexF t p = .ok ls
theorem rem_cons {t : List Nat} {m m' : Lm} {ls : List Lm} (h : Rem t m (m' :: ls)) : m' = m ∧ m.k ≠ .fin ∧ m.k ≠ .bad ∧ nx m ≤ t.length ∧ Rem t (lexAt t (nx m)) ls := by
  obtain ⟨p, hp, rfl, h⟩ := h
  have k1 : (lexAt t p).k ≠ .fin := fun e => by rw [Lex.lexF_fin e] at h; cases h
  have k2 : (lexAt t p).k ≠ .bad := fun e => by rw [Lex.lexF_bad e] at h; cases h
  rw [Lex.lexF_step hp k1 k2] at h
  have hl := (Lex.lexAt_len t hp).2
  cases e : lexF t (nx (lexAt t p)) with
  | error q => rw [e] at h; cases h
  | ok l =>
    rw [e] at h
    cases h
    exact ⟨rfl, k1, k2, hl, _, hl, rfl, e⟩
theorem rem_nil {t : List Nat} {m : Lm} (h : Rem t m []) : m.k = .fin := by
  obtain ⟨p, hp, rfl, h⟩ := h
  refine Classical.byContradiction fun k1 => ?_
  have k2 : (lexAt t p).k ≠ .bad := fun e => by rw [Lex.lexF_bad e] at h; cases h
  rw [Lex.lexF_step hp k1 k2] at h
  cases e : lexF t (nx (lexAt t p)) with
  | error q => rw [e] at h; cases h
  | ok l => rw [e] at h; cases h
theorem rem_w {t : List Nat} {m : Lm} {ls : List Lm} (ht : Short t) (h : Rem t m ls) : m.w.length ≤ 100000 := by
  obtain ⟨p, hp, rfl, _⟩ := h
  have := (Lex.lexAt_len t hp).2
  have : t.length ≤ 100000 := ht
  omega
/-- the class that a name of the top means -/
def clsOf (mg : Str → Option Value) (x : Str) : Addr := match mg x with | some (.ref a) => a | _ => 0
structure Tz (K : PySem.W.Frag) (mg : Str → Option Value) : Prop where
  c_Lexer : Cls K (clsOf mg "Lexer")
  a_text : NoAttr K (clsOf mg "Lexer") "text"
  a_now : NoAttr K (clsOf mg "Lexer") "now"
section
variable {P : Program} {w : World} {K : PySem.W.Frag} {mg : Str → Option Value} {base : Heap}
def RInit (fs : FS) (ds : List D) (d : D) (fs' : FS) : Prop := ∃ t : List Nat, fs = [] ∧ ds = [.str (txt t)] ∧ Short t ∧ d = .none ∧ fs' = LxS t (lexAt t 0)
abbrev s_Lexer___init__ : Stmt := inClass (top 11) 0
theorem sc_Lexer___init__ : FnScope ["self", "text"] ["self", "text"] (defScope s_Lexer___init__) := ⟨rfl, rfl, rfl, by decide +kernel, rfl, by decide +kernel, by decide +kernel⟩
theorem ok_Lexer_init {k : Nat} {f : Addr} {fd : FuncData} (T : Tx K mg) (U : Tz K mg) (G_lexeme_at : FnT P w K mg base k "lexeme_at" ["text", "place"] (SpD false false RLexAt)) (Fu : Fun K "__init__" "Lexer.__init__" s_Lexer___init__ f fd) : FnOk P w K mg base CX0 (k + 1) f fd ["self", "text"] (SpO (clsOf mg "Lexer") false RInit) := by
  refine ok_O Fu sc_Lexer___init__ (fun fs ds d fs' ⟨t, _, e, _⟩ => by rw [e]; rfl) fun cdv A outer s H E hr => ?_
  refine ⟨_, (pss_cons (ps_fld (pv 0) (pv 1) rfl)
    (pss_one (ps_fld (pv 0) (pe_callT G_lexeme_at hr (pa_cons (pv 1) (pa_cons pe_int pa_nil))) rfl))), fun a dx fs ds hR => ?_⟩
  obtain ⟨_, _, t, rfl, rfl, ht, rfl, rfl⟩ := hR
  refine run_fldMS U.c_Lexer U.a_text (ev_var (d := .str (txt t)) rfl).m fun d Δ' ⟨e1, e2⟩ => ⟨[], by rw [e2]; rfl, by rw [e2]; rfl, by decide, ?_⟩
  subst e1 e2
  refine run_fldM U.c_Lexer U.a_now (ev_lexeme_at (p := 0) (t := t) (ev_var rfl) ev_int ht (Nat.zero_le _)).m fun d Δ' ⟨e1, e2⟩ => ⟨[("text", .str (txt t))], by rw [e2]; rfl, by rw [e2]; rfl, by show 1 < 1000; decide, ?_⟩
  subst e1 e2
  exact ⟨rfl, _, rfl, t, rfl, rfl, ht, rfl, rfl⟩
def RNext (fs : FS) (ds : List D) (d : D) (fs' : FS) : Prop := ∃ (t : List Nat) (m : Lm) (w : List Nat), fs = LxS t m ∧ ds = [.str (txt w)] ∧ d = .bool (decide (m.w = w)) ∧ fs' = LxS t m
abbrev s_Lexer_is_next : Stmt := inClass (top 11) 2
theorem sc_Lexer_is_next : FnScope ["self", "lexeme"] ["self", "lexeme"] (defScope s_Lexer_is_next) := ⟨rfl, rfl, rfl, by decide +kernel, rfl, by decide +kernel, by decide +kernel⟩
theorem ok_Lexer_is_next {k : Nat} {f : Addr} {fd : FuncData} (T : Tx K mg) (U : Tz K mg) (Fu : Fun K "is_next" "Lexer.is_next" s_Lexer_is_next f fd) : FnOk P w K mg base CX0 (k + 1) f fd ["self", "lexeme"] (SpO (clsOf mg "Lexer") false RNext) := by
  refine ok_O Fu sc_Lexer_is_next (fun fs ds d fs' ⟨t, m, w, _, e, _⟩ => by rw [e]; rfl) fun cdv A outer s H E hr => ?_
  have hu2 : (A.deeper (envOfC "Lexer.is_next" (defScope s_Lexer_is_next) s.heap.objs.size f cdv)).units + 65 < cLine := by have := hr.un; omega
  refine ⟨_, (pss_one (ps_ret (pe_cmpR (qEq (K := K) hu2) (pe_ix (qIx (K := K)) (pe_fld (pv 0) rfl) pe_int (fun _ _ => rfl)) (pv 1) (nomark _)))), fun a dx fs ds hR => ?_⟩
  obtain ⟨_, _, t, m, w, rfl, rfl, rfl, rfl⟩ := hR
  refine run_ret (P := fun d => d = .bool (decide (m.w = w))) ((ev_eqZ (ev_ixU (q := 1) (ev_fldO rfl U.c_Lexer U.a_now rfl) ev_int rfl) (ev_var rfl)).eq (congrArg D.bool (by simp only [txt_iff]))) (fun _ _ => trivial) fun d e => ⟨_, rfl, t, m, w, rfl, rfl, e, rfl⟩
def RGo (fs : FS) (ds : List D) (d : D) (fs' : FS) : Prop := ∃ (t : List Nat) (m : Lm) (ls : List Lm), fs = LxS t m ∧ Short t ∧ Rem t m (m :: ls) ∧ ds = [] ∧ d = .str (txt m.w) ∧ fs' = LxS t (lexAt t (nx m))
abbrev s_Lexer_go : Stmt := inClass (top 11) 3
theorem sc_Lexer_go : FnScope ["self", "lexeme"] ["self"] (defScope s_Lexer_go) := ⟨rfl, rfl, rfl, by decide +kernel, rfl, by decide +kernel, by decide +kernel⟩
theorem ok_Lexer_go {k : Nat} {f : Addr} {fd : FuncData} (T : Tx K mg) (U : Tz K mg) (G_lexeme_at : FnT P w K mg base k "lexeme_at" ["text", "place"] (SpD false false RLexAt)) (Fu : Fun K "go" "Lexer.go" s_Lexer_go f fd) : FnOk P w K mg base CX0 (k + 1) f fd ["self"] (SpO (clsOf mg "Lexer") false RGo) := by
  refine ok_O Fu sc_Lexer_go (fun fs ds d fs' ⟨t, m, ls, _, _, _, e, _⟩ => by rw [e]; rfl) fun cdv A outer s H E hr => ?_
  refine ⟨_, (pss_cons (ps_set (i := 1) sc_Lexer_go.nd rfl (Or.inl rfl) (pe_ix (qIx (K := K)) (pe_fld (pv 0) rfl) pe_int (fun _ _ => rfl)))
    (pss_cons (ps_fld (pv 0) (pe_callT G_lexeme_at hr (pa_cons (pe_fld (pv 0) rfl) (pa_cons (pe_op (qAdd (K := K)) (pe_ix (qIx (K := K)) (pe_fld (pv 0) rfl) pe_int (fun _ _ => rfl)) (pe_callB (qLen (K := K)) (by rfl) T.n_len (by decide +kernel) (pa_cons (pv 1) pa_nil))) pa_nil))) rfl)
    (pss_one (ps_ret (pv 1))))), fun a dx fs ds hR => ?_⟩
  obtain ⟨_, _, t, m, ls, rfl, ht, hm, rfl, rfl, rfl⟩ := hR
  obtain ⟨_, _, _, hn, _⟩ := rem_cons hm
  have hw := rem_w ht hm
  refine run_set (ev_ixU (q := 1) (ev_fldO rfl U.c_Lexer U.a_now rfl) ev_int rfl) ?_
  refine run_fldMS U.c_Lexer U.a_now (ev_lexeme_at (p := nx m) (t := t) (ev_fldO rfl U.c_Lexer U.a_text rfl) ((ev_addI (ev_ixU (q := 2) (ev_fldO rfl U.c_Lexer U.a_now rfl) ev_int rfl) (ev_lenT (ev_var rfl) hw)).eq (by simp)) ht hn).m fun d Δ' ⟨e1, e2⟩ => ⟨LxS t m, by rw [e2]; rfl, by rw [e2]; rfl, by show 2 < 1000; decide, ?_⟩
  subst e1 e2
  exact run_ret1 (ev_var rfl) trivial ⟨_, rfl, t, m, ls, rfl, ht, hm, rfl, rfl, rfl⟩
def RNone (fs : FS) (ds : List D) (d : D) (fs' : FS) : Prop := False
def RTake (fs : FS) (ds : List D) (d : D) (fs' : FS) : Prop := ∃ (t : List Nat) (m : Lm) (ls : List Lm), fs = LxS t m ∧ Short t ∧ Rem t m (m :: ls) ∧ ds = [.str (txt m.w)] ∧ d = .none ∧ fs' = LxS t (lexAt t (nx m))
section
variable {F : Fp} {Δ : List Sl} {i : Nat} {a dx C : Addr} {t : List Nat} {m : Lm} {ls : List Lm} {E : XK} {ta : TE}
theorem em_next {w : List Nat} (hi : Δ[i]? = some (.ob a dx C (LxS t m))) (h1 : ob1 i Δ = true) (h : Ev1 F ta Δ (.str (txt w))) : EvM F (tMeth C "is_next" (SpO C false RNext) [] E (tVar i) (tCons ta tNil)) Δ fun d Δ' => d = .bool (decide (m.w = w)) ∧ Δ' = Δ.set i (.ob a dx C (LxS t m)) :=
  (evm_meth hi h1 rfl (ea_cons1 h ea_nil) fun ds e => ⟨_, _, t, m, w, rfl, e, rfl, rfl⟩).imp fun d Δ' ⟨ds, fs', e, ⟨t', m', w', h1, h2, h3, h4⟩, h5⟩ => by
    obtain ⟨rfl, rfl⟩ := lxs_inj h1
    rw [e] at h2
    simp only [List.cons.injEq, D.str.injEq, txt_iff, and_true] at h2
    subst h2
    exact ⟨h3, by rw [h5, h4]⟩
theorem et_next {w : List Nat} (hi : Δ[i]? = some (.ob a dx C (LxS t m))) (h1 : ob1 i Δ = true) (h : Ev1 F ta Δ (.str (txt w))) : EvTM F (tB (tMeth C "is_next" (SpO C false RNext) [] E (tVar i) (tCons ta tNil))) Δ fun b Δ' => b = decide (m.w = w) ∧ Δ' = Δ.set i (.ob a dx C (LxS t m)) :=
  etm_B ((em_next hi h1 h).imp fun d Δ' ⟨e1, e2⟩ => ⟨_, e1, rfl, e2⟩)
theorem etm_notI {tt : TT} {P Q : Bool → List Sl → Prop} (h : EvTM F tt Δ P) (i : ∀ b Δ', P b Δ' → Q (!b) Δ') : EvTM F (tNot tt) Δ Q :=
  (etm_not (Pb := fun b Δ' => P b Δ') h |> fun z => z) |> fun z => EvTM.imp (P := fun b Δ' => P (!b) Δ') z fun b Δ' p => by
    have := i (!b) Δ' p
    rw [Bool.not_not] at this
    exact this
theorem em_go (ht : Short t) (hm : Rem t m (m :: ls)) (hi : Δ[i]? = some (.ob a dx C (LxS t m))) (h1 : ob1 i Δ = true) : EvM F (tMeth C "go" (SpO C false RGo) [] E (tVar i) tNil) Δ fun d Δ' => d = .str (txt m.w) ∧ Δ' = Δ.set i (.ob a dx C (LxS t (lexAt t (nx m)))) :=
  (evm_meth hi h1 rfl ea_nil fun ds e => ⟨_, _, t, m, ls, rfl, ht, hm, e, rfl, rfl⟩).imp fun d Δ' ⟨ds, fs', e, ⟨t', m', ls', h1, _, _, _, h3, h4⟩, h5⟩ => by
    obtain ⟨rfl, rfl⟩ := lxs_inj h1
    exact ⟨h3, by rw [h5, h4]⟩
theorem em_take {w : List Nat} (hw : m.w = w) (ht : Short t) (hm : Rem t m (m :: ls)) (hi : Δ[i]? = some (.ob a dx C (LxS t m))) (h1 : ob1 i Δ = true) (h : Ev1 F ta Δ (.str (txt w))) : EvM F (tMeth C "take" (SpO C false RTake) [] E (tVar i) (tCons ta tNil)) Δ fun d Δ' => Δ' = Δ.set i (.ob a dx C (LxS t (lexAt t (nx m)))) :=
  (evm_meth hi h1 rfl (ea_cons1 h ea_nil) fun ds e => ⟨_, _, t, m, ls, rfl, ht, hm, by rw [e, hw], rfl, rfl⟩).imp fun d Δ' ⟨ds, fs', e, ⟨t', m', ls', h1, _, _, _, _, h4⟩, h5⟩ => by
    obtain ⟨rfl, rfl⟩ := lxs_inj h1
    rw [h5, h4]
end
abbrev s_Lexer_take : Stmt := inClass (top 11) 4
theorem sc_Lexer_take : FnScope ["self", "lexeme"] ["self", "lexeme"] (defScope s_Lexer_take) := ⟨rfl, rfl, rfl, by decide +kernel, rfl, by decide +kernel, by decide +kernel⟩
theorem ok_Lexer_take {k : Nat} {f : Addr} {fd : FuncData} (T : Tx K mg) (U : Tz K mg) (M_is_next : MethT P w K mg base k (clsOf mg "Lexer") "is_next" ["self", "lexeme"] (SpO (clsOf mg "Lexer") false RNext)) (M_go : MethT P w K mg base k (clsOf mg "Lexer") "go" ["self"] (SpO (clsOf mg "Lexer") false RGo)) (M_fail : MethT P w K mg base k (clsOf mg "Lexer") "fail" ["self"] (SpO (clsOf mg "Lexer") false RNone)) (Fu : Fun K "take" "Lexer.take" s_Lexer_take f fd) : FnOk P w K mg base CX0 (k + 1) f fd ["self", "lexeme"] (SpO (clsOf mg "Lexer") false RTake) := by
  refine ok_O Fu sc_Lexer_take (fun fs ds d fs' ⟨t, m, ls, _, _, _, e, _⟩ => by rw [e]; rfl) fun cdv A outer s H E hr => ?_
  refine ⟨_, (pss_cons (ps_if (pt_not (pt_val (pe_methT M_is_next hr (pv 0) (pa_cons (pv 1) pa_nil))))
      (pss_one (ps_expr (pe_methT0 M_fail hr (pv 0))))
      pss_nil)
    (pss_one (ps_expr (pe_methT0 M_go hr (pv 0))))), fun a dx fs ds hR => ?_⟩
  obtain ⟨_, _, t, m, ls, rfl, ht, hm, rfl, rfl, rfl⟩ := hR
  refine run_ifMS (Pb := fun b Δ' => b = false ∧ Δ' = iniO 2 a dx (clsOf mg "Lexer") (LxS t m) [.str (txt m.w)]) (etm_notI (et_next (i := 0) (w := m.w) rfl rfl (ev_var rfl)) fun b Δ' h => ?_) (fun Δ' h => nomatch h.1) fun Δ' h => ?_
  · obtain ⟨e1, e2⟩ := h
    rw [decide_eq_true rfl] at e1
    rw [e1, e2]
    exact ⟨rfl, rfl⟩
  · rw [h.2]
    refine run_nextS (run_dropM (em_go (i := 0) ht hm rfl rfl) fun d Δ' ⟨_, e2⟩ => ?_)
    rw [e2]
    exact ⟨rfl, _, rfl, t, m, ls, rfl, ht, hm, rfl, rfl, rfl⟩
end
end K14

namespace K14
open PySem L2 PySem.Spec PyProof.Rows Bc
open Lex (endOf run lexAt Lm Lk lexL lexF blanks)
section
variable {P : Program} {w : World} {K : PySem.W.Frag} {mg : Str → Option Value} {base : Heap}
theorem ok_Lexer_fail {k : Nat} {f : Addr} {fd : FuncData} {ps : List Str} {C : Addr} : FnOk P w K mg base CX0 k f fd ps (SpO C false RNone) :=
  ⟨fun vs H Q E h => by obtain ⟨_, _, _, _, _, _, _, _, _, _, _, _, _, _, _, ⟨_, _, h⟩, _⟩ := h; exact h.elim, fun A outer s H args us vs Q E _ _ _ _ h => by obtain ⟨_, _, _, _, _, _, _, _, _, _, _, _, _, _, _, ⟨_, _, h⟩, _⟩ := h; exact h.elim⟩
def RWord (fs : FS) (ds : List D) (d : D) (fs' : FS) : Prop := ∃ (t : List Nat) (m : Lm) (ls : List Lm), fs = LxS t m ∧ Short t ∧ Rem t m (m :: ls) ∧ m.k = .word ∧ ds = [] ∧ d = .str (txt m.w) ∧ fs' = LxS t (lexAt t (nx m))
def RNumber (fs : FS) (ds : List D) (d : D) (fs' : FS) : Prop := ∃ (t : List Nat) (m : Lm) (ls : List Lm) (n : Int), fs = LxS t m ∧ Short t ∧ Rem t m (m :: ls) ∧ m.k = .num ∧ PySem.intText? (txt m.w) = some n ∧ m.w.length ≤ 640 ∧ ds = [] ∧ d = .int n ∧ fs' = LxS t (lexAt t (nx m))
def RFinish (fs : FS) (ds : List D) (d : D) (fs' : FS) : Prop := ∃ (t : List Nat) (m : Lm), fs = LxS t m ∧ Rem t m [] ∧ ds = [] ∧ d = .none ∧ fs' = LxS t m
abbrev s_Lexer_word : Stmt := inClass (top 11) 5
theorem sc_Lexer_word : FnScope ["self"] ["self"] (defScope s_Lexer_word) := ⟨rfl, rfl, rfl, by decide +kernel, rfl, by decide +kernel, by decide +kernel⟩
theorem ok_Lexer_word {k : Nat} {f : Addr} {fd : FuncData} (T : Tx K mg) (U : Tz K mg) (M_go : MethT P w K mg base k (clsOf mg "Lexer") "go" ["self"] (SpO (clsOf mg "Lexer") false RGo)) (M_fail : MethT P w K mg base k (clsOf mg "Lexer") "fail" ["self"] (SpO (clsOf mg "Lexer") false RNone)) (Fu : Fun K "word" "Lexer.word" s_Lexer_word f fd) : FnOk P w K mg base CX0 (k + 1) f fd ["self"] (SpO (clsOf mg "Lexer") false RWord) := by
  refine ok_O Fu sc_Lexer_word (fun fs ds d fs' ⟨t, m, ls, _, _, _, _, e, _⟩ => by rw [e]; rfl) fun cdv A outer s H E hr => ?_
  have hu2 : (A.deeper (envOfC "Lexer.word" (defScope s_Lexer_word) s.heap.objs.size f cdv)).units + 65 < cLine := by have := hr.un; omega
  refine ⟨_, (pss_cons (ps_if (pt_cmpR (qNe (K := K) hu2) (pe_ix (qIx (K := K)) (pe_fld (pv 0) rfl) pe_int (fun _ _ => rfl)) pe_str (nomark _))
      (pss_one (ps_expr (pe_methT0 M_fail hr (pv 0))))
      pss_nil)
    (pss_one (ps_ret (pe_methT0 M_go hr (pv 0))))), fun a dx fs ds hR => ?_⟩
  obtain ⟨_, _, t, m, ls, rfl, ht, hm, hk, rfl, rfl, rfl⟩ := hR
  refine run_if1S (b := false) (et_test1 ((ev_neZ ((ev_ixU (q := 0) (ev_fldO rfl U.c_Lexer U.a_now rfl) ev_int rfl).eq (show kD m.k = .str "word" by rw [hk]; rfl)) ev_str).eq (congrArg D.bool (by decide +kernel)))) (fun h => nomatch h) fun _ => run_nextS ?_
  exact run_retM (em_go (i := 0) ht hm rfl rfl) fun d Δ' ⟨e1, e2⟩ => ⟨trivial, by rw [e2]; exact ⟨_, rfl, t, m, ls, rfl, ht, hm, hk, rfl, e1, rfl⟩⟩
abbrev s_Lexer_number : Stmt := inClass (top 11) 6
theorem sc_Lexer_number : FnScope ["self"] ["self"] (defScope s_Lexer_number) := ⟨rfl, rfl, rfl, by decide +kernel, rfl, by decide +kernel, by decide +kernel⟩
theorem ok_Lexer_number {k : Nat} {f : Addr} {fd : FuncData} (T : Tx K mg) (U : Tz K mg) (M_go : MethT P w K mg base k (clsOf mg "Lexer") "go" ["self"] (SpO (clsOf mg "Lexer") false RGo)) (M_fail : MethT P w K mg base k (clsOf mg "Lexer") "fail" ["self"] (SpO (clsOf mg "Lexer") false RNone)) (Fu : Fun K "number" "Lexer.number" s_Lexer_number f fd) : FnOk P w K mg base CX0 (k + 1) f fd ["self"] (SpO (clsOf mg "Lexer") false RNumber) := by
  refine ok_O Fu sc_Lexer_number (fun fs ds d fs' ⟨t, m, ls, n, _, _, _, _, _, _, e, _⟩ => by rw [e]; rfl) fun cdv A outer s H E hr => ?_
  have hu2 : (A.deeper (envOfC "Lexer.number" (defScope s_Lexer_number) s.heap.objs.size f cdv)).units + 65 < cLine := by have := hr.un; omega
  refine ⟨_, (pss_cons (ps_if (pt_cmpR (qNe (K := K) hu2) (pe_ix (qIx (K := K)) (pe_fld (pv 0) rfl) pe_int (fun _ _ => rfl)) pe_str (nomark _))
      (pss_one (ps_expr (pe_methT0 M_fail hr (pv 0))))
      pss_nil)
    (pss_one (ps_ret (pe_callTy pInt (by rfl) T.n_int (by decide +kernel) (pa_cons (pe_methT0 M_go hr (pv 0)) pa_nil))))), fun a dx fs ds hR => ?_⟩
  obtain ⟨_, _, t, m, ls, n, rfl, ht, hm, hk, hn, hl, rfl, rfl, rfl⟩ := hR
  refine run_if1S (b := false) (et_test1 ((ev_neZ ((ev_ixU (q := 0) (ev_fldO rfl U.c_Lexer U.a_now rfl) ev_int rfl).eq (show kD m.k = .str "number" by rw [hk]; rfl)) ev_str).eq (congrArg D.bool (by decide +kernel)))) (fun h => nomatch h) fun _ => run_nextS ?_
  refine run_retM (evm_cb (P2 := fun d Δ' => d = .int n ∧ Δ' = [.ob a dx (clsOf mg "Lexer") (LxS t (lexAt t (nx m)))]) sIntC (eam_cons (Pr := fun d Δ' r Δ'' => r = [] ∧ Δ'' = Δ') (em_go (i := 0) ht hm rfl rfl) fun d Δ' _ => eam_nil) fun ds Δ' h => ?_) fun d Δ' ⟨e1, e2⟩ => ⟨trivial, by rw [e2]; exact ⟨_, rfl, t, m, ls, n, rfl, ht, hm, hk, hn, hl, rfl, e1, rfl⟩⟩
  obtain ⟨d, Δ1, r, rfl, ⟨rfl, rfl⟩, rfl, rfl⟩ := h
  exact ⟨.int n, ⟨by rw [txt_len]; exact hl, n, hn, rfl⟩, rfl, rfl⟩
abbrev s_Lexer_finish : Stmt := inClass (top 11) 7
theorem sc_Lexer_finish : FnScope ["self"] ["self"] (defScope s_Lexer_finish) := ⟨rfl, rfl, rfl, by decide +kernel, rfl, by decide +kernel, by decide +kernel⟩
theorem ok_Lexer_finish {k : Nat} {f : Addr} {fd : FuncData} (T : Tx K mg) (U : Tz K mg) (M_fail : MethT P w K mg base k (clsOf mg "Lexer") "fail" ["self"] (SpO (clsOf mg "Lexer") false RNone)) (Fu : Fun K "finish" "Lexer.finish" s_Lexer_finish f fd) : FnOk P w K mg base CX0 (k + 1) f fd ["self"] (SpO (clsOf mg "Lexer") false RFinish) := by
  refine ok_O Fu sc_Lexer_finish (fun fs ds d fs' ⟨t, m, _, _, e, _⟩ => by rw [e]; rfl) fun cdv A outer s H E hr => ?_
  refine ⟨_, (pss_one (ps_if (pt_cmpR op_notN (pe_ix (qIx (K := K)) (pe_fld (pv 0) rfl) pe_int (fun _ _ => rfl)) pe_non (nomark _))
      (pss_one (ps_expr (pe_methT0 M_fail hr (pv 0))))
      pss_nil)), fun a dx fs ds hR => ?_⟩
  obtain ⟨_, _, t, m, rfl, hm, rfl, rfl, rfl⟩ := hR
  have hk := rem_nil hm
  refine run_if (Pb := fun b => b = false) (et_test1 ((ev_notN (ev_ixU (q := 0) (ev_fldO rfl U.c_Lexer U.a_now rfl) ev_int rfl)).eq (by rw [hk]; rfl))) (fun h => nomatch h) fun _ => run_next ⟨rfl, _, rfl, t, m, rfl, hm, rfl, rfl, rfl⟩
section
variable {F : Fp} {Δ : List Sl} {i : Nat} {a dx C : Addr} {t : List Nat} {m : Lm} {ls : List Lm} {E : XK} {ta : TE}
theorem em_word (hk : m.k = .word) (ht : Short t) (hm : Rem t m (m :: ls)) (hi : Δ[i]? = some (.ob a dx C (LxS t m))) (h1 : ob1 i Δ = true) : EvM F (tMeth C "word" (SpO C false RWord) [] E (tVar i) tNil) Δ fun d Δ' => d = .str (txt m.w) ∧ Δ' = Δ.set i (.ob a dx C (LxS t (lexAt t (nx m)))) :=
  (evm_meth hi h1 rfl ea_nil fun ds e => ⟨_, _, t, m, ls, rfl, ht, hm, hk, e, rfl, rfl⟩).imp fun d Δ' ⟨ds, fs', e, ⟨t', m', ls', h1, _, _, _, _, h3, h4⟩, h5⟩ => by
    obtain ⟨rfl, rfl⟩ := lxs_inj h1
    exact ⟨h3, by rw [h5, h4]⟩
theorem em_number {n : Int} (hk : m.k = .num) (hn : PySem.intText? (txt m.w) = some n) (hl : m.w.length ≤ 640) (ht : Short t) (hm : Rem t m (m :: ls)) (hi : Δ[i]? = some (.ob a dx C (LxS t m))) (h1 : ob1 i Δ = true) : EvM F (tMeth C "number" (SpO C false RNumber) [] E (tVar i) tNil) Δ fun d Δ' => d = .int n ∧ Δ' = Δ.set i (.ob a dx C (LxS t (lexAt t (nx m)))) :=
  (evm_meth hi h1 rfl ea_nil fun ds e => ⟨_, _, t, m, ls, n, rfl, ht, hm, hk, hn, hl, e, rfl, rfl⟩).imp fun d Δ' ⟨ds, fs', e, ⟨t', m', ls', n', h1, _, _, _, hn', _, _, h3, h4⟩, h5⟩ => by
    obtain ⟨rfl, rfl⟩ := lxs_inj h1
    rw [hn] at hn'
    cases hn'
    exact ⟨h3, by rw [h5, h4]⟩
theorem em_finish (hm : Rem t m []) (hi : Δ[i]? = some (.ob a dx C (LxS t m))) (h1 : ob1 i Δ = true) : EvM F (tMeth C "finish" (SpO C false RFinish) [] E (tVar i) tNil) Δ fun d Δ' => Δ' = Δ.set i (.ob a dx C (LxS t m)) :=
  (evm_meth hi h1 rfl ea_nil fun ds e => ⟨_, _, t, m, rfl, hm, e, rfl, rfl⟩).imp fun d Δ' ⟨ds, fs', e, ⟨t', m', h1, _, _, _, h4⟩, h5⟩ => by
    obtain ⟨rfl, rfl⟩ := lxs_inj h1
    rw [h5, h4]
end
/-! what a row of lexemes tells -/
/-- a place: a word and a number -/
inductive PPl : List Lm → D → List Lm → Prop
  | mk {m1 m2 : Lm} {ls : List Lm} {n : Int} : m1.k = .word → m2.k = .num → PySem.intText? (txt m2.w) = some n → m2.w.length ≤ 640 → PPl (m1 :: m2 :: ls) (.tuple [.str (txt m1.w), .int n]) ls
theorem rem_fun {t : List Nat} {m : Lm} {l1 l2 : List Lm} (h1 : Rem t m l1) (h2 : Rem t m l2) : l1 = l2 := by
  obtain ⟨p, hp, rfl, h1⟩ := h1
  obtain ⟨q, hq, e, h2⟩ := h2
  have key : ∀ {p : Nat}, p ≤ t.length → lexF t p = match (lexAt t p).k with | .fin => .ok [] | .bad => .error (lexAt t p).p | _ => match lexF t (nx (lexAt t p)) with | .ok l => .ok (lexAt t p :: l) | .error e => .error e := fun {p} hp => by
    cases hk : (lexAt t p).k with
    | fin => rw [Lex.lexF_fin hk]
    | bad => rw [Lex.lexF_bad hk]
    | sign => rw [Lex.lexF_step hp (by rw [hk]; decide) (by rw [hk]; decide)] <;> rfl
    | num => rw [Lex.lexF_step hp (by rw [hk]; decide) (by rw [hk]; decide)] <;> rfl
    | word => rw [Lex.lexF_step hp (by rw [hk]; decide) (by rw [hk]; decide)] <;> rfl
  rw [key hp, e, ← key hq, h2] at h1
  cases h1
  rfl
/-- reads what p tells -/
def RPar (p : List Lm → D → List Lm → Prop) (fs : FS) (ds : List D) (d : D) (fs' : FS) : Prop := ∃ (t : List Nat) (m m' : Lm) (ls ls' : List Lm), fs = LxS t m ∧ Short t ∧ Rem t m ls ∧ p ls d ls' ∧ ds = [] ∧ Rem t m' ls' ∧ fs' = LxS t m'
theorem em_par {F : Fp} {Δ : List Sl} {i : Nat} {a dx C : Addr} {t : List Nat} {m m' : Lm} {ls ls' : List Lm} {E : XK} {p : List Lm → D → List Lm → Prop} {d0 : D} (hp : p ls d0 ls') (ht : Short t) (hm : Rem t m ls) (hm' : Rem t m' ls') (hi : Δ[i]? = some (.ob a dx C (LxS t m))) (h1 : ob1 i Δ = true) :
    EvM F (tCall (SpO C false (RPar p)) [] E (tCons (tVar i) tNil)) Δ fun d Δ' => ∃ m' ls', p ls d ls' ∧ Rem t m' ls' ∧ Δ' = Δ.set i (.ob a dx C (LxS t m')) :=
  (evm_callO hi h1 ea_nil fun ds e => ⟨_, _, t, m, m', ls, ls', rfl, ht, hm, hp, e, hm', rfl⟩).imp fun d Δ' ⟨ds, fs', e, ⟨t', m1, m2, l1, l2, h1, _, h2, h3, _, h4, h5⟩, h6⟩ => by
    obtain ⟨rfl, rfl⟩ := lxs_inj h1
    rw [rem_fun h2 hm] at h3
    exact ⟨m2, l2, h3, h4, by rw [h6, h5]⟩
abbrev s_read_place : Stmt := top 13
theorem sc_read_place : FnScope ["lexer"] ["lexer"] (defScope s_read_place) := ⟨rfl, rfl, rfl, by decide +kernel, rfl, by decide +kernel, by decide +kernel⟩
theorem ok_read_place {k : Nat} {f : Addr} {fd : FuncData} (T : Tx K mg) (U : Tz K mg) (M_word : MethT P w K mg base k (clsOf mg "Lexer") "word" ["self"] (SpO (clsOf mg "Lexer") false RWord)) (M_number : MethT P w K mg base k (clsOf mg "Lexer") "number" ["self"] (SpO (clsOf mg "Lexer") false RNumber)) (Fu : Fun K "read_place" "read_place" s_read_place f fd) : FnOk P w K mg base CX0 (k + 1) f fd ["lexer"] (SpO (clsOf mg "Lexer") false (RPar PPl)) := by
  refine ok_O Fu sc_read_place (fun fs ds d fs' ⟨t, m, m', ls, ls', _, _, _, _, e, _⟩ => by rw [e]; rfl) fun cdv A outer s H E hr => ?_
  refine ⟨_, (pss_one (ps_ret (pe_tup (pa_cons (pe_methT0 M_word hr (pv 0)) (pa_cons (pe_methT0 M_number hr (pv 0)) pa_nil))))), fun a dx fs ds hR => ?_⟩
  obtain ⟨_, _, t, m, m', ls, ls', rfl, ht, hm, hp, rfl, hm', rfl⟩ := hR
  cases hp with
  | @mk m1 m2 ls n k1 k2 hn hl =>
    obtain ⟨rfl, _, _, _, hm2⟩ := rem_cons hm
    obtain ⟨e2, _, _, _, hm3⟩ := rem_cons hm2
    subst e2
    refine run_retM (evm_tup (Pa := fun ds Δ' => ds = [.str (txt m1.w), .int n] ∧ Δ' = [.ob a dx (clsOf mg "Lexer") (LxS t (lexAt t (nx (lexAt t (nx m1)))))]) ((eam_cons (Pr := fun d Δ' r Δ'' => r = [.int n] ∧ Δ'' = [.ob a dx (clsOf mg "Lexer") (LxS t (lexAt t (nx (lexAt t (nx m1)))))]) (em_word (i := 0) k1 ht hm rfl rfl) fun d Δ' h => ?_).imp ?_) fun ds Δ' h => ?_) fun d Δ' h => ?_
    · obtain ⟨rfl, rfl⟩ := h
      refine (eam_cons (Pr := fun d Δ' r Δ'' => r = [] ∧ Δ'' = Δ') (em_number (i := 0) k2 hn hl ht hm2 rfl rfl) fun d Δ' _ => eam_nil).imp ?_
      rintro ds Δ'' ⟨d, Δ', r, rfl, ⟨rfl, rfl⟩, rfl, rfl⟩
      exact ⟨rfl, rfl⟩
    · rintro ds Δ'' ⟨d, Δ', r, rfl, ⟨rfl, rfl⟩, rfl, rfl⟩
      exact ⟨rfl, rfl⟩
    · rw [h.1]
      show 2 ≤ sizeLine
      decide
    · obtain ⟨ds, ⟨rfl, rfl⟩, rfl⟩ := h
      exact ⟨trivial, _, rfl, t, m1, _, _, _, rfl, ht, hm, .mk k1 k2 hn hl, rfl, hm3, rfl⟩
end
end K14

namespace K14
open PySem L2 PySem.Spec PyProof.Rows Bc
open Lex (endOf run lexAt Lm Lk lexL lexF blanks)
def cHang : List Nat := [104, 97, 110, 103]
def cStretch : List Nat := [115, 116, 114, 101, 116, 99, 104]
def cScript : List Nat := [115, 99, 114, 105, 112, 116]
theorem ppl_fun {ls l1 l2 : List Lm} {d1 d2 : D} (h1 : PPl ls d1 l1) (h2 : PPl ls d2 l2) : d1 = d2 ∧ l1 = l2 := by
  cases h1 with
  | mk a1 a2 a3 a4 => cases h2 with
    | mk b1 b2 b3 b4 =>
      rw [a3] at b3
      cases b3
      exact ⟨rfl, rfl⟩
theorem rem_ppl {t : List Nat} {m : Lm} {ls ls' : List Lm} {d : D} (h : Rem t m ls) (p : PPl ls d ls') : ∃ m', Rem t m' ls' := by
  cases p with
  | mk a1 a2 a3 a4 =>
    obtain ⟨_, _, _, _, h2⟩ := rem_cons h
    obtain ⟨_, _, _, _, h3⟩ := rem_cons h2
    exact ⟨_, h3⟩
inductive PPls : List Lm → List D → List Lm → Prop
  | nil (ls : List Lm) : PPls ls [] ls
  | cons {ls l1 l2 : List Lm} {d : D} {ds : List D} : PPl ls d l1 → PPls l1 ds l2 → PPls ls (d :: ds) l2
theorem ppls_fun {ls l1 : List Lm} {d1 : List D} (h1 : PPls ls d1 l1) : ∀ {l2 : List Lm} {d2 : List D}, PPls ls d2 l2 → d1.length = d2.length → d1 = d2 ∧ l1 = l2 := by
  induction h1 with
  | nil ls =>
    intro l2 d2 h2 e
    cases h2 with
    | nil => exact ⟨rfl, rfl⟩
    | cons => cases e
  | cons p h ih =>
    intro l2 d2 h2 e
    cases h2 with
    | nil => cases e
    | cons q h2 =>
      obtain ⟨rfl, rfl⟩ := ppl_fun p q
      obtain ⟨rfl, rfl⟩ := ih h2 (by simpa using e)
      exact ⟨rfl, rfl⟩
theorem rem_ppls {ls ls' : List Lm} {ds : List D} (p : PPls ls ds ls') : ∀ {t : List Nat} {m : Lm}, Rem t m ls → ∃ m', Rem t m' ls' := by
  induction p with
  | nil ls => exact fun h => ⟨_, h⟩
  | cons q _ ih => exact fun h => (rem_ppl h q).elim fun m' h' => ih h'
/-- a deed -/
inductive PDeed : List Lm → D → List Lm → Prop
  | hang {m : Lm} {ls l1 l2 : List Lm} {p1 p2 : D} : m.w = cHang → PPl ls p1 l1 → PPl l1 p2 l2 → PDeed (m :: ls) (.tuple [.str "hang", p1, p2]) l2
  | stretch {m : Lm} {ls l' : List Lm} {ps : List D} : m.w = cStretch → PPls ls ps l' → ps.length = 4 → PDeed (m :: ls) (.tuple (.str "stretch" :: ps)) l'
theorem pdeed_fun {ls l1 l2 : List Lm} {d1 d2 : D} (h1 : PDeed ls d1 l1) (h2 : PDeed ls d2 l2) : d1 = d2 ∧ l1 = l2 := by
  cases h1 with
  | hang a1 a2 a3 => cases h2 with
    | hang b1 b2 b3 =>
      obtain ⟨rfl, rfl⟩ := ppl_fun a2 b2
      obtain ⟨rfl, rfl⟩ := ppl_fun a3 b3
      exact ⟨rfl, rfl⟩
    | stretch b1 b2 b3 =>
      rw [a1] at b1
      exact absurd b1 (by decide)
  | stretch a1 a2 a3 => cases h2 with
    | hang b1 b2 b3 =>
      rw [a1] at b1
      exact absurd b1 (by decide)
    | stretch b1 b2 b3 =>
      obtain ⟨rfl, rfl⟩ := ppls_fun a2 b2 (by rw [a3, b3])
      exact ⟨rfl, rfl⟩
theorem rem_pdeed {t : List Nat} {m : Lm} {ls ls' : List Lm} {d : D} (h : Rem t m ls) (p : PDeed ls d ls') : ∃ m', Rem t m' ls' := by
  cases p with
  | hang a1 a2 a3 =>
    obtain ⟨_, _, _, _, h2⟩ := rem_cons h
    obtain ⟨m2, h3⟩ := rem_ppl h2 a2
    exact rem_ppl h3 a3
  | stretch a1 a2 a3 =>
    obtain ⟨_, _, _, _, h2⟩ := rem_cons h
    exact rem_ppls a2 h2
section
variable {F : Fp} {Δ : List Sl} {i j : Nat} {a dx C : Addr} {t : List Nat} {m : Lm} {ls ls' : List Lm} {E : XK} {d0 : D}
theorem em_place (hp : PPl ls d0 ls') (ht : Short t) (hm : Rem t m ls) (hi : Δ[i]? = some (.ob a dx C (LxS t m))) (h1 : ob1 i Δ = true) :
    EvM F (tCall (SpO C false (RPar PPl)) [] E (tCons (tVar i) tNil)) Δ fun d Δ' => d = d0 ∧ ∃ m', Rem t m' ls' ∧ Δ' = Δ.set i (.ob a dx C (LxS t m')) :=
  (em_par hp ht hm (rem_ppl hm hp).choose_spec hi h1).imp fun d Δ' ⟨m', l2, h2, h3, h4⟩ => by
    obtain ⟨rfl, rfl⟩ := ppl_fun h2 hp
    exact ⟨rfl, m', h3, h4⟩
theorem em_deed (hp : PDeed ls d0 ls') (ht : Short t) (hm : Rem t m ls) (hi : Δ[i]? = some (.ob a dx C (LxS t m))) (h1 : ob1 i Δ = true) :
    EvM F (tCall (SpO C false (RPar PDeed)) [] E (tCons (tVar i) tNil)) Δ fun d Δ' => d = d0 ∧ ∃ m', Rem t m' ls' ∧ Δ' = Δ.set i (.ob a dx C (LxS t m')) :=
  (em_par hp ht hm (rem_pdeed hm hp).choose_spec hi h1).imp fun d Δ' ⟨m', l2, h2, h3, h4⟩ => by
    obtain ⟨rfl, rfl⟩ := pdeed_fun h2 hp
    exact ⟨rfl, m', h3, h4⟩
theorem evm_L {f : Addr} {sp : Sp} {ta : TA} {P : D → List Sl → Prop} (hj : Δ[j]? = some (.v (.ref f))) (h : EvM F (tCall sp [] E ta) Δ P) : EvM F (tCallL j f sp [] E ta) Δ P := fun H0 S H σ w st dm Q k => by
  obtain ⟨y, e1, h1⟩ := st.get hj
  simp only [Dt] at h1
  subst h1
  exact ⟨e1, h H0 S H σ w st dm Q k⟩
end
section
variable {P : Program} {w : World} {K : PySem.W.Frag} {mg : Str → Option Value} {base : Heap}
abbrev s_read_deed : Stmt := top 14
theorem sc_read_deed : FnScope ["lexer", "lap"] ["lexer"] (defScope s_read_deed) := ⟨rfl, rfl, rfl, by decide +kernel, rfl, by decide +kernel, by decide +kernel⟩
theorem ok_read_deed {k : Nat} {f : Addr} {fd : FuncData} (T : Tx K mg) (U : Tz K mg) (M_is_next : MethT P w K mg base k (clsOf mg "Lexer") "is_next" ["self", "lexeme"] (SpO (clsOf mg "Lexer") false RNext)) (M_go : MethT P w K mg base k (clsOf mg "Lexer") "go" ["self"] (SpO (clsOf mg "Lexer") false RGo))
    (M_take : MethT P w K mg base k (clsOf mg "Lexer") "take" ["self", "lexeme"] (SpO (clsOf mg "Lexer") false RTake)) (G_read_place : FnT P w K mg base k "read_place" ["lexer"] (SpO (clsOf mg "Lexer") false (RPar PPl))) (Fu : Fun K "read_deed" "read_deed" s_read_deed f fd) : FnOk P w K mg base CX0 (k + 1) f fd ["lexer"] (SpO (clsOf mg "Lexer") false (RPar PDeed)) := by
  refine ok_O Fu sc_read_deed (fun fs ds d fs' ⟨t, m, m', ls, ls', _, _, _, _, e, _⟩ => by rw [e]; rfl) fun cdv A outer s H E hr => ?_
  refine ⟨_, (pss_cons (ps_if (pt_val (pe_methT M_is_next hr (pv 0) (pa_cons pe_str pa_nil)))
      (pss_one (ps_ret (pe_tup (pa_cons (pe_methT0 M_go hr (pv 0)) (pa_cons (pe_callT G_read_place hr (pa_cons (pv 0) pa_nil)) (pa_cons (pe_callT G_read_place hr (pa_cons (pv 0) pa_nil)) pa_nil))))))
      pss_nil)
    (pss_cons (ps_expr (pe_methT M_take hr (pv 0) (pa_cons pe_str pa_nil)))
    (pss_one (ps_ret (pe_tup (pa_cons pe_str (StX.pa_star (pe_lc (own := [("lap", 1)]) rfl sc_read_deed.nd (pi_range1 (by rfl) T.n_range (pa_cons pe_int pa_nil)) (blkOk_by (own := [("lap", 1)]) (N := ["lexer", "lap"]) (sc := defScope s_read_deed) (by decide +kernel)) (fun _ _ _ _ _ => (pg_name (i := 1) sc_read_deed.nd rfl (by first | exact Or.inl rfl | exact Or.inr rfl))) (fun _ _ _ _ _ => pts_nil) (fun _ _ _ _ _ => (pe_callT G_read_place hr (pa_cons (pv 0) pa_nil)))) pa_nil))))))), fun a dx fs ds hR => ?_⟩
  obtain ⟨_, _, t, m, m', ls, ls', rfl, ht, hm, hp, rfl, hm', rfl⟩ := hR
  have lh : ("hang" : Str) = txt cHang := by decide +kernel
  have lst : ("stretch" : Str) = txt cStretch := by decide +kernel
  have hp0 := hp
  have nextE := fun {w : List Nat} => et_next (F := Option.none) (Δ := iniO 2 a dx (clsOf mg "Lexer") (LxS t m) []) (i := 0) (E := E0) (ta := tC (.str "hang")) (w := w) rfl rfl
  cases hp with
  | @hang m1 ls l1 l2 p1 p2 hw q1 q2 =>
    obtain ⟨rfl, _, _, _, hm2⟩ := rem_cons hm
    refine run_ifMS (Pb := fun b Δ' => b = true ∧ Δ' = iniO 2 a dx (clsOf mg "Lexer") (LxS t m1) []) ((nextE (w := cHang) (ev_str.eq (congrArg D.str lh))).imp fun b Δ' h => ?_) (fun Δ' h => ?_) fun Δ' h => nomatch h.1
    · obtain ⟨rfl, rfl⟩ := h
      exact ⟨decide_eq_true hw, rfl⟩
    · rw [h.2]
      refine run_retMS (evm_tup (Pa := fun ds Δ' => ds = [.str "hang", p1, p2] ∧ ∃ m', Rem t m' ls' ∧ Δ' = [.ob a dx (clsOf mg "Lexer") (LxS t m'), .un]) ((eam_cons (Pr := fun d Δ' r Δ'' => r = [p1, p2] ∧ ∃ m', Rem t m' ls' ∧ Δ'' = [.ob a dx (clsOf mg "Lexer") (LxS t m'), .un]) (em_go (i := 0) ht hm rfl rfl) fun d Δ' h => ?_).imp ?_) fun ds Δ' h => ?_) fun d Δ' h => ?_
      · obtain ⟨rfl, rfl⟩ := h
        refine (eam_cons (Pr := fun d Δ' r Δ'' => r = [p2] ∧ ∃ m', Rem t m' ls' ∧ Δ'' = [.ob a dx (clsOf mg "Lexer") (LxS t m'), .un]) (em_place (i := 0) q1 ht hm2 rfl rfl) fun d Δ' h => ?_).imp ?_
        · obtain ⟨rfl, m3, hm3, rfl⟩ := h
          refine (eam_cons (Pr := fun d Δ' r Δ'' => r = [] ∧ Δ'' = Δ') (em_place (i := 0) q2 ht hm3 rfl rfl) fun d Δ' _ => eam_nil).imp ?_
          rintro ds Δ'' ⟨d, Δ', r, rfl, ⟨rfl, m4, hm4, rfl⟩, rfl, rfl⟩
          exact ⟨rfl, m4, hm4, rfl⟩
        · rintro ds Δ'' ⟨d, Δ', r, rfl, ⟨rfl, _⟩, rfl, h⟩
          exact ⟨rfl, h⟩
      · rintro ds Δ'' ⟨d, Δ', r, rfl, ⟨rfl, _⟩, rfl, h⟩
        exact ⟨by rw [hw, ← lh], h⟩
      · rw [h.1]
        show 3 ≤ sizeLine
        decide
      · obtain ⟨ds, ⟨rfl, m4, hm4, rfl⟩, rfl⟩ := h
        exact ⟨trivial, _, rfl, t, m1, m4, _, _, rfl, ht, hm, hp0, rfl, hm4, rfl⟩
  | @stretch m1 ls _ ps hw q1 hl =>
    obtain ⟨rfl, _, _, _, hm2⟩ := rem_cons hm
    refine run_ifMS (Pb := fun b Δ' => b = false ∧ Δ' = iniO 2 a dx (clsOf mg "Lexer") (LxS t m1) []) ((nextE (w := cHang) (ev_str.eq (congrArg D.str lh))).imp fun b Δ' h => ?_) (fun Δ' h => nomatch h.1) fun Δ' h => ?_
    · obtain ⟨rfl, rfl⟩ := h
      exact ⟨decide_eq_false (by rw [hw]; decide), rfl⟩
    · rw [h.2]
      refine run_nextS (run_dropMS (em_take (i := 0) (w := cStretch) hw ht hm rfl rfl (ev_str.eq (congrArg D.str lst))) fun d Δ' e => ?_)
      subst e
      refine run_retM (evm_tup (Pa := fun ds Δ' => ds = .str "stretch" :: ps ∧ ∃ m', Rem t m' ls' ∧ Δ' = [.ob a dx (clsOf mg "Lexer") (LxS t m'), .un]) ((eam_cons (Pr := fun d Δ' r Δ'' => r = ps ∧ ∃ m', Rem t m' ls' ∧ Δ'' = [.ob a dx (clsOf mg "Lexer") (LxS t m'), .un]) (ev_str (i := "stretch")).m fun d Δ' h => ?_).imp ?_) fun ds Δ' h => ?_) fun d Δ' h => ?_
      · obtain ⟨rfl, rfl⟩ := h
        refine (eam_star (Pa := fun l Δ' => l = ps ∧ ∃ m', Rem t m' ls' ∧ Δ' = [.ob a dx (clsOf mg "Lexer") (LxS t m'), .un]) (Pr := fun l Δ' r Δ'' => r = [] ∧ Δ'' = Δ') (efm_lcP (ei_rng (n := 4) (ea_cons1 ev_int ea_nil) (by decide)) (fun ds e => by rw [e]; decide) (fun ds i acc Δi => ∃ m' rest todo, Δi = [.ob a dx (clsOf mg "Lexer") (LxS t m'), .un] ∧ Rem t m' rest ∧ PPls rest todo ls' ∧ acc ++ todo = ps ∧ acc.length = i) (fun ds e => ⟨_, ls, ps, rfl, hm2, q1, rfl, rfl⟩) (fun ds i acc Δi ⟨m', rest, todo, e, _⟩ => by rw [e]; rfl) ?_ ?_) fun l Δ' _ => eam_nil).imp ?_
        · rintro ds i d acc Δi rfl hd ⟨m', rest, todo, rfl, hm', hpp, hac, hai⟩ hla
          have hi : i < 4 := (List.getElem?_eq_some_iff.mp hd).1
          cases hpp with
          | nil =>
            rw [List.append_nil] at hac
            rw [← hac, hai] at hl
            omega
          | @cons _ l1 _ p1 todo' hp1 hpp =>
            refine ⟨[1], [.ob a dx (clsOf mg "Lexer") (LxS t m'), .v d], eg_name, by simp, fun b => b = true, et_yes, fun h => absurd h (by decide), fun _ => (em_place (i := 0) hp1 ht hm' rfl rfl).imp ?_⟩
            rintro e Δ'' ⟨rfl, m2, hm2', rfl⟩
            exact ⟨m2, l1, todo', rfl, hm2', hpp, by rw [← hac]; simp, by simp [hai]⟩
        · rintro ds acc Δn rfl ⟨m', rest, todo, rfl, hm', hpp, hac, hai⟩
          have e4 : acc.length = 4 := hai
          have : todo = [] := by
            have := congrArg List.length hac
            rw [List.length_append, e4, hl] at this
            exact List.eq_nil_of_length_eq_zero (by omega)
          subst this
          cases hpp
          rw [List.append_nil] at hac
          exact ⟨hac, m', hm', rfl⟩
        · rintro ds Δ'' ⟨l, Δ', r, rfl, ⟨rfl, h⟩, rfl, rfl⟩
          exact ⟨by simp, h⟩
      · rintro ds Δ'' ⟨d, Δ', r, rfl, ⟨rfl, _⟩, rfl, h⟩
        exact ⟨rfl, h⟩
      · rw [h.1, List.length_cons, hl]
        decide
      · obtain ⟨ds, ⟨rfl, m4, hm4, rfl⟩, rfl⟩ := h
        exact ⟨trivial, _, rfl, t, m1, m4, _, _, rfl, ht, hm, hp0, rfl, hm4, rfl⟩
end
end K14

namespace K14
open PySem L2 PySem.Spec PyProof.Rows Bc
open Lex (endOf run lexAt Lm Lk lexL lexF blanks)
inductive PRows : List Lm → List D → List Lm → Prop
  | nil {m : Lm} {ls : List Lm} : m.w = [125] → PRows (m :: ls) [] (m :: ls)
  | cons {ls l1 l2 : List Lm} {d : D} {ds : List D} {sc : Lm} : PDeed ls d (sc :: l1) → sc.w = [59] → PRows l1 ds l2 → PRows ls (d :: ds) l2
theorem pdeed_head {ls l1 : List Lm} {d : D} (h : PDeed ls d l1) : ∃ m r, ls = m :: r ∧ m.w ≠ [125] := by
  cases h with
  | hang a => exact ⟨_, _, rfl, by rw [a]; decide⟩
  | stretch a => exact ⟨_, _, rfl, by rw [a]; decide⟩
theorem prows_fun {ls l1 : List Lm} {d1 : List D} (h1 : PRows ls d1 l1) : ∀ {l2 : List Lm} {d2 : List D}, PRows ls d2 l2 → d1 = d2 ∧ l1 = l2 := by
  induction h1 with
  | nil e =>
    intro l2 d2 h2
    cases h2 with
    | nil => exact ⟨rfl, rfl⟩
    | cons q =>
      obtain ⟨m, r, e1, e2⟩ := pdeed_head q
      cases e1
      exact absurd e e2
  | cons p e h ih =>
    intro l2 d2 h2
    cases h2 with
    | nil e2 =>
      obtain ⟨m, r, q1, q2⟩ := pdeed_head p
      cases q1
      exact absurd e2 q2
    | cons q e2 h2 =>
      obtain ⟨rfl, e3⟩ := pdeed_fun p q
      cases e3
      obtain ⟨rfl, rfl⟩ := ih h2
      exact ⟨rfl, rfl⟩
section
variable {P : Program} {w : World} {K : PySem.W.Frag} {mg : Str → Option Value} {base : Heap}
/-- a block: its rows to the end of the text -/
def RBlock (g : Addr) (fs : FS) (ds : List D) (d : D) (fs' : FS) : Prop := ∃ (t : List Nat) (m m' cl : Lm) (ls : List Lm) (rows : List D), fs = LxS t m ∧ Short t ∧ Rem t m (m :: ls) ∧ m.w = [123] ∧ PRows ls rows [cl] ∧ rows.length ≤ 100000 ∧ ds = [.ref g] ∧ d = .list rows ∧ Rem t m' [] ∧ fs' = LxS t m'
abbrev s_read_block : Stmt := top 12
theorem sc_read_block : FnScope ["lexer", "read_row", "found"] ["lexer", "read_row"] (defScope s_read_block) := ⟨rfl, rfl, rfl, by decide +kernel, rfl, by decide +kernel, by decide +kernel⟩
theorem ok_read_block {k : Nat} {f g : Addr} {fd gd : FuncData} (T : Tx K mg) (U : Tz K mg) (M_is_next : MethT P w K mg base k (clsOf mg "Lexer") "is_next" ["self", "lexeme"] (SpO (clsOf mg "Lexer") false RNext)) (M_take : MethT P w K mg base k (clsOf mg "Lexer") "take" ["self", "lexeme"] (SpO (clsOf mg "Lexer") false RTake)) (M_finish : MethT P w K mg base k (clsOf mg "Lexer") "finish" ["self"] (SpO (clsOf mg "Lexer") false RFinish))
    (L_read_row : FnOk P w K mg base CX0 k g gd ["lexer"] (SpO (clsOf mg "Lexer") false (RPar PDeed))) (kp_read_row : PySem.W.keepIn K (.ref g) = true) (b_read_row : Binds K gd ["lexer"] []) (Fu : Fun K "read_block" "read_block" s_read_block f fd) : FnOk P w K mg base CX0 (k + 1) f fd ["lexer", "read_row"] (SpO (clsOf mg "Lexer") true (RBlock g)) := by
  refine ok_O Fu sc_read_block (fun fs ds d fs' ⟨t, m, m', cl, ls, rows, _, _, _, _, _, _, e, _⟩ => by rw [e]; rfl) fun cdv A outer s H E hr => ?_
  refine ⟨_, (pss_cons (ps_expr (pe_methT M_take hr (pv 0) (pa_cons pe_str pa_nil)))
    (pss_cons (ps_set (i := 2) sc_read_block.nd rfl (Or.inl rfl) (pe_lst pa_nil))
    (pss_cons (ps_while PassesOwn.never (pt_not (pt_val (pe_methT M_is_next hr (pv 0) (pa_cons pe_str pa_nil))))
      (pss_cons (ps_expr (qBm (K := K) PySem.F.plainAttrs_list PySem.F.slot_list_append PySem.F.type_list_append mt_append (pv 2) (pa_cons (pe_callL (i := 1) L_read_row hr rfl (Or.inl rfl) kp_read_row b_read_row .nil pass0 (pa_cons (pv 0) pa_nil)) pa_nil)))
      (pss_one (ps_expr (pe_methT M_take hr (pv 0) (pa_cons pe_str pa_nil))))))
    (pss_cons (ps_expr (pe_methT M_take hr (pv 0) (pa_cons pe_str pa_nil)))
    (pss_cons (ps_expr (pe_methT0 M_finish hr (pv 0)))
    (pss_one (ps_ret (pv 2)))))))), fun a dx fs ds hR => ?_⟩
  obtain ⟨_, _, t, m, m', cl, ls, rows, rfl, ht, hm, hmw, hp, hrl, rfl, rfl, hm', rfl⟩ := hR
  obtain ⟨_, _, _, _, hm2⟩ := rem_cons hm
  have lo : ("{" : Str) = txt [123] := by decide +kernel
  have lc : ("}" : Str) = txt [125] := by decide +kernel
  have ls' : (";" : Str) = txt [59] := by decide +kernel
  refine run_dropMS (em_take (i := 0) (w := [123]) hmw ht hm rfl rfl (ev_str.eq (congrArg D.str lo))) fun d Δ' e => ?_
  subst e
  refine run_setF (ds := []) (ef_lst ea_nil) ?_
  refine run_seqM (N := fun Δ => ∃ m1, Δ = [.ob a dx (clsOf mg "Lexer") (LxS t m1), .v (.ref g), .own rows] ∧ Rem t m1 [cl] ∧ cl.w = [125]) ?_ ?_
  · refine run_whileM (fun Δ => ∃ m1 l acc todo, Δ = [.ob a dx (clsOf mg "Lexer") (LxS t m1), .v (.ref g), .own acc] ∧ Rem t m1 l ∧ PRows l todo [cl] ∧ acc ++ todo = rows) (fun Δ => match Δ with | [_, _, .own acc] => rows.length - acc.length | _ => 0) ⟨_, ls, [], rows, rfl, hm2, hp, rfl⟩ ?_
    rintro Δ ⟨m1, l, acc, todo, rfl, hr1, hpp, hac⟩
    refine ⟨fun b Δ' => Δ' = [.ob a dx (clsOf mg "Lexer") (LxS t m1), .v (.ref g), .own acc] ∧ b = !decide (m1.w = [125]), etm_notI (et_next (i := 0) (w := [125]) rfl rfl (ev_str.eq (congrArg D.str lc))) fun b Δ' h => ?_, fun Δ' h => ?_, fun Δ' h => ?_⟩
    · obtain ⟨rfl, rfl⟩ := h
      exact ⟨rfl, rfl⟩
    · obtain ⟨rfl, hb⟩ := h
      have hne : m1.w ≠ [125] := by simpa using hb.symm
      cases hpp with
      | nil e =>
        obtain ⟨rfl, _⟩ := rem_cons hr1
        exact absurd e hne
      | @cons _ l1 _ d0 todo' sc hd hsc hrest =>
        have hlen : acc.length + (todo'.length + 1) = rows.length := by rw [← hac]; simp
        refine run_seqM (N := fun Δ => ∃ m2, Δ = [.ob a dx (clsOf mg "Lexer") (LxS t m2), .v (.ref g), .own (acc ++ [d0])] ∧ Rem t m2 (sc :: l1)) ?_ ?_
        · refine run_appM ⟨acc, rfl⟩ (evm_L (j := 1) rfl (em_deed (i := 0) hd ht hr1 rfl rfl)) fun d Δ' ⟨e, m2, hm2', e2⟩ => ⟨acc, by rw [e2]; rfl, ?_, m2, by rw [e2, e]; rfl, hm2'⟩
          have : (100000 : Nat) < sizeLine := by decide
          omega
        · rintro Δ ⟨m2, rfl, hm2'⟩
          obtain ⟨rfl, _, _, _, hm3⟩ := rem_cons hm2'
          refine run_dropM (em_take (i := 0) (w := [59]) hsc ht hm2' rfl rfl (ev_str.eq (congrArg D.str ls'))) fun d Δ' e => ?_
          subst e
          exact ⟨⟨_, l1, acc ++ [d0], todo', rfl, hm3, hrest, by rw [← hac]; simp⟩, by show rows.length - (acc ++ [d0]).length < rows.length - acc.length; rw [List.length_append]; simp only [List.length_cons, List.length_nil]; omega⟩
    · obtain ⟨rfl, hb⟩ := h
      have he : m1.w = [125] := by simpa using hb.symm
      cases hpp with
      | nil e =>
        rw [List.append_nil] at hac
        subst hac
        exact ⟨m1, rfl, hr1, e⟩
      | cons hd =>
        obtain ⟨mm, r, q1, q2⟩ := pdeed_head hd
        subst q1
        obtain ⟨rfl, _⟩ := rem_cons hr1
        exact absurd he q2
  · rintro Δ ⟨m1, rfl, hr1, hcw⟩
    obtain ⟨rfl, _, _, _, hm3⟩ := rem_cons hr1
    refine run_dropMS (em_take (i := 0) (w := [125]) hcw ht hr1 rfl rfl (ev_str.eq (congrArg D.str lc))) fun d Δ' e => ?_
    subst e
    refine run_dropMS (em_finish (i := 0) hm3 rfl rfl) fun d Δ' e => ?_
    subst e
    refine run_retO (i := 2) rfl trivial fun Δ' h => ?_
    rcases h with rfl | rfl
    · exact ⟨_, rfl, t, m, _, _, ls, rows, rfl, ht, hm, hmw, hp, hrl, rfl, rfl, hm3, rfl⟩
    · exact ⟨_, rfl, t, m, _, _, ls, rows, rfl, ht, hm, hmw, hp, hrl, rfl, rfl, hm3, rfl⟩
def RScript (ds : List D) (d : D) : Prop := ∃ (t : List Nat) (m0 m cl : Lm) (ls : List Lm) (rows : List D), ds = [.str (txt t)] ∧ Short t ∧ lexF t 0 = .ok (m0 :: m :: ls) ∧ m0.w = cScript ∧ m.w = [123] ∧ PRows ls rows [cl] ∧ rows.length ≤ 100000 ∧ d = .list rows
abbrev s_read_script : Stmt := top 15
theorem sc_read_script : FnScope ["text", "lexer"] ["text"] (defScope s_read_script) := ⟨rfl, rfl, rfl, by decide +kernel, rfl, by decide +kernel, by decide +kernel⟩
theorem ok_read_script {k : Nat} {f g : Addr} {fd : FuncData} (T : Tx K mg) (U : Tz K mg) (m_read_deed : mg "read_deed" = some (.ref g)) (MK_Lexer : MkT P w K mg base k "Lexer" (clsOf mg "Lexer") ["self", "text"] (SpO (clsOf mg "Lexer") false RInit)) (M_take : MethT P w K mg base k (clsOf mg "Lexer") "take" ["self", "lexeme"] (SpO (clsOf mg "Lexer") false RTake))
    (G_read_block : FnT P w K mg base k "read_block" ["lexer", "read_row"] (SpO (clsOf mg "Lexer") true (RBlock g))) (Fu : Fun K "read_script" "read_script" s_read_script f fd) : FnOk P w K mg base CX0 (k + 2) f fd ["text"] (SpD false true RScript) := by
  refine ok_D Fu sc_read_script (fun ds d ⟨t, _, _, _, _, _, e, _⟩ => by rw [e]; rfl) fun cdv A outer s H E hrm => ?_
  have hr : Room k _ := hrm.mono (Nat.le_succ k)
  refine ⟨_, (pss_cons (ps_set (i := 1) sc_read_script.nd rfl (Or.inl rfl) (pe_makeT MK_Lexer hrm (pa_cons (pv 0) pa_nil)))
    (pss_cons (ps_expr (pe_methT M_take hr (pv 1) (pa_cons pe_str pa_nil)))
    (pss_one (ps_ret (pe_callT G_read_block hr (pa_cons (pv 1) (pa_cons (pe_glob (v := V.ref _) rfl m_read_deed rfl) pa_nil))))))), fun F ds hF hR => ?_⟩
  obtain ⟨_, t, m0, m, cl, ls, rows, rfl, ht, hlx, hw0, hw1, hp, hrl, rfl⟩ := hR
  have r0 : Rem t (lexAt t 0) (m0 :: m :: ls) := ⟨0, Nat.zero_le _, rfl, hlx⟩
  obtain ⟨rfl, _, _, _, r1⟩ := rem_cons r0
  obtain ⟨rfl, _, _, _, r2⟩ := rem_cons r1
  have lo : ("script" : Str) = txt cScript := by decide +kernel
  refine run_mk (Pa := fun r => r = [.str (txt t)]) (ea_cons1 (ev_var rfl) ea_nil) (fun ds e => ⟨_, _, t, rfl, e, ht, rfl, rfl⟩) (fun ds d fs' h => by obtain ⟨_, _, _, _, e, _⟩ := h; exact e) fun ds fs' a dx e h => ?_
  obtain ⟨t', _, e1, _, _, e2⟩ := h
  rw [e] at e1
  simp only [List.cons.injEq, D.str.injEq, txt_iff, and_true] at e1
  subst e1 e2
  refine run_dropMS (em_take (i := 1) (w := cScript) hw0 ht r0 rfl rfl (ev_str.eq (congrArg D.str lo))) fun d Δ' e => ?_
  subst e
  have hme : ∃ m', Rem t m' [] := by
    have : ∀ {l : List Lm} {rows : List D} {cl : Lm}, PRows l rows [cl] → ∀ {m : Lm}, Rem t m l → ∃ m', Rem t m' [] := fun {l rows cl} h => by
      generalize he : [cl] = e at h
      induction h with
      | nil => intro m hm; cases he; obtain ⟨_, _, _, _, h⟩ := rem_cons hm; exact ⟨_, h⟩
      | cons q _ _ ih =>
        intro m hm
        obtain ⟨m2, h2⟩ := rem_pdeed hm q
        obtain ⟨_, _, _, _, h3⟩ := rem_cons h2
        exact ih he h3
    exact this hp r2
  obtain ⟨m', hm'⟩ := hme
  refine run_retFM (efm_callO (i := 1) (Pa := fun r => r = [.ref g]) rfl rfl (ea_cons1 ev_ref ea_nil) fun ds e => ⟨.list rows, _, t, _, m', cl, ls, rows, rfl, ht, r1, hw1, hp, hrl, e, rfl, hm', rfl⟩) fun es Δ' ⟨ds, fs', e, h, _⟩ => ⟨?_, trivial⟩
  obtain ⟨t', m1, m2, cl', ls', rows', q1, _, q2, _, q3, _, _, q4, _⟩ := h
  obtain ⟨rfl, rfl⟩ := lxs_inj q1
  have := rem_fun q2 r1
  cases this
  obtain ⟨rfl, _⟩ := prows_fun q3 hp
  exact ⟨t, _, _, cl, ls, rows', rfl, ht, hlx, hw0, hw1, hp, hrl, q4⟩
end
end K14

namespace K14
open PySem Bc
open Lex (endOf run lexAt Lm Lk lexL lexF blanks)
/-! ### spaced texts: the mathematics -/
/-- what a good word is: its class by its first sign -/
def GoodW (c : Nat) (r : List Nat) : Prop := if c ∈ Lex.signs then r = [] else if c = 48 then r = [] else if c ∈ Lex.digits then ∀ x ∈ r, x ∈ Lex.digits else c ∈ Lex.letters ∧ (∀ x ∈ r, x ∈ Lex.letters ++ Lex.digits) ∧ r.length ≤ 11
def Good (w : List Nat) : Prop := ∃ c r, w = c :: r ∧ GoodW c r
def kindW : List Nat → Lk
  | [] => .fin
  | c :: _ => if c ∈ Lex.signs then .sign else if c ∈ Lex.digits then .num else .word
/-- whether no gap is wanted -/
def Jb (l w : List Nat) : Bool := !Txt.isalnum (txt (l ++ w)) || (decide (txt l = "0") || (Txt.isdigit (txt l) && !Txt.isdigit (txt (w.take 1))))
/-- whether a sign behind l would be read with it -/
def ext (l : List Nat) (c : Nat) : Bool := match l with
  | [] => false
  | d :: _ => if d ∈ Lex.signs then false else if d = 48 then false else if d ∈ Lex.digits then decide (c ∈ Lex.digits) else decide (c ∈ Lex.letters ++ Lex.digits)
theorem kindW_cons (c : Nat) (r : List Nat) : kindW (c :: r) = if c ∈ Lex.signs then .sign else if c ∈ Lex.digits then .num else .word := rfl
theorem an_all : (Lex.letters ++ Lex.digits).all (fun c => Unicode.isAlnum c) = true := by decide +kernel
theorem dg_all : Lex.digits.all (fun c => Unicode.isDigit c) = true := by decide +kernel
theorem lt_all : Lex.letters.all (fun c => !Unicode.isDigit c) = true := by decide +kernel
theorem dig_an {c : Nat} (h : c ∈ Lex.digits) : c ∈ Lex.letters ++ Lex.digits := List.mem_append_right _ h
theorem let_an {c : Nat} (h : c ∈ Lex.letters) : c ∈ Lex.letters ++ Lex.digits := List.mem_append_left _ h
theorem isalnum_txt {l : List Nat} (h : ∀ x ∈ l, x ∈ Lex.letters ++ Lex.digits) (hn : l ≠ []) : Txt.isalnum (txt l) = true := by
  unfold Txt.isalnum
  have h1 : (txt l).length > 0 := by
    rw [txt_len]
    cases l with
    | nil => exact absurd rfl hn
    | cons => simp
  rw [decide_eq_true h1, Bool.true_and]
  show (l.toArray).all _ = true
  rw [List.all_toArray, List.all_eq_true]
  exact fun x hx => List.all_eq_true.mp an_all x (h x hx)
theorem isdigit_one {c : Nat} (h : c ∈ Lex.digits) : Txt.isdigit (txt [c]) = true := by
  unfold Txt.isdigit
  simp only [txt, List.all_toArray, List.all_cons, List.all_nil, Bool.and_true, Str.length]
  rw [List.all_eq_true.mp dg_all c h]
  rfl
theorem isdigit_not {c : Nat} {r : List Nat} (h : c ∈ Lex.letters) : Txt.isdigit (txt (c :: r)) = false := by
  unfold Txt.isdigit
  have := List.all_eq_true.mp lt_all c h
  simp only [Bool.not_eq_true'] at this
  simp only [txt, List.all_toArray, List.all_cons, this, Bool.false_and, Bool.and_false]
theorem let_nd {c : Nat} (h : c ∈ Lex.letters) : c ∉ Lex.digits ∧ c ∉ Lex.signs ∧ c ≠ 48 := by
  have : (Lex.letters.all fun c => decide (c ∉ Lex.digits ∧ c ∉ Lex.signs ∧ c ≠ 48)) = true := by decide
  exact of_decide_eq_true (List.all_eq_true.mp this c h)
theorem dig_ns {c : Nat} (h : c ∈ Lex.digits) : c ∉ Lex.signs := by
  have : (Lex.digits.all fun c => decide (c ∉ Lex.signs)) = true := by decide
  exact of_decide_eq_true (List.all_eq_true.mp this c h)
theorem good_an {c : Nat} {r : List Nat} (h : GoodW c r) (hs : c ∉ Lex.signs) : ∀ x ∈ c :: r, x ∈ Lex.letters ++ Lex.digits := by
  unfold GoodW at h
  rw [if_neg hs] at h
  by_cases h0 : c = 48
  · rw [if_pos h0] at h
    subst h
    intro x hx
    rw [List.mem_singleton] at hx
    subst hx
    subst h0
    decide
  · rw [if_neg h0] at h
    by_cases hd : c ∈ Lex.digits
    · rw [if_pos hd] at h
      intro x hx
      rcases List.mem_cons.mp hx with rfl | hx
      · exact dig_an hd
      · exact dig_an (h x hx)
    · rw [if_neg hd] at h
      intro x hx
      rcases List.mem_cons.mp hx with rfl | hx
      · exact let_an h.1
      · exact h.2.1 x hx
theorem good_join {l w : List Nat} {c : Nat} {r : List Nat} (hl : Good l ∨ l = [40]) (hw : w = c :: r) (hg : GoodW c r) (hj : Jb l w = true) : ext l c = false := by
  have hl : Good l := by
    rcases hl with h | rfl
    · exact h
    · exact ⟨40, [], rfl, by unfold GoodW; rw [if_pos (by decide)]⟩
  obtain ⟨d, v, rfl, gl⟩ := hl
  subst hw
  unfold ext
  dsimp only
  by_cases h1 : d ∈ Lex.signs
  · rw [if_pos h1]
  · rw [if_neg h1]
    by_cases h2 : d = 48
    · rw [if_pos h2]
    · rw [if_neg h2]
      have al := good_an gl h1
      have key : ∀ (hc : c ∈ Lex.letters ++ Lex.digits), Txt.isalnum (txt ((d :: v) ++ (c :: r))) = true := fun hc => isalnum_txt (fun x hx => by
        rcases List.mem_append.mp hx with hx | hx
        · exact al x hx
        · refine good_an hg (fun z => ?_) x hx
          rcases List.mem_append.mp hc with q | q
          · exact (let_nd q).2.1 z
          · exact dig_ns q z) (by simp)
      have hz : decide (txt (d :: v) = "0") = false := decide_eq_false fun z => by
        rw [show ("0" : Str) = txt [48] by decide +kernel] at z
        have := txt_inj z
        simp only [List.cons.injEq] at this
        exact h2 this.1
      by_cases h3 : d ∈ Lex.digits
      · rw [if_pos h3]
        refine decide_eq_false fun hc => ?_
        unfold Jb at hj
        rw [key (dig_an hc), hz, show (c :: r).take 1 = [c] by simp, isdigit_one hc] at hj
        simp at hj
      · rw [if_neg h3]
        have hdl : d ∈ Lex.letters := by
          unfold GoodW at gl
          rw [if_neg h1, if_neg h2, if_neg h3] at gl
          exact gl.1
        refine decide_eq_false fun hc => ?_
        unfold Jb at hj
        rw [key hc, hz, isdigit_not hdl] at hj
        simp at hj
theorem good_blank {c : Nat} {r : List Nat} (h : GoodW c r) : c ∉ blanks := by
  intro hb
  have : c = 32 ∨ c = 10 := by simpa [blanks] using hb
  unfold GoodW at h
  rcases this with rfl | rfl
  · rw [if_neg (by decide), if_neg (by decide), if_neg (by decide)] at h
    exact absurd h.1 (by decide)
  · rw [if_neg (by decide), if_neg (by decide), if_neg (by decide)] at h
    exact absurd h.1 (by decide)
theorem ext_blank {l : List Nat} {c : Nat} (h : c ∈ blanks) : ext l c = false := by
  have h1 : c ∉ Lex.digits := by
    simp only [blanks, List.mem_cons, List.not_mem_nil, or_false] at h
    rcases h with rfl | rfl <;> decide
  have h2 : c ∉ Lex.letters ++ Lex.digits := by
    simp only [blanks, List.mem_cons, List.not_mem_nil, or_false] at h
    rcases h with rfl | rfl <;> decide
  unfold ext
  split
  · rfl
  · split
    · rfl
    · split
      · rfl
      · split
        · exact decide_eq_false h1
        · exact decide_eq_false h2
inductive Spc : List (List Nat) → List Nat → List Nat → Prop
  | nil (g : List Nat) : (∀ c ∈ g, c ∈ blanks) → Spc [] g [40]
  | snoc {ws : List (List Nat)} {t l g w : List Nat} : Spc ws t l → (∀ c ∈ g, c ∈ blanks) → (g = [] → Jb l w = true) → Spc (ws ++ [w]) (t ++ g ++ w) w
inductive Tl : List Nat → List (List Nat) → List Nat → Prop
  | nil {l : List Nat} (g : List Nat) : (∀ c ∈ g, c ∈ blanks) → Tl l [] g
  | cons {l g w r : List Nat} {ws : List (List Nat)} : (∀ c ∈ g, c ∈ blanks) → (g = [] → Jb l w = true) → Tl w ws r → Tl l (w :: ws) (g ++ w ++ r)
theorem Tl.pre {l g : List Nat} {ws : List (List Nat)} {r : List Nat} (h : Tl l ws r) (hg : ∀ c ∈ g, c ∈ blanks) : Tl l ws (g ++ r) := by
  cases h with
  | nil e he => exact .nil _ fun c hc => (List.mem_append.mp hc).elim (hg c) (he c)
  | @cons l g2 w r ws h1 h2 h3 =>
    rw [show g ++ (g2 ++ w ++ r) = (g ++ g2) ++ w ++ r by simp]
    exact .cons (fun c hc => (List.mem_append.mp hc).elim (hg c) (h1 c)) (fun e => h2 (List.append_eq_nil_iff.mp e).2) h3
theorem Spc.tl {ws : List (List Nat)} {t l : List Nat} (h : Spc ws t l) : ∀ {vs : List (List Nat)} {r : List Nat}, Tl l vs r → Tl [40] (ws ++ vs) (t ++ r) := by
  induction h with
  | nil g hg => exact fun h => h.pre hg
  | @snoc ws t l g w h1 h2 h3 ih =>
    intro vs r hr
    have := ih (Tl.cons h2 h3 hr)
    simpa using this
theorem tw_all {f : Nat → Bool} : ∀ {w r : List Nat}, (∀ x ∈ w, f x = true) → (∀ c, r.head? = some c → f c = false) → (w ++ r).takeWhile f = w
  | [], [], _, _ => rfl
  | [], c :: r, _, h => by
    rw [List.nil_append, List.takeWhile_cons, if_neg (by rw [h c rfl]; decide)]
  | x :: w, r, h1, h2 => by
    rw [List.cons_append, List.takeWhile_cons, if_pos (h1 x (List.mem_cons_self ..)), tw_all (fun y hy => h1 y (List.mem_cons_of_mem _ hy)) h2]
theorem lexL_good {w r : List Nat} (h : Good w) (hr : ∀ c, r.head? = some c → ext w c = false) : lexL (w ++ r) = (kindW w, w) ∧ kindW w ≠ .fin ∧ kindW w ≠ .bad := by
  obtain ⟨c, v, rfl, hc⟩ := h
  unfold GoodW at hc
  rw [List.cons_append]
  by_cases h1 : c ∈ Lex.signs
  · rw [if_pos h1] at hc
    subst hc
    rw [kindW_cons, if_pos h1]
    exact ⟨Lex.lexL_sign h1, by decide, by decide⟩
  · rw [if_neg h1] at hc
    by_cases h2 : c = 48
    · rw [if_pos h2] at hc
      subst hc
      subst h2
      exact ⟨Lex.lexL_zero rfl, by decide, by decide⟩
    · rw [if_neg h2] at hc
      by_cases h3 : c ∈ Lex.digits
      · rw [if_pos h3] at hc
        rw [kindW_cons, if_neg h1, if_pos h3]
        refine ⟨?_, by decide, by decide⟩
        rw [Lex.lexL_num h1 h3 h2]
        congr 1
        refine tw_all (w := c :: v) (fun x hx => ?_) fun d hd => ?_
        · rcases List.mem_cons.mp hx with rfl | hx
          · exact decide_eq_true h3
          · exact decide_eq_true (hc x hx)
        · have := hr d hd
          unfold ext at this
          simpa [h1, h2, h3] using this
      · rw [if_neg h3] at hc
        obtain ⟨a1, a2, a3⟩ := hc
        have tw : ((c :: v) ++ r).takeWhile (fun c => decide (c ∈ Lex.letters ++ Lex.digits)) = c :: v := by
          refine tw_all (fun x hx => ?_) fun d hd => ?_
          · rcases List.mem_cons.mp hx with rfl | hx
            · exact decide_eq_true (let_an a1)
            · exact decide_eq_true (a2 x hx)
          · have := hr d hd
            unfold ext at this
            simpa [h1, h2, h3] using this
        rw [kindW_cons, if_neg h1, if_neg h3]
        refine ⟨?_, by decide, by decide⟩
        rw [Lex.lexL_else h1 h3, show c :: (v ++ r) = (c :: v) ++ r from rfl, tw, if_pos ⟨by simp, by simp; omega⟩]
theorem tl_head {w : List Nat} (hw : Good w ∨ w = [40]) {ws : List (List Nat)} {r : List Nat} (hg : ∀ v ∈ ws, Good v) (h : Tl w ws r) : ∀ c, r.head? = some c → ext w c = false := by
  intro c hc
  cases h with
  | nil _ he =>
    cases r with
    | nil => cases hc
    | cons d e =>
      cases hc
      exact ext_blank (he c (List.mem_cons_self ..))
  | @cons _ g v r ws h1 h2 h3 =>
    cases g with
    | cons d g =>
      cases hc
      exact ext_blank (h1 c (List.mem_cons_self ..))
    | nil =>
      have j := h2 rfl
      obtain ⟨d, v', rfl, gv⟩ := hg v (List.mem_cons_self ..)
      cases hc
      exact good_join hw rfl gv j
theorem endOf_app {pre g s : List Nat} (hg : ∀ c ∈ g, c ∈ blanks) (hs : ∀ c, s.head? = some c → c ∉ blanks) : endOf (pre ++ (g ++ s)) pre.length blanks = pre.length + g.length := by
  unfold Lex.endOf Lex.run
  rw [List.drop_left, tw_all (fun x hx => decide_eq_true (hg x hx)) fun c hc => decide_eq_false (hs c hc)]
theorem lex_tl : ∀ {l : List Nat} {ws : List (List Nat)} {r : List Nat}, Tl l ws r → (∀ v ∈ ws, Good v) → ∀ pre : List Nat, ∃ ls, lexF (pre ++ r) pre.length = .ok ls ∧ ls.map (fun m => (m.k, m.w)) = ws.map fun w => (kindW w, w) := by
  intro l ws r h
  induction h with
  | nil e he =>
    intro _ pre
    refine ⟨[], Lex.lexF_fin ?_, rfl⟩
    have e1 := endOf_app (pre := pre) (g := e) (s := []) he (fun c hc => by cases hc)
    rw [List.append_nil] at e1
    show (lexL ((pre ++ e).drop (endOf (pre ++ e) pre.length blanks))).1 = .fin
    rw [e1, List.drop_of_length_le (by simp)]
    rfl
  | @cons l g w r ws h1 h2 h3 ih =>
    intro hv pre
    have hw := hv w (List.mem_cons_self ..)
    have hws := fun v hx => hv v (List.mem_cons_of_mem _ hx)
    obtain ⟨hk, k1, k2⟩ := lexL_good hw (tl_head (.inl hw) hws h3)
    obtain ⟨c, v, hcv, gv⟩ := id hw
    have hcb := good_blank gv
    have e1 := endOf_app (pre := pre) (g := g) (s := w ++ r) h1 (fun d hd => by
      rw [hcv] at hd
      cases hd
      exact hcb)
    have eA : lexAt (pre ++ (g ++ (w ++ r))) pre.length = ⟨kindW w, w, pre.length + g.length⟩ := by
      have e2 : (pre ++ (g ++ (w ++ r))).drop (pre.length + g.length) = w ++ r := by
        rw [show pre ++ (g ++ (w ++ r)) = (pre ++ g) ++ (w ++ r) by simp, show pre.length + g.length = (pre ++ g).length by simp, List.drop_left]
      unfold Lex.lexAt
      rw [e1]
      dsimp only
      rw [e2, hk]
    obtain ⟨ls, hls, hm⟩ := ih hws (pre ++ (g ++ w))
    refine ⟨⟨kindW w, w, pre.length + g.length⟩ :: ls, ?_, by rw [List.map_cons, hm]; rfl⟩
    rw [show pre ++ (g ++ w ++ r) = pre ++ (g ++ (w ++ r)) by simp, Lex.lexF_step (by simp) (by rw [eA]; exact k1) (by rw [eA]; exact k2), eA]
    rw [show (pre ++ (g ++ w)) ++ r = pre ++ (g ++ (w ++ r)) by simp, show (pre ++ (g ++ w)).length = pre.length + g.length + w.length by simp [Nat.add_assoc]] at hls
    show (match lexF (pre ++ (g ++ (w ++ r))) (pre.length + g.length + w.length) with | .ok l => _ | .error e => _) = _
    rw [hls]
/-- the lexemes of a spaced text -/
theorem lex_spc {ws : List (List Nat)} {t l e : List Nat} (h : Spc ws t l) (hg : ∀ v ∈ ws, Good v) (he : ∀ c ∈ e, c ∈ blanks) : ∃ ls, lexF (t ++ e) 0 = .ok ls ∧ ls.map (fun m => (m.k, m.w)) = ws.map fun w => (kindW w, w) := by
  have := h.tl (Tl.nil e he)
  rw [List.append_nil] at this
  exact lex_tl this hg []
end K14

namespace K14
open PySem L2 PySem.Spec PyProof.Rows Bc
open Lex (endOf run lexAt Lm Lk lexL lexF blanks)
/-! ### spaced -/
theorem tw_nil {f : Nat → Bool} {l : List Nat} (h : ∀ c ∈ l, f c = false) : l.takeWhile f = [] := by
  cases l with
  | nil => rfl
  | cons c r => rw [List.takeWhile_cons, if_neg (by rw [h c (List.mem_cons_self ..)]; decide)]
theorem strip_same {w : List Nat} (h : ∀ c ∈ w, c ≠ 94) : Txt.stripChars (txt w) "^" = txt w := by
  have e : ("^" : Str) = txt [94] := by decide +kernel
  have g : ∀ c ∈ w, ("^" : Str).cps.contains c = false := fun c hc => by
    rw [e]
    show (#[94] : Array Nat).contains c = false
    simpa using h c hc
  unfold Txt.stripChars Txt.stripBy stripSame
  have lo : stripLo ("^" : Str).cps.contains true (txt w) = 0 := by
    unfold stripLo
    rw [if_pos rfl, txt_list, tw_nil g]
    rfl
  have hi : stripHi ("^" : Str).cps.contains true (txt w) 0 = (txt w).length := by
    unfold stripHi
    rw [if_pos rfl, txt_list, List.drop_zero, tw_nil fun c hc => g c (List.mem_reverse.mp hc)]
    rfl
  rw [lo, hi]
  simp
theorem good_94 {w : List Nat} (h : Good w) : ∀ c ∈ w, c ≠ 94 := by
  have key : ∀ c : Nat, c ∈ Lex.signs ∨ c ∈ Lex.letters ++ Lex.digits → c ≠ 94 := by
    have : ((Lex.signs ++ (Lex.letters ++ Lex.digits)).all fun c => decide (c ≠ 94)) = true := by decide
    intro c hc
    exact of_decide_eq_true (List.all_eq_true.mp this c (List.mem_append.mpr hc))
  obtain ⟨d, r, rfl, hd⟩ := h
  intro c hc
  by_cases hs : d ∈ Lex.signs
  · have : r = [] := by
      unfold GoodW at hd
      rw [if_pos hs] at hd
      exact hd
    subst this
    rw [List.mem_singleton] at hc
    subst hc
    exact key _ (.inl hs)
  · exact key c (.inr (good_an hd hs c hc))
def GW (w : List Nat) : Prop := Good w ∧ w.length ≤ 60
theorem menu_strip {w : List Nat} (h : GW w) : Txt.stripChars (txt w) "^" = txt w := strip_same (good_94 h.1)
theorem menu_len {w : List Nat} (h : GW w) : 1 ≤ w.length ∧ w.length ≤ 60 := by
  obtain ⟨⟨c, r, rfl, _⟩, h2⟩ := h
  exact ⟨by simp, h2⟩
abbrev txts (ws : List (List Nat)) : List D := ws.map fun w => .str (txt w)
def RSp (ds : List D) (d : D) : Prop := ∃ (ws : List (List Nat)) (t l e : List Nat), ds = [.list (txts ws)] ∧ (∀ w ∈ ws, GW w) ∧ ws.length ≤ 1000 ∧ Spc ws t l ∧ (∀ c ∈ e, c ∈ blanks) ∧ d = .str (txt (t ++ e)) ∧ (t ++ e).length ≤ 70 * ws.length + 10
theorem spc_ex : ∀ ws : List (List Nat), (∀ w ∈ ws, GW w) → ∃ t l, Spc ws.reverse t l ∧ t.length ≤ 70 * ws.length + 4
  | [], _ => ⟨[], _, .nil [] (fun _ h => by cases h), Nat.zero_le _⟩
  | w :: ws, h => by
    obtain ⟨t, l, h1, h2⟩ := spc_ex ws fun v hv => h v (List.mem_cons_of_mem _ hv)
    have := menu_len (h w (List.mem_cons_self ..))
    rw [List.reverse_cons]
    exact ⟨t ++ [32] ++ w, w, .snoc h1 (by decide) (fun e => by cases e), by simp; omega⟩
theorem rsp_ex {ws : List (List Nat)} (h : ∀ w ∈ ws, GW w) (hl : ws.length ≤ 1000) : ∃ d, RSp [.list (txts ws)] d := by
  obtain ⟨t, l, h1, h2⟩ := spc_ex ws.reverse fun w hw => h w (List.mem_reverse.mp hw)
  rw [List.reverse_reverse] at h1
  rw [List.length_reverse] at h2
  exact ⟨_, ws, t, l, [], rfl, h, hl, h1, (fun _ h => by cases h), rfl, by simp; omega⟩
/-- a drawn gap -/
def IsGap (l w : List Nat) (d : D) : Prop := ∃ g : List Nat, d = .str (txt g) ∧ (∀ c ∈ g, c ∈ blanks) ∧ (g = [] → Jb l w = true) ∧ g.length ≤ 4
theorem gap_lits : ((" " : Str) = txt [32] ∧ ("\n" : Str) = txt [10] ∧ (" \n  " : Str) = txt [32, 10, 32, 32]) ∧ ("" : Str) = txt [] ∧ ("\n\n" : Str) = txt [10, 10] := by decide +kernel
theorem end_gap {d : D} (h : d ∈ [D.str "", .str " ", .str "\n\n"] ∨ d ∈ [D.str "", .str " ", .str "\n"]) : ∃ g : List Nat, d = .str (txt g) ∧ (∀ c ∈ g, c ∈ blanks) ∧ g.length ≤ 4 := by
  obtain ⟨⟨a1, a2, a3⟩, a4, a5⟩ := gap_lits
  simp only [List.mem_cons, List.not_mem_nil, or_false] at h
  rcases h with (rfl | rfl | rfl) | (rfl | rfl | rfl)
  · exact ⟨[], by rw [a4], by decide, by decide⟩
  · exact ⟨[32], by rw [a1], by decide, by decide⟩
  · exact ⟨[10, 10], by rw [a5], by decide, by decide⟩
  · exact ⟨[], by rw [a4], by decide, by decide⟩
  · exact ⟨[32], by rw [a1], by decide, by decide⟩
  · exact ⟨[10], by rw [a2], by decide, by decide⟩
theorem some_gap {l w : List Nat} {d : D} (h : d ∈ [D.str " ", .str "\n", .str " \n  "]) : IsGap l w d := by
  obtain ⟨⟨a1, a2, a3⟩, a4, a5⟩ := gap_lits
  simp only [List.mem_cons, List.not_mem_nil, or_false] at h
  rcases h with rfl | rfl | rfl
  · exact ⟨[32], by rw [a1], by decide, fun e => (nomatch e), by decide⟩
  · exact ⟨[10], by rw [a2], by decide, fun e => (nomatch e), by decide⟩
  · exact ⟨[32, 10, 32, 32], by rw [a3], by decide, fun e => (nomatch e), by decide⟩
theorem none_gap {l w : List Nat} {d : D} (hj : Jb l w = true) (h : d ∈ [D.str "", .str "", .str ""]) : IsGap l w d := by
  obtain ⟨⟨a1, a2, a3⟩, a4, a5⟩ := gap_lits
  simp only [List.mem_cons, List.not_mem_nil, or_false, or_self] at h
  subst h
  exact ⟨[], by rw [a4], by decide, fun _ => hj, by decide⟩
section
variable {F : Fp} {Δ : List Sl} {ta tb : TE} {K : PySem.W.Frag}
theorem ev_addSS {Pa Pb : List Nat → Prop} (ha : EvR F ta Δ fun d => ∃ a, d = .str (txt a) ∧ Pa a) (hb : EvR F tb Δ fun d => ∃ b, d = .str (txt b) ∧ Pb b) (hl : ∀ a b, Pa a → Pb b → a.length + b.length ≤ sizeLine) : EvR F (tOp (rAddP K) ta tb) Δ fun d => ∃ a b, d = .str (txt (a ++ b)) ∧ Pa a ∧ Pb b :=
  ev_op sAdd ha hb fun x y ⟨a, e1, p1⟩ ⟨b, e2, p2⟩ => by
    subst e1 e2
    exact ⟨_, ⟨by rw [txt_len, txt_len]; exact hl a b p1 p2, by rw [txt_app]⟩, a, b, rfl, p1, p2⟩
theorem run_par1 {fr : Bool} {po : Po} {i j : Nat} {ta : TA} {Pa : List D → Prop} (h : EvA F ta Δ Pa) (k : ∀ ds, Pa ds → ∃ x y, ds = [x, y] ∧ po.nx ((Δ.set i (.v x)).set j (.v y))) : Bc.Run F fr (tPar i j ta) Δ po := fun S0 H0 B S H σ E w gb st r =>
  h H0 S H σ w st _ fun ds vs S' H' p g' hd => by
    obtain ⟨x, y, e, k⟩ := k ds p
    subst e
    simp only [DtL] at hd
    obtain ⟨v, ys, rfl, hv, z, zs, rfl, hz, rfl⟩ := hd
    exact ⟨v, z, rfl, r.nx _ S' H' _ k (g'.ok w) (gb.step g') (((st.mono g').setV hv).setV hz)⟩
/-- _law_of of the source -/
theorem ev_of {i : Nat} {E : XK} {l : List D} (hi : Δ[i]? = some .src) (h : Ev1 F ta Δ (.list l)) (h0 : 0 < l.length) (h1 : l.length ≤ 100000) : EvR F (tCall (SpD true false ROf) [] E (tCons (tVar i) (tCons ta tNil))) Δ fun d => d ∈ l :=
  (ev_callS hi (ea_cons1 h ea_nil) fun ds e => by
    cases l with
    | nil => cases h0
    | cons x l => exact ⟨x, x :: l, e, h0, h1, List.mem_cons_self ..⟩).imp fun d ⟨ds, e, l', e', _, _, hd⟩ => by
    rw [e] at e'
    simp only [List.cons.injEq, D.list.injEq, and_true] at e'
    rw [e']
    exact hd
end
section
variable {P : Program} {w : World} {K : PySem.W.Frag} {mg : Str → Option Value} {base : Heap}
abbrev s__law_spaced : Stmt := top 26
theorem sc__law_spaced : FnScope ["_law_source_here", "_law_signs", "_law_text", "_law_last", "_law_one", "_law_gaps"] ["_law_source_here", "_law_signs"] (defScope s__law_spaced) := ⟨rfl, rfl, rfl, by decide +kernel, rfl, by decide +kernel, by decide +kernel⟩
theorem ok__law_spaced {k : Nat} {f : Addr} {fd : FuncData} (T : Tx K mg) (G__law_of : FnT P w K mg base k "_law_of" ["_law_source_here", "_law_some"] (SpD true false ROf)) (Fu : Fun K "_law_spaced" "_law_spaced" s__law_spaced f fd) : FnOk P w K mg base CX0 (k + 1) f fd ["_law_source_here", "_law_signs"] (SpD true false RSp) := by
  refine ok_D Fu sc__law_spaced (fun ds d ⟨_, _, _, _, e, _⟩ => by rw [e]; rfl) fun cdv A outer s H E hr => ?_
  have hu2 : (A.deeper (envOfC "_law_spaced" (defScope s__law_spaced) s.heap.objs.size f cdv)).units + 65 < cLine := by have := hr.un; omega
  refine ⟨_, (pss_cons (ps_par (i := 2) (j := 3) rfl sc__law_spaced.nd rfl rfl (by decide) rfl rfl (pa_cons (pe_callT G__law_of hr (pa_cons (pv 0) (pa_cons (pe_lst (pa_cons pe_str (pa_cons pe_str (pa_cons pe_str pa_nil)))) pa_nil))) (pa_cons pe_str pa_nil)) (by rfl))
    (pss_cons (ps_for PassesOwn.never rfl (qi_any (K := K) (pv 1)) (pg_name (i := 4) sc__law_spaced.nd rfl (Or.inl rfl))
      (pss_cons (ps_set (i := 4) sc__law_spaced.nd rfl (Or.inl rfl) (qBm (K := K) PySem.F.plainAttrs_str PySem.F.slot_str_strip PySem.F.type_str_strip mt_stripChars (pv 4) (pa_cons pe_str pa_nil)))
      (pss_cons (ps_set (i := 5) sc__law_spaced.nd rfl (Or.inl rfl) (pe_lst (pa_cons pe_str (pa_cons pe_str (pa_cons pe_str pa_nil)))))
      (pss_cons (ps_if (PW.pt (pw_or (pt_not (pt_val (qBm0 (K := K) PySem.F.plainAttrs_str PySem.F.slot_str_isalnum PySem.F.type_str_isalnum mt_isalnum (pe_op (qAdd (K := K)) (pv 3) (pv 4))))) (pw_or (pt_cmpR (qEq (K := K) hu2) (pv 3) pe_str (nomark _)) (pw_or1 (PW.pt (pw_and (pt_val (qBm0 (K := K) PySem.F.plainAttrs_str PySem.F.slot_str_isdigit PySem.F.type_str_isdigit mt_isdigit (pv 3))) (pw_and1 (pt_not (pt_val (qBm0 (K := K) PySem.F.plainAttrs_str PySem.F.slot_str_isdigit PySem.F.type_str_isdigit mt_isdigit (pe_ix (qIx (K := K)) (pv 4) pe_int (fun _ _ => rfl))))))))))))
        (pss_one (ps_set (i := 5) sc__law_spaced.nd rfl (Or.inl rfl) (pe_op (qAdd (K := K)) (pv 5) (pe_lst (pa_cons pe_str (pa_cons pe_str (pa_cons pe_str pa_nil)))))))
        pss_nil)
      (pss_one (ps_par (i := 2) (j := 3) rfl sc__law_spaced.nd rfl rfl (by decide) rfl rfl (pa_cons (pe_op (qAdd (K := K)) (pe_op (qAdd (K := K)) (pv 2) (pe_callT G__law_of hr (pa_cons (pv 0) (pa_cons (pv 5) pa_nil)))) (pv 4)) (pa_cons (pv 4) pa_nil)) (by rfl)))))))
    (pss_one (ps_ret (pe_op (qAdd (K := K)) (pv 2) (pe_callT G__law_of hr (pa_cons (pv 0) (pa_cons (pe_lst (pa_cons pe_str (pa_cons pe_str (pa_cons pe_str pa_nil)))) pa_nil)))))))), fun F ds hF hR => ?_⟩
  obtain ⟨_, ws, _, _, _, rfl, hw, hl, _⟩ := hR
  have zl : (200000 : Nat) ≤ sizeLine := by decide
  have gap : ∀ {Δ : List Sl} {l w : List Nat} {gs : List D} {E : XK}, Δ[0]? = some .src → Δ[5]? = some (.v (.list gs)) → 0 < gs.length → gs.length ≤ 6 → (∀ d ∈ gs, IsGap l w d) →
      EvR F (tCall (SpD true false ROf) [] E (tCons (tVar 0) (tCons (tVar 5) tNil))) Δ fun d => ∃ g, d = .str (txt g) ∧ ((∀ c ∈ g, c ∈ blanks) ∧ (g = [] → Jb l w = true) ∧ g.length ≤ 4) := fun {Δ l w gs E} h0 h5 hp hq hg =>
    (ev_of h0 (ev_var h5) hp (Nat.le_trans hq (by decide))).imp fun d hd => hg d hd
  refine run_par (Pa := fun r => ∃ g : List Nat, r = [.str (txt g), .str (txt [40])] ∧ (∀ c ∈ g, c ∈ blanks) ∧ g.length ≤ 4) ((ea_cons (ev_of (i := 0) rfl (EvF.val1 (ef_lst (ea_cons1 ev_str (ea_cons1 ev_str (ea_cons1 ev_str ea_nil))))) (by decide) (by decide)) (ea_cons1 (ev_str.eq (congrArg D.str (show ("(" : Str) = txt [40] by decide +kernel))) ea_nil)).imp ?_) fun r ⟨g, e, hg, hgl⟩ => ⟨_, _, e, ?_⟩
  · rintro r ⟨d, r', rfl, hd, rfl⟩
    obtain ⟨g, e, h1, h2⟩ := end_gap (.inl hd)
    exact ⟨g, by rw [e], h1, h2⟩
  refine run_seqM (N := fun Δ => ∃ t l s4 s5, Δ = [.src, .v (.list (txts ws)), .v (.str (txt t)), .v (.str (txt l)), s4, s5] ∧ Spc ws t l ∧ t.length ≤ 70 * ws.length + 4) ?_ ?_
  · refine run_forP (ei_list (ev_var (i := 1) rfl)) (fun _ i Δ => ∃ t l s4 s5, Δ = [.src, .v (.list (txts ws)), .v (.str (txt t)), .v (.str (txt l)), s4, s5] ∧ Spc (ws.take i) t l ∧ t.length ≤ 70 * i + 4 ∧ l.length ≤ 60)
      (fun ds e => ⟨g, [40], .un, .un, rfl, .nil g hg, by omega, by decide⟩) ?_ ?_
    · rintro ds i d Δ rfl hd ⟨t, l, s4, s5, rfl, hs, ht, hll⟩
      rw [List.getElem?_map, Option.map_eq_some_iff] at hd
      obtain ⟨v, hv, rfl⟩ := hd
      have hm := hw v (List.mem_of_getElem? hv)
      have hvl := menu_len hm
      have hi : i < ws.length := (List.getElem?_eq_some_iff.mp hv).1
      obtain ⟨c, v', hcv⟩ : ∃ c v', v = c :: v' := by
        cases v with
        | nil => exact absurd hvl.1 (by decide)
        | cons c v' => exact ⟨c, v', rfl⟩
      refine ⟨_, _, eg_name, ?_⟩
      refine run_set (d := .str (txt v)) ((ev_strip (ev_var rfl) ev_str (by rw [txt_len]; omega)).eq (by rw [menu_strip hm])) ?_
      refine run_set (EvF.val1 (ef_lst (ea_cons1 ev_str (ea_cons1 ev_str (ea_cons1 ev_str ea_nil))))) ?_
      refine run_seqM (N := fun Δ => ∃ gs : List D, Δ = [.src, .v (.list (txts ws)), .v (.str (txt t)), .v (.str (txt l)), .v (.str (txt v)), .v (.list gs)] ∧ 0 < gs.length ∧ gs.length ≤ 6 ∧ ∀ d ∈ gs, IsGap l v d) ?_ ?_
      · refine run_if (Pb := fun b => b = Jb l v) (et_or1 (et_not1 (et_B1 (ev_alnum (ev_addS (ev_var rfl) (ev_var rfl) (by omega))))) fun _ => et_or1 (et_test1 (ev_eqZ (ev_var rfl) ev_str)) fun _ => et_and1 (et_B1 (ev_digit (ev_var rfl))) fun _ => (et_not1 (et_B1 (ev_digit (ev_ixT (q := 0) (c := c) (ev_var rfl) ev_int (by omega) (by rw [hcv]; rfl))))).eq ?_) (fun hj => ?_) fun hj => ?_
        · rw [hcv]; rfl
        · refine run_set1 (ev_addL (ev_var rfl) (EvF.val1 (ef_lst (ea_cons1 ev_str (ea_cons1 ev_str (ea_cons1 ev_str ea_nil))))) (by decide)) ⟨_, rfl, by decide, by decide, fun d hd => ?_⟩
          rcases List.mem_append.mp hd with hd | hd
          · exact some_gap hd
          · exact none_gap hj.symm hd
        · exact run_next ⟨_, rfl, by decide, by decide, fun d hd => some_gap hd⟩
      · rintro Δ ⟨gs, rfl, g0, g6, hgs⟩
        refine run_par1 (Pa := fun r => ∃ a : List Nat, r = [.str (txt (t ++ a ++ v)), .str (txt v)] ∧ ((∀ c ∈ a, c ∈ blanks) ∧ (a = [] → Jb l v = true) ∧ a.length ≤ 4)) ((ea_cons (ev_addSS (Pa := fun x => ∃ a, x = t ++ a ∧ ((∀ c ∈ a, c ∈ blanks) ∧ (a = [] → Jb l v = true) ∧ a.length ≤ 4)) (Pb := fun x => x = v) ((ev_addSS (Pa := fun x => x = t) ((ev_var rfl).imp fun d e => ⟨t, e, rfl⟩) (gap rfl rfl g0 g6 hgs) fun a b e h => ?_).imp ?_) ((ev_var rfl).imp fun d e => ⟨v, e, rfl⟩) ?_) (ea_cons1 (ev_var rfl) ea_nil)).imp ?_) fun r ⟨a, e, h1, h2, h3⟩ => ⟨_, _, e, ?_⟩
        · subst e; omega
        · rintro d ⟨a, b, rfl, rfl, h⟩
          exact ⟨_, rfl, b, rfl, h⟩
        · rintro x y ⟨a, rfl, _, _, h⟩ rfl
          rw [List.length_append]
          omega
        · rintro r ⟨d, r', rfl, ⟨x, y, rfl, ⟨a, rfl, h⟩, rfl⟩, rfl⟩
          exact ⟨a, rfl, h⟩
        · refine ⟨t ++ a ++ v, v, _, _, rfl, ?_, by simp; omega, hvl.2⟩
          rw [List.take_succ, hv]
          exact .snoc hs h1 h2
    · rintro ds Δ rfl ⟨t, l, s4, s5, rfl, hs, ht, _⟩
      rw [List.length_map] at hs ht
      rw [List.take_length] at hs
      exact ⟨t, l, s4, s5, rfl, hs, ht⟩
  · rintro Δ ⟨t, l, s4, s5, rfl, hs, ht⟩
    refine run_ret (P := fun d => ∃ a b, d = .str (txt (a ++ b)) ∧ a = t ∧ ((∀ c ∈ b, c ∈ blanks) ∧ b.length ≤ 4)) (ev_addSS ((ev_var rfl).imp fun d e => ⟨t, e, rfl⟩) ((ev_of (i := 0) rfl (EvF.val1 (ef_lst (ea_cons1 ev_str (ea_cons1 ev_str (ea_cons1 ev_str ea_nil))))) (by decide) (by decide)).imp fun d hd => end_gap (.inr hd)) ?_) ?_
    · rintro a b rfl ⟨_, h⟩
      omega
    · rintro d ⟨a, b, rfl, rfl, h1, h2⟩
      exact ⟨ws, a, l, b, rfl, hw, hl, hs, h1, rfl, by simp; omega⟩
end
end K14

namespace K14
open PySem L2 PySem.Spec PyProof.Rows Bc
open Lex (endOf run lexAt Lm Lk lexL lexF blanks)
/-! ### scripts as data -/
structure Pl where
  w : List Nat
  n : Nat
def Pl.d (p : Pl) : D := .tuple [.str (txt p.w), .int (p.n : Nat)]
structure Pl.ok (p : Pl) : Prop where
  g : Good p.w
  k : kindW p.w = .word
  l : p.w.length ≤ 12
  n : p.n < 10 ^ 45
structure Dd where
  h : Bool
  ps : List Pl
def Dd.head (x : Dd) : List Nat := if x.h then cStretch else cHang
def Dd.d (x : Dd) : D := .tuple (.str (txt x.head) :: x.ps.map Pl.d)
structure Dd.ok (x : Dd) : Prop where
  ps : ∀ p ∈ x.ps, p.ok
  n : x.ps.length = if x.h then 4 else 2
theorem pl_inj {p q : Pl} (h : p.d = q.d) : p = q := by
  obtain ⟨a, b⟩ := p
  obtain ⟨c, d⟩ := q
  simp only [Pl.d, D.tuple.injEq, List.cons.injEq, D.str.injEq, txt_iff, nat_iff, and_true] at h
  rw [h.1, h.2]
theorem pls_inj : ∀ {l m : List Pl}, l.map Pl.d = m.map Pl.d → l = m
  | [], [], _ => rfl
  | [], _ :: _, h => by cases h
  | _ :: _, [], h => by cases h
  | p :: l, q :: m, h => by
    rw [List.map_cons, List.map_cons, List.cons.injEq] at h
    rw [pl_inj h.1, pls_inj h.2]
theorem dd_inj {x y : Dd} (h : x.d = y.d) : x = y := by
  obtain ⟨a, b⟩ := x
  obtain ⟨c, e⟩ := y
  simp only [Dd.d, D.tuple.injEq, List.cons.injEq, D.str.injEq, txt_iff] at h
  have h1 : a = c := by
    have := h.1
    cases a <;> cases c <;> first | rfl | exact absurd (show cHang = cStretch from this) (by decide) | exact absurd (show cStretch = cHang from this) (by decide)
  rw [h1, pls_inj h.2]
def placeT (p : Pl) : List Nat := p.w ++ [32] ++ TL.numL p.n
def glue (s : List Nat) : List (List Nat) → List Nat
  | [] => []
  | [a] => a
  | a :: b :: r => a ++ s ++ glue s (b :: r)
def deedT (x : Dd) : List Nat := glue [32] (x.head :: x.ps.map placeT)
def blockT (rows : List (List Nat)) : List Nat := cScript ++ [32, 123, 10] ++ (rows.map (· ++ [59, 10])).flatten ++ [125, 10]
def scriptT (xs : List Dd) : List Nat := blockT (xs.map deedT)
theorem num_len {n : Nat} (h : n < 10 ^ 45) : (TL.numL n).length ≤ 45 := TL.numL_len (by decide) h
theorem place_len {p : Pl} (h : p.ok) : (placeT p).length ≤ 58 := by
  have := num_len h.n
  have := h.l
  simp [placeT]
  omega
theorem glue_len (s : List Nat) {b : Nat} : ∀ {l : List (List Nat)}, (∀ x ∈ l, x.length ≤ b) → (glue s l).length ≤ l.length * (b + s.length)
  | [], _ => Nat.zero_le _
  | [a], h => by
    have := h a (List.mem_cons_self ..)
    simp [glue]
    omega
  | a :: c :: r, h => by
    have h1 := h a (List.mem_cons_self ..)
    have h2 := glue_len s (l := c :: r) fun x hx => h x (List.mem_cons_of_mem _ hx)
    simp only [glue, List.length_append, List.length_cons] at h2 ⊢
    rw [Nat.add_mul (r.length + 1)]
    omega
theorem deed_len {x : Dd} (h : x.ok) : (deedT x).length ≤ 295 := by
  have hh : x.head.length ≤ 58 := by unfold Dd.head; split <;> decide
  have h5 : x.ps.length ≤ 4 := by rw [h.n]; split <;> decide
  have := glue_len [32] (b := 58) (l := x.head :: x.ps.map placeT) fun y hy => by
    rcases List.mem_cons.mp hy with rfl | hy
    · exact hh
    · obtain ⟨p, hp, rfl⟩ := List.mem_map.mp hy
      exact place_len (h.ps p hp)
  unfold deedT
  simp only [List.length_cons, List.length_map, List.length_nil] at this
  omega
theorem num_txt (n : Nat) : (Str.ofString (toString ((n : Nat) : Int))) = txt (TL.numL n) := by
  have := TL.tl_num n
  rw [← this]
  exact (txt_eta _).symm
theorem log_ok {n : Nat} (h : n < 10 ^ 45) : (n : Int).natAbs.log2 < 1920 := by
  rw [Int.natAbs_natCast]
  by_cases h0 : n = 0
  · subst h0
    decide
  · rw [Nat.log2_lt h0]
    exact Nat.lt_of_lt_of_le (Nat.lt_trans h (show 10 ^ 45 < 2 ^ 150 by decide)) (Nat.pow_le_pow_right (by decide) (by decide))
theorem join_txt (s : List Nat) : ∀ l : List (List Nat), Str.join (txt s) (l.map txt) = txt (glue s l)
  | [] => rfl
  | [a] => rfl
  | a :: b :: r => by
    have ih := join_txt s (b :: r)
    show txt a ++ txt s ++ Str.join (txt s) ((b :: r).map txt) = txt (a ++ s ++ glue s (b :: r))
    rw [ih, txt_app, txt_app]
theorem glued_txt (s : List Nat) (l : List (List Nat)) : Txt.join (txt s) (l.map txt) = txt (glue s l) := by
  unfold Txt.join
  rw [PySem.StrLaws.glued_eq_join]
  exact join_txt s l
section
variable {F : Fp} {Δ : List Sl} {ta tb te : TE} {K : PySem.W.Frag} {E : XK}
theorem ef_mapL {α : Type} {wi : TI} {g : TG} {vs : List Nat} (l : List α) (f f' : α → D) (h : EvI F wi Δ fun r => r = l.map f) (hz : l.length ≤ sizeLine)
    (hs : ∀ (i : Nat) (a : α), l[i]? = some a → ∃ js Δ', EvG F g (f a) (wipeD Δ vs) js Δ' ∧ (∀ j ∈ js, j ∈ vs) ∧ Ev1 F te Δ' (f' a)) : EvF F (tLc wi g tYes te vs) Δ fun r => r = l.map f' := by
  refine ef_lcP h (fun _ e => by rw [e, List.length_map]; exact hz) (fun ds' i acc => acc = (l.take i).map f') (fun ds' _ => by simp) (fun ds' i d acc e hi ha _ => ?_) fun ds' acc e ha => by subst e; rw [ha, List.length_map, List.take_length]
  subst e
  rw [List.getElem?_map, Option.map_eq_some_iff] at hi
  obtain ⟨a, hi, rfl⟩ := hi
  obtain ⟨js, Δ', hg, hj, he⟩ := hs i a hi
  refine ⟨js, Δ', hg, hj, fun c => c = true, et_yes, (nomatch ·), fun _ => he.imp fun x hx => ?_⟩
  rw [ha, hx, List.take_succ, hi]
  simp
theorem ev_strN {n : Nat} (h : Ev1 F te Δ (.int (n : Nat))) (hn : n < 10 ^ 45) : Ev1 F (tCB rStrP (tCons te tNil)) Δ (.str (txt (TL.numL n))) :=
  (ev_cb1 sStrC (ea_cons1 h ea_nil) ⟨log_ok hn, rfl⟩).eq (congrArg D.str (num_txt n))
theorem ev_join {s : List Nat} {l : List (List Nat)} (ha : Ev1 F ta Δ (.str (txt s))) (hb : EvF F tb Δ fun r => r = l.map fun x => .str (txt x)) (hz : (l.map (·.length)).sum + l.length * s.length ≤ 16777216) :
    Ev1 F (tM1 (fun x xs H Q => ∃ a p, ∃ ys : List Str, x = .str a ∧ xs = [.ref p] ∧ (SqL K H p (ys.map V.str) ∨ SqT K H p (ys.map V.str)) ∧ (ys.map (·.length)).sum + ys.length * a.length ≤ 16777216 ∧ Q (.str (Txt.join a ys)) H) ta tb) Δ (.str (txt (glue s l))) := fun H0 S H σ w t Q k => by
  refine ha H0 S H σ w t _ fun d v S1 H1 e1 g1 hv => ?_
  subst e1
  simp only [Dt] at hv
  subst hv
  refine ⟨⟨_, rfl⟩, hb H0 S1 H1 σ (g1.ok w) (t.mono g1) _ fun ds p xs S2 H2 e2 g2 hp h2 hs hd => ?_⟩
  subst e2
  have hxs : xs = (l.map txt).map V.str := by
    have key : ∀ {l : List (List Nat)} {xs : List V}, DtL S2 (l.map fun x => D.str (txt x)) xs → xs = (l.map txt).map V.str := fun {l} => by
      induction l with
      | nil => intro xs h; simpa only [List.map_nil, DtL] using h
      | cons a l ih =>
        intro xs h
        simp only [List.map_cons, DtL, Dt] at h
        obtain ⟨x, ys, rfl, rfl, h⟩ := h
        rw [ih h]
        rfl
    exact key hd
  subst hxs
  refine ⟨txt s, p, l.map txt, rfl, rfl, .inl (SqL.of h2), ?_, ?_⟩
  · rw [List.map_map, List.length_map, txt_len]
    have : ((fun x : Str => x.length) ∘ txt) = fun x : List Nat => x.length := funext fun x => txt_len x
    rw [this]
    exact hz
  · rw [glued_txt]
    exact k _ _ S2 H2 rfl (g1.trans g2) (by simp only [Dt])
end
section
variable {P : Program} {w : World} {K : PySem.W.Frag} {mg : Str → Option Value} {base : Heap}
def RPlaceT (ds : List D) (d : D) : Prop := ∃ p : Pl, p.ok ∧ ds = [p.d] ∧ d = .str (txt (placeT p))
abbrev s_place_text : Stmt := top 18
theorem sc_place_text : FnScope ["place"] ["place"] (defScope s_place_text) := ⟨rfl, rfl, rfl, by decide +kernel, rfl, by decide +kernel, by decide +kernel⟩
theorem ok_place_text {k : Nat} {f : Addr} {fd : FuncData} (T : Tx K mg) (Fu : Fun K "place_text" "place_text" s_place_text f fd) : FnOk P w K mg base CX0 (k + 1) f fd ["place"] (SpD false false RPlaceT) := by
  refine ok_D Fu sc_place_text (fun ds d ⟨p, _, e, _⟩ => by rw [e]; rfl) fun cdv A outer s H E hr => ?_
  refine ⟨_, (pss_one (ps_ret (pe_op (qAdd (K := K)) (pe_op (qAdd (K := K)) (pe_ix (qIx (K := K)) (pv 0) pe_int (fun _ _ => rfl)) pe_str) (pe_callTy pStr (by rfl) T.n_str (by decide +kernel) (pa_cons (pe_ix (qIx (K := K)) (pv 0) pe_int (fun _ _ => rfl)) pa_nil))))), fun F ds hF hR => ?_⟩
  obtain ⟨_, p, hp, rfl, rfl⟩ := hR
  have h1 := num_len hp.n
  have h2 := hp.l
  have z : ∀ n ≤ 1000, n ≤ sizeLine := fun n hn => Nat.le_trans hn (by decide)
  exact run_ret1 (ev_addS (ev_addS (ev_ixU (q := 0) (ev_var (d := p.d) rfl) ev_int rfl) (ev_str.eq (congrArg D.str (show (" " : Str) = txt [32] by decide +kernel))) (z _ (by simp; omega))) (ev_strN (ev_ixU (q := 1) (ev_var (d := p.d) rfl) ev_int rfl) hp.n) (z _ (by simp; omega))) ⟨p, hp, rfl, rfl⟩
def RDeedT (ds : List D) (d : D) : Prop := ∃ x : Dd, x.ok ∧ ds = [x.d] ∧ d = .str (txt (deedT x))
abbrev s_deed_text : Stmt := top 19
theorem sc_deed_text : FnScope ["deed", "place"] ["deed"] (defScope s_deed_text) := ⟨rfl, rfl, rfl, by decide +kernel, rfl, by decide +kernel, by decide +kernel⟩
theorem ok_deed_text {k : Nat} {f : Addr} {fd : FuncData} (T : Tx K mg) (G_place_text : FnT P w K mg base k "place_text" ["place"] (SpD false false RPlaceT)) (Fu : Fun K "deed_text" "deed_text" s_deed_text f fd) : FnOk P w K mg base CX0 (k + 1) f fd ["deed"] (SpD false false RDeedT) := by
  refine ok_D Fu sc_deed_text (fun ds d ⟨p, _, e, _⟩ => by rw [e]; rfl) fun cdv A outer s H E hr => ?_
  refine ⟨_, (pss_one (ps_ret (pe_join pe_str (pe_lst (pa_cons (pe_ix (qIx (K := K)) (pv 0) pe_int (fun _ _ => rfl)) (StX.pa_star (pe_lc (own := [("place", 1)]) rfl sc_deed_text.nd (qi_any (K := K) (pe_slice (qSl (K := K)) (pv 0) (po_some pe_int) po_none)) (blkOk_by (own := [("place", 1)]) (N := ["deed", "place"]) (sc := defScope s_deed_text) (by decide +kernel)) (fun _ _ _ _ _ => (pg_name (i := 1) sc_deed_text.nd rfl (by first | exact Or.inl rfl | exact Or.inr rfl))) (fun _ _ _ _ _ => pts_nil) (fun _ _ _ _ _ => (pe_callT G_place_text hr (pa_cons (pv 1) pa_nil)))) pa_nil)))))), fun F ds hF hR => ?_⟩
  obtain ⟨_, x, hx, rfl, rfl⟩ := hR
  have h4 : x.ps.length ≤ 4 := by rw [hx.n]; split <;> decide
  have z : ∀ n ≤ 1000, n ≤ sizeLine := fun n hn => Nat.le_trans hn (by decide)
  have hsum : ((x.head :: x.ps.map placeT).map (·.length)).sum + (x.head :: x.ps.map placeT).length * 1 ≤ 16777216 := by
    have hh : x.head.length ≤ 58 := by unfold Dd.head; split <;> decide
    have : ∀ {l : List Pl}, (∀ p ∈ l, p.ok) → ((l.map placeT).map (·.length)).sum ≤ 58 * l.length := fun {l} => by
      induction l with
      | nil => intro _; simp
      | cons p l ih =>
        intro h
        have h1 := place_len (h p (List.mem_cons_self ..))
        have h2 := ih fun q hq => h q (List.mem_cons_of_mem _ hq)
        simp only [List.map_cons, List.sum_cons, List.length_cons] at h2 ⊢
        omega
    have := this hx.ps
    simp only [List.map_cons, List.sum_cons, List.length_cons, List.length_map] at this ⊢
    omega
  refine run_ret1 (ev_join (s := [32]) (l := x.head :: x.ps.map placeT) (ev_str.eq (congrArg D.str (show (" " : Str) = txt [32] by decide +kernel))) (ef_lstP ((ea_cons (P := fun d => d = .str (txt x.head)) (Pr := fun r => r = x.ps.map fun p => .str (txt (placeT p))) (ev_ixU (q := 0) (ev_var (d := x.d) rfl) ev_int rfl) ((ea_star (Pa := fun l => l = x.ps.map fun p => .str (txt (placeT p))) (ef_mapL x.ps Pl.d (fun p => .str (txt (placeT p))) (ei_tup (ev_sl1 (ev_var (d := x.d) rfl) (eo_some ev_int) eo_none ?_)) (z _ (by omega)) fun i p hp => ?_) ea_nil).imp ?_)).imp ?_) ?_) hsum) ⟨x, hx, rfl, rfl⟩
  · refine ⟨fun h => ?_, ?_⟩
    · have := h.1
      rw [show (1 : Int) = ((1 : Nat) : Int) by rfl, HT.sIx_nat] at this
      simp at this
    · unfold Bc.cutD
      rw [show (1 : Int) = ((1 : Nat) : Int) by rfl, HT.sIx_nat, HT.sIx_none]
      simp
      exact (List.take_of_length_le (by simp)).symm
  · refine ⟨[1], [.v x.d, .v p.d], eg_name, by simp, (ev_call1 (ea_cons1 (ev_var rfl) ea_nil) ⟨p, hx.ps p (List.mem_of_getElem? hp), rfl, rfl⟩ fun e ⟨q, _, h1, h2⟩ => ?_)⟩
    simp only [List.cons.injEq, and_true] at h1
    rw [h2, pl_inj h1]
  · rintro ds ⟨l, r, rfl, rfl, rfl⟩
    simp
  · rintro ds ⟨d, r, rfl, rfl, rfl⟩
    simp
  · rintro ds e
    rw [e]
    simp only [List.length_map, List.length_cons]
    exact z _ (by omega)
end
end K14

namespace K14
open PySem L2 PySem.Spec PyProof.Rows Bc
open Lex (endOf run lexAt Lm Lk lexL lexF blanks)
theorem glue_nil : ∀ l : List (List Nat), glue [] l = l.flatten
  | [] => rfl
  | [a] => by simp [glue]
  | a :: b :: r => by
    have := glue_nil (b :: r)
    simp only [glue, List.append_nil, List.flatten_cons] at this ⊢
    rw [this]
theorem sum_le {b : Nat} : ∀ {l : List (List Nat)}, (∀ x ∈ l, x.length ≤ b) → (l.map (·.length)).sum ≤ b * l.length
  | [], _ => Nat.zero_le _
  | a :: l, h => by
    have h1 := h a (List.mem_cons_self ..)
    have h2 := sum_le (l := l) fun x hx => h x (List.mem_cons_of_mem _ hx)
    simp only [List.map_cons, List.sum_cons, List.length_cons]
    rw [Nat.mul_succ]
    omega
section
variable {P : Program} {w : World} {K : PySem.W.Frag} {mg : Str → Option Value} {base : Heap}
def RBlockT (ds : List D) (d : D) : Prop := ∃ rows : List (List Nat), ds = [.str "script", .list (txts rows)] ∧ (∀ r ∈ rows, r.length ≤ 300) ∧ rows.length ≤ 1000 ∧ d = .str (txt (blockT rows))
abbrev s_block : Stmt := top 17
theorem sc_block : FnScope ["head", "rows", "row"] ["head", "rows"] (defScope s_block) := ⟨rfl, rfl, rfl, by decide +kernel, rfl, by decide +kernel, by decide +kernel⟩
theorem ok_block {k : Nat} {f : Addr} {fd : FuncData} (T : Tx K mg) (Fu : Fun K "block" "block" s_block f fd) : FnOk P w K mg base CX0 (k + 1) f fd ["head", "rows"] (SpD false false RBlockT) := by
  refine ok_D Fu sc_block (fun ds d ⟨_, e, _⟩ => by rw [e]; rfl) fun cdv A outer s H E hr => ?_
  refine ⟨_, (pss_one (ps_ret (pe_join pe_str (pe_lst (pa_cons (pv 0) (pa_cons pe_str (StX.pa_star (pe_lc (own := [("row", 2)]) rfl sc_block.nd (qi_any (K := K) (pv 1)) (blkOk_by (own := [("row", 2)]) (N := ["head", "rows", "row"]) (sc := defScope s_block) (by decide +kernel)) (fun _ _ _ _ _ => (pg_name (i := 2) sc_block.nd rfl (by first | exact Or.inl rfl | exact Or.inr rfl))) (fun _ _ _ _ _ => pts_nil) (fun _ _ _ _ _ => (pe_op (qAdd (K := K)) (pv 2) pe_str))) (pa_cons pe_str pa_nil)))))))), fun F ds hF hR => ?_⟩
  obtain ⟨_, rows, rfl, hb, hl, rfl⟩ := hR
  have z : ∀ n ≤ 100000, n ≤ sizeLine := fun n hn => Nat.le_trans hn (by decide)
  have l1 : ("script" : Str) = txt cScript := by decide +kernel
  have l2 : (" {\n" : Str) = txt [32, 123, 10] := by decide +kernel
  have l3 : (";\n" : Str) = txt [59, 10] := by decide +kernel
  have l4 : ("}\n" : Str) = txt [125, 10] := by decide +kernel
  refine run_ret1 ((ev_join (s := []) (l := cScript :: [32, 123, 10] :: (rows.map (· ++ [59, 10]) ++ [[125, 10]])) (ev_str.eq (congrArg D.str (show ("" : Str) = txt [] by decide +kernel))) (ef_lstP ((ea_cons (P := fun d => d = .str (txt cScript)) (Pr := fun r => r = .str (txt [32, 123, 10]) :: ((rows.map fun r => .str (txt (r ++ [59, 10]))) ++ [.str (txt [125, 10])])) ((ev_var (d := .str "script") rfl).imp fun d e => by rw [e, l1]) ((ea_cons (P := fun d => d = .str (txt [32, 123, 10])) (Pr := fun r => r = (rows.map fun r => .str (txt (r ++ [59, 10]))) ++ [.str (txt [125, 10])]) (ev_str.eq (congrArg D.str l2)) ((ea_star (Pa := fun l => l = rows.map fun r => .str (txt (r ++ [59, 10]))) (Pr := fun r => r = [.str (txt [125, 10])]) (ef_mapL rows (fun r => .str (txt r)) (fun r => .str (txt (r ++ [59, 10]))) (ei_list (ev_var rfl)) (z _ (by omega)) fun i r hr' => ?_) (ea_cons1 (ev_str.eq (congrArg D.str l4)) ea_nil)).imp ?_)).imp ?_)).imp ?_) ?_) ?_).eq ?_) ⟨rows, rfl, hb, hl, rfl⟩
  · have := hb r (List.mem_of_getElem? hr')
    exact ⟨[2], [.v (.str "script"), .v (.list (txts rows)), .v (.str (txt r))], eg_name, by simp, ev_addS (ev_var rfl) (ev_str.eq (congrArg D.str l3)) (z _ (by simp; omega))⟩
  · rintro ds ⟨l, r, rfl, rfl, rfl⟩
    rfl
  · rintro ds ⟨d, r, rfl, rfl, rfl⟩
    rfl
  · rintro ds ⟨d, r, rfl, rfl, rfl⟩
    simp
  · rintro ds e
    rw [e]
    simp only [List.length_map, List.length_cons, List.length_append, List.length_nil]
    exact z _ (by omega)
  · have := sum_le (b := 302) (l := rows.map (· ++ [59, 10])) fun x hx => by
      obtain ⟨r, hr', rfl⟩ := List.mem_map.mp hx
      have := hb r hr'
      simp
      omega
    simp only [List.map_cons, List.sum_cons, List.length_cons, List.map_append, List.sum_append, List.length_append, List.length_map, List.map_nil, List.sum_nil, List.length_nil] at this ⊢
    have hc : cScript.length = 6 := rfl
    omega
  · rw [glue_nil]
    unfold blockT
    simp
def RScriptT (ds : List D) (d : D) : Prop := ∃ xs : List Dd, (∀ x ∈ xs, x.ok) ∧ xs.length ≤ 1000 ∧ (ds = [.list (xs.map Dd.d)] ∨ ds = [.tuple (xs.map Dd.d)]) ∧ d = .str (txt (scriptT xs))
theorem dds_inj : ∀ {l m : List Dd}, l.map Dd.d = m.map Dd.d → l = m
  | [], [], _ => rfl
  | [], _ :: _, h => by cases h
  | _ :: _, [], h => by cases h
  | p :: l, q :: m, h => by
    rw [List.map_cons, List.map_cons, List.cons.injEq] at h
    rw [dd_inj h.1, dds_inj h.2]
abbrev s_script_text : Stmt := top 20
theorem sc_script_text : FnScope ["script", "deed"] ["script"] (defScope s_script_text) := ⟨rfl, rfl, rfl, by decide +kernel, rfl, by decide +kernel, by decide +kernel⟩
theorem ok_script_text {k : Nat} {f : Addr} {fd : FuncData} (T : Tx K mg) (G_block : FnT P w K mg base k "block" ["head", "rows"] (SpD false false RBlockT)) (G_deed_text : FnT P w K mg base k "deed_text" ["deed"] (SpD false false RDeedT)) (Fu : Fun K "script_text" "script_text" s_script_text f fd) : FnOk P w K mg base CX0 (k + 1) f fd ["script"] (SpD false false RScriptT) := by
  refine ok_D Fu sc_script_text (fun ds d ⟨xs, _, _, e, _⟩ => by rcases e with e | e <;> rw [e] <;> rfl) fun cdv A outer s H E hr => ?_
  refine ⟨_, (pss_one (ps_ret (pe_callT G_block hr (pa_cons pe_str (pa_cons (pe_lc (own := [("deed", 1)]) rfl sc_script_text.nd (qi_any (K := K) (pv 0)) (blkOk_by (own := [("deed", 1)]) (N := ["script", "deed"]) (sc := defScope s_script_text) (by decide +kernel)) (fun _ _ _ _ _ => (pg_name (i := 1) sc_script_text.nd rfl (by first | exact Or.inl rfl | exact Or.inr rfl))) (fun _ _ _ _ _ => pts_nil) (fun _ _ _ _ _ => (pe_callT G_deed_text hr (pa_cons (pv 1) pa_nil)))) pa_nil))))), fun F ds hF hR => ?_⟩
  obtain ⟨_, xs, hx, hl, hds, rfl⟩ := hR
  have z : ∀ n ≤ 100000, n ≤ sizeLine := fun n hn => Nat.le_trans hn (by decide)
  obtain ⟨y, hy⟩ : ∃ y, ds = [y] := by rcases hds with e | e <;> exact ⟨_, e⟩
  subst hy
  have hd : ∀ {Δ : List Sl}, Δ[0]? = some (.v y) → EvI F (iAny K (tVar 0)) Δ fun r => r = xs.map Dd.d := fun {Δ} h => by
    rcases hds with e | e
    · cases e
      exact ei_list (ev_var h)
    · cases e
      exact ei_tup (ev_var h)
  refine run_ret1 (ev_call1 (ds := [.str "script", .list (txts (xs.map deedT))]) (ea_cons1 ev_str (ea_cons1 (EvF.val1 ((ef_mapL xs Dd.d (fun x => .str (txt (deedT x))) (hd rfl) (z _ (by omega)) fun i x hi => ?_).imp fun r e => ?_)) ea_nil)) ⟨xs.map deedT, rfl, fun r hr => ?_, by rw [List.length_map]; exact hl, rfl⟩ fun e h => ?_) ⟨xs, hx, hl, hds, rfl⟩
  · refine ⟨[1], [.v y, .v x.d], eg_name, by simp, ev_call1 (ea_cons1 (ev_var rfl) ea_nil) ⟨x, hx x (List.mem_of_getElem? hi), rfl, rfl⟩ fun e ⟨q, _, h1, h2⟩ => ?_⟩
    simp only [List.cons.injEq, and_true] at h1
    rw [h2, dd_inj h1]
  · rw [e]
    simp [txts]
  · obtain ⟨x, hxm, rfl⟩ := List.mem_map.mp hr
    exact Nat.le_trans (deed_len (hx x hxm)) (by decide)
  · obtain ⟨rows, h1, _, _, h2⟩ := h
    simp only [List.cons.injEq, D.list.injEq, and_true, true_and] at h1
    have inj : ∀ {a b : List (List Nat)}, txts a = txts b → a = b := fun {a b} => by
      induction a generalizing b with
      | nil => cases b with
        | nil => intro _; rfl
        | cons => intro h; cases h
      | cons x a ih => cases b with
        | nil => intro h; cases h
        | cons y b =>
          intro h
          simp only [txts, List.map_cons, List.cons.injEq, D.str.injEq, txt_iff] at h
          rw [h.1, ih h.2]
    rw [h2, inj h1]
end
end K14

namespace K14
open PySem L2 PySem.Spec PyProof.Rows Bc
open Lex (endOf run lexAt Lm Lk lexL lexF blanks)
section
variable {F : Fp} {Δ : List Sl} {ta tb te : TE} {K : PySem.W.Frag} {E : XK}
theorem ef_addL {l m : List D} (ha : Ev1 F ta Δ (.list l)) (hb : Ev1 F tb Δ (.list m)) (hz : l.length + m.length ≤ sizeLine) : EvF F (tOp (rAddP K) ta tb) Δ fun r => r = l ++ m := fun H0 S H σ w t Q k => by
  refine ha H0 S H σ w t _ fun d u S1 H1 e1 g1 hu => ?_
  subst e1
  refine hb H0 S1 H1 σ (g1.ok w) (t.mono g1) _ fun d v S2 H2 e2 g2 hv => ?_
  subst e2
  have hu2 := hu.mono g2.s
  simp only [Dt] at hu2 hv
  obtain ⟨p, xs, rfl, e1, h1⟩ := hu2
  obtain ⟨q, ys, rfl, e2, h2⟩ := hv
  refine .inr (.inr (.inl ⟨p, q, xs, ys, rfl, rfl, g2.h _ _ e1, g2.h _ _ e2, by rw [← h1.len, ← h2.len]; exact hz, fun r hr => ?_⟩))
  have hn : H r = Option.none := by
    cases e : H r with
    | none => rfl
    | some o =>
      obtain ⟨o', e'⟩ := (g1.trans g2).m r o e
      rw [hr] at e'
      cases e'
  exact k _ r (xs ++ ys) S2 _ rfl ((g1.trans g2).trans (Gr.new g2.h hr)) hn upd_same (Same.free g2.h hr) (h1.append h2)
theorem pyL_any (z : Str) : ∀ zs : List Str, (pyL (zs.map D.str)).any (fun y => PyData.eqv y (D.str z).py) = decide (z ∈ zs)
  | [] => rfl
  | a :: zs => by
    have ih := pyL_any z zs
    simp only [D.py] at ih
    simp only [List.map_cons, pyL, List.any_cons, D.py, PyData.eqv]
    rw [ih, Bool.eq_iff_iff]
    simp only [Bool.or_eq_true, beq_iff_eq, decide_eq_true_eq, List.mem_cons]
    exact ⟨fun h => h.elim (fun e => .inl e.symm) .inr, fun h => h.elim (fun e => .inl e.symm) .inr⟩
theorem isPy_strs : ∀ zs : List Str, isPyL (zs.map D.str) = true
  | [] => rfl
  | a :: zs => by simp only [List.map_cons, isPyL, isPy_strs zs, D.isPy, Bool.and_self]
theorem ev_inS {z : Str} {zs : List Str} (ha : Ev1 F ta Δ (.str z)) (hb : Ev1 F tb Δ (.list (zs.map D.str))) (h1 : (D.str z).eqOk) (h2 : (D.list (zs.map D.str)).eqOk) : Ev1 F (tOp (rInP K false) ta tb) Δ (.bool (decide (z ∈ zs))) :=
  ev_op1 sIn ha hb ⟨h1.1, isPy_strs zs, h1.2, h2.2, by rw [if_neg (by decide), pyL_any]⟩
end
/-! ### joined -/
def gapOf (l w : List Nat) : List Nat := if l = [40] ∨ w ∈ [[41], [44], [59], [94, 40]] then [] else if l ∈ [[59], [123], [125]] then [10] else [32]
def jStep (s : List Nat × List Nat) (w : List Nat) : List Nat × List Nat := (s.1 ++ gapOf s.2 w ++ w, w)
def joinT (ws : List (List Nat)) : List Nat := (ws.foldl jStep ([], [40])).1 ++ [10]
theorem not_alnum {l : List Nat} {c : Nat} (hc : c ∈ l) (h : Unicode.isAlnum c = false) : Txt.isalnum (txt l) = false := by
  unfold Txt.isalnum
  have : (txt l).cps.all Unicode.isAlnum = false := by
    show (l.toArray).all _ = false
    rw [List.all_toArray, List.all_eq_false]
    exact ⟨c, hc, by rw [h]; decide⟩
  rw [this, Bool.and_false]
theorem gap_ok (l w : List Nat) : (∀ c ∈ gapOf l w, c ∈ blanks) ∧ (gapOf l w = [] → Jb l w = true) ∧ (gapOf l w).length ≤ 1 := by
  have al : Unicode.isAlnum 40 = false ∧ Unicode.isAlnum 41 = false ∧ Unicode.isAlnum 44 = false ∧ Unicode.isAlnum 59 = false ∧ Unicode.isAlnum 94 = false := by decide +kernel
  unfold gapOf
  by_cases h : l = [40] ∨ w ∈ [[41], [44], [59], [94, 40]]
  · rw [if_pos h]
    refine ⟨fun c hc => (by cases hc), fun _ => ?_, Nat.zero_le _⟩
    have key : Txt.isalnum (txt (l ++ w)) = false := by
      rcases h with rfl | h
      · exact not_alnum (c := 40) (by simp) al.1
      · simp only [List.mem_cons, List.not_mem_nil, or_false] at h
        rcases h with rfl | rfl | rfl | rfl
        · exact not_alnum (c := 41) (by simp) al.2.1
        · exact not_alnum (c := 44) (by simp) al.2.2.1
        · exact not_alnum (c := 59) (by simp) al.2.2.2.1
        · exact not_alnum (c := 94) (by simp) al.2.2.2.2
    unfold Jb
    rw [key]
    rfl
  · rw [if_neg h]
    by_cases h2 : l ∈ [[59], [123], [125]]
    · rw [if_pos h2]
      exact ⟨by decide, fun e => (nomatch e), Nat.le_refl _⟩
    · rw [if_neg h2]
      exact ⟨by decide, fun e => (nomatch e), Nat.le_refl _⟩
theorem join_spc : ∀ ws : List (List Nat), Spc ws (ws.foldl jStep ([], [40])).1 (ws.foldl jStep ([], [40])).2 := fun ws => by
  have key : ∀ (n : Nat), Spc (ws.take n) ((ws.take n).foldl jStep ([], [40])).1 ((ws.take n).foldl jStep ([], [40])).2 := fun n => by
    induction n with
    | zero => exact .nil [] (fun c h => by cases h)
    | succ n ih =>
      rw [List.take_succ]
      cases e : ws[n]? with
      | none => simpa using ih
      | some w =>
        simp only [Option.toList_some, List.foldl_append, List.foldl_cons, List.foldl_nil]
        obtain ⟨g1, g2, _⟩ := gap_ok ((ws.take n).foldl jStep ([], [40])).2 w
        exact .snoc ih g1 g2
  have := key ws.length
  rw [List.take_length] at this
  exact this
section
variable {P : Program} {w : World} {K : PySem.W.Frag} {mg : Str → Option Value} {base : Heap}
def RJoin (ds : List D) (d : D) : Prop := ∃ ws : List (List Nat), ds = [.list (txts ws)] ∧ (∀ w ∈ ws, GW w) ∧ ws.length ≤ 1600 ∧ d = .str (txt (joinT ws))
theorem str_ok {l : List Nat} (h : ∀ c ∈ l, c < 128) : (D.str (txt l)).eqOk := D.okn_ok (okn_txt h)
theorem good_128 {w : List Nat} (h : Good w) : ∀ c ∈ w, c < 128 := by
  have key : ∀ c : Nat, c ∈ Lex.signs ∨ c ∈ Lex.letters ++ Lex.digits → c < 128 := by
    have : ((Lex.signs ++ (Lex.letters ++ Lex.digits)).all fun c => decide (c < 128)) = true := by decide
    intro c hc
    exact of_decide_eq_true (List.all_eq_true.mp this c (List.mem_append.mpr hc))
  obtain ⟨d, r, rfl, hd⟩ := h
  intro c hc
  by_cases hs : d ∈ Lex.signs
  · have : r = [] := by
      unfold GoodW at hd
      rw [if_pos hs] at hd
      exact hd
    subst this
    rw [List.mem_singleton] at hc
    subst hc
    exact key _ (.inl hs)
  · exact key c (.inr (good_an hd hs c hc))
abbrev s__law_joined : Stmt := top 25
theorem sc__law_joined : FnScope ["_law_signs", "_law_text", "_law_last", "_law_one", "_law_gap"] ["_law_signs"] (defScope s__law_joined) := ⟨rfl, rfl, rfl, by decide +kernel, rfl, by decide +kernel, by decide +kernel⟩
theorem ok__law_joined {k : Nat} {f : Addr} {fd : FuncData} (T : Tx K mg) (Fu : Fun K "_law_joined" "_law_joined" s__law_joined f fd) : FnOk P w K mg base CX0 (k + 1) f fd ["_law_signs"] (SpD false false RJoin) := by
  refine ok_D Fu sc__law_joined (fun ds d ⟨_, e, _⟩ => by rw [e]; rfl) fun cdv A outer s H E hr => ?_
  have hu2 : (A.deeper (envOfC "_law_joined" (defScope s__law_joined) s.heap.objs.size f cdv)).units + 65 < cLine := by have := hr.un; omega
  refine ⟨_, (pss_cons (ps_asg (pe_tup (pa_cons pe_str (pa_cons pe_str pa_nil))) (qg_tup (K := K) rfl (pgs_cons (pg_name (i := 1) sc__law_joined.nd rfl (Or.inl rfl)) (pgs_cons (pg_name (i := 2) sc__law_joined.nd rfl (Or.inl rfl)) pgs_nil))))
    (pss_cons (ps_for PassesOwn.never rfl (qi_any (K := K) (pv 0)) (pg_name (i := 3) sc__law_joined.nd rfl (Or.inl rfl))
      (pss_cons (ps_set (i := 4) sc__law_joined.nd rfl (Or.inl rfl) pe_str)
      (pss_cons (ps_if (PW.pt (pw_or (pt_cmpR (qEq (K := K) hu2) (pv 2) pe_str (nomark _)) (pw_or1 (pt_cmpR (qIn (K := K) hu2) (pv 3) (pe_lst (pa_cons pe_str (pa_cons pe_str (pa_cons pe_str (pa_cons pe_str pa_nil))))) rfl))))
        (pss_one (ps_set (i := 4) sc__law_joined.nd rfl (Or.inl rfl) pe_str))
        (pss_one (ps_if (pt_cmpR (qIn (K := K) hu2) (pv 2) (pe_lst (pa_cons pe_str (pa_cons pe_str (pa_cons pe_str pa_nil)))) rfl)
          (pss_one (ps_set (i := 4) sc__law_joined.nd rfl (Or.inl rfl) pe_str))
          pss_nil)))
      (pss_cons (ps_set (i := 2) sc__law_joined.nd rfl (Or.inl rfl) (qBm (K := K) PySem.F.plainAttrs_str PySem.F.slot_str_strip PySem.F.type_str_strip mt_stripChars (pv 3) (pa_cons pe_str pa_nil)))
      (pss_one (ps_set (i := 1) sc__law_joined.nd rfl (Or.inl rfl) (pe_op (qAdd (K := K)) (pe_op (qAdd (K := K)) (pv 1) (pv 4)) (pv 2))))))))
    (pss_one (ps_ret (pe_op (qAdd (K := K)) (pv 1) pe_str))))), fun F ds hF hR => ?_⟩
  obtain ⟨_, ws, rfl, hw, hl, rfl⟩ := hR
  have z : ∀ n ≤ 100000, n ≤ sizeLine := fun n hn => Nat.le_trans hn (by decide)
  have l40 : ("(" : Str) = txt [40] := by decide +kernel
  have lA : [(")" : Str), ",", ";", "^("] = [[41], [44], [59], [94, 40]].map txt := by decide +kernel
  have lB : [(";" : Str), "{", "}"] = [[59], [123], [125]].map txt := by decide +kernel
  have memT : ∀ (w : List Nat) (l : List (List Nat)), decide (txt w ∈ l.map txt) = decide (w ∈ l) := fun w l => by
    rw [Bool.eq_iff_iff, decide_eq_true_iff, decide_eq_true_iff, List.mem_map]
    exact ⟨fun ⟨a, ha, e⟩ => txt_inj e ▸ ha, fun h => ⟨w, h, rfl⟩⟩
  refine run_asgGS (d := .tuple [.str (txt []), .str (txt [40])]) (ev_tup (ea_cons1 (ev_str.eq (congrArg D.str (show ("" : Str) = txt [] by decide +kernel))) (ea_cons1 (ev_str.eq (congrArg D.str l40)) ea_nil))) (eg_tup rfl (egs_cons eg_name (egs_cons eg_name egs_nil))) ?_
  refine run_seqM (N := fun Δ => ∃ t l s3 s4, Δ = [.v (.list (txts ws)), .v (.str (txt t)), .v (.str (txt l)), s3, s4] ∧ (t, l) = ws.foldl jStep ([], [40]) ∧ t.length ≤ 61 * ws.length) ?_ ?_
  · refine run_forP (ei_list (ev_var (i := 0) rfl)) (fun _ i Δ => ∃ t l s3 s4, Δ = [.v (.list (txts ws)), .v (.str (txt t)), .v (.str (txt l)), s3, s4] ∧ (t, l) = (ws.take i).foldl jStep ([], [40]) ∧ t.length ≤ 61 * i ∧ (∀ c ∈ l, c < 128))
      (fun ds e => ⟨[], [40], .un, .un, rfl, rfl, Nat.zero_le _, by decide⟩) ?_ ?_
    · rintro ds i d Δ rfl hd ⟨t, l, s3, s4, rfl, hs, ht, h128⟩
      rw [List.getElem?_map, Option.map_eq_some_iff] at hd
      obtain ⟨v, hv, rfl⟩ := hd
      have hm := hw v (List.mem_of_getElem? hv)
      have hvl := menu_len hm
      have v128 := good_128 hm.1
      have hi : i < ws.length := (List.getElem?_eq_some_iff.mp hv).1
      refine ⟨_, _, eg_name, ?_⟩
      refine run_set (ev_str (i := " ")) ?_
      refine run_seqM (N := fun Δ => Δ = [.v (.list (txts ws)), .v (.str (txt t)), .v (.str (txt l)), .v (.str (txt v)), .v (.str (txt (gapOf l v)))]) ?_ ?_
      · refine run_if (Pb := fun b => b = decide (l = [40] ∨ v ∈ [[41], [44], [59], [94, 40]])) ((et_or1 (et_test1 (ev_eqZ (ev_var (d := .str (txt l)) rfl) ev_str)) fun _ => et_test1 (ev_inS (zs := [")", ",", ";", "^("]) (ev_var (d := .str (txt v)) rfl) (EvF.val1 (ef_lst (ea_cons1 ev_str (ea_cons1 ev_str (ea_cons1 ev_str (ea_cons1 ev_str ea_nil)))))) (str_ok v128) (D.okn_ok (by decide +kernel)))).eq ?_) (fun hb => ?_) fun hb => ?_
        · rw [lA, memT, l40, show decide (txt l = txt [40]) = decide (l = [40]) by simp only [txt_iff]]
          simp only [Bool.decide_or]
        · have hb := of_decide_eq_true hb.symm
          refine run_set1 (ev_str (i := "")) ?_
          unfold gapOf
          rw [if_pos hb, show txt [] = ("" : Str) by decide +kernel]
          rfl
        · have hb := of_decide_eq_false hb.symm
          refine run_if (Pb := fun b => b = decide (l ∈ [[59], [123], [125]])) ((et_test1 (ev_inS (zs := [";", "{", "}"]) (ev_var (d := .str (txt l)) rfl) (EvF.val1 (ef_lst (ea_cons1 ev_str (ea_cons1 ev_str (ea_cons1 ev_str ea_nil))))) (str_ok h128) (D.okn_ok (by decide +kernel)))).eq (by rw [lB, memT])) (fun hc => ?_) fun hc => ?_
          · have hc := of_decide_eq_true hc.symm
            refine run_set1 (ev_str (i := "\n")) ?_
            unfold gapOf
            rw [if_neg hb, if_pos hc, show txt [10] = ("\n" : Str) by decide +kernel]
            rfl
          · have hc := of_decide_eq_false hc.symm
            refine run_next ?_
            unfold gapOf
            rw [if_neg hb, if_neg hc, show txt [32] = (" " : Str) by decide +kernel]
            rfl
      · rintro Δ rfl
        have hg := (gap_ok l v).2.2
        refine run_set (d := .str (txt v)) ((ev_strip (ev_var rfl) ev_str (by rw [txt_len]; exact z _ (by omega))).eq (by rw [menu_strip hm])) ?_
        refine run_set1 (ev_addS (ev_addS (ev_var rfl) (ev_var rfl) (z _ (by omega))) (ev_var rfl) (z _ (by rw [List.length_append]; omega))) ⟨t ++ gapOf l v ++ v, v, _, _, rfl, ?_, by simp; omega, v128⟩
        rw [List.take_succ, hv]
        simp only [Option.toList_some, List.foldl_append, List.foldl_cons, List.foldl_nil, ← hs]
        rfl
    · rintro ds Δ rfl ⟨t, l, s3, s4, rfl, hs, ht, _⟩
      rw [List.length_map] at hs ht
      rw [List.take_length] at hs
      exact ⟨t, l, s3, s4, rfl, hs, ht⟩
  · rintro Δ ⟨t, l, s3, s4, rfl, hs, ht⟩
    refine run_ret1 (ev_addS (ev_var rfl) (ev_str.eq (congrArg D.str (show ("\n" : Str) = txt [10] by decide +kernel))) (z _ (by simp; omega))) ⟨ws, rfl, hw, hl, ?_⟩
    unfold joinT
    rw [← hs]
end
end K14

namespace K14
open PySem L2 PySem.Spec PyProof.Rows Bc
open Lex (endOf run lexAt Lm Lk lexL lexF blanks)
def plW (p : Pl) : List (List Nat) := [p.w, TL.numL p.n]
def ddW (x : Dd) : List (List Nat) := x.head :: (x.ps.flatMap plW ++ [[59]])
def scriptW (xs : List Dd) : List (List Nat) := [cScript, [123]] ++ xs.flatMap ddW ++ [[125]]
theorem plW_len (ps : List Pl) : (ps.flatMap plW).length = 2 * ps.length := by
  induction ps with
  | nil => rfl
  | cons p ps ih => rw [List.flatMap_cons, List.length_append, ih]; simp [plW]; omega
theorem ddW_len {x : Dd} (h : x.ok) : (ddW x).length ≤ 10 := by
  have : x.ps.length ≤ 4 := by rw [h.n]; split <;> decide
  simp only [ddW, List.length_cons, List.length_append, plW_len, List.length_nil]
  omega
theorem ddsW_len {xs : List Dd} (h : ∀ x ∈ xs, x.ok) : (xs.flatMap ddW).length ≤ 10 * xs.length := by
  induction xs with
  | nil => exact Nat.zero_le _
  | cons x xs ih =>
    have h1 := ddW_len (h x (List.mem_cons_self ..))
    have h2 := ih fun y hy => h y (List.mem_cons_of_mem _ hy)
    rw [List.flatMap_cons, List.length_append, List.length_cons]
    omega
section
variable {F : Fp} {Δ : List Sl} {te : TE}
theorem ev_reprN {n : Nat} (h : Ev1 F te Δ (.int (n : Nat))) (hn : n < 10 ^ 45) : Ev1 F (tCB (fun xs H Q => ∃ i, xs = [.int i] ∧ i.natAbs.log2 < 1920 ∧ Q (.str (toString i)) H) (tCons te tNil)) Δ (.str (txt (TL.numL n))) := fun H0 S H σ w t Q k =>
  h H0 S H σ w t _ fun d v S' H' e g hd => by
    subst e
    simp only [Dt] at hd
    subst hd
    exact ⟨n, rfl, log_ok hn, k _ _ S' H' rfl g (by simp only [Dt]; rw [← num_txt])⟩
end
section
variable {P : Program} {w : World} {K : PySem.W.Frag} {mg : Str → Option Value} {base : Heap}
def RLexW (ds : List D) (d : D) : Prop := ∃ xs : List Dd, (∀ x ∈ xs, x.ok) ∧ xs.length ≤ 150 ∧ ds = [.list (xs.map Dd.d)] ∧ d = .list (txts (scriptW xs))
abbrev s__law_script_lexemes : Stmt := top 27
theorem sc__law_script_lexemes : FnScope ["_law_script", "_law_found", "_law_deed", "_law_place"] ["_law_script"] (defScope s__law_script_lexemes) := ⟨rfl, rfl, rfl, by decide +kernel, rfl, by decide +kernel, by decide +kernel⟩
theorem ok__law_script_lexemes {k : Nat} {f : Addr} {fd : FuncData} (T : Tx K mg) (Fu : Fun K "_law_script_lexemes" "_law_script_lexemes" s__law_script_lexemes f fd) : FnOk P w K mg base CX0 (k + 1) f fd ["_law_script"] (SpD false false RLexW) := by
  refine ok_D Fu sc__law_script_lexemes (fun ds d ⟨_, _, _, e, _⟩ => by rw [e]; rfl) fun cdv A outer s H E hr => ?_
  refine ⟨_, (pss_cons (ps_set (i := 1) sc__law_script_lexemes.nd rfl (Or.inl rfl) (pe_lst (pa_cons pe_str (pa_cons pe_str pa_nil))))
    (pss_cons (ps_for PassesOwn.never rfl (qi_any (K := K) (pv 0)) (pg_name (i := 2) sc__law_script_lexemes.nd rfl (Or.inl rfl))
      (pss_cons (ps_expr (qBm (K := K) PySem.F.plainAttrs_list PySem.F.slot_list_append PySem.F.type_list_append mt_append (pv 1) (pa_cons (pe_ix (qIx (K := K)) (pv 2) pe_int (fun _ _ => rfl)) pa_nil)))
      (pss_cons (ps_for PassesOwn.never rfl (qi_any (K := K) (pe_slice (qSl (K := K)) (pv 2) (po_some pe_int) po_none)) (pg_name (i := 3) sc__law_script_lexemes.nd rfl (Or.inl rfl))
        (pss_one (ps_set (i := 1) sc__law_script_lexemes.nd rfl (Or.inl rfl) (pe_op (qAdd (K := K)) (pv 1) (pe_lst (pa_cons (pe_ix (qIx (K := K)) (pv 3) pe_int (fun _ _ => rfl)) (pa_cons (pe_callB SkE.call_repr_int (by rfl) T.n_repr (by decide +kernel) (pa_cons (pe_ix (qIx (K := K)) (pv 3) pe_int (fun _ _ => rfl)) pa_nil)) pa_nil)))))))
      (pss_one (ps_expr (qBm (K := K) PySem.F.plainAttrs_list PySem.F.slot_list_append PySem.F.type_list_append mt_append (pv 1) (pa_cons pe_str pa_nil)))))))
    (pss_one (ps_ret (pe_op (qAdd (K := K)) (pv 1) (pe_lst (pa_cons pe_str pa_nil))))))), fun F ds hF hR => ?_⟩
  obtain ⟨_, xs, hx, hl, rfl, rfl⟩ := hR
  have z : ∀ n ≤ 100000, n ≤ sizeLine := fun n hn => Nat.le_trans hn (by decide)
  have z' : ∀ n ≤ 100000, n < sizeLine := fun n hn => Nat.lt_of_le_of_lt hn (by decide)
  have l1 : ("script" : Str) = txt cScript := by decide +kernel
  have l2 : ("{" : Str) = txt [123] := by decide +kernel
  have l3 : (";" : Str) = txt [59] := by decide +kernel
  have l4 : ("}" : Str) = txt [125] := by decide +kernel
  have tapp : ∀ a b : List (List Nat), txts a ++ txts b = txts (a ++ b) := fun a b => by simp [txts]
  refine run_setF (ds := txts [cScript, [123]]) (ef_lst (ea_cons1 (ev_str.eq (congrArg D.str l1)) (ea_cons1 (ev_str.eq (congrArg D.str l2)) ea_nil))) ?_
  have tkl : ∀ i, ((xs.take i).flatMap ddW).length ≤ 1500 := fun i => by
    have h1 := ddsW_len (xs := xs.take i) fun x hx' => hx x (List.mem_of_mem_take hx')
    have h2 : (xs.take i).length ≤ xs.length := by rw [List.length_take]; omega
    omega
  refine run_seqM (N := fun Δ => ∃ s2 s3, Δ = [.v (.list (xs.map Dd.d)), .own (txts ([cScript, [123]] ++ xs.flatMap ddW)), s2, s3]) ?_ ?_
  · refine run_forP (ei_list (ev_var (i := 0) rfl)) (fun _ i Δ => ∃ s2 s3, Δ = [.v (.list (xs.map Dd.d)), .own (txts ([cScript, [123]] ++ (xs.take i).flatMap ddW)), s2, s3]) (fun ds e => ⟨.un, .un, by simp; rfl⟩) ?_ ?_
    · rintro ds i d Δ rfl hd ⟨s2, s3, rfl⟩
      rw [List.getElem?_map, Option.map_eq_some_iff] at hd
      obtain ⟨x, hv, rfl⟩ := hd
      have hxo := hx x (List.mem_of_getElem? hv)
      have h4 : x.ps.length ≤ 4 := by rw [hxo.n]; split <;> decide
      have ht := tkl i
      refine ⟨_, _, eg_name, ?_⟩
      refine run_app1S (d := .str (txt x.head)) rfl (ev_ixU (q := 0) (ev_var (d := x.d) rfl) ev_int rfl) (z' _ (by simp only [txts, List.length_map, List.length_append, List.length_cons, List.length_nil]; omega)) ?_
      refine run_seqM (N := fun Δ => ∃ s3, Δ = [.v (.list (xs.map Dd.d)), .own (txts ([cScript, [123]] ++ (xs.take i).flatMap ddW ++ [x.head] ++ x.ps.flatMap plW)), .v x.d, s3]) ?_ ?_
      · refine run_for (ds := x.ps.map Pl.d) (ei_tup (ev_sl1 (ev_var (i := 2) (d := x.d) rfl) (eo_some ev_int) eo_none ?_)) (fun j Δ => ∃ s3, Δ = [.v (.list (xs.map Dd.d)), .own (txts ([cScript, [123]] ++ (xs.take i).flatMap ddW ++ [x.head] ++ (x.ps.take j).flatMap plW)), .v x.d, s3]) ⟨_, by simp [txts]; rfl⟩ ?_ ?_
        · refine ⟨fun h => ?_, ?_⟩
          · have := h.1
            rw [show (1 : Int) = ((1 : Nat) : Int) by rfl, HT.sIx_nat] at this
            simp at this
          · unfold Bc.cutD
            rw [show (1 : Int) = ((1 : Nat) : Int) by rfl, HT.sIx_nat, HT.sIx_none]
            simp
            exact (List.take_of_length_le (by simp)).symm
        · rintro j d Δ hd ⟨s3, rfl⟩
          rw [List.getElem?_map, Option.map_eq_some_iff] at hd
          obtain ⟨p, hp, rfl⟩ := hd
          have hpo := hxo.ps p (List.mem_of_getElem? hp)
          have hj : (x.ps.take j).length ≤ 4 := by rw [List.length_take]; omega
          refine ⟨_, _, eg_name, ?_⟩
          refine run_frz (i := 1) rfl (run_asgF (Pa := fun r => r = txts ([cScript, [123]] ++ (xs.take i).flatMap ddW ++ [x.head] ++ (x.ps.take (j + 1)).flatMap plW)) ((ef_addL (ev_var rfl) (EvF.val1 (ef_lst (ea_cons1 (ev_ixU (q := 0) (ev_var (d := p.d) rfl) ev_int rfl) (ea_cons1 (ev_reprN (ev_ixU (q := 1) (ev_var (d := p.d) rfl) ev_int rfl) hpo.n) ea_nil)))) (z _ ?_)).imp ?_) fun ds e => ⟨.v p.d, by rw [e]; rfl⟩)
          · have := plW_len (x.ps.take j)
            simp only [txts, List.length_map, List.length_append, List.length_cons, List.length_nil] at this ⊢
            omega
          · rintro r rfl
            rw [List.take_succ, hp]
            simp [txts, plW]
        · rintro Δ ⟨s3, rfl⟩
          rw [List.length_map, List.take_length]
          exact ⟨s3, rfl⟩
      · rintro Δ ⟨s3, rfl⟩
        refine run_app (P := fun d => d = .str (txt [59])) (i := 1) rfl (ev_str.eq (congrArg D.str l3)) (z' _ ?_) fun d e => ⟨.v x.d, s3, ?_⟩
        · have := plW_len x.ps
          simp only [txts, List.length_map, List.length_append, List.length_cons, List.length_nil] at this ⊢
          omega
        · subst e
          rw [List.take_succ, hv]
          simp [txts, ddW]
    · rintro ds Δ rfl ⟨s2, s3, rfl⟩
      rw [List.length_map, List.take_length]
      exact ⟨s2, s3, rfl⟩
  · rintro Δ ⟨s2, s3, rfl⟩
    refine run_frz (i := 1) rfl (run_ret1 (ev_addL (ev_var rfl) (EvF.val1 (ef_lst (ea_cons1 (ev_str.eq (congrArg D.str l4)) ea_nil))) (z _ ?_)) ⟨xs, hx, hl, rfl, ?_⟩)
    · have := ddsW_len hx
      simp only [txts, List.length_map, List.length_append, List.length_cons, List.length_nil]
      omega
    · simp [txts, scriptW]
end
end K14

namespace K14
open PySem Bc
open Lex (endOf run lexAt Lm Lk lexL lexF blanks)
/-! ### the texts that are written -/
def AN (w : List Nat) : Prop := ∃ c r, w = c :: r ∧ c ∈ Lex.letters ++ Lex.digits
theorem an_key {c : Nat} (h : c ∈ Lex.letters ++ Lex.digits) : c ≠ 40 ∧ c ≠ 41 ∧ c ≠ 44 ∧ c ≠ 59 ∧ c ≠ 94 ∧ c ≠ 123 ∧ c ≠ 125 := by
  have : ((Lex.letters ++ Lex.digits).all fun c => decide (c ≠ 40 ∧ c ≠ 41 ∧ c ≠ 44 ∧ c ≠ 59 ∧ c ≠ 94 ∧ c ≠ 123 ∧ c ≠ 125)) = true := by decide
  exact of_decide_eq_true (List.all_eq_true.mp this c h)
theorem an_w {w : List Nat} (h : AN w) : w ∉ [[41], [44], [59], [94, 40]] ∧ w ≠ [40] ∧ w ∉ [[59], [123], [125]] := by
  obtain ⟨c, r, rfl, hc⟩ := h
  obtain ⟨a1, a2, a3, a4, a5, a6, a7⟩ := an_key hc
  refine ⟨?_, ?_, ?_⟩
  · simp [a2, a3, a4, a5]
  · simp [a1]
  · simp [a4, a6, a7]
theorem gap_aa {l w : List Nat} (hl : AN l) (hw : AN w) : gapOf l w = [32] := by
  unfold gapOf
  rw [if_neg (fun h => h.elim (an_w hl).2.1 (an_w hw).1), if_neg (an_w hl).2.2]
theorem gap_semi (l : List Nat) : gapOf l [59] = [] := by
  unfold gapOf
  rw [if_pos (.inr (by simp))]
theorem gap_nl {l w : List Nat} (hl : l = [59] ∨ l = [123]) (hw : AN w ∨ w = [125]) : gapOf l w = [10] := by
  have h1 : w ∉ [[41], [44], [59], [94, 40]] := by
    rcases hw with h | rfl
    · exact (an_w h).1
    · decide
  unfold gapOf
  rcases hl with rfl | rfl
  · rw [if_neg (fun h => h.elim (fun e => by cases e) h1), if_pos (by decide)]
  · rw [if_neg (fun h => h.elim (fun e => by cases e) h1), if_pos (by decide)]
theorem an_num (n : Nat) : AN (TL.numL n) := by
  have h1 := TL.numL_ne n
  have h2 := TL.numL_digits n
  cases e : TL.numL n with
  | nil => exact absurd e h1
  | cons c r =>
    rw [e] at h2
    have := h2 c (List.mem_cons_self ..)
    refine ⟨c, r, rfl, dig_an ?_⟩
    have : 48 ≤ c ∧ c ≤ 57 := this
    simp only [Lex.digits, List.mem_cons, List.not_mem_nil, or_false]
    omega
theorem an_word {p : Pl} (h : p.ok) : AN p.w := by
  obtain ⟨c, r, e, g⟩ := h.g
  have hk := h.k
  rw [e, kindW_cons] at hk
  by_cases h1 : c ∈ Lex.signs
  · rw [if_pos h1] at hk; cases hk
  · exact ⟨c, r, e, good_an g h1 c (List.mem_cons_self ..)⟩
theorem an_head (x : Dd) : AN x.head := by
  unfold Dd.head
  split
  · exact ⟨115, _, rfl, by decide⟩
  · exact ⟨104, _, rfl, by decide⟩
theorem fold_places : ∀ (ps : List Pl), (∀ p ∈ ps, p.ok) → ∀ (t l : List Nat), AN l → ∃ l', AN l' ∧ (ps.flatMap plW).foldl jStep (t, l) = (t ++ ps.flatMap (fun p => [32] ++ placeT p), l')
  | [], _, t, l, hl => ⟨l, hl, by simp⟩
  | p :: ps, h, t, l, hl => by
    have hp := h p (List.mem_cons_self ..)
    obtain ⟨l', h1, h2⟩ := fold_places ps (fun q hq => h q (List.mem_cons_of_mem _ hq)) (t ++ ([32] ++ placeT p)) (TL.numL p.n) (an_num p.n)
    refine ⟨l', h1, ?_⟩
    rw [List.flatMap_cons, List.foldl_append]
    have e : (plW p).foldl jStep (t, l) = (t ++ ([32] ++ placeT p), TL.numL p.n) := by
      simp only [plW, List.foldl_cons, List.foldl_nil, jStep, gap_aa hl (an_word hp), gap_aa (an_word hp) (an_num p.n)]
      simp [placeT]
    rw [e, h2]
    simp
theorem deedT_eq (x : Dd) : deedT x = x.head ++ x.ps.flatMap (fun p => [32] ++ placeT p) := by
  have key : ∀ (l : List (List Nat)) (a : List Nat), glue [32] (a :: l) = a ++ l.flatMap (fun y => [32] ++ y) := fun l => by
    induction l with
    | nil => intro a; simp [glue]
    | cons b l ih =>
      intro a
      simp only [glue, List.flatMap_cons]
      rw [ih b]
      simp
  unfold deedT
  rw [key, List.flatMap_map]
theorem fold_deeds : ∀ (xs : List Dd), (∀ x ∈ xs, x.ok) → ∀ (t l : List Nat), (l = [59] ∨ l = [123]) → ∃ l', (l' = [59] ∨ l' = [123]) ∧ (xs.flatMap ddW).foldl jStep (t, l) = (t ++ xs.flatMap (fun x => [10] ++ deedT x ++ [59]), l')
  | [], _, t, l, hl => ⟨l, hl, by simp⟩
  | x :: xs, h, t, l, hl => by
    have hx := h x (List.mem_cons_self ..)
    obtain ⟨l2, hl2, e2⟩ := fold_places x.ps hx.ps (t ++ [10] ++ x.head) x.head (an_head x)
    obtain ⟨l', h1, h2⟩ := fold_deeds xs (fun q hq => h q (List.mem_cons_of_mem _ hq)) (t ++ ([10] ++ deedT x ++ [59])) [59] (.inl rfl)
    refine ⟨l', h1, ?_⟩
    rw [List.flatMap_cons, List.foldl_append]
    have e : (ddW x).foldl jStep (t, l) = (t ++ ([10] ++ deedT x ++ [59]), [59]) := by
      unfold ddW
      rw [List.foldl_cons, List.foldl_append]
      have e1 : jStep (t, l) x.head = (t ++ [10] ++ x.head, x.head) := by
        show (t ++ gapOf l x.head ++ x.head, x.head) = _
        rw [gap_nl hl (.inl (an_head x))]
      rw [e1, e2]
      show (_ ++ gapOf l2 [59] ++ [59], [59]) = _
      rw [gap_semi, deedT_eq]
      simp
    rw [e, h2]
    simp
theorem shift_nl (ls : List (List Nat)) : [10] ++ (ls.map (· ++ [59, 10])).flatten = ls.flatMap (fun y => [10] ++ y ++ [59]) ++ [10] := by
  induction ls with
  | nil => rfl
  | cons a l ih =>
    rw [List.map_cons, List.flatten_cons, List.flatMap_cons]
    have : [10] ++ (a ++ [59, 10] ++ (l.map (· ++ [59, 10])).flatten) = [10] ++ a ++ [59] ++ ([10] ++ (l.map (· ++ [59, 10])).flatten) := by simp
    rw [this, ih]
    simp
/-- what is written is what the law joins -/
theorem join_script {xs : List Dd} (h : ∀ x ∈ xs, x.ok) : joinT (scriptW xs) = scriptT xs := by
  unfold joinT scriptW
  rw [List.foldl_append, List.foldl_append]
  have e1 : [cScript, [123]].foldl jStep ([], [40]) = (cScript ++ [32, 123], [123]) := by
    have g1 : gapOf [40] cScript = [] := by decide
    have g2 : gapOf cScript [123] = [32] := by decide
    simp only [List.foldl_cons, List.foldl_nil, jStep, g1, g2]
    simp
  obtain ⟨l', hl', e2⟩ := fold_deeds xs h (cScript ++ [32, 123]) [123] (.inr rfl)
  rw [e1, e2]
  show (_ ++ gapOf l' [125] ++ [125]) ++ [10] = _
  rw [gap_nl hl' (.inr rfl)]
  unfold scriptT blockT
  have := shift_nl (xs.map deedT)
  rw [List.flatMap_map] at this
  have e3 : cScript ++ [32, 123, 10] ++ ((xs.map deedT).map (· ++ [59, 10])).flatten ++ [125, 10] = cScript ++ [32, 123] ++ ([10] ++ ((xs.map deedT).map (· ++ [59, 10])).flatten) ++ [125, 10] := by simp
  rw [e3, this]
  simp
end K14

namespace K14
open PySem Bc
open Lex (endOf run lexAt Lm Lk lexL lexF blanks)
/-! ### what is read back -/
abbrev kwL (m : Lm) : Lk × List Nat := (m.k, m.w)
abbrev kwW (w : List Nat) : Lk × List Nat := (kindW w, w)
theorem kind_num (n : Nat) : kindW (TL.numL n) = .num := by
  have h1 := TL.numL_ne n
  have h2 := TL.numL_digits n
  cases e : TL.numL n with
  | nil => exact absurd e h1
  | cons c r =>
    rw [e] at h2
    have := h2 c (List.mem_cons_self ..)
    have h3 : 48 ≤ c ∧ c ≤ 57 := this
    have hd : c ∈ Lex.digits := by
      simp only [Lex.digits, List.mem_cons, List.not_mem_nil, or_false]
      omega
    rw [kindW_cons, if_neg (dig_ns hd), if_pos hd]
theorem num_val {n : Nat} (h : n < 10 ^ 45) : PySem.intText? (txt (TL.numL n)) = some (n : Int) := by
  rw [← num_txt]
  exact TL.int_num (Nat.le_trans (num_len h) (by decide))
theorem read_pls : ∀ (ps : List Pl), (∀ p ∈ ps, p.ok) → ∀ (ls : List Lm) (R : List (Lk × List Nat)), ls.map kwL = (ps.flatMap plW).map kwW ++ R → ∃ ls', PPls ls (ps.map Pl.d) ls' ∧ ls'.map kwL = R
  | [], _, ls, R, h => ⟨ls, .nil ls, by simpa using h⟩
  | p :: ps, hok, ls, R, h => by
    have hp := hok p (List.mem_cons_self ..)
    rw [List.flatMap_cons] at h
    simp only [plW, List.map_cons, List.map_append, List.cons_append, List.nil_append, List.map_nil] at h
    match ls, h with
    | [], h => simp at h
    | [m1], h => simp at h
    | m1 :: m2 :: ls, h =>
      simp only [List.map_cons, List.cons.injEq, Prod.mk.injEq] at h
      obtain ⟨⟨a1, a2⟩, ⟨b1, b2⟩, h⟩ := h
      obtain ⟨ls', q1, q2⟩ := read_pls ps (fun q hq => hok q (List.mem_cons_of_mem _ hq)) ls R h
      refine ⟨ls', .cons ?_ q1, q2⟩
      have := PPl.mk (m1 := m1) (m2 := m2) (ls := ls) (n := (p.n : Int)) (by rw [a1]; exact hp.k) (by rw [b1]; exact kind_num p.n) (by rw [b2]; exact num_val hp.n) (by rw [b2]; exact Nat.le_trans (num_len hp.n) (by decide))
      rw [a2] at this
      exact this
theorem head_txt (x : Dd) : txt x.head = (if x.h then "stretch" else "hang" : Str) := by
  unfold Dd.head
  split <;> decide +kernel
theorem read_deed {x : Dd} (hx : x.ok) {ls : List Lm} {R : List (Lk × List Nat)} (h : ls.map kwL = (ddW x).map kwW ++ R) : ∃ sc ls', PDeed ls x.d (sc :: ls') ∧ sc.w = [59] ∧ ls'.map kwL = R := by
  unfold ddW at h
  rw [List.map_cons, List.cons_append, List.map_append, List.append_assoc] at h
  match ls, h with
  | m :: ls, h =>
    rw [List.map_cons, List.cons.injEq] at h
    obtain ⟨h1, h⟩ := h
    have hw : m.w = x.head := congrArg Prod.snd h1
    obtain ⟨l2, q1, q2⟩ := read_pls x.ps hx.ps ls _ h
    match l2, q1, q2 with
    | sc :: l3, q1, q2 =>
      simp only [List.map_cons, List.map_nil, List.cons_append, List.nil_append, List.cons.injEq, Prod.mk.injEq] at q2
      refine ⟨sc, l3, ?_, q2.1.2, q2.2⟩
      have hd : x.d = .tuple (.str (txt x.head) :: x.ps.map Pl.d) := rfl
      have hn := hx.n
      cases hb : x.h with
      | true =>
        rw [hb] at hn
        have e1 : x.head = cStretch := by unfold Dd.head; rw [hb]; rfl
        rw [hd, head_txt, hb]
        exact .stretch (by rw [hw, e1]) q1 (by rw [List.length_map]; exact hn)
      | false =>
        rw [hb] at hn
        have e1 : x.head = cHang := by unfold Dd.head; rw [hb]; rfl
        rw [hd, head_txt, hb]
        match hps : x.ps, hn with
        | [p1, p2], _ =>
          rw [hps] at q1
          cases q1 with
          | cons a1 q1 => cases q1 with
            | cons a2 q1 =>
              cases q1
              exact .hang (by rw [hw, e1]) a1 a2
theorem read_rows : ∀ (xs : List Dd), (∀ x ∈ xs, x.ok) → ∀ (ls : List Lm), ls.map kwL = (xs.flatMap ddW ++ [[125]]).map kwW → ∃ cl, PRows ls (xs.map Dd.d) [cl]
  | [], _, ls, h => by
    match ls, h with
    | [], h => simp at h
    | m :: m2 :: ls, h => simp at h
    | [m], h =>
      simp only [List.flatMap_nil, List.nil_append, List.map_cons, List.map_nil, List.cons.injEq, Prod.mk.injEq, and_true] at h
      exact ⟨m, .nil h.2⟩
  | x :: xs, hok, ls, h => by
    rw [List.flatMap_cons, List.append_assoc, List.map_append] at h
    obtain ⟨sc, ls', q1, q2, q3⟩ := read_deed (hok x (List.mem_cons_self ..)) h
    obtain ⟨cl, q4⟩ := read_rows xs (fun y hy => hok y (List.mem_cons_of_mem _ hy)) ls' q3
    exact ⟨cl, .cons q1 q2 q4⟩
theorem num_head (n : Nat) : n ≠ 0 → ∃ c r, TL.numL n = c :: r ∧ c ≠ 48 := by
  induction n using Nat.strongRecOn with
  | ind n ih =>
    intro h0
    by_cases h : n < 10
    · exact ⟨48 + n, [], TL.numL_lt h, by omega⟩
    · obtain ⟨c, r, e, hc⟩ := ih (n / 10) (by omega) (by omega)
      exact ⟨c, r ++ [48 + n % 10], by rw [TL.numL_step (by omega), e]; rfl, hc⟩
theorem dig_mem {c : Nat} (h : 48 ≤ c ∧ c ≤ 57) : c ∈ Lex.digits := by
  simp only [Lex.digits, List.mem_cons, List.not_mem_nil, or_false]
  omega
theorem gw_num {n : Nat} (h : n < 10 ^ 45) : GW (TL.numL n) := by
  refine ⟨?_, Nat.le_trans (num_len h) (by decide)⟩
  by_cases h0 : n = 0
  · subst h0
    rw [TL.numL_lt (by decide)]
    exact ⟨48, [], rfl, by unfold GoodW; decide⟩
  · obtain ⟨c, r, e, hc⟩ := num_head n h0
    have h2 := TL.numL_digits n
    rw [e] at h2 ⊢
    have hd := dig_mem (h2 c (List.mem_cons_self ..))
    refine ⟨c, r, rfl, ?_⟩
    unfold GoodW
    rw [if_neg (dig_ns hd), if_neg hc, if_pos hd]
    exact fun x hx => dig_mem (h2 x (List.mem_cons_of_mem _ hx))
theorem script_good {xs : List Dd} (h : ∀ x ∈ xs, x.ok) : ∀ w ∈ scriptW xs, GW w := by
  have gs : GW cScript := ⟨⟨115, _, rfl, by unfold GoodW; decide⟩, by decide⟩
  have go : GW [123] := ⟨⟨123, _, rfl, by unfold GoodW; decide⟩, by decide⟩
  have gc : GW [125] := ⟨⟨125, _, rfl, by unfold GoodW; decide⟩, by decide⟩
  have g9 : GW [59] := ⟨⟨59, _, rfl, by unfold GoodW; decide⟩, by decide⟩
  intro w hw
  simp only [scriptW, List.mem_append, List.mem_cons, List.not_mem_nil, or_false, List.mem_flatMap] at hw
  rcases hw with ((rfl | rfl) | ⟨x, hx, hw⟩) | rfl
  · exact gs
  · exact go
  · have hxo := h x hx
    simp only [ddW, List.mem_cons, List.mem_append, List.mem_flatMap, List.not_mem_nil, or_false] at hw
    rcases hw with rfl | ⟨p, hp, hw⟩ | rfl
    · unfold Dd.head
      split
      · exact ⟨⟨115, _, rfl, by unfold GoodW; decide⟩, by decide⟩
      · exact ⟨⟨104, _, rfl, by unfold GoodW; decide⟩, by decide⟩
    · simp only [plW, List.mem_cons, List.not_mem_nil, or_false] at hw
      rcases hw with rfl | rfl
      · exact ⟨(hxo.ps p hp).g, Nat.le_trans (hxo.ps p hp).l (by decide)⟩
      · exact gw_num (hxo.ps p hp).n
    · exact g9
  · exact gc
/-- a spaced text of a script is read back -/
theorem spc_script {xs : List Dd} (h : ∀ x ∈ xs, x.ok) (hn : xs.length ≤ 100000) {t l e : List Nat} (hs : Spc (scriptW xs) t l) (he : ∀ c ∈ e, c ∈ blanks) (ht : Short (t ++ e)) : RScript [.str (txt (t ++ e))] (.list (xs.map Dd.d)) := by
  obtain ⟨ls, h1, h2⟩ := lex_spc hs (fun w hw => (script_good h w hw).1) he
  unfold scriptW at h2
  rw [List.append_assoc] at h2
  match ls, h1, h2 with
  | [], h1, h2 => simp at h2
  | [m0], h1, h2 => simp at h2
  | m0 :: m :: ls, h1, h2 =>
    simp only [List.cons_append, List.nil_append, List.map_cons, List.cons.injEq, Prod.mk.injEq] at h2
    obtain ⟨⟨_, a⟩, ⟨_, b⟩, h2⟩ := h2
    obtain ⟨cl, hr⟩ := read_rows xs h ls h2
    exact ⟨t ++ e, m0, m, cl, ls, _, rfl, ht, h1, a, b, hr, by rw [List.length_map]; exact hn, rfl⟩
end K14

namespace K14
open PySem L2 PySem.Spec PyProof.Rows Bc
open Lex (endOf run lexAt Lm Lk lexL lexF blanks)
def namesW : List (List Nat) := [[114, 111, 111, 116], [97], cHang, cStretch, [120, 49], [97, 98, 99, 100, 101, 102, 103, 104, 105, 106, 107, 108]]
def numsN : List Nat := [0, 0, 1, 2, 3, 10, 305, 10 ^ 30]
theorem names_ok : ∀ w ∈ namesW, Good w ∧ kindW w = .word ∧ w.length ≤ 12 := by
  intro w hw
  simp only [namesW, List.mem_cons, List.not_mem_nil, or_false] at hw
  rcases hw with rfl | rfl | rfl | rfl | rfl | rfl <;> exact ⟨⟨_, _, rfl, by unfold GoodW; decide⟩, by decide, by decide⟩
theorem nums_ok : ∀ n ∈ numsN, n < 10 ^ 45 := by decide
section
variable {P : Program} {w : World} {K : PySem.W.Frag} {mg : Str → Option Value} {base : Heap}
def RDrawn (ds : List D) (d : D) : Prop := ds = [] ∧ ∃ x : Dd, x.ok ∧ d = x.d
abbrev s__law_drawn_deed : Stmt := top 28
theorem sc__law_drawn_deed : FnScope ["_law_source_here", "_law_names", "_law_numbers", "_law_places", "_law_lap", "_law_many"] ["_law_source_here"] (defScope s__law_drawn_deed) := ⟨rfl, rfl, rfl, by decide +kernel, rfl, by decide +kernel, by decide +kernel⟩
theorem ok__law_drawn_deed {k : Nat} {f : Addr} {fd : FuncData} (T : Tx K mg) (G__law_pick : FnT P w K mg base k "_law_pick" ["_law_source_here", "_law_many"] (SpD true false RPick)) (G__law_of : FnT P w K mg base k "_law_of" ["_law_source_here", "_law_some"] (SpD true false ROf)) (Fu : Fun K "_law_drawn_deed" "_law_drawn_deed" s__law_drawn_deed f fd) : FnOk P w K mg base CX0 (k + 1) f fd ["_law_source_here"] (SpD true false RDrawn) := by
  refine ok_D Fu sc__law_drawn_deed (fun ds d ⟨e, _⟩ => by rw [e]; rfl) fun cdv A outer s H E hr => ?_
  refine ⟨_, (pss_cons (ps_asg (pe_tup (pa_cons (pe_lst (pa_cons pe_str (pa_cons pe_str (pa_cons pe_str (pa_cons pe_str (pa_cons pe_str (pa_cons pe_str pa_nil))))))) (pa_cons (pe_lst (pa_cons pe_int (pa_cons pe_int (pa_cons pe_int (pa_cons pe_int (pa_cons pe_int (pa_cons pe_int (pa_cons pe_int (pa_cons (pe_op op_pow pe_int pe_int) pa_nil))))))))) pa_nil))) (qg_tup (K := K) rfl (pgs_cons (pg_name (i := 1) sc__law_drawn_deed.nd rfl (Or.inr rfl)) (pgs_cons (pg_name (i := 2) sc__law_drawn_deed.nd rfl (Or.inr rfl)) pgs_nil))))
    (pss_cons (ps_setLc (i := 3) (own := [("_law_lap", 4)]) rfl sc__law_drawn_deed.nd rfl rfl (sw_true rfl rfl rfl (by decide +kernel)) (pi_range1 (by rfl) T.n_range (pa_cons pe_int pa_nil)) (blkOk_by (own := [("_law_lap", 4)]) (N := ["_law_source_here", "_law_names", "_law_numbers", "_law_places", "_law_lap", "_law_many"]) (sc := defScope s__law_drawn_deed) (by decide +kernel)) (fun _ _ _ _ _ => (pg_name (i := 4) sc__law_drawn_deed.nd rfl (by first | exact Or.inl rfl | exact Or.inr rfl))) (fun _ _ _ _ _ => pts_nil) (fun _ _ _ _ _ => (pe_tup (pa_cons (pe_callT G__law_of hr (pa_cons (pv 0) (pa_cons (pv 1) pa_nil))) (pa_cons (pe_callT G__law_of hr (pa_cons (pv 0) (pa_cons (pv 2) pa_nil))) pa_nil)))))
    (pss_cons (ps_set (i := 5) sc__law_drawn_deed.nd rfl (Or.inl rfl) (pe_op (qAdd (K := K)) pe_int (pe_op pMul pe_int (pe_callT G__law_pick hr (pa_cons (pv 0) (pa_cons pe_int pa_nil))))))
    (pss_one (ps_ret (pe_op (qAdd (K := K)) (pe_tup (pa_cons (pe_ix (qIx (K := K)) (pe_lst (pa_cons pe_str (pa_cons pe_str pa_nil))) (pe_op op_fdivN (pv 5) pe_int) (fun _ _ => rfl)) pa_nil)) (pe_callTy (qTuple (K := K)) (by rfl) T.n_tuple (by decide +kernel) (pa_cons (pe_slice (qSl (K := K)) (pv 3) po_none (po_some (pv 5))) pa_nil)))))))), fun F ds hF hR => ?_⟩
  obtain ⟨_, rfl, _⟩ := hR
  have z : ∀ n ≤ 100000, n ≤ sizeLine := fun n hn => Nat.le_trans hn (by decide)
  refine run_asgGS (d := .tuple [.list (txts namesW), .list (numsN.map fun n => .int (n : Nat))]) ((ev_tup (ea_cons1 (EvF.val1 (ef_lst (ea_cons1 ev_str (ea_cons1 ev_str (ea_cons1 ev_str (ea_cons1 ev_str (ea_cons1 ev_str (ea_cons1 ev_str ea_nil)))))))) (ea_cons1 (EvF.val1 (ef_lst (ea_cons1 ev_int (ea_cons1 ev_int (ea_cons1 ev_int (ea_cons1 ev_int (ea_cons1 ev_int (ea_cons1 ev_int (ea_cons1 ev_int (ea_cons1 (ev_op1 sInt ev_int ev_int ⟨⟨by decide, by decide, by decide⟩, rfl⟩) ea_nil)))))))))) ea_nil))).eq ?_) (eg_tup rfl (egs_cons eg_name (egs_cons eg_name egs_nil))) ?_
  · have h : txts namesW = [D.str "root", .str "a", .str "hang", .str "stretch", .str "x1", .str "abcdefghijkl"] := by
      have : namesW.map txt = [("root" : Str), "a", "hang", "stretch", "x1", "abcdefghijkl"] := by decide +kernel
      have e : txts namesW = (namesW.map txt).map D.str := by simp [txts]
      rw [e, this]
      rfl
    rw [h]
    rfl
  refine run_asgS (P := fun d => ∃ l : List Pl, l.length = 4 ∧ (∀ p ∈ l, p.ok) ∧ d = .list (l.map Pl.d)) ((EvF.val (ef_each (Pd := fun r => r = rngD 0 4) (P := fun d => ∃ p : Pl, p.ok ∧ d = p.d) (ei_rng (n := 4) (ea_cons1 ev_int ea_nil) (by decide)) (fun ds e => by rw [e]; decide) fun ds i d e hd => ⟨[4], [.src, .v (.list (txts namesW)), .v (.list (numsN.map fun n => .int (n : Nat))), .un, .v d, .un], eg_name, by simp, ?_⟩)).imp ?_) fun d ⟨l, hl4, hlo, ed⟩ => ?_
  · refine (ev_tupP (ea_cons (ev_of (i := 0) rfl (ev_var (d := .list (txts namesW)) rfl) (by decide) (by decide)) (ea_cons (ev_of (i := 0) rfl (ev_var (d := .list (numsN.map fun n => .int (n : Nat))) rfl) (by decide) (by decide)) ea_nil)) ?_).imp ?_
    · rintro ds ⟨a, r, rfl, _, b, r', rfl, _, rfl⟩
      show 2 ≤ sizeLine
      decide
    · rintro d ⟨ds, ⟨a, r, rfl, ha, b, r', rfl, hb, rfl⟩, rfl⟩
      obtain ⟨wd, hw, rfl⟩ := List.mem_map.mp ha
      obtain ⟨n, hn, rfl⟩ := List.mem_map.mp hb
      obtain ⟨g1, g2, g3⟩ := names_ok wd hw
      exact ⟨⟨wd, n⟩, ⟨g1, g2, g3, nums_ok n hn⟩, rfl⟩
  · rintro d ⟨r, ⟨ds, rfl, hlen, hall⟩, rfl⟩
    have key : ∀ {r : List D}, (∀ d ∈ r, ∃ p : Pl, p.ok ∧ d = p.d) → ∃ l : List Pl, l.length = r.length ∧ (∀ p ∈ l, p.ok) ∧ r = l.map Pl.d := fun {r} => by
      induction r with
      | nil => exact fun _ => ⟨[], rfl, fun _ h => (by cases h), rfl⟩
      | cons d r ih =>
        intro h
        obtain ⟨p, hp, rfl⟩ := h d (List.mem_cons_self ..)
        obtain ⟨l, h1, h2, h3⟩ := ih fun e he => h e (List.mem_cons_of_mem _ he)
        exact ⟨p :: l, by simp [h1], fun q hq => (List.mem_cons.mp hq).elim (fun e => e ▸ hp) (h2 q), by rw [h3]; rfl⟩
    obtain ⟨l, h1, h2, h3⟩ := key hall
    exact ⟨l, by rw [h1, hlen]; rfl, h2, by rw [h3]⟩
  · subst ed
    refine run_asgS (P := fun d => ∃ r : Nat, r < 2 ∧ d = .int (2 + 2 * (r : Int))) (ev_op sAdd (P1 := fun d => d = .int 2) (P2 := fun d => ∃ r : Nat, r < 2 ∧ d = .int (2 * (r : Int))) ev_int (ev_op sMul (P1 := fun d => d = .int 2) (P2 := fun d => ∃ r : Nat, r < 2 ∧ d = .int (r : Int)) ev_int ((ev_callS (i := 0) (Pa := fun ds => ds = [.int 2]) rfl (ea_cons1 ev_int ea_nil) fun ds e => ⟨.int 0, 2, 0, e, by decide, by decide, by decide, rfl⟩).imp ?_) ?_) ?_) fun d ⟨r, hr2, ed⟩ => ?_
    · rintro d ⟨ds, rfl, n, r, e, _, h2, h3, rfl⟩
      simp only [List.cons.injEq, and_true, D.int.injEq] at e
      subst e
      have h4 : r < 2 := h3
      refine ⟨r.toNat, by omega, ?_⟩
      rw [Int.toNat_of_nonneg h2]
    · rintro x y rfl ⟨r, hr2, rfl⟩
      exact ⟨_, ⟨.inl ⟨by decide, by decide⟩, rfl⟩, r, hr2, rfl⟩
    · rintro x y rfl ⟨r, hr2, rfl⟩
      exact ⟨_, rfl, r, hr2, rfl⟩
    · have cut : ∀ n : Nat, n ≤ 4 → Bc.cutD (l.map Pl.d) Option.none (some ((n : Nat) : Int)) = (l.take n).map Pl.d := fun n hn => by
        unfold Bc.cutD
        rw [HT.sIx_none, HT.sIx_nat, List.length_map, hl4, Nat.min_eq_left hn, List.drop_zero, List.map_take]
        rfl
      have : r = 0 ∨ r = 1 := by omega
      rcases this with rfl | rfl
      · subst ed
        refine run_ret1 (ev_addT (l := [.str "hang"]) (m := (l.take 2).map Pl.d) (ev_tup (ea_cons1 (ev_ixL (q := 0) (EvF.val1 (ef_lst (ea_cons1 ev_str (ea_cons1 ev_str ea_nil)))) ((ev_op1 (x := .int (2 + 2 * ((0 : Nat) : Int))) (y := .int 4) (d := .int ((2 + 2 * ((0 : Nat) : Int)).fdiv 4)) (sInt (C := CDivN) (g := fun i j => i.fdiv j)) (ev_var rfl) ev_int ⟨⟨by decide, by decide⟩, rfl⟩).eq (congrArg D.int (by decide))) rfl) ea_nil)) (ev_cb1 (d := .tuple ((l.take 2).map Pl.d)) sTup (ea_cons1 ((ev_sl1 (x := .list (l.map Pl.d)) (hi := some (2 + 2 * ((0 : Nat) : Int))) (d := .list (Bc.cutD (l.map Pl.d) Option.none (some (2 + 2 * ((0 : Nat) : Int))))) (ev_var rfl) eo_none (eo_some (ev_var rfl)) rfl).eq (congrArg D.list (cut 2 (by decide)))) ea_nil) rfl) (z _ (by simp; omega))) ⟨rfl, ⟨false, l.take 2⟩, ⟨fun p hp => hlo p (List.mem_of_mem_take hp), by simp [hl4]⟩, ?_⟩
        show D.tuple _ = D.tuple _
        rw [show (⟨false, l.take 2⟩ : Dd).head = cHang from rfl, show txt cHang = ("hang" : Str) by decide +kernel]
        rfl
      · subst ed
        refine run_ret1 (ev_addT (l := [.str "stretch"]) (m := (l.take 4).map Pl.d) (ev_tup (ea_cons1 (ev_ixL (q := 1) (EvF.val1 (ef_lst (ea_cons1 ev_str (ea_cons1 ev_str ea_nil)))) ((ev_op1 (x := .int (2 + 2 * ((1 : Nat) : Int))) (y := .int 4) (d := .int ((2 + 2 * ((1 : Nat) : Int)).fdiv 4)) (sInt (C := CDivN) (g := fun i j => i.fdiv j)) (ev_var rfl) ev_int ⟨⟨by decide, by decide⟩, rfl⟩).eq (congrArg D.int (by decide))) rfl) ea_nil)) (ev_cb1 (d := .tuple ((l.take 4).map Pl.d)) sTup (ea_cons1 ((ev_sl1 (x := .list (l.map Pl.d)) (hi := some (2 + 2 * ((1 : Nat) : Int))) (d := .list (Bc.cutD (l.map Pl.d) Option.none (some (2 + 2 * ((1 : Nat) : Int))))) (ev_var rfl) eo_none (eo_some (ev_var rfl)) rfl).eq (congrArg D.list (cut 4 (by decide)))) ea_nil) rfl) (z _ (by simp; omega))) ⟨rfl, ⟨true, l.take 4⟩, ⟨fun p hp => hlo p (List.mem_of_mem_take hp), by simp [hl4]⟩, ?_⟩
        show D.tuple _ = D.tuple _
        rw [show (⟨true, l.take 4⟩ : Dd).head = cStretch from rfl, show txt cStretch = ("stretch" : Str) by decide +kernel]
        rfl
end
end K14

namespace K14
open PySem L2 PySem.Spec PyProof.Rows Bc
open Lex (endOf run lexAt Lm Lk lexL lexF blanks)
theorem all_txt {l : List Nat} (h : ∀ c ∈ l, c < 128) : ((txt l).cps.all fun x => decide (x < 1114112)) = true := by
  have := okn_txt (n := 1) h
  simp only [D.okn] at this
  exact this
theorem pl_okn {p : Pl} (h : p.ok) (n : Nat) : (p.d).okn (n + 1) = true := by
  simp only [Pl.d, D.okn, oknL, Bool.and_true]
  exact all_txt (good_128 h.g)
theorem dd_okn {x : Dd} (h : x.ok) (n : Nat) : (x.d).okn (n + 2) = true := by
  have hh : ∀ c ∈ x.head, c < 128 := by unfold Dd.head; split <;> decide
  simp only [Dd.d, D.okn, oknL]
  rw [all_txt hh, Bool.true_and]
  refine oknL_of fun d hd => ?_
  obtain ⟨p, hp, rfl⟩ := List.mem_map.mp hd
  exact pl_okn (h.ps p hp) n
theorem dds_ok {xs : List Dd} (h : ∀ x ∈ xs, x.ok) : (D.list (xs.map Dd.d)).eqOk := by
  refine D.okn_ok ?_
  simp only [D.okn]
  refine oknL_of fun d hd => ?_
  obtain ⟨x, hx, rfl⟩ := List.mem_map.mp hd
  exact dd_okn (h x hx) _
section
variable {F : Fp} {Δ : List Sl} {ta tb te : TE} {K : PySem.W.Frag} {E : XK}
theorem ev_script_text {xs : List Dd} {d : D} (h : Ev1 F ta Δ d) (hd : d = .list (xs.map Dd.d) ∨ d = .tuple (xs.map Dd.d)) (hx : ∀ x ∈ xs, x.ok) (hl : xs.length ≤ 1000) : Ev1 F (tCall (SpD false false RScriptT) [] E (tCons ta tNil)) Δ (.str (txt (scriptT xs))) :=
  ev_call1 (ea_cons1 h ea_nil) ⟨xs, hx, hl, hd.imp (fun e => by rw [e]) fun e => by rw [e], rfl⟩ fun e ⟨ys, _, _, h1, h2⟩ => by
    have : ys = xs := by
      rcases hd with rfl | rfl <;> rcases h1 with h1 | h1 <;> simp only [List.cons.injEq, and_true, D.list.injEq, D.tuple.injEq, reduceCtorEq] at h1
      · exact (dds_inj h1).symm
      · exact (dds_inj h1).symm
    rw [h2, this]
theorem txts_inj : ∀ {a b : List (List Nat)}, txts a = txts b → a = b
  | [], [], _ => rfl
  | [], _ :: _, h => by cases h
  | _ :: _, [], h => by cases h
  | x :: a, y :: b, h => by
    simp only [txts, List.map_cons, List.cons.injEq, D.str.injEq, txt_iff] at h
    rw [h.1, txts_inj h.2]
theorem ev_lexW {xs : List Dd} (h : Ev1 F ta Δ (.list (xs.map Dd.d))) (hx : ∀ x ∈ xs, x.ok) (hl : xs.length ≤ 150) : Ev1 F (tCall (SpD false false RLexW) [] E (tCons ta tNil)) Δ (.list (txts (scriptW xs))) :=
  ev_call1 (ea_cons1 h ea_nil) ⟨xs, hx, hl, rfl, rfl⟩ fun e ⟨ys, _, _, h1, h2⟩ => by
    simp only [List.cons.injEq, D.list.injEq, and_true] at h1
    rw [h2, dds_inj h1]
theorem scriptW_len {xs : List Dd} (hx : ∀ x ∈ xs, x.ok) : (scriptW xs).length ≤ 10 * xs.length + 3 := by
  have := ddsW_len hx
  simp only [scriptW, List.length_append, List.length_cons, List.length_nil]
  omega
theorem ev_joined {xs : List Dd} (h : Ev1 F ta Δ (.list (txts (scriptW xs)))) (hx : ∀ x ∈ xs, x.ok) (hl : xs.length ≤ 150) : Ev1 F (tCall (SpD false false RJoin) [] E (tCons ta tNil)) Δ (.str (txt (scriptT xs))) :=
  ev_call1 (ea_cons1 h ea_nil) ⟨scriptW xs, rfl, script_good hx, by have := scriptW_len hx; omega, by rw [join_script hx]⟩ fun e ⟨ws, h1, _, _, h2⟩ => by
    simp only [List.cons.injEq, D.list.injEq, and_true] at h1
    rw [h2, ← txts_inj h1, join_script hx]
theorem ef_read {xs : List Dd} {t : List Nat} (h : Ev1 F ta Δ (.str (txt t))) (hr : RScript [.str (txt t)] (.list (xs.map Dd.d))) : EvF F (tCall (SpD false true RScript) [] E (tCons ta tNil)) Δ fun r => r = xs.map Dd.d :=
  (ef_call (ea_cons1 h ea_nil) fun ds e => ⟨_, e ▸ hr⟩).imp fun es ⟨ds, e, h2⟩ => by
    subst e
    obtain ⟨t1, a0, a, c1, l1, r1, q1, _, q2, _, _, q3, _, q4⟩ := hr
    obtain ⟨t2, b0, b, c2, l2, r2, p1, _, p2, _, _, p3, _, p4⟩ := h2
    simp only [List.cons.injEq, D.str.injEq, txt_iff, and_true] at q1 p1
    subst q1 p1
    rw [q2] at p2
    cases p2
    obtain ⟨rfl, _⟩ := prows_fun q3 p3
    simp only [D.list.injEq] at q4 p4
    rw [p4, q4]
end
end K14

namespace K14
open PySem L2 PySem.Spec PyProof.Rows Bc
open Lex (endOf run lexAt Lm Lk lexL lexF blanks)
def longD (i : Nat) : Dd := ⟨false, [⟨[114, 111, 111, 116], i⟩, ⟨97 :: TL.numL i, 10 ^ 39 + 7⟩]⟩
theorem longD_ok {i : Nat} (h : i < 120) : (longD i).ok := by
  have hl : (TL.numL i).length ≤ 3 := TL.numL_len (by decide) (by omega)
  refine ⟨fun p hp => ?_, rfl⟩
  simp only [longD, List.mem_cons, List.not_mem_nil, or_false] at hp
  rcases hp with rfl | rfl
  · exact ⟨⟨114, _, rfl, by unfold GoodW; decide⟩, (show kindW [114, 111, 111, 116] = .word by decide), (show [114, 111, 111, 116].length ≤ 12 by decide), Nat.lt_trans h (by decide)⟩
  · refine ⟨⟨97, _, rfl, ?_⟩, by rw [kindW_cons]; decide, by simp; omega, (show 10 ^ 39 + 7 < 10 ^ 45 by decide)⟩
    unfold GoodW
    rw [if_neg (by decide), if_neg (by decide), if_neg (by decide)]
    refine ⟨by decide, fun x hx => dig_an (dig_mem (TL.numL_digits i x hx)), by omega⟩
def longX : List Dd := (List.range 120).map longD
theorem longX_ok : ∀ x ∈ longX, x.ok := fun x hx => by
  obtain ⟨i, hi, rfl⟩ := List.mem_map.mp hx
  exact longD_ok (List.mem_range.mp hi)
theorem longX_len : longX.length = 120 := by simp [longX]
theorem scriptT_len {xs : List Dd} (h : ∀ x ∈ xs, x.ok) : (scriptT xs).length ≤ 300 * xs.length + 20 := by
  have := sum_le (b := 300) (l := (xs.map deedT).map (· ++ [59, 10])) fun y hy => by
    obtain ⟨z, hz, rfl⟩ := List.mem_map.mp hy
    obtain ⟨x, hx, rfl⟩ := List.mem_map.mp hz
    have := deed_len (h x hx)
    simp
    omega
  have this : (((xs.map deedT).map (· ++ [59, 10])).map List.length).sum ≤ _ := this
  unfold scriptT blockT
  simp only [List.length_append, List.length_flatten, List.length_cons, List.length_nil, List.length_map] at this ⊢
  have hc : cScript.length = 6 := rfl
  omega
/-- what is written is read back -/
theorem written_back {xs : List Dd} (h : ∀ x ∈ xs, x.ok) (hn : xs.length ≤ 150) : RScript [.str (txt (scriptT xs))] (.list (xs.map Dd.d)) := by
  have hs := join_spc (scriptW xs)
  have hl := scriptT_len h
  rw [← join_script h] at hl ⊢
  exact spc_script h (by omega) hs (by decide) (by show _ ≤ 100000; exact Nat.le_trans hl (by omega))
section
variable {P : Program} {w : World} {K : PySem.W.Frag} {mg : Str → Option Value} {base : Heap}
def RTrue (ds : List D) (d : D) : Prop := ds = [] ∧ d = .bool true
abbrev s__law_long_right : Stmt := top 29
theorem sc__law_long_right : FnScope ["_law_far", "_law_deeds", "_law_k", "_law_text"] [] (defScope s__law_long_right) := ⟨rfl, rfl, rfl, by decide +kernel, rfl, by decide +kernel, by decide +kernel⟩
theorem ok__law_long_right {k : Nat} {f : Addr} {fd : FuncData} (T : Tx K mg) (G_script_text : FnT P w K mg base k "script_text" ["script"] (SpD false false RScriptT)) (G__law_joined : FnT P w K mg base k "_law_joined" ["_law_signs"] (SpD false false RJoin)) (G__law_script_lexemes : FnT P w K mg base k "_law_script_lexemes" ["_law_script"] (SpD false false RLexW)) (G_read_script : FnT P w K mg base k "read_script" ["text"] (SpD false true RScript))
    (Fu : Fun K "_law_long_right" "_law_long_right" s__law_long_right f fd) : FnOk P w K mg base CX0 (k + 1) f fd [] (SpD false false RTrue) := by
  refine ok_D Fu sc__law_long_right (fun ds d ⟨e, _⟩ => by rw [e]; rfl) fun cdv A outer s H E hr => ?_
  have hu2 : (A.deeper (envOfC "_law_long_right" (defScope s__law_long_right) s.heap.objs.size f cdv)).units + 65 < cLine := by have := hr.un; omega
  refine ⟨_, (pss_cons (ps_set (i := 0) sc__law_long_right.nd rfl (Or.inr rfl) (pe_op (qAdd (K := K)) (pe_op op_pow pe_int pe_int) pe_int))
    (pss_cons (ps_setLc (i := 1) (own := [("_law_k", 2)]) rfl sc__law_long_right.nd rfl rfl (sw_true rfl rfl rfl (by decide +kernel)) (pi_range1 (by rfl) T.n_range (pa_cons pe_int pa_nil)) (blkOk_by (own := [("_law_k", 2)]) (N := ["_law_far", "_law_deeds", "_law_k", "_law_text"]) (sc := defScope s__law_long_right) (by decide +kernel)) (fun _ _ _ _ _ => (pg_name (i := 2) sc__law_long_right.nd rfl (by first | exact Or.inl rfl | exact Or.inr rfl))) (fun _ _ _ _ _ => pts_nil) (fun _ _ _ _ _ => (pe_tup (pa_cons pe_str (pa_cons (pe_tup (pa_cons pe_str (pa_cons (pv 2) pa_nil))) (pa_cons (pe_tup (pa_cons (pe_op (qAdd (K := K)) pe_str (pe_callB SkE.call_repr_int (by rfl) T.n_repr (by decide +kernel) (pa_cons (pv 2) pa_nil))) (pa_cons (pv 0) pa_nil))) pa_nil))))))
    (pss_cons (ps_set (i := 3) sc__law_long_right.nd rfl (Or.inl rfl) (pe_callT G_script_text hr (pa_cons (pv 1) pa_nil)))
    (pss_one (ps_ret (pe_and (pe_cmpR (qEq (K := K) hu2) (pv 3) (pe_callT G__law_joined hr (pa_cons (pe_callT G__law_script_lexemes hr (pa_cons (pv 1) pa_nil)) pa_nil)) (nomark _)) (pe_one (pe_cmpR (qEq (K := K) hu2) (pe_callT G_read_script hr (pa_cons (pv 3) pa_nil)) (pv 1) (nomark _))))))))), fun F ds hF hR => ?_⟩
  obtain ⟨_, rfl, _⟩ := hR
  have z : ∀ n ≤ 100000, n ≤ sizeLine := fun n hn => Nat.le_trans hn (by decide)
  refine run_set (d := .int ((10 ^ 39 + 7 : Nat) : Int)) ((ev_addI (ev_op1 (x := .int 10) (y := .int 39) (d := .int (10 ^ 39)) (sInt (C := CPow) (g := fun i j => i ^ j.toNat)) ev_int ev_int ⟨⟨by decide, by decide, by decide⟩, rfl⟩) ev_int).eq rfl) ?_
  refine run_set (d := .list (longX.map Dd.d)) (EvF.val1 ((ef_mapL (List.range 120) (fun i => .int ((0 : Int) + (i : Nat))) (fun i => (longD i).d) (ei_rng (n := 120) (ea_cons1 ev_int ea_nil) (by decide)) (by rw [List.length_range]; decide) fun i a hi => ⟨[2], [.v (.int ((10 ^ 39 + 7 : Nat) : Int)), .un, .v (.int ((0 : Int) + (a : Nat))), .un], eg_name, by simp, ?_⟩).imp fun r e => by rw [e, longX, List.map_map]; rfl)) ?_
  · have ha : a < 120 := List.mem_range.mp (List.mem_of_getElem? hi)
    have hl : (TL.numL a).length ≤ 3 := TL.numL_len (by decide) (by omega)
    have ev2 : ∀ {Δ : List Sl}, Δ[2]? = some (.v (.int ((0 : Int) + (a : Nat)))) → Ev1 F (tVar 2) Δ (.int (a : Nat)) := fun {Δ} h => (ev_var h).eq (congrArg D.int (by omega))
    refine (ev_tup (ea_cons1 ev_str (ea_cons1 (ev_tup (ea_cons1 ev_str (ea_cons1 (ev2 rfl) ea_nil))) (ea_cons1 (ev_tup (ea_cons1 (ev_addS (a := [97]) (ev_str.eq (congrArg D.str (show ("a" : Str) = txt [97] by decide +kernel))) (ev_reprN (ev2 rfl) (Nat.lt_trans ha (by decide))) (z _ (by simp; omega))) (ea_cons1 (ev_var rfl) ea_nil))) ea_nil)))).eq ?_
    show D.tuple _ = D.tuple _
    rw [show (longD a).head = cHang from rfl, show txt cHang = ("hang" : Str) by decide +kernel]
    show _ = D.tuple [D.str "hang", Pl.d ⟨[114, 111, 111, 116], a⟩, Pl.d ⟨97 :: TL.numL a, 10 ^ 39 + 7⟩]
    simp only [Pl.d]
    rw [show txt [114, 111, 111, 116] = ("root" : Str) by decide +kernel]
    rfl
  refine run_set (ev_script_text (xs := longX) (ev_var rfl) (.inl rfl) longX_ok (by rw [longX_len]; decide)) ?_
  refine run_ret1 ((ev_andV (a := true) (b := true) ((ev_eqZ (ev_var rfl) (ev_joined (ev_lexW (ev_var rfl) longX_ok (by rw [longX_len]; decide)) longX_ok (by rw [longX_len]; decide))).eq (by rw [decide_eq_true rfl])) fun _ => (ev_eqD (EvF.val1 (ef_read (xs := longX) (ev_var rfl) (written_back longX_ok (by rw [longX_len]; decide)))) (ev_var rfl) (dds_ok longX_ok) (dds_ok longX_ok)).eq (by rw [D.eqb, eqb_refl]))) ⟨rfl, rfl⟩
end
end K14

namespace K14
open PySem L2 PySem.Spec PyProof.Rows Bc
open Lex (endOf run lexAt Lm Lk lexL lexF blanks)
/-! ### scripts: their exact repr -/
theorem cpok_txt {l : List Nat} (h : ∀ c ∈ l, c < 128) : (D.str (txt l)).cpok = true := by
  simp only [D.cpok, List.all_eq_true, decide_eq_true_eq]
  intro c hc
  exact Nat.lt_trans (h c hc) (by decide)
theorem pl_cp {p : Pl} (h : p.ok) : p.d.cpok = true := by
  have := cpok_txt (good_128 h.g)
  simp only [Pl.d, D.cpok, cpokL, Bool.and_true, Bool.and_eq_true] at this ⊢
  exact this
theorem pl_rsz {p : Pl} (h : p.ok) : p.d.rsz ≤ 180 := by
  have h1 := num_len h.n
  have h2 := h.l
  have e : (toString ((p.n : Nat) : Int) : Str).length = (TL.numL p.n).length := by rw [TL.len_tl]; exact congrArg List.length (TL.tl_num p.n)
  have e2 : (txt p.w).length = p.w.length := by rw [TL.len_tl]; rfl
  simp only [Pl.d, D.rsz, rszL]
  rw [e2]
  have e : (Str.ofString (toString ((p.n : Nat) : Int))).length = (TL.numL p.n).length := e
  omega
theorem pl_sh {p : Pl} (h : p.ok) : p.d.py.showable = true := by
  simp only [Pl.d, D.py, pyL, PyData.showable, PyData.showableAll, Bool.and_true, Bool.true_and, decide_eq_true_eq]
  show (p.n : Int).natAbs.log2 < 1920
  rw [Int.natAbs_natCast]
  by_cases hz : p.n = 0
  · rw [hz]; decide
  · exact (Nat.log2_lt hz).mpr (Nat.lt_trans h.n (by decide +kernel))
theorem head_128 (x : Dd) : ∀ c ∈ x.head, c < 128 := by unfold Dd.head; split <;> decide
theorem dd_cp {x : Dd} (h : x.ok) : x.d.cpok = true := by
  have h1 := cpok_txt (head_128 x)
  simp only [Dd.d, D.cpok, cpokL, Bool.and_eq_true] at h1 ⊢
  exact ⟨h1, cpokL_of fun d hd => by
    obtain ⟨p, hp, rfl⟩ := List.mem_map.mp hd
    exact pl_cp (h.ps p hp)⟩
theorem dd_rsz {x : Dd} (h : x.ok) : x.d.rsz ≤ 900 := by
  have e2 : (txt x.head).length = x.head.length := by rw [TL.len_tl]; rfl
  have e3 : x.head.length ≤ 7 := by unfold Dd.head; split <;> decide
  have h4 : rszL (x.ps.map Pl.d) ≤ (180 + 2) * (x.ps.map Pl.d).length := rszL_le fun d hd => by
    obtain ⟨p, hp, rfl⟩ := List.mem_map.mp hd
    exact pl_rsz (h.ps p hp)
  rw [List.length_map] at h4
  have h5 : x.ps.length ≤ 4 := by rw [h.n]; split <;> omega
  simp only [Dd.d, D.rsz, rszL]
  rw [e2]
  have := Nat.mul_le_mul_left 182 h5
  omega
theorem dd_sh {x : Dd} (h : x.ok) : x.d.py.showable = true := by
  simp only [Dd.d, D.py, pyL, PyData.showable, PyData.showableAll, Bool.true_and]
  exact showL_of fun d hd => by
    obtain ⟨p, hp, rfl⟩ := List.mem_map.mp hd
    exact pl_sh (h.ps p hp)
theorem dd_nod {x : Dd} : x.d.py.hasDict = false := by
  simp only [Dd.d, D.py, pyL, PyData.hasDict, PyData.hasDictAll, Bool.false_or]
  exact nodL_of fun d hd => by
    obtain ⟨p, hp, rfl⟩ := List.mem_map.mp hd
    rfl
theorem dd_dep {x : Dd} : x.d.py.depth ≤ 60 := by
  simp only [Dd.d, D.py, pyL, PyData.depth, PyData.depthAll]
  have : PyData.depthAll (pyL (x.ps.map Pl.d)) ≤ 2 := depL_of fun d hd => by
    obtain ⟨p, hp, rfl⟩ := List.mem_map.mp hd
    exact (by simp [Pl.d, D.py, pyL, PyData.depth, PyData.depthAll])
  omega
theorem dd_isPy {x : Dd} : x.d.isPy = true := by
  simp only [Dd.d, D.isPy, isPyL, Bool.true_and]
  exact isPyL_of fun d hd => by
    obtain ⟨p, hp, rfl⟩ := List.mem_map.mp hd
    rfl
section
variable {xs : List Dd}
theorem dds_isPy : isPyL (xs.map Dd.d) = true := isPyL_of fun d hd => by
  obtain ⟨x, _, rfl⟩ := List.mem_map.mp hd
  exact dd_isPy
theorem dds_sh (h : ∀ x ∈ xs, x.ok) : (D.list (xs.map Dd.d)).py.showable = true := by
  simp only [D.py, PyData.showable]
  exact showL_of fun d hd => by
    obtain ⟨x, hx, rfl⟩ := List.mem_map.mp hd
    exact dd_sh (h x hx)
theorem dds_nod : (D.list (xs.map Dd.d)).py.hasDict = false := by
  simp only [D.py, PyData.hasDict]
  exact nodL_of fun d hd => by
    obtain ⟨x, hx, rfl⟩ := List.mem_map.mp hd
    exact dd_nod
theorem dds_dep : (D.list (xs.map Dd.d)).py.depth ≤ 64 := by
  simp only [D.py, PyData.depth]
  have : PyData.depthAll (pyL (xs.map Dd.d)) ≤ 60 := depL_of fun d hd => by
    obtain ⟨x, hx, rfl⟩ := List.mem_map.mp hd
    exact dd_dep
  omega
theorem dds_shown (h : ∀ x ∈ xs, x.ok) (hl : xs.length ≤ 150) : (D.list (xs.map Dd.d)).py.shown.length ≤ sizeLine := by
  refine Nat.le_trans (D.shown_le _ ?_) ?_
  · simp only [D.cpok]
    exact cpokL_of fun d hd => by
      obtain ⟨x, hx, rfl⟩ := List.mem_map.mp hd
      exact dd_cp (h x hx)
  · have h4 : rszL (xs.map Dd.d) ≤ (900 + 2) * (xs.map Dd.d).length := rszL_le fun d hd => by
      obtain ⟨p, hp, rfl⟩ := List.mem_map.mp hd
      exact dd_rsz (h p hp)
    rw [List.length_map] at h4
    simp only [D.rsz]
    have := Nat.mul_le_mul_left 902 hl
    have z : 150000 ≤ sizeLine := by decide
    omega
end
section
variable {F : Fp} {Δ : List Sl} {te : TE} {K : PySem.W.Frag}
theorem ev_reprDO {i : Nat} {xs : List Dd} (e : Δ[i]? = some (.own (xs.map Dd.d))) (h : ∀ x ∈ xs, x.ok) (hl : xs.length ≤ 150) : Ev1 F (tCB (rReprD K) (tCons (tVar i) tNil)) Δ (.str (D.list (xs.map Dd.d)).py.shown) :=
  ev_reprO e dds_isPy (dds_sh h) dds_nod dds_dep (dds_shown h hl)
theorem ev_reprDV {xs : List Dd} (e : Ev1 F te Δ (.list (xs.map Dd.d))) (h : ∀ x ∈ xs, x.ok) (hl : xs.length ≤ 150) : Ev1 F (tCB (rReprD K) (tCons te tNil)) Δ (.str (D.list (xs.map Dd.d)).py.shown) :=
  ev_repr e (.inl ⟨_, rfl⟩) (by simp only [D.isPy]; exact dds_isPy) (dds_sh h) dds_nod dds_dep (dds_shown h hl)
end
end K14

namespace K14
open PySem L2 PySem.Spec PyProof.Rows Bc
open Lex (endOf run lexAt Lm Lk lexL lexF blanks)
section
variable {P : Program} {w : World} {K : PySem.W.Frag} {mg : Str → Option Value} {base : Heap}
abbrev s_law : Stmt := top 30
theorem sc_law : FnScope ["_law_script", "_law_source_here", "_law_turn", "_law_deeds", "_law_lap", "_law_due", "_law_handed", "_law_text", "_law_some", "_law_told"] ["_law_script"] (defScope s_law) := ⟨rfl, rfl, rfl, by decide +kernel, rfl, by decide +kernel, by decide +kernel⟩
def SpT (xs : List Dd) (d : D) : Prop := ∃ t e : List Nat, d = .str (txt (t ++ e)) ∧ RScript [.str (txt (t ++ e))] (.list (xs.map Dd.d))
theorem ev_spaced {F : Fp} {Δ : List Sl} {E : XK} {i : Nat} {te : TE} {xs : List Dd} (hi : Δ[i]? = some .src) (h : Ev1 F te Δ (.list (txts (scriptW xs)))) (hx : ∀ x ∈ xs, x.ok) (hl : xs.length ≤ 50) : EvR F (tCall (SpD true false RSp) [] E (tCons (tVar i) (tCons te tNil))) Δ (SpT xs) := by
  have hw := script_good hx
  have hn := scriptW_len hx
  refine (ev_callS (Pa := fun ds => ds = [.list (txts (scriptW xs))]) hi (ea_cons1 h ea_nil) fun ds e => by rw [e]; exact rsp_ex hw (by omega)).imp ?_
  rintro d ⟨ds, rfl, ws, t, l, e, h1, _, _, h4, h5, rfl, h7⟩
  simp only [List.cons.injEq, D.list.injEq, and_true] at h1
  have h1 := txts_inj h1
  subst h1
  exact ⟨t, e, rfl, spc_script hx (by omega) h4 h5 (by show _ ≤ 100000; omega)⟩
def x0 : Dd := ⟨false, [⟨[97], 0⟩, ⟨[98], 1⟩]⟩
def tx0 : List Nat := [115, 99, 114, 105, 112, 116, 123, 104, 97, 110, 103, 32, 97, 32, 48, 98, 32, 49, 59, 125]
theorem lit_tx0 : ("script{hang a 0b 1;}" : Str) = txt tx0 := by decide +kernel
theorem lit_empty : txt (scriptT []) = ("script {\n}\n" : Str) := by decide +kernel
theorem x0_ok : x0.ok := by
  refine ⟨fun p hp => ?_, rfl⟩
  simp only [x0, List.mem_cons, List.not_mem_nil, or_false] at hp
  rcases hp with rfl | rfl
  · exact ⟨⟨97, _, rfl, by unfold GoodW; decide⟩, (show kindW [97] = .word by decide), (show [97].length ≤ 12 by decide), (show 0 < 10 ^ 45 by decide)⟩
  · exact ⟨⟨98, _, rfl, by unfold GoodW; decide⟩, (show kindW [98] = .word by decide), (show [98].length ≤ 12 by decide), (show 1 < 10 ^ 45 by decide)⟩
theorem read_x0 : RScript [.str (txt tx0)] (.list ([x0].map Dd.d)) := by
  have hw : scriptW [x0] = [cScript, [123], cHang, [97], [48], [98], [49], [59], [125]] := by
    have e0 : TL.numL 0 = [48] := TL.numL_lt (by decide)
    have e1 : TL.numL 1 = [49] := TL.numL_lt (by decide)
    simp [scriptW, ddW, plW, x0, Dd.head, e0, e1]
  have s0 := Spc.nil [] (fun c h => (by cases h))
  have s1 := s0.snoc (g := []) (w := cScript) (by decide) (fun _ => by decide +kernel)
  have s2 := s1.snoc (g := []) (w := [123]) (by decide) (fun _ => by decide +kernel)
  have s3 := s2.snoc (g := []) (w := cHang) (by decide) (fun _ => by decide +kernel)
  have s4 := s3.snoc (g := [32]) (w := [97]) (by decide) (fun e => by cases e)
  have s5 := s4.snoc (g := [32]) (w := [48]) (by decide) (fun e => by cases e)
  have s6 := s5.snoc (g := []) (w := [98]) (by decide) (fun _ => by decide +kernel)
  have s7 := s6.snoc (g := [32]) (w := [49]) (by decide) (fun e => by cases e)
  have s8 := s7.snoc (g := []) (w := [59]) (by decide) (fun _ => by decide +kernel)
  have s9 := s8.snoc (g := []) (w := [125]) (by decide) (fun _ => by decide +kernel)
  have hs : Spc (scriptW [x0]) tx0 [125] := by
    rw [hw]
    exact s9
  exact spc_script (xs := [x0]) (e := []) (fun x hx => by rw [List.mem_singleton] at hx; rw [hx]; exact x0_ok) (by decide) hs (fun c h => (by cases h)) (by show _ ≤ 100000; decide)
theorem lit_x0 : D.list [.tuple [.str "hang", .tuple [.str "a", .int 0], .tuple [.str "b", .int 1]]] = D.list ([x0].map Dd.d) := by
  have e1 : txt cHang = ("hang" : Str) := by decide +kernel
  have e2 : txt [97] = ("a" : Str) := by decide +kernel
  have e3 : txt [98] = ("b" : Str) := by decide +kernel
  show _ = D.list [D.tuple (D.str (txt cHang) :: [D.tuple [D.str (txt [97]), D.int ((0 : Nat) : Int)], D.tuple [D.str (txt [98]), D.int ((1 : Nat) : Int)]])]
  rw [e1, e2, e3]
  rfl
theorem dds_of {r : List D} : (∀ d ∈ r, ∃ x : Dd, x.ok ∧ d = x.d) → ∃ l : List Dd, l.length = r.length ∧ (∀ x ∈ l, x.ok) ∧ r = l.map Dd.d := by
  induction r with
  | nil => exact fun _ => ⟨[], rfl, fun _ h => (by cases h), rfl⟩
  | cons d r ih =>
    intro h
    obtain ⟨p, hp, rfl⟩ := h d (List.mem_cons_self ..)
    obtain ⟨l, h1, h2, h3⟩ := ih fun e he => h e (List.mem_cons_of_mem _ he)
    exact ⟨p :: l, by simp [h1], fun q hq => (List.mem_cons.mp hq).elim (fun e => e ▸ hp) (h2 q), by rw [h3]; rfl⟩
theorem ok_law {k : Nat} {f : Addr} {fd : FuncData} (T : Tx K mg)
    (G__law_source : FnT P w K mg base k "_law_source" ["_law_script"] (spSource K)) (G__law_pick : FnT P w K mg base k "_law_pick" ["_law_source_here", "_law_many"] (SpD true false RPick)) (G__law_long_right : FnT P w K mg base k "_law_long_right" [] (SpD false false RTrue)) (G__law_drawn_deed : FnT P w K mg base k "_law_drawn_deed" ["_law_source_here"] (SpD true false RDrawn))
    (G__law_script_lexemes : FnT P w K mg base k "_law_script_lexemes" ["_law_script"] (SpD false false RLexW)) (G_script_text : FnT P w K mg base k "script_text" ["script"] (SpD false false RScriptT)) (G__law_joined : FnT P w K mg base k "_law_joined" ["_law_signs"] (SpD false false RJoin)) (G__law_spaced : FnT P w K mg base k "_law_spaced" ["_law_source_here", "_law_signs"] (SpD true false RSp)) (G_read_script : FnT P w K mg base k "read_script" ["text"] (SpD false true RScript))
    (Fu : Fun K "law" "law" s_law f fd) : FnOkG P w K mg base (k + 1) f fd ["_law_script"] (spLaw K) := by
  refine bodyG Fu sc_law (fun vs H Q E h => ?_) (fun cdv A outer s H vs Q E hgd0 hr h => ?_)
  · obtain ⟨a, ns, rfl, _⟩ := h
    rfl
  obtain ⟨a, ns, rfl, hS, hl, hk⟩ := h
  have hu2 : (A.deeper (envOfC "law" (defScope s_law) s.heap.objs.size f cdv)).units + 65 < cLine := by have := hr.un; omega
  have hgd : (A.deeper (envOfC "law" (defScope s_law) s.heap.objs.size f cdv)).guards = some [] := by
    first | exact hgd0 | (rw [Around.guards_deeper]; exact hgd0) | simpa [Around.deeper] using hgd0
  refine ⟨_, (pss_cons (ps_set (i := 1) sc_law.nd rfl (Or.inr rfl) (pe_callT G__law_source hr (pa_cons (pv 0) pa_nil)))
    (pss_cons (ps_if (PW.pt (pw_and (pt_cmpR (qEq (K := K) hu2) (pe_callT G__law_pick hr (pa_cons (pv 1) (pa_cons pe_int pa_nil))) pe_int (nomark _)) (pw_and1 (pt_not (pt_val (pe_callT0 G__law_long_right hr))))))
      (pss_one (ps_ret pe_bl))
      pss_nil)
    (pss_cons (ps_for PassesOwn.never rfl (pi_range1 (by rfl) T.n_range (pa_cons pe_int pa_nil)) (pg_name (i := 2) sc_law.nd rfl (Or.inl rfl))
      (pss_cons (ps_setLc (i := 3) (own := [("_law_lap", 4)]) rfl sc_law.nd rfl rfl (sw_true rfl rfl rfl (by decide +kernel)) (pi_range1 (by rfl) T.n_range (pa_cons (pe_callT G__law_pick hr (pa_cons (pv 1) (pa_cons pe_int pa_nil))) pa_nil)) (blkOk_by (own := [("_law_lap", 4)]) (N := ["_law_script", "_law_source_here", "_law_turn", "_law_deeds", "_law_lap", "_law_due", "_law_handed", "_law_text", "_law_some", "_law_told"]) (sc := defScope s_law) (by decide +kernel)) (fun _ _ _ _ _ => (pg_name (i := 4) sc_law.nd rfl (by first | exact Or.inl rfl | exact Or.inr rfl))) (fun _ _ _ _ _ => pts_nil) (fun _ _ _ _ _ => (pe_callT G__law_drawn_deed hr (pa_cons (pv 1) pa_nil))))
      (pss_cons (ps_par (i := 5) (j := 6) rfl sc_law.nd rfl rfl (by decide) rfl rfl (pa_cons (pe_callT G__law_script_lexemes hr (pa_cons (pv 3) pa_nil)) (pa_cons (pe_callTy (qList (K := K)) (by rfl) T.n_list (by decide +kernel) (pa_cons (pv 3) pa_nil)) pa_nil)) (by rfl))
      (pss_cons (ps_set (i := 7) sc_law.nd rfl (Or.inl rfl) (pe_callT G_script_text hr (pa_cons (pv 6) pa_nil)))
      (pss_cons (ps_if (PW.pt (pw_or (pt_cmpR (qNe (K := K) hu2) (pv 7) (pe_callT G__law_joined hr (pa_cons (pv 5) pa_nil)) (nomark _)) (pw_or (pt_cmpR (qNe (K := K) hu2) (pe_callT G_script_text hr (pa_cons (pe_callTy (qTuple (K := K)) (by rfl) T.n_tuple (by decide +kernel) (pa_cons (pv 3) pa_nil)) pa_nil)) (pv 7) (nomark _)) (pw_or1 (pt_cmpR (qNe (K := K) hu2) (pv 6) (pv 3) (nomark _))))))
        (pss_one (ps_ret pe_bl))
        pss_nil)
      (pss_one (ps_for PassesOwn.never rfl (qi_any (K := K) (pe_lst (pa_cons (pv 7) (pa_cons (pe_callT G__law_spaced hr (pa_cons (pv 1) (pa_cons (pv 5) pa_nil))) (pa_cons (pe_callT G__law_spaced hr (pa_cons (pv 1) (pa_cons (pv 5) pa_nil))) pa_nil))))) (pg_name (i := 8) sc_law.nd rfl (Or.inl rfl))
        (pss_one (ps_for PassesOwn.never rfl (pi_range1 (by rfl) T.n_range (pa_cons pe_int pa_nil)) (pg_name (i := 4) sc_law.nd rfl (Or.inl rfl))
          (pss_cons (ps_set (i := 9) sc_law.nd rfl (Or.inl rfl) (pe_callT G_read_script hr (pa_cons (pv 8) pa_nil)))
          (pss_cons (ps_if (pt_cmpR (qNe (K := K) hu2) (pe_callB (pRepr hgd hu2) (by rfl) T.n_repr (by decide +kernel) (pa_cons (pv 9) pa_nil)) (pe_callB (pRepr hgd hu2) (by rfl) T.n_repr (by decide +kernel) (pa_cons (pv 3) pa_nil)) (nomark _))
            (pss_one (ps_ret pe_bl))
            pss_nil)
          (pss_one (ps_expr (qBm (K := K) PySem.F.plainAttrs_list PySem.F.slot_list_append PySem.F.type_list_append mt_append (pv 9) (pa_cons pe_non pa_nil)))))))))))))))
    (pss_one (ps_ret (pe_and (pe_cmpR (qEq (K := K) hu2) (pe_callT G_script_text hr (pa_cons (pe_lst pa_nil) pa_nil)) pe_str (nomark _)) (pe_one (pe_cmpR (qEq (K := K) hu2) (pe_callT G_read_script hr (pa_cons pe_str pa_nil)) (pe_lst (pa_cons (pe_tup (pa_cons pe_str (pa_cons (pe_tup (pa_cons pe_str (pa_cons pe_int pa_nil))) (pa_cons (pe_tup (pa_cons pe_str (pa_cons pe_int pa_nil))) pa_nil)))) pa_nil)) (nomark _))))))))), ?_⟩
  refine ⟨_, rfl, a, ns, rfl, hS, hl, fun p c H1 hp hc hsrc hsm => ?_⟩
  dsimp only [gName]
  refine law_start (n := 8) (σ := (L2.start ["_law_script", "_law_source_here", "_law_turn", "_law_deeds", "_law_lap", "_law_due", "_law_handed", "_law_text", "_law_some", "_law_told"] [V.ref a]).set 1 (some (V.ref p))) hsrc (by rfl) (by rfl) ?_ hk
  have hpk : ∀ {Δ : List Sl} {n : Nat} {E : XK}, Δ[1]? = some .src → 0 < n → n < 2 ^ 20 → EvR (some (p, c)) (tCall (SpD true false RPick) [] E (tCons (tVar 1) (tCons (tC (V.int (n : Nat))) tNil))) Δ fun d => ∃ r : Nat, r < n ∧ d = .int (r : Nat) := fun {Δ n E} hi h1 h2 => by
    refine (ev_callS (i := 1) (Pa := fun ds => ds = [.int (n : Nat)]) hi (ea_cons1 ev_int ea_nil) fun ds e => ⟨.int 0, n, 0, e, by omega, by omega, by omega, rfl⟩).imp ?_
    rintro d ⟨ds, rfl, m, r, e, _, h3, h4, rfl⟩
    simp only [List.cons.injEq, and_true, D.int.injEq] at e
    subst e
    have h5 : r < (n : Int) := by
      have h4 := h4
      omega
    exact ⟨r.toNat, by omega, by rw [Int.toNat_of_nonneg h3]⟩
  refine run_ifS (Pb := fun b => b = false) ((et_and (P1 := fun _ => True) (P2 := fun b => b = false) (et_test ((ev_op sScE (P1 := fun d => ∃ r : Nat, r < 8 ∧ d = .int (r : Nat)) (P2 := fun d => d = .int 0) (hpk (n := 8) rfl (by decide) (by decide)) ev_int ?_))) fun _ => (et_not1 (et_B1 (ev_call1 (d := .bool true) ea_nil ⟨rfl, rfl⟩ fun e h => h.2)))).imp ?_) (fun e => by cases e) fun _ => ?_
  · rintro x y ⟨r, _, rfl⟩ rfl
    exact ⟨_, rfl, _, rfl, trivial⟩
  · rintro b (⟨h, _⟩ | ⟨_, h⟩)
    · exact h
    · exact h
  refine run_nextS ?_
  refine run_seqM (N := fun Δ => ∃ s2 s3 s4 s5 s6 s7 s8 s9, Δ = [.un, .src, s2, s3, s4, s5, s6, s7, s8, s9]) ?_ ?_
  · refine run_for (ei_rng (n := 4) (ea_cons1 ev_int ea_nil) (by decide)) (fun _ Δ => ∃ s2 s3 s4 s5 s6 s7 s8 s9, Δ = [.un, .src, s2, s3, s4, s5, s6, s7, s8, s9]) ⟨_, _, _, _, _, _, _, _, rfl⟩ ?_ (fun Δ h => h)
    rintro i tn Δ _ ⟨s2, s3, s4, s5, s6, s7, s8, s9, rfl⟩
    refine ⟨_, _, eg_name, ?_⟩
    refine run_asgS (P := fun d => ∃ xs : List Dd, (∀ x ∈ xs, x.ok) ∧ xs.length ≤ 6 ∧ d = .list (xs.map Dd.d)) ((EvF.val (ef_each (Pd := fun r => ∃ n : Int, (0 ≤ n ∧ n < 7) ∧ r = rngD 0 n.toNat) (P := fun d => ∃ x : Dd, x.ok ∧ d = x.d) (ei_rngP (P := fun n => 0 ≤ n ∧ n < 7) ((ea_cons (hpk (n := 7) rfl (by decide) (by decide)) ea_nil).imp ?_) fun n h => ⟨by omega, by omega⟩) ?_ fun ds i d e hd => ⟨_, _, eg_name, by simp, (ev_callS (i := 1) (Pa := fun ds => ds = []) rfl ea_nil ?_).imp ?_⟩)).imp ?_) ?_
    · rintro ds ⟨d, r, rfl, ⟨n, hn, rfl⟩, rfl⟩
      exact ⟨n, ⟨by omega, by omega⟩, rfl⟩
    · rintro ds ⟨n, ⟨h0, h1⟩, rfl⟩
      have : (rngD 0 n.toNat).length = n.toNat := by simp [rngD]
      rw [this]
      exact Nat.le_trans (show n.toNat ≤ 100 by omega) (by decide)
    · rintro ds rfl
      exact ⟨_, rfl, longD 0, longD_ok (by decide), rfl⟩
    · rintro d ⟨ds, rfl, _, x, hx, rfl⟩
      exact ⟨x, hx, rfl⟩
    · rintro d ⟨r, ⟨ds, ⟨n, ⟨h0, h1⟩, rfl⟩, hlen, hall⟩, rfl⟩
      obtain ⟨xs, e1, e2, e3⟩ := dds_of hall
      have : (rngD 0 n.toNat).length = n.toNat := by simp [rngD]
      exact ⟨xs, e2, by rw [e1, hlen, this]; omega, by rw [e3]⟩
    · rintro d ⟨xs, hx, hl, rfl⟩
      refine run_par (Pa := fun ds => ds = [.list (txts (scriptW xs)), .list (xs.map Dd.d)]) (ea_cons1 (ev_lexW (ev_var rfl) hx (by omega)) (ea_cons1 (EvF.val1 (ef_list (es_list (ev_var rfl)))) ea_nil)) fun ds e => ⟨_, _, e, ?_⟩
      refine run_set (ev_script_text (ev_var rfl) (.inl rfl) hx (by omega)) ?_
      refine run_if1S (b := false) (et_or1 (a := false) (b := false) (et_test1 ((ev_neZ (u := txt (scriptT xs)) (ev_var rfl) (ev_joined (ev_var rfl) hx (by omega))).eq (by simp))) fun _ => et_or1 (a := false) (b := false) (et_test1 ((ev_neZ (v := txt (scriptT xs)) (ev_script_text (xs := xs) (ev_cb1 (d := .tuple (xs.map Dd.d)) sTup (ea_cons1 (ev_var (d := .list (xs.map Dd.d)) rfl) ea_nil) rfl) (.inr rfl) hx (by omega)) (ev_var rfl)).eq (by simp))) fun _ => et_test1 ((ev_neD (ev_var rfl) (ev_var rfl) (dds_ok hx) (dds_ok hx)).eq (by rw [D.eqb, eqb_refl]; rfl))) (fun h => nomatch h) fun _ => run_nextS ?_
      refine run_forP (Pd := fun ds => ∃ a b c, ds = [a, b, c] ∧ SpT xs a ∧ SpT xs b ∧ SpT xs c) (ei_listP (EvF.val (ef_lstP (Pa := fun ds => ∃ a b c, ds = [a, b, c] ∧ SpT xs a ∧ SpT xs b ∧ SpT xs c) ((ea_cons (P := SpT xs) ((ev_var rfl).imp ?_) (ea_cons (ev_spaced rfl (ev_var rfl) hx (by omega)) (ea_cons (ev_spaced rfl (ev_var rfl) hx (by omega)) ea_nil))).imp ?_) ?_))) (fun _ _ Δ => ∃ s4 s8 s9, Δ = [.un, .src, .v tn, .v (.list (xs.map Dd.d)), s4, .v (.list (txts (scriptW xs))), .v (.list (xs.map Dd.d)), .v (.str (txt (scriptT xs))), s8, s9]) ?_ ?_ ?_
      · rintro d rfl
        refine ⟨scriptT xs, [], by simp, ?_⟩
        have := written_back hx (by omega)
        simpa using this
      · rintro ds ⟨a, r, rfl, ha, b, r2, rfl, hb, c2, r3, rfl, hc2, rfl⟩
        exact ⟨a, b, c2, rfl, ha, hb, hc2⟩
      · rintro ds ⟨a, b, c2, rfl, _⟩
        show 3 ≤ sizeLine
        decide
      · rintro ds _
        exact ⟨_, _, _, rfl⟩
      · rintro ds i2 d2 Δ2 ⟨a, b, c2, rfl, ha, hb, hc2⟩ hi ⟨s4', s8', s9', rfl⟩
        have hd2 : SpT xs d2 := by
          have := List.mem_of_getElem? hi
          simp only [List.mem_cons, List.not_mem_nil, or_false] at this
          rcases this with rfl | rfl | rfl
          · exact ha
          · exact hb
          · exact hc2
        obtain ⟨tt, te, rfl, hr⟩ := hd2
        refine ⟨_, _, eg_name, ?_⟩
        refine run_for (ei_rng (n := 2) (ea_cons1 ev_int ea_nil) (by decide)) (fun _ Δ => ∃ s4 s9, Δ = [.un, .src, .v tn, .v (.list (xs.map Dd.d)), s4, .v (.list (txts (scriptW xs))), .v (.list (xs.map Dd.d)), .v (.str (txt (scriptT xs))), .v (.str (txt (tt ++ te))), s9]) ⟨_, _, rfl⟩ ?_ ?_
        · rintro i3 d3 Δ3 _ ⟨s4, s9, rfl⟩
          refine ⟨_, _, eg_name, ?_⟩
          refine run_setF (ef_read (ev_var rfl) hr) ?_
          refine run_if1S (b := false) (et_test1 ((ev_neZ (ev_reprDO rfl hx (by omega)) (ev_reprDV (ev_var rfl) hx (by omega))).eq (by simp))) (fun h => nomatch h) fun _ => run_nextS ?_
          refine run_app rfl ev_non ?_ fun d _ => ⟨_, _, rfl⟩
          rw [List.length_map]
          exact Nat.le_trans (show xs.length + 1 ≤ 100 by omega) (by decide)
        · rintro Δ3 ⟨s4, s9, rfl⟩
          exact ⟨_, _, _, rfl⟩
      · rintro ds Δ2 _ ⟨s4', s8', s9', rfl⟩
        exact ⟨_, _, _, _, _, _, _, _, rfl⟩
  · rintro Δ ⟨s2, s3, s4, s5, s6, s7, s8, s9, rfl⟩
    refine run_ret1 (d := .bool true) ?_ rfl
    have hx0 : ∀ x ∈ [x0], x.ok := fun x hx => by
      rw [List.mem_singleton] at hx
      rw [hx]
      exact x0_ok
    refine ((ev_andV (a := true) (b := true) ((ev_eqZ (ev_script_text (xs := []) (EvF.val1 (ef_lst ea_nil)) (.inl rfl) (fun x h => (by cases h)) (by decide)) ev_str).eq (congrArg D.bool (by rw [lit_empty]; exact decide_eq_true rfl))) fun _ => (ev_eqD (EvF.val1 (ef_read (xs := [x0]) (t := tx0) (ev_str.eq (congrArg D.str lit_tx0)) read_x0)) ((EvF.val1 (ef_lst (ea_cons1 (ev_tup (ea_cons1 ev_str (ea_cons1 (ev_tup (ea_cons1 ev_str (ea_cons1 ev_int ea_nil))) (ea_cons1 (ev_tup (ea_cons1 ev_str (ea_cons1 ev_int ea_nil))) ea_nil)))) ea_nil))).eq lit_x0) (dds_ok hx0) (dds_ok hx0)).eq (by rw [D.eqb, eqb_refl]))).eq rfl
end
end K14

namespace K14
open PySem L2 PySem.Spec PyProof.Rows Bc
abbrev s_Lexer_fail : Stmt := inClass (top 11) 1
theorem _root_.Bc.MethT.mono {P : Program} {w : World} {K : PySem.W.Frag} {mg : Str → Option Value} {base : Heap} {k j : Nat} {C : Addr} {m : Str} {ps : List Str} {sp : Sp} (T : MethT P w K mg base j C m ps sp) (h : j ≤ k) : MethT P w K mg base k C m ps sp := by
  obtain ⟨⟨f, fd, a, b, c⟩, d⟩ := T
  exact ⟨⟨f, fd, a, b, c.mono h⟩, d⟩
theorem _root_.Bc.MkT.mono {P : Program} {w : World} {K : PySem.W.Frag} {mg : Str → Option Value} {base : Heap} {k j : Nat} {x : Str} {C : Addr} {ps : List Str} {sp : Sp} (T : MkT P w K mg base j x C ps sp) (h : j ≤ k) : MkT P w K mg base k x C ps sp := by
  obtain ⟨⟨f, fd, a, b, c⟩, d⟩ := T
  exact ⟨⟨f, fd, a, b, c.mono h⟩, d⟩
theorem all_mk {l : PySem.W.OpenLaw} {w : World} {K : PySem.W.Frag} {h : Heap} {mg : Str → Option Value} {fa : Addr} (X : K.In h) (G : h.Ns mainGlobals mg) (hfa : mg "law" = some (.ref fa))
    {C_Lexer : Addr} {f_Lexer___init__ : Addr} {od_Lexer___init__ an_Lexer___init__ : Option Addr} {sl_Lexer___init__ : Array (Option Value)} {oc_Lexer___init__ kV_Lexer___init__ dc_Lexer___init__ pm_Lexer___init__ cd_Lexer___init__ ct_Lexer___init__ : Value} {f_Lexer_fail : Addr} {od_Lexer_fail an_Lexer_fail : Option Addr} {sl_Lexer_fail : Array (Option Value)} {oc_Lexer_fail kV_Lexer_fail dc_Lexer_fail pm_Lexer_fail cd_Lexer_fail ct_Lexer_fail : Value} {f_Lexer_is_next : Addr} {od_Lexer_is_next an_Lexer_is_next : Option Addr} {sl_Lexer_is_next : Array (Option Value)} {oc_Lexer_is_next kV_Lexer_is_next dc_Lexer_is_next pm_Lexer_is_next cd_Lexer_is_next ct_Lexer_is_next : Value} {f_Lexer_go : Addr} {od_Lexer_go an_Lexer_go : Option Addr} {sl_Lexer_go : Array (Option Value)} {oc_Lexer_go kV_Lexer_go dc_Lexer_go pm_Lexer_go cd_Lexer_go ct_Lexer_go : Value} {f_Lexer_take : Addr} {od_Lexer_take an_Lexer_take : Option Addr} {sl_Lexer_take : Array (Option Value)} {oc_Lexer_take kV_Lexer_take dc_Lexer_take pm_Lexer_take cd_Lexer_take ct_Lexer_take : Value} {f_Lexer_word : Addr} {od_Lexer_word an_Lexer_word : Option Addr} {sl_Lexer_word : Array (Option Value)} {oc_Lexer_word kV_Lexer_word dc_Lexer_word pm_Lexer_word cd_Lexer_word ct_Lexer_word : Value} {f_Lexer_number : Addr} {od_Lexer_number an_Lexer_number : Option Addr} {sl_Lexer_number : Array (Option Value)} {oc_Lexer_number kV_Lexer_number dc_Lexer_number pm_Lexer_number cd_Lexer_number ct_Lexer_number : Value} {f_Lexer_finish : Addr} {od_Lexer_finish an_Lexer_finish : Option Addr} {sl_Lexer_finish : Array (Option Value)} {oc_Lexer_finish kV_Lexer_finish dc_Lexer_finish pm_Lexer_finish cd_Lexer_finish ct_Lexer_finish : Value} {f_end_of : Addr} {od_end_of an_end_of : Option Addr} {sl_end_of : Array (Option Value)} {oc_end_of kV_end_of dc_end_of pm_end_of cd_end_of ct_end_of : Value} {f_lexeme_at : Addr} {od_lexeme_at an_lexeme_at : Option Addr} {sl_lexeme_at : Array (Option Value)} {oc_lexeme_at kV_lexeme_at dc_lexeme_at pm_lexeme_at cd_lexeme_at ct_lexeme_at : Value} {f_read_block : Addr} {od_read_block an_read_block : Option Addr} {sl_read_block : Array (Option Value)} {oc_read_block kV_read_block dc_read_block pm_read_block cd_read_block ct_read_block : Value} {f_read_place : Addr} {od_read_place an_read_place : Option Addr} {sl_read_place : Array (Option Value)} {oc_read_place kV_read_place dc_read_place pm_read_place cd_read_place ct_read_place : Value} {f_read_deed : Addr} {od_read_deed an_read_deed : Option Addr} {sl_read_deed : Array (Option Value)} {oc_read_deed kV_read_deed dc_read_deed pm_read_deed cd_read_deed ct_read_deed : Value} {f_read_script : Addr} {od_read_script an_read_script : Option Addr} {sl_read_script : Array (Option Value)} {oc_read_script kV_read_script dc_read_script pm_read_script cd_read_script ct_read_script : Value} {f_block : Addr} {od_block an_block : Option Addr} {sl_block : Array (Option Value)} {oc_block kV_block dc_block pm_block cd_block ct_block : Value} {f_place_text : Addr} {od_place_text an_place_text : Option Addr} {sl_place_text : Array (Option Value)} {oc_place_text kV_place_text dc_place_text pm_place_text cd_place_text ct_place_text : Value} {f_deed_text : Addr} {od_deed_text an_deed_text : Option Addr} {sl_deed_text : Array (Option Value)} {oc_deed_text kV_deed_text dc_deed_text pm_deed_text cd_deed_text ct_deed_text : Value} {f_script_text : Addr} {od_script_text an_script_text : Option Addr} {sl_script_text : Array (Option Value)} {oc_script_text kV_script_text dc_script_text pm_script_text cd_script_text ct_script_text : Value} {f__law_source : Addr} {od__law_source an__law_source : Option Addr} {sl__law_source : Array (Option Value)} {oc__law_source kV__law_source dc__law_source pm__law_source cd__law_source ct__law_source : Value} {f__law_pick : Addr} {od__law_pick an__law_pick : Option Addr} {sl__law_pick : Array (Option Value)} {oc__law_pick kV__law_pick dc__law_pick pm__law_pick cd__law_pick ct__law_pick : Value} {f__law_of : Addr} {od__law_of an__law_of : Option Addr} {sl__law_of : Array (Option Value)} {oc__law_of kV__law_of dc__law_of pm__law_of cd__law_of ct__law_of : Value} {f__law_joined : Addr} {od__law_joined an__law_joined : Option Addr} {sl__law_joined : Array (Option Value)} {oc__law_joined kV__law_joined dc__law_joined pm__law_joined cd__law_joined ct__law_joined : Value} {f__law_spaced : Addr} {od__law_spaced an__law_spaced : Option Addr} {sl__law_spaced : Array (Option Value)} {oc__law_spaced kV__law_spaced dc__law_spaced pm__law_spaced cd__law_spaced ct__law_spaced : Value} {f__law_script_lexemes : Addr} {od__law_script_lexemes an__law_script_lexemes : Option Addr} {sl__law_script_lexemes : Array (Option Value)} {oc__law_script_lexemes kV__law_script_lexemes dc__law_script_lexemes pm__law_script_lexemes cd__law_script_lexemes ct__law_script_lexemes : Value} {f__law_drawn_deed : Addr} {od__law_drawn_deed an__law_drawn_deed : Option Addr} {sl__law_drawn_deed : Array (Option Value)} {oc__law_drawn_deed kV__law_drawn_deed dc__law_drawn_deed pm__law_drawn_deed cd__law_drawn_deed ct__law_drawn_deed : Value} {f__law_long_right : Addr} {od__law_long_right an__law_long_right : Option Addr} {sl__law_long_right : Array (Option Value)} {oc__law_long_right kV__law_long_right dc__law_long_right pm__law_long_right cd__law_long_right ct__law_long_right : Value} {f_law : Addr} {od_law an_law : Option Addr} {sl_law : Array (Option Value)} {oc_law kV_law dc_law pm_law cd_law ct_law : Value} {t_LETTERS : Tok} {t_DIGITS : Tok} {t_BLANKS : Tok} {t_SIGNS : Tok} 
    (a_Lexer : PySem.W.nsIn K mainGlobals "Lexer" = some (some (.ref C_Lexer)))
    (pg_Lexer : PySem.W.plainGet K C_Lexer Str.empty = true)
    (hd_Lexer : PySem.W.hasDictIn K C_Lexer = true)
    (po_Lexer : PySem.W.plainOver K C_Lexer = true)
    (sa_Lexer : PySem.W.findIn K (.ref C_Lexer) "__setattr__" = some (some (.builtin "object.__setattr__")))
    (mk_Lexer : PySem.W.makesIn K C_Lexer = true)
    (kc_Lexer : PySem.W.keepIn K (.ref C_Lexer) = true)
    (no_Lexer_text : PySem.W.findIn K (.ref C_Lexer) "text" = some none)
    (no_Lexer_now : PySem.W.findIn K (.ref C_Lexer) "now" = some none)
    (a_Lexer___init__ : PySem.W.findIn K (.ref C_Lexer) "__init__" = some (some (.ref f_Lexer___init__)))
    (i_Lexer___init__ : PySem.W.isFn K (.ref f_Lexer___init__) = true)
    (l_Lexer___init__ : K.lookup f_Lexer___init__ = some ⟨oc_Lexer___init__, od_Lexer___init__, .func (PySem.W.fnOf "__init__" "Lexer.__init__" (defArgs s_Lexer___init__) (defBody s_Lexer___init__) (defScope s_Lexer___init__) .none kV_Lexer___init__ dc_Lexer___init__ pm_Lexer___init__ an_Lexer___init__ cd_Lexer___init__ ct_Lexer___init__), sl_Lexer___init__⟩)
    (c_Lexer___init__ : PySem.W.codeIn K cd_Lexer___init__ "Lexer.__init__" = true)
    (k_Lexer___init__ : PySem.W.keepIn K (.ref f_Lexer___init__) = true)
    (a_Lexer_fail : PySem.W.findIn K (.ref C_Lexer) "fail" = some (some (.ref f_Lexer_fail)))
    (i_Lexer_fail : PySem.W.isFn K (.ref f_Lexer_fail) = true)
    (l_Lexer_fail : K.lookup f_Lexer_fail = some ⟨oc_Lexer_fail, od_Lexer_fail, .func (PySem.W.fnOf "fail" "Lexer.fail" (defArgs s_Lexer_fail) (defBody s_Lexer_fail) (defScope s_Lexer_fail) .none kV_Lexer_fail dc_Lexer_fail pm_Lexer_fail an_Lexer_fail cd_Lexer_fail ct_Lexer_fail), sl_Lexer_fail⟩)
    (c_Lexer_fail : PySem.W.codeIn K cd_Lexer_fail "Lexer.fail" = true)
    (k_Lexer_fail : PySem.W.keepIn K (.ref f_Lexer_fail) = true)
    (a_Lexer_is_next : PySem.W.findIn K (.ref C_Lexer) "is_next" = some (some (.ref f_Lexer_is_next)))
    (i_Lexer_is_next : PySem.W.isFn K (.ref f_Lexer_is_next) = true)
    (l_Lexer_is_next : K.lookup f_Lexer_is_next = some ⟨oc_Lexer_is_next, od_Lexer_is_next, .func (PySem.W.fnOf "is_next" "Lexer.is_next" (defArgs s_Lexer_is_next) (defBody s_Lexer_is_next) (defScope s_Lexer_is_next) .none kV_Lexer_is_next dc_Lexer_is_next pm_Lexer_is_next an_Lexer_is_next cd_Lexer_is_next ct_Lexer_is_next), sl_Lexer_is_next⟩)
    (c_Lexer_is_next : PySem.W.codeIn K cd_Lexer_is_next "Lexer.is_next" = true)
    (k_Lexer_is_next : PySem.W.keepIn K (.ref f_Lexer_is_next) = true)
    (a_Lexer_go : PySem.W.findIn K (.ref C_Lexer) "go" = some (some (.ref f_Lexer_go)))
    (i_Lexer_go : PySem.W.isFn K (.ref f_Lexer_go) = true)
    (l_Lexer_go : K.lookup f_Lexer_go = some ⟨oc_Lexer_go, od_Lexer_go, .func (PySem.W.fnOf "go" "Lexer.go" (defArgs s_Lexer_go) (defBody s_Lexer_go) (defScope s_Lexer_go) .none kV_Lexer_go dc_Lexer_go pm_Lexer_go an_Lexer_go cd_Lexer_go ct_Lexer_go), sl_Lexer_go⟩)
    (c_Lexer_go : PySem.W.codeIn K cd_Lexer_go "Lexer.go" = true)
    (k_Lexer_go : PySem.W.keepIn K (.ref f_Lexer_go) = true)
    (a_Lexer_take : PySem.W.findIn K (.ref C_Lexer) "take" = some (some (.ref f_Lexer_take)))
    (i_Lexer_take : PySem.W.isFn K (.ref f_Lexer_take) = true)
    (l_Lexer_take : K.lookup f_Lexer_take = some ⟨oc_Lexer_take, od_Lexer_take, .func (PySem.W.fnOf "take" "Lexer.take" (defArgs s_Lexer_take) (defBody s_Lexer_take) (defScope s_Lexer_take) .none kV_Lexer_take dc_Lexer_take pm_Lexer_take an_Lexer_take cd_Lexer_take ct_Lexer_take), sl_Lexer_take⟩)
    (c_Lexer_take : PySem.W.codeIn K cd_Lexer_take "Lexer.take" = true)
    (k_Lexer_take : PySem.W.keepIn K (.ref f_Lexer_take) = true)
    (a_Lexer_word : PySem.W.findIn K (.ref C_Lexer) "word" = some (some (.ref f_Lexer_word)))
    (i_Lexer_word : PySem.W.isFn K (.ref f_Lexer_word) = true)
    (l_Lexer_word : K.lookup f_Lexer_word = some ⟨oc_Lexer_word, od_Lexer_word, .func (PySem.W.fnOf "word" "Lexer.word" (defArgs s_Lexer_word) (defBody s_Lexer_word) (defScope s_Lexer_word) .none kV_Lexer_word dc_Lexer_word pm_Lexer_word an_Lexer_word cd_Lexer_word ct_Lexer_word), sl_Lexer_word⟩)
    (c_Lexer_word : PySem.W.codeIn K cd_Lexer_word "Lexer.word" = true)
    (k_Lexer_word : PySem.W.keepIn K (.ref f_Lexer_word) = true)
    (a_Lexer_number : PySem.W.findIn K (.ref C_Lexer) "number" = some (some (.ref f_Lexer_number)))
    (i_Lexer_number : PySem.W.isFn K (.ref f_Lexer_number) = true)
    (l_Lexer_number : K.lookup f_Lexer_number = some ⟨oc_Lexer_number, od_Lexer_number, .func (PySem.W.fnOf "number" "Lexer.number" (defArgs s_Lexer_number) (defBody s_Lexer_number) (defScope s_Lexer_number) .none kV_Lexer_number dc_Lexer_number pm_Lexer_number an_Lexer_number cd_Lexer_number ct_Lexer_number), sl_Lexer_number⟩)
    (c_Lexer_number : PySem.W.codeIn K cd_Lexer_number "Lexer.number" = true)
    (k_Lexer_number : PySem.W.keepIn K (.ref f_Lexer_number) = true)
    (a_Lexer_finish : PySem.W.findIn K (.ref C_Lexer) "finish" = some (some (.ref f_Lexer_finish)))
    (i_Lexer_finish : PySem.W.isFn K (.ref f_Lexer_finish) = true)
    (l_Lexer_finish : K.lookup f_Lexer_finish = some ⟨oc_Lexer_finish, od_Lexer_finish, .func (PySem.W.fnOf "finish" "Lexer.finish" (defArgs s_Lexer_finish) (defBody s_Lexer_finish) (defScope s_Lexer_finish) .none kV_Lexer_finish dc_Lexer_finish pm_Lexer_finish an_Lexer_finish cd_Lexer_finish ct_Lexer_finish), sl_Lexer_finish⟩)
    (c_Lexer_finish : PySem.W.codeIn K cd_Lexer_finish "Lexer.finish" = true)
    (k_Lexer_finish : PySem.W.keepIn K (.ref f_Lexer_finish) = true)
    (a_end_of : PySem.W.nsIn K mainGlobals "end_of" = some (some (.ref f_end_of)))
    (l_end_of : K.lookup f_end_of = some ⟨oc_end_of, od_end_of, .func (PySem.W.fnOf "end_of" "end_of" (defArgs s_end_of) (defBody s_end_of) (defScope s_end_of) .none kV_end_of dc_end_of pm_end_of an_end_of cd_end_of ct_end_of), sl_end_of⟩)
    (c_end_of : PySem.W.codeIn K cd_end_of "end_of" = true)
    (k_end_of : PySem.W.keepIn K (.ref f_end_of) = true)
    (a_lexeme_at : PySem.W.nsIn K mainGlobals "lexeme_at" = some (some (.ref f_lexeme_at)))
    (l_lexeme_at : K.lookup f_lexeme_at = some ⟨oc_lexeme_at, od_lexeme_at, .func (PySem.W.fnOf "lexeme_at" "lexeme_at" (defArgs s_lexeme_at) (defBody s_lexeme_at) (defScope s_lexeme_at) .none kV_lexeme_at dc_lexeme_at pm_lexeme_at an_lexeme_at cd_lexeme_at ct_lexeme_at), sl_lexeme_at⟩)
    (c_lexeme_at : PySem.W.codeIn K cd_lexeme_at "lexeme_at" = true)
    (k_lexeme_at : PySem.W.keepIn K (.ref f_lexeme_at) = true)
    (a_read_block : PySem.W.nsIn K mainGlobals "read_block" = some (some (.ref f_read_block)))
    (l_read_block : K.lookup f_read_block = some ⟨oc_read_block, od_read_block, .func (PySem.W.fnOf "read_block" "read_block" (defArgs s_read_block) (defBody s_read_block) (defScope s_read_block) .none kV_read_block dc_read_block pm_read_block an_read_block cd_read_block ct_read_block), sl_read_block⟩)
    (c_read_block : PySem.W.codeIn K cd_read_block "read_block" = true)
    (k_read_block : PySem.W.keepIn K (.ref f_read_block) = true)
    (a_read_place : PySem.W.nsIn K mainGlobals "read_place" = some (some (.ref f_read_place)))
    (l_read_place : K.lookup f_read_place = some ⟨oc_read_place, od_read_place, .func (PySem.W.fnOf "read_place" "read_place" (defArgs s_read_place) (defBody s_read_place) (defScope s_read_place) .none kV_read_place dc_read_place pm_read_place an_read_place cd_read_place ct_read_place), sl_read_place⟩)
    (c_read_place : PySem.W.codeIn K cd_read_place "read_place" = true)
    (k_read_place : PySem.W.keepIn K (.ref f_read_place) = true)
    (a_read_deed : PySem.W.nsIn K mainGlobals "read_deed" = some (some (.ref f_read_deed)))
    (l_read_deed : K.lookup f_read_deed = some ⟨oc_read_deed, od_read_deed, .func (PySem.W.fnOf "read_deed" "read_deed" (defArgs s_read_deed) (defBody s_read_deed) (defScope s_read_deed) .none kV_read_deed dc_read_deed pm_read_deed an_read_deed cd_read_deed ct_read_deed), sl_read_deed⟩)
    (c_read_deed : PySem.W.codeIn K cd_read_deed "read_deed" = true)
    (k_read_deed : PySem.W.keepIn K (.ref f_read_deed) = true)
    (a_read_script : PySem.W.nsIn K mainGlobals "read_script" = some (some (.ref f_read_script)))
    (l_read_script : K.lookup f_read_script = some ⟨oc_read_script, od_read_script, .func (PySem.W.fnOf "read_script" "read_script" (defArgs s_read_script) (defBody s_read_script) (defScope s_read_script) .none kV_read_script dc_read_script pm_read_script an_read_script cd_read_script ct_read_script), sl_read_script⟩)
    (c_read_script : PySem.W.codeIn K cd_read_script "read_script" = true)
    (k_read_script : PySem.W.keepIn K (.ref f_read_script) = true)
    (a_block : PySem.W.nsIn K mainGlobals "block" = some (some (.ref f_block)))
    (l_block : K.lookup f_block = some ⟨oc_block, od_block, .func (PySem.W.fnOf "block" "block" (defArgs s_block) (defBody s_block) (defScope s_block) .none kV_block dc_block pm_block an_block cd_block ct_block), sl_block⟩)
    (c_block : PySem.W.codeIn K cd_block "block" = true)
    (k_block : PySem.W.keepIn K (.ref f_block) = true)
    (a_place_text : PySem.W.nsIn K mainGlobals "place_text" = some (some (.ref f_place_text)))
    (l_place_text : K.lookup f_place_text = some ⟨oc_place_text, od_place_text, .func (PySem.W.fnOf "place_text" "place_text" (defArgs s_place_text) (defBody s_place_text) (defScope s_place_text) .none kV_place_text dc_place_text pm_place_text an_place_text cd_place_text ct_place_text), sl_place_text⟩)
    (c_place_text : PySem.W.codeIn K cd_place_text "place_text" = true)
    (k_place_text : PySem.W.keepIn K (.ref f_place_text) = true)
    (a_deed_text : PySem.W.nsIn K mainGlobals "deed_text" = some (some (.ref f_deed_text)))
    (l_deed_text : K.lookup f_deed_text = some ⟨oc_deed_text, od_deed_text, .func (PySem.W.fnOf "deed_text" "deed_text" (defArgs s_deed_text) (defBody s_deed_text) (defScope s_deed_text) .none kV_deed_text dc_deed_text pm_deed_text an_deed_text cd_deed_text ct_deed_text), sl_deed_text⟩)
    (c_deed_text : PySem.W.codeIn K cd_deed_text "deed_text" = true)
    (k_deed_text : PySem.W.keepIn K (.ref f_deed_text) = true)
    (a_script_text : PySem.W.nsIn K mainGlobals "script_text" = some (some (.ref f_script_text)))
    (l_script_text : K.lookup f_script_text = some ⟨oc_script_text, od_script_text, .func (PySem.W.fnOf "script_text" "script_text" (defArgs s_script_text) (defBody s_script_text) (defScope s_script_text) .none kV_script_text dc_script_text pm_script_text an_script_text cd_script_text ct_script_text), sl_script_text⟩)
    (c_script_text : PySem.W.codeIn K cd_script_text "script_text" = true)
    (k_script_text : PySem.W.keepIn K (.ref f_script_text) = true)
    (a__law_source : PySem.W.nsIn K mainGlobals "_law_source" = some (some (.ref f__law_source)))
    (l__law_source : K.lookup f__law_source = some ⟨oc__law_source, od__law_source, .func (PySem.W.fnOf "_law_source" "_law_source" (defArgs s__law_source) (defBody s__law_source) (defScope s__law_source) .none kV__law_source dc__law_source pm__law_source an__law_source cd__law_source ct__law_source), sl__law_source⟩)
    (c__law_source : PySem.W.codeIn K cd__law_source "_law_source" = true)
    (k__law_source : PySem.W.keepIn K (.ref f__law_source) = true)
    (a__law_pick : PySem.W.nsIn K mainGlobals "_law_pick" = some (some (.ref f__law_pick)))
    (l__law_pick : K.lookup f__law_pick = some ⟨oc__law_pick, od__law_pick, .func (PySem.W.fnOf "_law_pick" "_law_pick" (defArgs s__law_pick) (defBody s__law_pick) (defScope s__law_pick) .none kV__law_pick dc__law_pick pm__law_pick an__law_pick cd__law_pick ct__law_pick), sl__law_pick⟩)
    (c__law_pick : PySem.W.codeIn K cd__law_pick "_law_pick" = true)
    (k__law_pick : PySem.W.keepIn K (.ref f__law_pick) = true)
    (a__law_of : PySem.W.nsIn K mainGlobals "_law_of" = some (some (.ref f__law_of)))
    (l__law_of : K.lookup f__law_of = some ⟨oc__law_of, od__law_of, .func (PySem.W.fnOf "_law_of" "_law_of" (defArgs s__law_of) (defBody s__law_of) (defScope s__law_of) .none kV__law_of dc__law_of pm__law_of an__law_of cd__law_of ct__law_of), sl__law_of⟩)
    (c__law_of : PySem.W.codeIn K cd__law_of "_law_of" = true)
    (k__law_of : PySem.W.keepIn K (.ref f__law_of) = true)
    (a__law_joined : PySem.W.nsIn K mainGlobals "_law_joined" = some (some (.ref f__law_joined)))
    (l__law_joined : K.lookup f__law_joined = some ⟨oc__law_joined, od__law_joined, .func (PySem.W.fnOf "_law_joined" "_law_joined" (defArgs s__law_joined) (defBody s__law_joined) (defScope s__law_joined) .none kV__law_joined dc__law_joined pm__law_joined an__law_joined cd__law_joined ct__law_joined), sl__law_joined⟩)
    (c__law_joined : PySem.W.codeIn K cd__law_joined "_law_joined" = true)
    (k__law_joined : PySem.W.keepIn K (.ref f__law_joined) = true)
    (a__law_spaced : PySem.W.nsIn K mainGlobals "_law_spaced" = some (some (.ref f__law_spaced)))
    (l__law_spaced : K.lookup f__law_spaced = some ⟨oc__law_spaced, od__law_spaced, .func (PySem.W.fnOf "_law_spaced" "_law_spaced" (defArgs s__law_spaced) (defBody s__law_spaced) (defScope s__law_spaced) .none kV__law_spaced dc__law_spaced pm__law_spaced an__law_spaced cd__law_spaced ct__law_spaced), sl__law_spaced⟩)
    (c__law_spaced : PySem.W.codeIn K cd__law_spaced "_law_spaced" = true)
    (k__law_spaced : PySem.W.keepIn K (.ref f__law_spaced) = true)
    (a__law_script_lexemes : PySem.W.nsIn K mainGlobals "_law_script_lexemes" = some (some (.ref f__law_script_lexemes)))
    (l__law_script_lexemes : K.lookup f__law_script_lexemes = some ⟨oc__law_script_lexemes, od__law_script_lexemes, .func (PySem.W.fnOf "_law_script_lexemes" "_law_script_lexemes" (defArgs s__law_script_lexemes) (defBody s__law_script_lexemes) (defScope s__law_script_lexemes) .none kV__law_script_lexemes dc__law_script_lexemes pm__law_script_lexemes an__law_script_lexemes cd__law_script_lexemes ct__law_script_lexemes), sl__law_script_lexemes⟩)
    (c__law_script_lexemes : PySem.W.codeIn K cd__law_script_lexemes "_law_script_lexemes" = true)
    (k__law_script_lexemes : PySem.W.keepIn K (.ref f__law_script_lexemes) = true)
    (a__law_drawn_deed : PySem.W.nsIn K mainGlobals "_law_drawn_deed" = some (some (.ref f__law_drawn_deed)))
    (l__law_drawn_deed : K.lookup f__law_drawn_deed = some ⟨oc__law_drawn_deed, od__law_drawn_deed, .func (PySem.W.fnOf "_law_drawn_deed" "_law_drawn_deed" (defArgs s__law_drawn_deed) (defBody s__law_drawn_deed) (defScope s__law_drawn_deed) .none kV__law_drawn_deed dc__law_drawn_deed pm__law_drawn_deed an__law_drawn_deed cd__law_drawn_deed ct__law_drawn_deed), sl__law_drawn_deed⟩)
    (c__law_drawn_deed : PySem.W.codeIn K cd__law_drawn_deed "_law_drawn_deed" = true)
    (k__law_drawn_deed : PySem.W.keepIn K (.ref f__law_drawn_deed) = true)
    (a__law_long_right : PySem.W.nsIn K mainGlobals "_law_long_right" = some (some (.ref f__law_long_right)))
    (l__law_long_right : K.lookup f__law_long_right = some ⟨oc__law_long_right, od__law_long_right, .func (PySem.W.fnOf "_law_long_right" "_law_long_right" (defArgs s__law_long_right) (defBody s__law_long_right) (defScope s__law_long_right) .none kV__law_long_right dc__law_long_right pm__law_long_right an__law_long_right cd__law_long_right ct__law_long_right), sl__law_long_right⟩)
    (c__law_long_right : PySem.W.codeIn K cd__law_long_right "_law_long_right" = true)
    (k__law_long_right : PySem.W.keepIn K (.ref f__law_long_right) = true)
    (a_law : PySem.W.nsIn K mainGlobals "law" = some (some (.ref f_law)))
    (l_law : K.lookup f_law = some ⟨oc_law, od_law, .func (PySem.W.fnOf "law" "law" (defArgs s_law) (defBody s_law) (defScope s_law) .none kV_law dc_law pm_law an_law cd_law ct_law), sl_law⟩)
    (c_law : PySem.W.codeIn K cd_law "law" = true)
    (k_law : PySem.W.keepIn K (.ref f_law) = true)
    (z_ValueError : PySem.W.nsIn K mainGlobals "ValueError" = some none)
    (z_abs : PySem.W.nsIn K mainGlobals "abs" = some none)
    (z_int : PySem.W.nsIn K mainGlobals "int" = some none)
    (z_len : PySem.W.nsIn K mainGlobals "len" = some none)
    (z_list : PySem.W.nsIn K mainGlobals "list" = some none)
    (z_max : PySem.W.nsIn K mainGlobals "max" = some none)
    (z_range : PySem.W.nsIn K mainGlobals "range" = some none)
    (z_repr : PySem.W.nsIn K mainGlobals "repr" = some none)
    (z_str : PySem.W.nsIn K mainGlobals "str" = some none)
    (z_super : PySem.W.nsIn K mainGlobals "super" = some none)
    (z_tuple : PySem.W.nsIn K mainGlobals "tuple" = some none)
    (s_LETTERS : PySem.W.nsIn K mainGlobals "LETTERS" = some (some (.str "abcdefghijklmnopqrstuvwxyz" t_LETTERS)))
    (s_DIGITS : PySem.W.nsIn K mainGlobals "DIGITS" = some (some (.str "0123456789" t_DIGITS)))
    (s_BLANKS : PySem.W.nsIn K mainGlobals "BLANKS" = some (some (.str " \n" t_BLANKS)))
    (s_SIGNS : PySem.W.nsIn K mainGlobals "SIGNS" = some (some (.str "(){},;" t_SIGNS))) :
    ∃ fd : FuncData, (∀ (s : Shared) (u : Value), BindsTo s fd ⟨[u], []⟩ [("_law_script", u)]) ∧ ∀ base : Heap, K.In base → base.Ns mainGlobals mg → FnOkG l.prog w K mg base 11 fa fd ["_law_script"] (spLaw K) := by
  have e := hfa.symm.trans (PySem.W.mg_of X G a_law)
  cases e
  have g_Lexer := PySem.W.mg_of X G a_Lexer
  obtain rfl : C_Lexer = clsOf mg "Lexer" := by
    unfold clsOf
    rw [g_Lexer]
  have F_Lexer___init__ := fun_mk (st := s_Lexer___init__) l_Lexer___init__ c_Lexer___init__ k_Lexer___init__
  have b_Lexer___init__ := F_Lexer___init__.binds (ps := ["self", "text"]) fun _ _ _ _ _ _ us hl => match us, hl with | [_, _], _ => rfl
  have F_Lexer_fail := fun_mk (st := s_Lexer_fail) l_Lexer_fail c_Lexer_fail k_Lexer_fail
  have b_Lexer_fail := F_Lexer_fail.binds (ps := ["self"]) fun _ _ _ _ _ _ us hl => match us, hl with | [_], _ => rfl
  have F_Lexer_is_next := fun_mk (st := s_Lexer_is_next) l_Lexer_is_next c_Lexer_is_next k_Lexer_is_next
  have b_Lexer_is_next := F_Lexer_is_next.binds (ps := ["self", "lexeme"]) fun _ _ _ _ _ _ us hl => match us, hl with | [_, _], _ => rfl
  have F_Lexer_go := fun_mk (st := s_Lexer_go) l_Lexer_go c_Lexer_go k_Lexer_go
  have b_Lexer_go := F_Lexer_go.binds (ps := ["self"]) fun _ _ _ _ _ _ us hl => match us, hl with | [_], _ => rfl
  have F_Lexer_take := fun_mk (st := s_Lexer_take) l_Lexer_take c_Lexer_take k_Lexer_take
  have b_Lexer_take := F_Lexer_take.binds (ps := ["self", "lexeme"]) fun _ _ _ _ _ _ us hl => match us, hl with | [_, _], _ => rfl
  have F_Lexer_word := fun_mk (st := s_Lexer_word) l_Lexer_word c_Lexer_word k_Lexer_word
  have b_Lexer_word := F_Lexer_word.binds (ps := ["self"]) fun _ _ _ _ _ _ us hl => match us, hl with | [_], _ => rfl
  have F_Lexer_number := fun_mk (st := s_Lexer_number) l_Lexer_number c_Lexer_number k_Lexer_number
  have b_Lexer_number := F_Lexer_number.binds (ps := ["self"]) fun _ _ _ _ _ _ us hl => match us, hl with | [_], _ => rfl
  have F_Lexer_finish := fun_mk (st := s_Lexer_finish) l_Lexer_finish c_Lexer_finish k_Lexer_finish
  have b_Lexer_finish := F_Lexer_finish.binds (ps := ["self"]) fun _ _ _ _ _ _ us hl => match us, hl with | [_], _ => rfl
  have F_end_of := fun_mk (st := s_end_of) l_end_of c_end_of k_end_of
  have b_end_of := F_end_of.binds (ps := ["text", "place", "signs"]) fun _ _ _ _ _ _ us hl => match us, hl with | [_, _, _], _ => rfl
  have F_lexeme_at := fun_mk (st := s_lexeme_at) l_lexeme_at c_lexeme_at k_lexeme_at
  have b_lexeme_at := F_lexeme_at.binds (ps := ["text", "place"]) fun _ _ _ _ _ _ us hl => match us, hl with | [_, _], _ => rfl
  have F_read_block := fun_mk (st := s_read_block) l_read_block c_read_block k_read_block
  have b_read_block := F_read_block.binds (ps := ["lexer", "read_row"]) fun _ _ _ _ _ _ us hl => match us, hl with | [_, _], _ => rfl
  have F_read_place := fun_mk (st := s_read_place) l_read_place c_read_place k_read_place
  have b_read_place := F_read_place.binds (ps := ["lexer"]) fun _ _ _ _ _ _ us hl => match us, hl with | [_], _ => rfl
  have F_read_deed := fun_mk (st := s_read_deed) l_read_deed c_read_deed k_read_deed
  have b_read_deed := F_read_deed.binds (ps := ["lexer"]) fun _ _ _ _ _ _ us hl => match us, hl with | [_], _ => rfl
  have F_read_script := fun_mk (st := s_read_script) l_read_script c_read_script k_read_script
  have b_read_script := F_read_script.binds (ps := ["text"]) fun _ _ _ _ _ _ us hl => match us, hl with | [_], _ => rfl
  have F_block := fun_mk (st := s_block) l_block c_block k_block
  have b_block := F_block.binds (ps := ["head", "rows"]) fun _ _ _ _ _ _ us hl => match us, hl with | [_, _], _ => rfl
  have F_place_text := fun_mk (st := s_place_text) l_place_text c_place_text k_place_text
  have b_place_text := F_place_text.binds (ps := ["place"]) fun _ _ _ _ _ _ us hl => match us, hl with | [_], _ => rfl
  have F_deed_text := fun_mk (st := s_deed_text) l_deed_text c_deed_text k_deed_text
  have b_deed_text := F_deed_text.binds (ps := ["deed"]) fun _ _ _ _ _ _ us hl => match us, hl with | [_], _ => rfl
  have F_script_text := fun_mk (st := s_script_text) l_script_text c_script_text k_script_text
  have b_script_text := F_script_text.binds (ps := ["script"]) fun _ _ _ _ _ _ us hl => match us, hl with | [_], _ => rfl
  have F__law_source := fun_mk (st := s__law_source) l__law_source c__law_source k__law_source
  have b__law_source := F__law_source.binds (ps := ["_law_script"]) fun _ _ _ _ _ _ us hl => match us, hl with | [_], _ => rfl
  have F__law_pick := fun_mk (st := s__law_pick) l__law_pick c__law_pick k__law_pick
  have b__law_pick := F__law_pick.binds (ps := ["_law_source_here", "_law_many"]) fun _ _ _ _ _ _ us hl => match us, hl with | [_, _], _ => rfl
  have F__law_of := fun_mk (st := s__law_of) l__law_of c__law_of k__law_of
  have b__law_of := F__law_of.binds (ps := ["_law_source_here", "_law_some"]) fun _ _ _ _ _ _ us hl => match us, hl with | [_, _], _ => rfl
  have F__law_joined := fun_mk (st := s__law_joined) l__law_joined c__law_joined k__law_joined
  have b__law_joined := F__law_joined.binds (ps := ["_law_signs"]) fun _ _ _ _ _ _ us hl => match us, hl with | [_], _ => rfl
  have F__law_spaced := fun_mk (st := s__law_spaced) l__law_spaced c__law_spaced k__law_spaced
  have b__law_spaced := F__law_spaced.binds (ps := ["_law_source_here", "_law_signs"]) fun _ _ _ _ _ _ us hl => match us, hl with | [_, _], _ => rfl
  have F__law_script_lexemes := fun_mk (st := s__law_script_lexemes) l__law_script_lexemes c__law_script_lexemes k__law_script_lexemes
  have b__law_script_lexemes := F__law_script_lexemes.binds (ps := ["_law_script"]) fun _ _ _ _ _ _ us hl => match us, hl with | [_], _ => rfl
  have F__law_drawn_deed := fun_mk (st := s__law_drawn_deed) l__law_drawn_deed c__law_drawn_deed k__law_drawn_deed
  have b__law_drawn_deed := F__law_drawn_deed.binds (ps := ["_law_source_here"]) fun _ _ _ _ _ _ us hl => match us, hl with | [_], _ => rfl
  have F__law_long_right := fun_mk (st := s__law_long_right) l__law_long_right c__law_long_right k__law_long_right
  have b__law_long_right := F__law_long_right.binds (ps := []) fun _ _ _ _ _ _ us hl => match us, hl with | [], _ => rfl
  have F_law := fun_mk (st := s_law) l_law c_law k_law
  have b_law := F_law.binds (ps := ["_law_script"]) fun _ _ _ _ _ _ us hl => match us, hl with | [_], _ => rfl
  have g_end_of := PySem.W.mg_of X G a_end_of
  have g_lexeme_at := PySem.W.mg_of X G a_lexeme_at
  have g_read_block := PySem.W.mg_of X G a_read_block
  have g_read_place := PySem.W.mg_of X G a_read_place
  have g_read_deed := PySem.W.mg_of X G a_read_deed
  have g_read_script := PySem.W.mg_of X G a_read_script
  have g_block := PySem.W.mg_of X G a_block
  have g_place_text := PySem.W.mg_of X G a_place_text
  have g_deed_text := PySem.W.mg_of X G a_deed_text
  have g_script_text := PySem.W.mg_of X G a_script_text
  have g__law_source := PySem.W.mg_of X G a__law_source
  have g__law_pick := PySem.W.mg_of X G a__law_pick
  have g__law_of := PySem.W.mg_of X G a__law_of
  have g__law_joined := PySem.W.mg_of X G a__law_joined
  have g__law_spaced := PySem.W.mg_of X G a__law_spaced
  have g__law_script_lexemes := PySem.W.mg_of X G a__law_script_lexemes
  have g__law_drawn_deed := PySem.W.mg_of X G a__law_drawn_deed
  have g__law_long_right := PySem.W.mg_of X G a__law_long_right
  have g_law := PySem.W.mg_of X G a_law
  have n_ValueError := PySem.W.mg_none_of X G z_ValueError
  have n_abs := PySem.W.mg_none_of X G z_abs
  have n_int := PySem.W.mg_none_of X G z_int
  have n_len := PySem.W.mg_none_of X G z_len
  have n_list := PySem.W.mg_none_of X G z_list
  have n_max := PySem.W.mg_none_of X G z_max
  have n_range := PySem.W.mg_none_of X G z_range
  have n_repr := PySem.W.mg_none_of X G z_repr
  have n_str := PySem.W.mg_none_of X G z_str
  have n_super := PySem.W.mg_none_of X G z_super
  have n_tuple := PySem.W.mg_none_of X G z_tuple
  have g_LETTERS := PySem.W.mg_of X G s_LETTERS
  have g_DIGITS := PySem.W.mg_of X G s_DIGITS
  have g_BLANKS := PySem.W.mg_of X G s_BLANKS
  have g_SIGNS := PySem.W.mg_of X G s_SIGNS
  have T : Tx K mg := ⟨n_ValueError, n_abs, n_int, n_len, n_list, n_max, n_range, n_repr, n_str, n_super, n_tuple, ⟨_, g_LETTERS⟩, ⟨_, g_DIGITS⟩, ⟨_, g_BLANKS⟩, ⟨_, g_SIGNS⟩⟩
  have U : Tz K mg := ⟨⟨pg_Lexer, hd_Lexer, po_Lexer, sa_Lexer⟩, no_Lexer_text, no_Lexer_now⟩
  refine ⟨PySem.W.fnOf "law" "law" (defArgs s_law) (defBody s_law) (defScope s_law) .none kV_law dc_law pm_law an_law cd_law ct_law, fun s v => .of_eq rfl, fun base hb gb => ?_⟩
  have o__law_source := ok__law_source (P := l.prog) (w := w) (base := base) (k := 0) T  F__law_source
  have G__law_source : FnT l.prog w K mg base 1 "_law_source" ["_law_script"] _ := ⟨⟨_, _, g__law_source, k__law_source, b__law_source, o__law_source⟩⟩
  have o__law_pick := ok__law_pick (P := l.prog) (w := w) (base := base) (k := 0) T  F__law_pick
  have G__law_pick : FnT l.prog w K mg base 1 "_law_pick" ["_law_source_here", "_law_many"] _ := ⟨⟨_, _, g__law_pick, k__law_pick, b__law_pick, o__law_pick⟩⟩
  have o_end_of := ok_end_of (P := l.prog) (w := w) (base := base) (k := 0) T  F_end_of
  have G_end_of : FnT l.prog w K mg base 1 "end_of" ["text", "place", "signs"] _ := ⟨⟨_, _, g_end_of, k_end_of, b_end_of, o_end_of⟩⟩
  have o__law_of := ok__law_of (P := l.prog) (w := w) (base := base) (k := 1) T (G__law_pick.mono (by decide)) F__law_of
  have G__law_of : FnT l.prog w K mg base 2 "_law_of" ["_law_source_here", "_law_some"] _ := ⟨⟨_, _, g__law_of, k__law_of, b__law_of, o__law_of⟩⟩
  have o_lexeme_at := ok_lexeme_at (P := l.prog) (w := w) (base := base) (k := 1) T (G_end_of.mono (by decide)) F_lexeme_at
  have G_lexeme_at : FnT l.prog w K mg base 2 "lexeme_at" ["text", "place"] _ := ⟨⟨_, _, g_lexeme_at, k_lexeme_at, b_lexeme_at, o_lexeme_at⟩⟩
  have o_Lexer___init__ := ok_Lexer_init (P := l.prog) (w := w) (base := base) (k := 2) T U (G_lexeme_at.mono (by decide)) F_Lexer___init__
  have MK_Lexer : MkT l.prog w K mg base 3 "Lexer" (clsOf mg "Lexer") ["self", "text"] _ := ⟨⟨_, _, ⟨mk_Lexer, a_Lexer___init__, i_Lexer___init__, kc_Lexer⟩, b_Lexer___init__, o_Lexer___init__⟩, g_Lexer⟩
  have M_fail : MethT l.prog w K mg base 0 (clsOf mg "Lexer") "fail" ["self"] (SpO (clsOf mg "Lexer") false RNone) := ⟨⟨_, _, ⟨a_Lexer_fail, i_Lexer_fail, k_Lexer_fail⟩, b_Lexer_fail, ok_Lexer_fail⟩, U.c_Lexer⟩
  have o_Lexer_is_next := ok_Lexer_is_next (P := l.prog) (w := w) (base := base) (k := 0) T U  F_Lexer_is_next
  have M_is_next : MethT l.prog w K mg base 1 (clsOf mg "Lexer") "is_next" ["self", "lexeme"] _ := ⟨⟨_, _, ⟨a_Lexer_is_next, i_Lexer_is_next, k_Lexer_is_next⟩, b_Lexer_is_next, o_Lexer_is_next⟩, U.c_Lexer⟩
  have o_Lexer_go := ok_Lexer_go (P := l.prog) (w := w) (base := base) (k := 2) T U (G_lexeme_at.mono (by decide)) F_Lexer_go
  have M_go : MethT l.prog w K mg base 3 (clsOf mg "Lexer") "go" ["self"] _ := ⟨⟨_, _, ⟨a_Lexer_go, i_Lexer_go, k_Lexer_go⟩, b_Lexer_go, o_Lexer_go⟩, U.c_Lexer⟩
  have o_Lexer_take := ok_Lexer_take (P := l.prog) (w := w) (base := base) (k := 3) T U (M_is_next.mono (by decide)) (M_go.mono (by decide)) (M_fail.mono (by decide)) F_Lexer_take
  have M_take : MethT l.prog w K mg base 4 (clsOf mg "Lexer") "take" ["self", "lexeme"] _ := ⟨⟨_, _, ⟨a_Lexer_take, i_Lexer_take, k_Lexer_take⟩, b_Lexer_take, o_Lexer_take⟩, U.c_Lexer⟩
  have o_Lexer_word := ok_Lexer_word (P := l.prog) (w := w) (base := base) (k := 3) T U (M_go.mono (by decide)) (M_fail.mono (by decide)) F_Lexer_word
  have M_word : MethT l.prog w K mg base 4 (clsOf mg "Lexer") "word" ["self"] _ := ⟨⟨_, _, ⟨a_Lexer_word, i_Lexer_word, k_Lexer_word⟩, b_Lexer_word, o_Lexer_word⟩, U.c_Lexer⟩
  have o_Lexer_number := ok_Lexer_number (P := l.prog) (w := w) (base := base) (k := 3) T U (M_go.mono (by decide)) (M_fail.mono (by decide)) F_Lexer_number
  have M_number : MethT l.prog w K mg base 4 (clsOf mg "Lexer") "number" ["self"] _ := ⟨⟨_, _, ⟨a_Lexer_number, i_Lexer_number, k_Lexer_number⟩, b_Lexer_number, o_Lexer_number⟩, U.c_Lexer⟩
  have o_Lexer_finish := ok_Lexer_finish (P := l.prog) (w := w) (base := base) (k := 0) T U (M_fail.mono (by decide)) F_Lexer_finish
  have M_finish : MethT l.prog w K mg base 1 (clsOf mg "Lexer") "finish" ["self"] _ := ⟨⟨_, _, ⟨a_Lexer_finish, i_Lexer_finish, k_Lexer_finish⟩, b_Lexer_finish, o_Lexer_finish⟩, U.c_Lexer⟩
  have o_read_place := ok_read_place (P := l.prog) (w := w) (base := base) (k := 4) T U (M_word.mono (by decide)) (M_number.mono (by decide)) F_read_place
  have G_read_place : FnT l.prog w K mg base 5 "read_place" ["lexer"] _ := ⟨⟨_, _, g_read_place, k_read_place, b_read_place, o_read_place⟩⟩
  have o_read_deed := ok_read_deed (P := l.prog) (w := w) (base := base) (k := 5) T U (M_is_next.mono (by decide)) (M_go.mono (by decide)) (M_take.mono (by decide)) (G_read_place.mono (by decide)) F_read_deed
  have G_read_deed : FnT l.prog w K mg base 6 "read_deed" ["lexer"] _ := ⟨⟨_, _, g_read_deed, k_read_deed, b_read_deed, o_read_deed⟩⟩
  have o_read_block := ok_read_block (P := l.prog) (w := w) (base := base) (k := 6) T U (M_is_next.mono (by decide)) (M_take.mono (by decide)) (M_finish.mono (by decide)) (o_read_deed.mono (by decide)) k_read_deed b_read_deed F_read_block
  have G_read_block : FnT l.prog w K mg base 7 "read_block" ["lexer", "read_row"] _ := ⟨⟨_, _, g_read_block, k_read_block, b_read_block, o_read_block⟩⟩
  have o_read_script := ok_read_script (P := l.prog) (w := w) (base := base) (k := 7) T U g_read_deed (MK_Lexer.mono (by decide)) (M_take.mono (by decide)) (G_read_block.mono (by decide)) F_read_script
  have G_read_script : FnT l.prog w K mg base 9 "read_script" ["text"] _ := ⟨⟨_, _, g_read_script, k_read_script, b_read_script, o_read_script⟩⟩
  have o__law_spaced := ok__law_spaced (P := l.prog) (w := w) (base := base) (k := 2) T (G__law_of.mono (by decide)) F__law_spaced
  have G__law_spaced : FnT l.prog w K mg base 3 "_law_spaced" ["_law_source_here", "_law_signs"] _ := ⟨⟨_, _, g__law_spaced, k__law_spaced, b__law_spaced, o__law_spaced⟩⟩
  have o_place_text := ok_place_text (P := l.prog) (w := w) (base := base) (k := 0) T  F_place_text
  have G_place_text : FnT l.prog w K mg base 1 "place_text" ["place"] _ := ⟨⟨_, _, g_place_text, k_place_text, b_place_text, o_place_text⟩⟩
  have o_deed_text := ok_deed_text (P := l.prog) (w := w) (base := base) (k := 1) T (G_place_text.mono (by decide)) F_deed_text
  have G_deed_text : FnT l.prog w K mg base 2 "deed_text" ["deed"] _ := ⟨⟨_, _, g_deed_text, k_deed_text, b_deed_text, o_deed_text⟩⟩
  have o_block := ok_block (P := l.prog) (w := w) (base := base) (k := 0) T  F_block
  have G_block : FnT l.prog w K mg base 1 "block" ["head", "rows"] _ := ⟨⟨_, _, g_block, k_block, b_block, o_block⟩⟩
  have o_script_text := ok_script_text (P := l.prog) (w := w) (base := base) (k := 2) T (G_block.mono (by decide)) (G_deed_text.mono (by decide)) F_script_text
  have G_script_text : FnT l.prog w K mg base 3 "script_text" ["script"] _ := ⟨⟨_, _, g_script_text, k_script_text, b_script_text, o_script_text⟩⟩
  have o__law_joined := ok__law_joined (P := l.prog) (w := w) (base := base) (k := 0) T  F__law_joined
  have G__law_joined : FnT l.prog w K mg base 1 "_law_joined" ["_law_signs"] _ := ⟨⟨_, _, g__law_joined, k__law_joined, b__law_joined, o__law_joined⟩⟩
  have o__law_script_lexemes := ok__law_script_lexemes (P := l.prog) (w := w) (base := base) (k := 0) T  F__law_script_lexemes
  have G__law_script_lexemes : FnT l.prog w K mg base 1 "_law_script_lexemes" ["_law_script"] _ := ⟨⟨_, _, g__law_script_lexemes, k__law_script_lexemes, b__law_script_lexemes, o__law_script_lexemes⟩⟩
  have o__law_drawn_deed := ok__law_drawn_deed (P := l.prog) (w := w) (base := base) (k := 2) T (G__law_pick.mono (by decide)) (G__law_of.mono (by decide)) F__law_drawn_deed
  have G__law_drawn_deed : FnT l.prog w K mg base 3 "_law_drawn_deed" ["_law_source_here"] _ := ⟨⟨_, _, g__law_drawn_deed, k__law_drawn_deed, b__law_drawn_deed, o__law_drawn_deed⟩⟩
  have o__law_long_right := ok__law_long_right (P := l.prog) (w := w) (base := base) (k := 9) T (G_script_text.mono (by decide)) (G__law_joined.mono (by decide)) (G__law_script_lexemes.mono (by decide)) (G_read_script.mono (by decide)) F__law_long_right
  have G__law_long_right : FnT l.prog w K mg base 10 "_law_long_right" [] _ := ⟨⟨_, _, g__law_long_right, k__law_long_right, b__law_long_right, o__law_long_right⟩⟩
  exact ok_law (P := l.prog) (w := w) (base := base) (k := 10) T (G__law_source.mono (by decide)) (G__law_pick.mono (by decide)) (G__law_long_right.mono (by decide)) (G__law_drawn_deed.mono (by decide)) (G__law_script_lexemes.mono (by decide)) (G_script_text.mono (by decide)) (G__law_joined.mono (by decide)) (G__law_spaced.mono (by decide)) (G_read_script.mono (by decide)) F_law
end K14

open PySem PySem.W PyProof.Rows in
set_option maxRecDepth 100000 in
set_option maxHeartbeats 0 in
theorem PySem.Challenge.cw_bushcoins_k14_texts_of_scripts_holds : PySem.Challenge.rw_bushcoins_k14_texts_of_scripts.Holds := by
  w_on; o_law; k_head; (case hw => w_witness2)
  k_fill
  refine Bc.walk_G (l := PySem.Challenge.rw_bushcoins_k14_texts_of_scripts) (k := 11) (x := "_law_script") rfl rfl ⟨rfl, by decide, by decide⟩ (fun w h Y => PySem.W.kIn_of Y) ?F
  case F =>
    intro w mg fa h KX G hmg
    refine' K14.all_mk KX G hmg ?a_Lexer ?pg_Lexer ?hd_Lexer ?po_Lexer ?sa_Lexer ?mk_Lexer ?kc_Lexer ?no_Lexer_text ?no_Lexer_now ?a_Lexer___init__ ?i_Lexer___init__ ?l_Lexer___init__ ?c_Lexer___init__ ?k_Lexer___init__ ?a_Lexer_fail ?i_Lexer_fail ?l_Lexer_fail ?c_Lexer_fail ?k_Lexer_fail ?a_Lexer_is_next ?i_Lexer_is_next ?l_Lexer_is_next ?c_Lexer_is_next ?k_Lexer_is_next ?a_Lexer_go ?i_Lexer_go ?l_Lexer_go ?c_Lexer_go ?k_Lexer_go ?a_Lexer_take ?i_Lexer_take ?l_Lexer_take ?c_Lexer_take ?k_Lexer_take ?a_Lexer_word ?i_Lexer_word ?l_Lexer_word ?c_Lexer_word ?k_Lexer_word ?a_Lexer_number ?i_Lexer_number ?l_Lexer_number ?c_Lexer_number ?k_Lexer_number ?a_Lexer_finish ?i_Lexer_finish ?l_Lexer_finish ?c_Lexer_finish ?k_Lexer_finish ?a_end_of ?l_end_of ?c_end_of ?k_end_of ?a_lexeme_at ?l_lexeme_at ?c_lexeme_at ?k_lexeme_at ?a_read_block ?l_read_block ?c_read_block ?k_read_block ?a_read_place ?l_read_place ?c_read_place ?k_read_place ?a_read_deed ?l_read_deed ?c_read_deed ?k_read_deed ?a_read_script ?l_read_script ?c_read_script ?k_read_script ?a_block ?l_block ?c_block ?k_block ?a_place_text ?l_place_text ?c_place_text ?k_place_text ?a_deed_text ?l_deed_text ?c_deed_text ?k_deed_text ?a_script_text ?l_script_text ?c_script_text ?k_script_text ?a__law_source ?l__law_source ?c__law_source ?k__law_source ?a__law_pick ?l__law_pick ?c__law_pick ?k__law_pick ?a__law_of ?l__law_of ?c__law_of ?k__law_of ?a__law_joined ?l__law_joined ?c__law_joined ?k__law_joined ?a__law_spaced ?l__law_spaced ?c__law_spaced ?k__law_spaced ?a__law_script_lexemes ?l__law_script_lexemes ?c__law_script_lexemes ?k__law_script_lexemes ?a__law_drawn_deed ?l__law_drawn_deed ?c__law_drawn_deed ?k__law_drawn_deed ?a__law_long_right ?l__law_long_right ?c__law_long_right ?k__law_long_right ?a_law ?l_law ?c_law ?k_law ?z_ValueError ?z_abs ?z_int ?z_len ?z_list ?z_max ?z_range ?z_repr ?z_str ?z_super ?z_tuple ?s_LETTERS ?s_DIGITS ?s_BLANKS ?s_SIGNS
    (case a_Lexer => k_is)
    (case pg_Lexer => k_is)
    (case hd_Lexer => k_is)
    (case po_Lexer => k_is)
    (case sa_Lexer => k_is)
    (case mk_Lexer => k_is)
    (case kc_Lexer => k_is)
    (case no_Lexer_text => k_is)
    (case no_Lexer_now => k_is)
    (case a_Lexer___init__ => k_is)
    (case i_Lexer___init__ => k_is)
    (case l_Lexer___init__ => k_is)
    (case c_Lexer___init__ => k_is)
    (case k_Lexer___init__ => k_is)
    (case a_Lexer_fail => k_is)
    (case i_Lexer_fail => k_is)
    (case l_Lexer_fail => k_is)
    (case c_Lexer_fail => k_is)
    (case k_Lexer_fail => k_is)
    (case a_Lexer_is_next => k_is)
    (case i_Lexer_is_next => k_is)
    (case l_Lexer_is_next => k_is)
    (case c_Lexer_is_next => k_is)
    (case k_Lexer_is_next => k_is)
    (case a_Lexer_go => k_is)
    (case i_Lexer_go => k_is)
    (case l_Lexer_go => k_is)
    (case c_Lexer_go => k_is)
    (case k_Lexer_go => k_is)
    (case a_Lexer_take => k_is)
    (case i_Lexer_take => k_is)
    (case l_Lexer_take => k_is)
    (case c_Lexer_take => k_is)
    (case k_Lexer_take => k_is)
    (case a_Lexer_word => k_is)
    (case i_Lexer_word => k_is)
    (case l_Lexer_word => k_is)
    (case c_Lexer_word => k_is)
    (case k_Lexer_word => k_is)
    (case a_Lexer_number => k_is)
    (case i_Lexer_number => k_is)
    (case l_Lexer_number => k_is)
    (case c_Lexer_number => k_is)
    (case k_Lexer_number => k_is)
    (case a_Lexer_finish => k_is)
    (case i_Lexer_finish => k_is)
    (case l_Lexer_finish => k_is)
    (case c_Lexer_finish => k_is)
    (case k_Lexer_finish => k_is)
    (case a_end_of => k_is)
    (case l_end_of => k_is)
    (case c_end_of => k_is)
    (case k_end_of => k_is)
    (case a_lexeme_at => k_is)
    (case l_lexeme_at => k_is)
    (case c_lexeme_at => k_is)
    (case k_lexeme_at => k_is)
    (case a_read_block => k_is)
    (case l_read_block => k_is)
    (case c_read_block => k_is)
    (case k_read_block => k_is)
    (case a_read_place => k_is)
    (case l_read_place => k_is)
    (case c_read_place => k_is)
    (case k_read_place => k_is)
    (case a_read_deed => k_is)
    (case l_read_deed => k_is)
    (case c_read_deed => k_is)
    (case k_read_deed => k_is)
    (case a_read_script => k_is)
    (case l_read_script => k_is)
    (case c_read_script => k_is)
    (case k_read_script => k_is)
    (case a_block => k_is)
    (case l_block => k_is)
    (case c_block => k_is)
    (case k_block => k_is)
    (case a_place_text => k_is)
    (case l_place_text => k_is)
    (case c_place_text => k_is)
    (case k_place_text => k_is)
    (case a_deed_text => k_is)
    (case l_deed_text => k_is)
    (case c_deed_text => k_is)
    (case k_deed_text => k_is)
    (case a_script_text => k_is)
    (case l_script_text => k_is)
    (case c_script_text => k_is)
    (case k_script_text => k_is)
    (case a__law_source => k_is)
    (case l__law_source => k_is)
    (case c__law_source => k_is)
    (case k__law_source => k_is)
    (case a__law_pick => k_is)
    (case l__law_pick => k_is)
    (case c__law_pick => k_is)
    (case k__law_pick => k_is)
    (case a__law_of => k_is)
    (case l__law_of => k_is)
    (case c__law_of => k_is)
    (case k__law_of => k_is)
    (case a__law_joined => k_is)
    (case l__law_joined => k_is)
    (case c__law_joined => k_is)
    (case k__law_joined => k_is)
    (case a__law_spaced => k_is)
    (case l__law_spaced => k_is)
    (case c__law_spaced => k_is)
    (case k__law_spaced => k_is)
    (case a__law_script_lexemes => k_is)
    (case l__law_script_lexemes => k_is)
    (case c__law_script_lexemes => k_is)
    (case k__law_script_lexemes => k_is)
    (case a__law_drawn_deed => k_is)
    (case l__law_drawn_deed => k_is)
    (case c__law_drawn_deed => k_is)
    (case k__law_drawn_deed => k_is)
    (case a__law_long_right => k_is)
    (case l__law_long_right => k_is)
    (case c__law_long_right => k_is)
    (case k__law_long_right => k_is)
    (case a_law => k_is)
    (case l_law => k_is)
    (case c_law => k_is)
    (case k_law => k_is)
    (case z_ValueError => k_is)
    (case z_abs => k_is)
    (case z_int => k_is)
    (case z_len => k_is)
    (case z_list => k_is)
    (case z_max => k_is)
    (case z_range => k_is)
    (case z_repr => k_is)
    (case z_str => k_is)
    (case z_super => k_is)
    (case z_tuple => k_is)
    (case s_LETTERS => k_is)
    (case s_DIGITS => k_is)
    (case s_BLANKS => k_is)
    (case s_SIGNS => k_is)

