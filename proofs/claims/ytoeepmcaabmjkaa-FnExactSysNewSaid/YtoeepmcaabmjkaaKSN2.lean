/- Part 2 of what FnExactSysNew leans on: contracts of Go functions, and plain lemmas, each under its own premises. Put together by wip/tools/pack.py. -/
import Derived.Test.YtoeepmcaabmjkaaProg
import Derived.Below
import Derived.Deep.Draws
import Derived.Deep.AppendLies
import Derived.Maps.AppendAt
import Derived.OwnWalk
import Derived.Laws.BytesArg
import Derived.Laws.MakeOwn
import Derived.Laws.OwnMore
import Derived.Deep.OwnRows
import Derived.Tactics
import Derived.Lib.ConvBytes
import Derived.Laws.Slices
import Derived.WalkKit
import Derived.KernelRfl
import Derived.RowKit3
import Derived.Deep.LoopGhost
import Derived.Deep.QuietTactic
import Derived.BigQuiet
import Derived.WideLaws
import Derived.Deep.DeepCutAuto
import Derived.Deep.CutBlock
import Derived.Deep.RegionHeld3
import Derived.Laws.Rows
import Derived.Lib.AppendStr
import Derived.ArgAppend
import Derived.Laws.IdiomCopy
import Derived.OrdersHeld
import Derived.Laws.BitsLemmas
import Derived.RowKit
import Derived.Test.YtoeepmcaabmjkaaKSN0
import Derived.Test.YtoeepmcaabmjkaaKSN1
set_option linter.unusedSimpArgs false
set_option linter.unusedVariables false
namespace Go.Proofs.YtoeepmcaabmjkaaW.PrintWords
open Go.RowKit Go.Proofs.YtoeepmcaabmjkaaW.PrintLast Go.Proofs.YtoeepmcaabmjkaaW.PrintMore
structure F57 where
  A1 : Option Addr
  n1 : Nat
  A2 : Option Addr
  n2 : Nat
def one57 (g i : Nat) (q : F57) : List Addr := [⟨g, i * 4, none⟩] ++ (footR q.A1 (q.n1 * 3) ++ (footR q.A2 (q.n2 * 1) ++ ([⟨g, i * 4 + 3, none⟩])))
def ft57 (g : Nat) : Nat → List F57 → List Addr
  | _, [] => []
  | i, q :: l => one57 g i q ++ ft57 g (i + 1) l
def foot57 (A : Option Addr) (l : List F57) : List Addr := match A with
  | some a => ft57 a.block 0 l
  | none => []
theorem ft57_take (g : Nat) (q : F57) : ∀ (l : List F57) (i j : Nat), l[j]? = some q → ft57 g i (l.take (j + 1)) = ft57 g i (l.take j) ++ one57 g (i + j) q
  | [], _, _, h => by simp at h
  | p :: l, i, 0, h => by
    have h : p = q := by simpa using h
    subst h
    simp [ft57]
  | p :: l, i, j + 1, h => by
    have h : l[j]? = some q := by simpa using h
    show one57 g i p ++ ft57 g (i + 1) (l.take (j + 1)) = (one57 g i p ++ ft57 g (i + 1) (l.take j)) ++ one57 g (i + (j + 1)) q
    rw [ft57_take g q l (i + 1) j h, List.append_assoc, show i + 1 + j = i + (j + 1) by omega]
theorem foot57_take (g : Nat) (q : F57) (l : List F57) (j : Nat) (h : l[j]? = some q) : foot57 (some ⟨g, 0, none⟩) (l.take (j + 1)) = foot57 (some ⟨g, 0, none⟩) (l.take j) ++ one57 g j q := by
  have := ft57_take g q l 0 j h
  rw [Nat.zero_add] at this
  exact this
theorem foot57_nil (A : Option Addr) (l : List F57) : foot57 A (l.take 0) = [] := by cases A <;> rfl
def F57.Ok (w : World) (Q : Nat → Prop) (A : Option Addr) (l : List F57) : Prop :=
  l.length ≤ 9223372036854775807 ∧ (0 < l.length → ∃ g, A = some ⟨g, 0, none⟩ ∧ Q g ∧ (∀ j, w.frozen? ⟨g, j, none⟩ = false) ∧ ∀ i q, l[i]? = some q → IsI (w.cell? ⟨g, i * 4, none⟩) ∧ (∃ c : Nat, w.cell? ⟨g, i * 4 + 1, none⟩ = some (.slice q.A1 q.n1 c) ∧ ShR 3 w Q q.A1 q.n1) ∧ (∃ c : Nat, w.cell? ⟨g, i * 4 + 2, none⟩ = some (.slice q.A2 q.n2 c) ∧ ShR 1 w Q q.A2 q.n2) ∧ IsI (w.cell? ⟨g, i * 4 + 3, none⟩))
theorem F57.Ok.step {w w' : World} {Q R : Nat → Prop} {A : Option Addr} {l : List F57} (h : F57.Ok w Q A l) (hi : IntsOnly R w w') : F57.Ok w' Q A l := by
  refine ⟨h.1, fun hn => ?_⟩
  obtain ⟨g, hA, hq, hf, hc⟩ := h.2 hn
  refine ⟨g, hA, hq, fun j => (hi.frozen _).trans (hf j), fun i q hiq => ?_⟩
  have hh := hc i q hiq
  obtain ⟨h0, ⟨c1, h1, s1⟩, ⟨c2, h2, s2⟩, h3⟩ := hh
  exact ⟨hi.int _ h0, ⟨c1, hi.other _ _ h1 (by intro z; simp), s1.step hi⟩, ⟨c2, hi.other _ _ h2 (by intro z; simp), s2.step hi⟩, hi.int _ h3⟩
theorem F57.Ok.below {w w' : World} {Q : Nat → Prop} {A : Option Addr} {l : List F57} (h : F57.Ok w Q A l) (hb : Below w.heap.size w w') : F57.Ok w' Q A l := by
  refine ⟨h.1, fun hn => ?_⟩
  obtain ⟨g, hA, hq, hf, hc⟩ := h.2 hn
  have hg : g < w.heap.size := by
    obtain ⟨q, hq⟩ : ∃ q, l[0]? = some q := ⟨_, List.getElem?_eq_getElem hn⟩
    have hh := hc 0 q hq
    obtain ⟨z, hz⟩ := hh.1
    exact World.block_lt_of_cell? w _ hz
  refine ⟨g, hA, hq, fun j => (hb.frozen (p := ⟨g, j, none⟩) hg).trans (hf j), fun i q hiq => ?_⟩
  have hh := hc i q hiq
  obtain ⟨⟨z0, h0⟩, ⟨c1, h1, s1⟩, ⟨c2, h2, s2⟩, ⟨z3, h3⟩⟩ := hh
  exact ⟨⟨z0, pw_cell_below hb h0⟩, ⟨c1, pw_cell_below hb h1, s1.below hb⟩, ⟨c2, pw_cell_below hb h2, s2.below hb⟩, ⟨z3, pw_cell_below hb h3⟩⟩
theorem F57.Ok.mono {w : World} {Q R : Nat → Prop} {A : Option Addr} {l : List F57} (h : F57.Ok w Q A l) (hq : ∀ k, Q k → R k) : F57.Ok w R A l := by
  refine ⟨h.1, fun hn => ?_⟩
  obtain ⟨g, hA, hp, hf, hc⟩ := h.2 hn
  refine ⟨g, hA, hq g hp, hf, fun i q hiq => ?_⟩
  have hh := hc i q hiq
  obtain ⟨h0, ⟨c1, h1, s1⟩, ⟨c2, h2, s2⟩, h3⟩ := hh
  exact ⟨h0, ⟨c1, h1, s1.mono hq⟩, ⟨c2, h2, s2.mono hq⟩, h3⟩
theorem F57.Ok.one {w : World} {Q : Nat → Prop} {g : Nat} {l : List F57} (h : F57.Ok w Q (some ⟨g, 0, none⟩) l) (i : Nat) (q : F57) (hiq : l[i]? = some q) : ∀ a ∈ one57 g i q, Q a.block ∧ IsI (w.cell? a) := by
  obtain ⟨g', hA, hp, hf, hc⟩ := h.2 (by have := (List.getElem?_eq_some_iff.1 hiq).1; omega)
  injection hA with hA
  injection hA with hA _ _
  subst hA
  have hh := hc i q hiq
  obtain ⟨h0, ⟨c1, h1, s1⟩, ⟨c2, h2, s2⟩, h3⟩ := hh
  intro a ha
  simp only [one57, List.mem_append, List.mem_cons, List.not_mem_nil, or_false] at ha
  rcases ha with rfl | ha | ha | rfl
  · exact ⟨hp, h0⟩
  · exact s1.foot a ha
  · exact s2.foot a ha
  · exact ⟨hp, h3⟩
theorem F57.Ok.foot {w : World} {Q : Nat → Prop} {A : Option Addr} {l : List F57} (h : F57.Ok w Q A l) : ∀ a ∈ foot57 A l, Q a.block ∧ IsI (w.cell? a) := by
  intro a ha
  rcases Nat.eq_zero_or_pos l.length with h0 | h0
  · rw [List.length_eq_zero_iff] at h0
    subst h0
    cases A <;> cases ha
  · obtain ⟨g, rfl, _⟩ := h.2 h0
    have key : ∀ (m : Nat), m ≤ l.length → ∀ a ∈ foot57 (some ⟨g, 0, none⟩) (l.take m), Q a.block ∧ IsI (w.cell? a) := by
      intro m
      induction m with
      | zero => intro _ a ha; rw [foot57_nil] at ha; cases ha
      | succ m ih =>
        intro hm a ha
        rw [foot57_take g _ l m (List.getElem?_eq_getElem (show m < l.length by omega))] at ha
        rcases List.mem_append.1 ha with ha | ha
        · exact ih (by omega) a ha
        · exact h.one m _ (List.getElem?_eq_getElem (show m < l.length by omega)) a ha
    exact key l.length (Nat.le_refl _) a (by rw [List.take_length]; exact ha)
structure F54 where
  A0 : Option Addr
  n0 : List F57
def one54 (g i : Nat) (q : F54) : List Addr := foot57 q.A0 q.n0
def ft54 (g : Nat) : Nat → List F54 → List Addr
  | _, [] => []
  | i, q :: l => one54 g i q ++ ft54 g (i + 1) l
def foot54 (A : Option Addr) (l : List F54) : List Addr := match A with
  | some a => ft54 a.block 0 l
  | none => []
theorem ft54_take (g : Nat) (q : F54) : ∀ (l : List F54) (i j : Nat), l[j]? = some q → ft54 g i (l.take (j + 1)) = ft54 g i (l.take j) ++ one54 g (i + j) q
  | [], _, _, h => by simp at h
  | p :: l, i, 0, h => by
    have h : p = q := by simpa using h
    subst h
    simp [ft54]
  | p :: l, i, j + 1, h => by
    have h : l[j]? = some q := by simpa using h
    show one54 g i p ++ ft54 g (i + 1) (l.take (j + 1)) = (one54 g i p ++ ft54 g (i + 1) (l.take j)) ++ one54 g (i + (j + 1)) q
    rw [ft54_take g q l (i + 1) j h, List.append_assoc, show i + 1 + j = i + (j + 1) by omega]
theorem foot54_take (g : Nat) (q : F54) (l : List F54) (j : Nat) (h : l[j]? = some q) : foot54 (some ⟨g, 0, none⟩) (l.take (j + 1)) = foot54 (some ⟨g, 0, none⟩) (l.take j) ++ one54 g j q := by
  have := ft54_take g q l 0 j h
  rw [Nat.zero_add] at this
  exact this
theorem foot54_nil (A : Option Addr) (l : List F54) : foot54 A (l.take 0) = [] := by cases A <;> rfl
def F54.Ok (w : World) (Q : Nat → Prop) (A : Option Addr) (l : List F54) : Prop :=
  l.length ≤ 9223372036854775807 ∧ (0 < l.length → ∃ g, A = some ⟨g, 0, none⟩ ∧ Q g ∧ (∀ j, w.frozen? ⟨g, j, none⟩ = false) ∧ ∀ i q, l[i]? = some q → (∃ c : Nat, w.cell? ⟨g, i, none⟩ = some (.slice q.A0 q.n0.length c) ∧ F57.Ok w Q q.A0 q.n0))
theorem F54.Ok.step {w w' : World} {Q R : Nat → Prop} {A : Option Addr} {l : List F54} (h : F54.Ok w Q A l) (hi : IntsOnly R w w') : F54.Ok w' Q A l := by
  refine ⟨h.1, fun hn => ?_⟩
  obtain ⟨g, hA, hq, hf, hc⟩ := h.2 hn
  refine ⟨g, hA, hq, fun j => (hi.frozen _).trans (hf j), fun i q hiq => ?_⟩
  have hh := hc i q hiq
  obtain ⟨c0, h0, s0⟩ := hh
  exact ⟨c0, hi.other _ _ h0 (by intro z; simp), s0.step hi⟩
theorem F54.Ok.below {w w' : World} {Q : Nat → Prop} {A : Option Addr} {l : List F54} (h : F54.Ok w Q A l) (hb : Below w.heap.size w w') : F54.Ok w' Q A l := by
  refine ⟨h.1, fun hn => ?_⟩
  obtain ⟨g, hA, hq, hf, hc⟩ := h.2 hn
  have hg : g < w.heap.size := by
    obtain ⟨q, hq⟩ : ∃ q, l[0]? = some q := ⟨_, List.getElem?_eq_getElem hn⟩
    have hh := hc 0 q hq
    obtain ⟨c, hz, _⟩ := hh
    exact World.block_lt_of_cell? w _ hz
  refine ⟨g, hA, hq, fun j => (hb.frozen (p := ⟨g, j, none⟩) hg).trans (hf j), fun i q hiq => ?_⟩
  have hh := hc i q hiq
  obtain ⟨c0, h0, s0⟩ := hh
  exact ⟨c0, pw_cell_below hb h0, s0.below hb⟩
theorem F54.Ok.mono {w : World} {Q R : Nat → Prop} {A : Option Addr} {l : List F54} (h : F54.Ok w Q A l) (hq : ∀ k, Q k → R k) : F54.Ok w R A l := by
  refine ⟨h.1, fun hn => ?_⟩
  obtain ⟨g, hA, hp, hf, hc⟩ := h.2 hn
  refine ⟨g, hA, hq g hp, hf, fun i q hiq => ?_⟩
  have hh := hc i q hiq
  obtain ⟨c0, h0, s0⟩ := hh
  exact ⟨c0, h0, s0.mono hq⟩
theorem F54.Ok.one {w : World} {Q : Nat → Prop} {g : Nat} {l : List F54} (h : F54.Ok w Q (some ⟨g, 0, none⟩) l) (i : Nat) (q : F54) (hiq : l[i]? = some q) : ∀ a ∈ one54 g i q, Q a.block ∧ IsI (w.cell? a) := by
  obtain ⟨g', hA, hp, hf, hc⟩ := h.2 (by have := (List.getElem?_eq_some_iff.1 hiq).1; omega)
  injection hA with hA
  injection hA with hA _ _
  subst hA
  have hh := hc i q hiq
  obtain ⟨c0, h0, s0⟩ := hh
  intro a ha
  simp only [one54, List.mem_append, List.mem_cons, List.not_mem_nil, or_false] at ha
  rcases ha with ha
  · exact s0.foot a ha
theorem F54.Ok.foot {w : World} {Q : Nat → Prop} {A : Option Addr} {l : List F54} (h : F54.Ok w Q A l) : ∀ a ∈ foot54 A l, Q a.block ∧ IsI (w.cell? a) := by
  intro a ha
  rcases Nat.eq_zero_or_pos l.length with h0 | h0
  · rw [List.length_eq_zero_iff] at h0
    subst h0
    cases A <;> cases ha
  · obtain ⟨g, rfl, _⟩ := h.2 h0
    have key : ∀ (m : Nat), m ≤ l.length → ∀ a ∈ foot54 (some ⟨g, 0, none⟩) (l.take m), Q a.block ∧ IsI (w.cell? a) := by
      intro m
      induction m with
      | zero => intro _ a ha; rw [foot54_nil] at ha; cases ha
      | succ m ih =>
        intro hm a ha
        rw [foot54_take g _ l m (List.getElem?_eq_getElem (show m < l.length by omega))] at ha
        rcases List.mem_append.1 ha with ha | ha
        · exact ih (by omega) a ha
        · exact h.one m _ (List.getElem?_eq_getElem (show m < l.length by omega)) a ha
    exact key l.length (Nat.le_refl _) a (by rw [List.take_length]; exact ha)
structure F84 where
  A3 : Option Addr
  n3 : Nat
  A4 : Option Addr
  n4 : Nat
def one84 (g i : Nat) (q : F84) : List Addr := [⟨g, i * 6, none⟩, ⟨g, i * 6 + 1, none⟩, ⟨g, i * 6 + 2, none⟩] ++ (footR q.A3 (q.n3 * 2) ++ (footR q.A4 (q.n4 * 2) ++ ([⟨g, i * 6 + 5, none⟩])))
def ft84 (g : Nat) : Nat → List F84 → List Addr
  | _, [] => []
  | i, q :: l => one84 g i q ++ ft84 g (i + 1) l
def foot84 (A : Option Addr) (l : List F84) : List Addr := match A with
  | some a => ft84 a.block 0 l
  | none => []
theorem ft84_take (g : Nat) (q : F84) : ∀ (l : List F84) (i j : Nat), l[j]? = some q → ft84 g i (l.take (j + 1)) = ft84 g i (l.take j) ++ one84 g (i + j) q
  | [], _, _, h => by simp at h
  | p :: l, i, 0, h => by
    have h : p = q := by simpa using h
    subst h
    simp [ft84]
  | p :: l, i, j + 1, h => by
    have h : l[j]? = some q := by simpa using h
    show one84 g i p ++ ft84 g (i + 1) (l.take (j + 1)) = (one84 g i p ++ ft84 g (i + 1) (l.take j)) ++ one84 g (i + (j + 1)) q
    rw [ft84_take g q l (i + 1) j h, List.append_assoc, show i + 1 + j = i + (j + 1) by omega]
theorem foot84_take (g : Nat) (q : F84) (l : List F84) (j : Nat) (h : l[j]? = some q) : foot84 (some ⟨g, 0, none⟩) (l.take (j + 1)) = foot84 (some ⟨g, 0, none⟩) (l.take j) ++ one84 g j q := by
  have := ft84_take g q l 0 j h
  rw [Nat.zero_add] at this
  exact this
theorem ft84_split (g : Nat) (q : F84) : ∀ (l : List F84) (i j : Nat), l[j]? = some q → ∃ r, ft84 g i l = ft84 g i (l.take j) ++ (one84 g (i + j) q ++ r)
  | [], _, _, h => by simp at h
  | p :: l, i, 0, h => by
    have h : p = q := by simpa using h
    subst h
    exact ⟨ft84 g (i + 1) l, rfl⟩
  | p :: l, i, j + 1, h => by
    obtain ⟨r, hr⟩ := ft84_split g q l (i + 1) j (by simpa using h)
    refine ⟨r, ?_⟩
    show one84 g i p ++ ft84 g (i + 1) l = (one84 g i p ++ ft84 g (i + 1) (l.take j)) ++ (one84 g (i + (j + 1)) q ++ r)
    rw [hr, List.append_assoc, show i + 1 + j = i + (j + 1) by omega]
theorem foot84_split (g : Nat) (q : F84) (l : List F84) (j : Nat) (h : l[j]? = some q) : ∃ r, foot84 (some ⟨g, 0, none⟩) l = foot84 (some ⟨g, 0, none⟩) (l.take j) ++ (one84 g j q ++ r) := by
  have := ft84_split g q l 0 j h
  rw [Nat.zero_add] at this
  exact this
theorem foot84_nil (A : Option Addr) (l : List F84) : foot84 A (l.take 0) = [] := by cases A <;> rfl
def F84.Ok (w : World) (Q : Nat → Prop) (A : Option Addr) (l : List F84) : Prop :=
  l.length ≤ 9223372036854775807 ∧ (0 < l.length → ∃ g, A = some ⟨g, 0, none⟩ ∧ Q g ∧ (∀ j, w.frozen? ⟨g, j, none⟩ = false) ∧ ∀ i q, l[i]? = some q → IsI (w.cell? ⟨g, i * 6, none⟩) ∧ IsI (w.cell? ⟨g, i * 6 + 1, none⟩) ∧ IsI (w.cell? ⟨g, i * 6 + 2, none⟩) ∧ (∃ c : Nat, w.cell? ⟨g, i * 6 + 3, none⟩ = some (.slice q.A3 q.n3 c) ∧ ShR 2 w Q q.A3 q.n3) ∧ (∃ c : Nat, w.cell? ⟨g, i * 6 + 4, none⟩ = some (.slice q.A4 q.n4 c) ∧ ShR 2 w Q q.A4 q.n4) ∧ IsI (w.cell? ⟨g, i * 6 + 5, none⟩))
theorem F84.Ok.step {w w' : World} {Q R : Nat → Prop} {A : Option Addr} {l : List F84} (h : F84.Ok w Q A l) (hi : IntsOnly R w w') : F84.Ok w' Q A l := by
  refine ⟨h.1, fun hn => ?_⟩
  obtain ⟨g, hA, hq, hf, hc⟩ := h.2 hn
  refine ⟨g, hA, hq, fun j => (hi.frozen _).trans (hf j), fun i q hiq => ?_⟩
  have hh := hc i q hiq
  obtain ⟨h0, h1, h2, ⟨c3, h3, s3⟩, ⟨c4, h4, s4⟩, h5⟩ := hh
  exact ⟨hi.int _ h0, hi.int _ h1, hi.int _ h2, ⟨c3, hi.other _ _ h3 (by intro z; simp), s3.step hi⟩, ⟨c4, hi.other _ _ h4 (by intro z; simp), s4.step hi⟩, hi.int _ h5⟩
theorem F84.Ok.below {w w' : World} {Q : Nat → Prop} {A : Option Addr} {l : List F84} (h : F84.Ok w Q A l) (hb : Below w.heap.size w w') : F84.Ok w' Q A l := by
  refine ⟨h.1, fun hn => ?_⟩
  obtain ⟨g, hA, hq, hf, hc⟩ := h.2 hn
  have hg : g < w.heap.size := by
    obtain ⟨q, hq⟩ : ∃ q, l[0]? = some q := ⟨_, List.getElem?_eq_getElem hn⟩
    have hh := hc 0 q hq
    obtain ⟨z, hz⟩ := hh.1
    exact World.block_lt_of_cell? w _ hz
  refine ⟨g, hA, hq, fun j => (hb.frozen (p := ⟨g, j, none⟩) hg).trans (hf j), fun i q hiq => ?_⟩
  have hh := hc i q hiq
  obtain ⟨⟨z0, h0⟩, ⟨z1, h1⟩, ⟨z2, h2⟩, ⟨c3, h3, s3⟩, ⟨c4, h4, s4⟩, ⟨z5, h5⟩⟩ := hh
  exact ⟨⟨z0, pw_cell_below hb h0⟩, ⟨z1, pw_cell_below hb h1⟩, ⟨z2, pw_cell_below hb h2⟩, ⟨c3, pw_cell_below hb h3, s3.below hb⟩, ⟨c4, pw_cell_below hb h4, s4.below hb⟩, ⟨z5, pw_cell_below hb h5⟩⟩
theorem F84.Ok.mono {w : World} {Q R : Nat → Prop} {A : Option Addr} {l : List F84} (h : F84.Ok w Q A l) (hq : ∀ k, Q k → R k) : F84.Ok w R A l := by
  refine ⟨h.1, fun hn => ?_⟩
  obtain ⟨g, hA, hp, hf, hc⟩ := h.2 hn
  refine ⟨g, hA, hq g hp, hf, fun i q hiq => ?_⟩
  have hh := hc i q hiq
  obtain ⟨h0, h1, h2, ⟨c3, h3, s3⟩, ⟨c4, h4, s4⟩, h5⟩ := hh
  exact ⟨h0, h1, h2, ⟨c3, h3, s3.mono hq⟩, ⟨c4, h4, s4.mono hq⟩, h5⟩
theorem F84.Ok.one {w : World} {Q : Nat → Prop} {g : Nat} {l : List F84} (h : F84.Ok w Q (some ⟨g, 0, none⟩) l) (i : Nat) (q : F84) (hiq : l[i]? = some q) : ∀ a ∈ one84 g i q, Q a.block ∧ IsI (w.cell? a) := by
  obtain ⟨g', hA, hp, hf, hc⟩ := h.2 (by have := (List.getElem?_eq_some_iff.1 hiq).1; omega)
  injection hA with hA
  injection hA with hA _ _
  subst hA
  have hh := hc i q hiq
  obtain ⟨h0, h1, h2, ⟨c3, h3, s3⟩, ⟨c4, h4, s4⟩, h5⟩ := hh
  intro a ha
  simp only [one84, List.mem_append, List.mem_cons, List.not_mem_nil, or_false] at ha
  rcases ha with (rfl | rfl | rfl) | ha | ha | rfl
  · exact ⟨hp, h0⟩
  · exact ⟨hp, h1⟩
  · exact ⟨hp, h2⟩
  · exact s3.foot a ha
  · exact s4.foot a ha
  · exact ⟨hp, h5⟩
theorem F84.Ok.foot {w : World} {Q : Nat → Prop} {A : Option Addr} {l : List F84} (h : F84.Ok w Q A l) : ∀ a ∈ foot84 A l, Q a.block ∧ IsI (w.cell? a) := by
  intro a ha
  rcases Nat.eq_zero_or_pos l.length with h0 | h0
  · rw [List.length_eq_zero_iff] at h0
    subst h0
    cases A <;> cases ha
  · obtain ⟨g, rfl, _⟩ := h.2 h0
    have key : ∀ (m : Nat), m ≤ l.length → ∀ a ∈ foot84 (some ⟨g, 0, none⟩) (l.take m), Q a.block ∧ IsI (w.cell? a) := by
      intro m
      induction m with
      | zero => intro _ a ha; rw [foot84_nil] at ha; cases ha
      | succ m ih =>
        intro hm a ha
        rw [foot84_take g _ l m (List.getElem?_eq_getElem (show m < l.length by omega))] at ha
        rcases List.mem_append.1 ha with ha | ha
        · exact ih (by omega) a ha
        · exact h.one m _ (List.getElem?_eq_getElem (show m < l.length by omega)) a ha
    exact key l.length (Nat.le_refl _) a (by rw [List.take_length]; exact ha)
structure F66 where
  A3 : Option Addr
  n3 : Nat
  A8 : Option Addr
  n8 : Nat
  A9 : Option Addr
  n9 : Nat
  A10 : Option Addr
  n10 : Nat
def one66 (g i : Nat) (q : F66) : List Addr := [⟨g, i * 13, none⟩, ⟨g, i * 13 + 1, none⟩, ⟨g, i * 13 + 2, none⟩] ++ (footR q.A3 (q.n3 * 1) ++ ([⟨g, i * 13 + 4, none⟩, ⟨g, i * 13 + 5, none⟩, ⟨g, i * 13 + 6, none⟩, ⟨g, i * 13 + 7, none⟩] ++ (footR q.A8 (q.n8 * 1) ++ (footR q.A9 (q.n9 * 2) ++ (footR q.A10 (q.n10 * 2) ++ ([⟨g, i * 13 + 11, none⟩, ⟨g, i * 13 + 12, none⟩]))))))
def ft66 (g : Nat) : Nat → List F66 → List Addr
  | _, [] => []
  | i, q :: l => one66 g i q ++ ft66 g (i + 1) l
def foot66 (A : Option Addr) (l : List F66) : List Addr := match A with
  | some a => ft66 a.block 0 l
  | none => []
theorem ft66_take (g : Nat) (q : F66) : ∀ (l : List F66) (i j : Nat), l[j]? = some q → ft66 g i (l.take (j + 1)) = ft66 g i (l.take j) ++ one66 g (i + j) q
  | [], _, _, h => by simp at h
  | p :: l, i, 0, h => by
    have h : p = q := by simpa using h
    subst h
    simp [ft66]
  | p :: l, i, j + 1, h => by
    have h : l[j]? = some q := by simpa using h
    show one66 g i p ++ ft66 g (i + 1) (l.take (j + 1)) = (one66 g i p ++ ft66 g (i + 1) (l.take j)) ++ one66 g (i + (j + 1)) q
    rw [ft66_take g q l (i + 1) j h, List.append_assoc, show i + 1 + j = i + (j + 1) by omega]
theorem foot66_take (g : Nat) (q : F66) (l : List F66) (j : Nat) (h : l[j]? = some q) : foot66 (some ⟨g, 0, none⟩) (l.take (j + 1)) = foot66 (some ⟨g, 0, none⟩) (l.take j) ++ one66 g j q := by
  have := ft66_take g q l 0 j h
  rw [Nat.zero_add] at this
  exact this
theorem ft66_split (g : Nat) (q : F66) : ∀ (l : List F66) (i j : Nat), l[j]? = some q → ∃ r, ft66 g i l = ft66 g i (l.take j) ++ (one66 g (i + j) q ++ r)
  | [], _, _, h => by simp at h
  | p :: l, i, 0, h => by
    have h : p = q := by simpa using h
    subst h
    exact ⟨ft66 g (i + 1) l, rfl⟩
  | p :: l, i, j + 1, h => by
    obtain ⟨r, hr⟩ := ft66_split g q l (i + 1) j (by simpa using h)
    refine ⟨r, ?_⟩
    show one66 g i p ++ ft66 g (i + 1) l = (one66 g i p ++ ft66 g (i + 1) (l.take j)) ++ (one66 g (i + (j + 1)) q ++ r)
    rw [hr, List.append_assoc, show i + 1 + j = i + (j + 1) by omega]
theorem foot66_split (g : Nat) (q : F66) (l : List F66) (j : Nat) (h : l[j]? = some q) : ∃ r, foot66 (some ⟨g, 0, none⟩) l = foot66 (some ⟨g, 0, none⟩) (l.take j) ++ (one66 g j q ++ r) := by
  have := ft66_split g q l 0 j h
  rw [Nat.zero_add] at this
  exact this
theorem foot66_nil (A : Option Addr) (l : List F66) : foot66 A (l.take 0) = [] := by cases A <;> rfl
def F66.Ok (w : World) (Q : Nat → Prop) (A : Option Addr) (l : List F66) : Prop :=
  l.length ≤ 9223372036854775807 ∧ (0 < l.length → ∃ g, A = some ⟨g, 0, none⟩ ∧ Q g ∧ (∀ j, w.frozen? ⟨g, j, none⟩ = false) ∧ ∀ i q, l[i]? = some q → IsI (w.cell? ⟨g, i * 13, none⟩) ∧ IsI (w.cell? ⟨g, i * 13 + 1, none⟩) ∧ IsI (w.cell? ⟨g, i * 13 + 2, none⟩) ∧ (∃ c : Nat, w.cell? ⟨g, i * 13 + 3, none⟩ = some (.slice q.A3 q.n3 c) ∧ ShR 1 w Q q.A3 q.n3) ∧ IsI (w.cell? ⟨g, i * 13 + 4, none⟩) ∧ IsI (w.cell? ⟨g, i * 13 + 5, none⟩) ∧ IsI (w.cell? ⟨g, i * 13 + 6, none⟩) ∧ IsI (w.cell? ⟨g, i * 13 + 7, none⟩) ∧ (∃ c : Nat, w.cell? ⟨g, i * 13 + 8, none⟩ = some (.slice q.A8 q.n8 c) ∧ ShR 1 w Q q.A8 q.n8) ∧ (∃ c : Nat, w.cell? ⟨g, i * 13 + 9, none⟩ = some (.slice q.A9 q.n9 c) ∧ ShR 2 w Q q.A9 q.n9) ∧ (∃ c : Nat, w.cell? ⟨g, i * 13 + 10, none⟩ = some (.slice q.A10 q.n10 c) ∧ ShR 2 w Q q.A10 q.n10) ∧ IsI (w.cell? ⟨g, i * 13 + 11, none⟩) ∧ IsI (w.cell? ⟨g, i * 13 + 12, none⟩))
theorem F66.Ok.step {w w' : World} {Q R : Nat → Prop} {A : Option Addr} {l : List F66} (h : F66.Ok w Q A l) (hi : IntsOnly R w w') : F66.Ok w' Q A l := by
  refine ⟨h.1, fun hn => ?_⟩
  obtain ⟨g, hA, hq, hf, hc⟩ := h.2 hn
  refine ⟨g, hA, hq, fun j => (hi.frozen _).trans (hf j), fun i q hiq => ?_⟩
  have hh := hc i q hiq
  obtain ⟨h0, h1, h2, ⟨c3, h3, s3⟩, h4, h5, h6, h7, ⟨c8, h8, s8⟩, ⟨c9, h9, s9⟩, ⟨c10, h10, s10⟩, h11, h12⟩ := hh
  exact ⟨hi.int _ h0, hi.int _ h1, hi.int _ h2, ⟨c3, hi.other _ _ h3 (by intro z; simp), s3.step hi⟩, hi.int _ h4, hi.int _ h5, hi.int _ h6, hi.int _ h7, ⟨c8, hi.other _ _ h8 (by intro z; simp), s8.step hi⟩, ⟨c9, hi.other _ _ h9 (by intro z; simp), s9.step hi⟩, ⟨c10, hi.other _ _ h10 (by intro z; simp), s10.step hi⟩, hi.int _ h11, hi.int _ h12⟩
theorem F66.Ok.below {w w' : World} {Q : Nat → Prop} {A : Option Addr} {l : List F66} (h : F66.Ok w Q A l) (hb : Below w.heap.size w w') : F66.Ok w' Q A l := by
  refine ⟨h.1, fun hn => ?_⟩
  obtain ⟨g, hA, hq, hf, hc⟩ := h.2 hn
  have hg : g < w.heap.size := by
    obtain ⟨q, hq⟩ : ∃ q, l[0]? = some q := ⟨_, List.getElem?_eq_getElem hn⟩
    have hh := hc 0 q hq
    obtain ⟨z, hz⟩ := hh.1
    exact World.block_lt_of_cell? w _ hz
  refine ⟨g, hA, hq, fun j => (hb.frozen (p := ⟨g, j, none⟩) hg).trans (hf j), fun i q hiq => ?_⟩
  have hh := hc i q hiq
  obtain ⟨⟨z0, h0⟩, ⟨z1, h1⟩, ⟨z2, h2⟩, ⟨c3, h3, s3⟩, ⟨z4, h4⟩, ⟨z5, h5⟩, ⟨z6, h6⟩, ⟨z7, h7⟩, ⟨c8, h8, s8⟩, ⟨c9, h9, s9⟩, ⟨c10, h10, s10⟩, ⟨z11, h11⟩, ⟨z12, h12⟩⟩ := hh
  exact ⟨⟨z0, pw_cell_below hb h0⟩, ⟨z1, pw_cell_below hb h1⟩, ⟨z2, pw_cell_below hb h2⟩, ⟨c3, pw_cell_below hb h3, s3.below hb⟩, ⟨z4, pw_cell_below hb h4⟩, ⟨z5, pw_cell_below hb h5⟩, ⟨z6, pw_cell_below hb h6⟩, ⟨z7, pw_cell_below hb h7⟩, ⟨c8, pw_cell_below hb h8, s8.below hb⟩, ⟨c9, pw_cell_below hb h9, s9.below hb⟩, ⟨c10, pw_cell_below hb h10, s10.below hb⟩, ⟨z11, pw_cell_below hb h11⟩, ⟨z12, pw_cell_below hb h12⟩⟩
theorem F66.Ok.mono {w : World} {Q R : Nat → Prop} {A : Option Addr} {l : List F66} (h : F66.Ok w Q A l) (hq : ∀ k, Q k → R k) : F66.Ok w R A l := by
  refine ⟨h.1, fun hn => ?_⟩
  obtain ⟨g, hA, hp, hf, hc⟩ := h.2 hn
  refine ⟨g, hA, hq g hp, hf, fun i q hiq => ?_⟩
  have hh := hc i q hiq
  obtain ⟨h0, h1, h2, ⟨c3, h3, s3⟩, h4, h5, h6, h7, ⟨c8, h8, s8⟩, ⟨c9, h9, s9⟩, ⟨c10, h10, s10⟩, h11, h12⟩ := hh
  exact ⟨h0, h1, h2, ⟨c3, h3, s3.mono hq⟩, h4, h5, h6, h7, ⟨c8, h8, s8.mono hq⟩, ⟨c9, h9, s9.mono hq⟩, ⟨c10, h10, s10.mono hq⟩, h11, h12⟩
theorem F66.Ok.one {w : World} {Q : Nat → Prop} {g : Nat} {l : List F66} (h : F66.Ok w Q (some ⟨g, 0, none⟩) l) (i : Nat) (q : F66) (hiq : l[i]? = some q) : ∀ a ∈ one66 g i q, Q a.block ∧ IsI (w.cell? a) := by
  obtain ⟨g', hA, hp, hf, hc⟩ := h.2 (by have := (List.getElem?_eq_some_iff.1 hiq).1; omega)
  injection hA with hA
  injection hA with hA _ _
  subst hA
  have hh := hc i q hiq
  obtain ⟨h0, h1, h2, ⟨c3, h3, s3⟩, h4, h5, h6, h7, ⟨c8, h8, s8⟩, ⟨c9, h9, s9⟩, ⟨c10, h10, s10⟩, h11, h12⟩ := hh
  intro a ha
  simp only [one66, List.mem_append, List.mem_cons, List.not_mem_nil, or_false] at ha
  rcases ha with (rfl | rfl | rfl) | ha | (rfl | rfl | rfl | rfl) | ha | ha | ha | rfl | rfl
  · exact ⟨hp, h0⟩
  · exact ⟨hp, h1⟩
  · exact ⟨hp, h2⟩
  · exact s3.foot a ha
  · exact ⟨hp, h4⟩
  · exact ⟨hp, h5⟩
  · exact ⟨hp, h6⟩
  · exact ⟨hp, h7⟩
  · exact s8.foot a ha
  · exact s9.foot a ha
  · exact s10.foot a ha
  · exact ⟨hp, h11⟩
  · exact ⟨hp, h12⟩
theorem F66.Ok.foot {w : World} {Q : Nat → Prop} {A : Option Addr} {l : List F66} (h : F66.Ok w Q A l) : ∀ a ∈ foot66 A l, Q a.block ∧ IsI (w.cell? a) := by
  intro a ha
  rcases Nat.eq_zero_or_pos l.length with h0 | h0
  · rw [List.length_eq_zero_iff] at h0
    subst h0
    cases A <;> cases ha
  · obtain ⟨g, rfl, _⟩ := h.2 h0
    have key : ∀ (m : Nat), m ≤ l.length → ∀ a ∈ foot66 (some ⟨g, 0, none⟩) (l.take m), Q a.block ∧ IsI (w.cell? a) := by
      intro m
      induction m with
      | zero => intro _ a ha; rw [foot66_nil] at ha; cases ha
      | succ m ih =>
        intro hm a ha
        rw [foot66_take g _ l m (List.getElem?_eq_getElem (show m < l.length by omega))] at ha
        rcases List.mem_append.1 ha with ha | ha
        · exact ih (by omega) a ha
        · exact h.one m _ (List.getElem?_eq_getElem (show m < l.length by omega)) a ha
    exact key l.length (Nat.le_refl _) a (by rw [List.take_length]; exact ha)
set_option maxHeartbeats 2000000 in
set_option maxRecDepth 100000 in
theorem markDeedS_ft (Q : Nat → Prop) (A : Option Addr) (n : Nat) (c : Nat) (a1 : Int) (w : World) (hs : ShR 3 w Q A n) :
    Calls Try.prog 95 #[.slice A n c, .int .i64 a1] w fun e w' => e = .returned (.int .i64 (mkI (footR A (n * 3)).length a1)) ∧ w' = jot (footR A (n * 3)) a1 w ∧ IntsOnly Q w w' := by
  have HS := Aside0.mk hs
  have HM := Aside0.mk hs.1
  have HI := Aside0.mk (IntsOnly.refl Q w)
  clear hs
  have hu3 := Try.underlying3
  have hu122 := Try.underlying122
  go_enter Try.func95, Try.ntmps95
  go_wp2
  go_loopw [1, 5] (fun v1 v5 wr => ∃ (m x : Int), v1 = .int .i64 m ∧ v5 = .int .i64 x ∧ Aside0 (0 ≤ x ∧ x ≤ (n : Nat) ∧ m = mkI (footR A (x.toNat * 3)).length a1) ∧ Aside0 (IntsOnly Q w wr) ∧ Aside0 (wr = jot (footR A (x.toNat * 3)) a1 w)) (fun _ v5 _ => n - (intOf v5).toNat)
  case atStart => exact ⟨a1, 0, rfl, rfl, ⟨by omega, by omega, by rw [show footR A ((0 : Int).toNat * 3) = [] by rw [show (0 : Int).toNat * 3 = 0 from Nat.zero_mul _]; cases A <;> rfl]; rfl⟩, HI, ⟨by rw [show footR A ((0 : Int).toNat * 3) = [] by rw [show (0 : Int).toNat * 3 = 0 from Nat.zero_mul _]; cases A <;> rfl]; rfl⟩⟩
  case round =>
    clear HI
    obtain ⟨m, x, rfl, rfl, HX, HI, HJ⟩ := hrel
    by_cases c0 : x < ((n : Nat) : Int)
    · have c0b : decide (x < ((n : Nat) : Int)) = true := decide_eq_true c0
      obtain ⟨g, rfl, hp, hc⟩ := HS.out.2 (by have := HX.out.1; omega)
      have HG := Aside0.mk hp
      have HC := Aside0.mk hc
      have HL := Aside0.mk (show x.toNat * 3 + 3 ≤ n * 3 by have := HX.out.1; omega)
      clear hp hc
      have p0 := eq_true HX.out.1
      have q0 := eq_true c0
      have HC0 := Aside0.mk c0
      clear c0
      obtain ⟨z0, hz0⟩ := HI.out.int _ (HC.out (x.toNat * 3) (by have := HL.out; omega)).1
      have hf0 : wr.frozen? ⟨g, x.toNat * 3, none⟩ = false := (HI.out.frozen _).trans ((HC.out (x.toNat * 3) (by have := HL.out; omega)).2)
      obtain ⟨z1, hz1⟩ := HI.out.int _ (HC.out (x.toNat * 3 + 1) (by have := HL.out; omega)).1
      have hf1 : wr.frozen? ⟨g, x.toNat * 3 + 1, none⟩ = false := (HI.out.frozen _).trans ((HC.out (x.toNat * 3 + 1) (by have := HL.out; omega)).2)
      obtain ⟨z2, hz2⟩ := HI.out.int _ (HC.out (x.toNat * 3 + 2) (by have := HL.out; omega)).1
      have hf2 : wr.frozen? ⟨g, x.toNat * 3 + 2, none⟩ = false := (HI.out.frozen _).trans ((HC.out (x.toNat * 3 + 2) (by have := HL.out; omega)).2)
      go_wp2
      go_roundw
      case rel =>
        have e1 : (wrap64 (x + 1)) = x + 1 := by have h1 := HX.out.1; have h2 := HC0.out; have h3 := HM.out; unfold wrap64; omega
        have hn1 : (x + 1).toNat = x.toNat + 1 := by have := HX.out.1; omega
        refine ⟨_, _, rfl, rfl, ⟨?_⟩, ⟨(by repeat (first | exact HI.out | refine IntsOnly.put ?_ HG.out (by first | exact (HC.out (x.toNat * 3) (by have := HL.out; omega)).1 | exact (HC.out (x.toNat * 3 + 1) (by have := HL.out; omega)).1 | exact (HC.out (x.toNat * 3 + 2) (by have := HL.out; omega)).1) _))⟩, ⟨?_⟩⟩
        · rw [e1, hn1]
          refine ⟨by have := HX.out.1; omega, by have := HC0.out; omega, ?_⟩
          rw [Nat.add_mul, Nat.one_mul, footR_len, mkI_add]
          have h5 := HX.out.2.2
          rw [footR_len] at h5
          rw [← h5]
          rfl
        · rw [e1, hn1, Nat.add_mul, Nat.one_mul, footR_add g (x.toNat * 3) 3, jot_append, ← HX.out.2.2, ← HJ.out]
          simp [jot, List.range_succ]
      case measure =>
        have h1 := HX.out.1
        have h2 := HC0.out
        have h3 := HM.out
        have e1 : (wrap64 (x + 1)) = x + 1 := by unfold wrap64; omega
        rw [e1]
        simp [intOf]
        omega
    · have c0b : decide (x < ((n : Nat) : Int)) = false := decide_eq_false c0
      have q0 := eq_false c0
      have HE := Aside0.mk (show x.toNat = n by have := HX.out.1; have := HX.out.2.1; omega)
      clear c0
      go_wp2
      go_ret
      have h5 := HX.out.2.2
      have h6 := HJ.out
      rw [HE.out] at h5 h6
      exact ⟨by rw [h5]; (try rfl), h6, HI.out⟩
set_option maxHeartbeats 2000000 in
set_option maxRecDepth 100000 in
theorem markIntS_ft (Q : Nat → Prop) (A : Option Addr) (n : Nat) (c : Nat) (a1 : Int) (w : World) (hs : ShR 1 w Q A n) :
    Calls Try.prog 43 #[.slice A n c, .int .i64 a1] w fun e w' => e = .returned (.int .i64 (mkI (footR A (n * 1)).length a1)) ∧ w' = jot (footR A (n * 1)) a1 w ∧ IntsOnly Q w w' := by
  have HS := Aside0.mk hs
  have HM := Aside0.mk hs.1
  have HI := Aside0.mk (IntsOnly.refl Q w)
  clear hs
  have hu3 := Try.underlying3
  go_enter Try.func43, Try.ntmps43
  go_wp2
  go_loopw [1, 5] (fun v1 v5 wr => ∃ (m x : Int), v1 = .int .i64 m ∧ v5 = .int .i64 x ∧ Aside0 (0 ≤ x ∧ x ≤ (n : Nat) ∧ m = mkI (footR A (x.toNat * 1)).length a1) ∧ Aside0 (IntsOnly Q w wr) ∧ Aside0 (wr = jot (footR A (x.toNat * 1)) a1 w)) (fun _ v5 _ => n - (intOf v5).toNat)
  case atStart => exact ⟨a1, 0, rfl, rfl, ⟨by omega, by omega, by rw [show footR A ((0 : Int).toNat * 1) = [] by rw [show (0 : Int).toNat * 1 = 0 from Nat.zero_mul _]; cases A <;> rfl]; rfl⟩, HI, ⟨by rw [show footR A ((0 : Int).toNat * 1) = [] by rw [show (0 : Int).toNat * 1 = 0 from Nat.zero_mul _]; cases A <;> rfl]; rfl⟩⟩
  case round =>
    clear HI
    obtain ⟨m, x, rfl, rfl, HX, HI, HJ⟩ := hrel
    by_cases c0 : x < ((n : Nat) : Int)
    · have c0b : decide (x < ((n : Nat) : Int)) = true := decide_eq_true c0
      obtain ⟨g, rfl, hp, hc⟩ := HS.out.2 (by have := HX.out.1; omega)
      have HG := Aside0.mk hp
      have HC := Aside0.mk hc
      have HL := Aside0.mk (show x.toNat * 1 + 1 ≤ n * 1 by have := HX.out.1; omega)
      clear hp hc
      have p0 := eq_true HX.out.1
      have q0 := eq_true c0
      have HC0 := Aside0.mk c0
      clear c0
      obtain ⟨z0, hz0⟩ := HI.out.int _ (HC.out (x.toNat) (by have := HL.out; omega)).1
      have hf0 : wr.frozen? ⟨g, x.toNat, none⟩ = false := (HI.out.frozen _).trans ((HC.out (x.toNat) (by have := HL.out; omega)).2)
      go_wp2
      go_roundw
      case rel =>
        have e1 : (wrap64 (x + 1)) = x + 1 := by have h1 := HX.out.1; have h2 := HC0.out; have h3 := HM.out; unfold wrap64; omega
        have hn1 : (x + 1).toNat = x.toNat + 1 := by have := HX.out.1; omega
        refine ⟨_, _, rfl, rfl, ⟨?_⟩, ⟨(by repeat (first | exact HI.out | refine IntsOnly.put ?_ HG.out (by first | exact (HC.out (x.toNat) (by have := HL.out; omega)).1) _))⟩, ⟨?_⟩⟩
        · rw [e1, hn1]
          refine ⟨by have := HX.out.1; omega, by have := HC0.out; omega, ?_⟩
          rw [Nat.add_mul, Nat.one_mul, footR_len, mkI_add]
          have h5 := HX.out.2.2
          rw [footR_len] at h5
          rw [← h5]
          rfl
        · rw [e1, hn1, Nat.add_mul, Nat.one_mul, footR_add g (x.toNat * 1) 1, jot_append, ← HX.out.2.2, ← HJ.out]
          simp [jot, List.range_succ]
      case measure =>
        have h1 := HX.out.1
        have h2 := HC0.out
        have h3 := HM.out
        have e1 : (wrap64 (x + 1)) = x + 1 := by unfold wrap64; omega
        rw [e1]
        simp [intOf]
        omega
    · have c0b : decide (x < ((n : Nat) : Int)) = false := decide_eq_false c0
      have q0 := eq_false c0
      have HE := Aside0.mk (show x.toNat = n by have := HX.out.1; have := HX.out.2.1; omega)
      clear c0
      go_wp2
      go_ret
      have h5 := HX.out.2.2
      have h6 := HJ.out
      rw [HE.out] at h5 h6
      exact ⟨by rw [h5]; (try rfl), h6, HI.out⟩
set_option maxHeartbeats 2000000 in
set_option maxRecDepth 100000 in
theorem markActS_ft (Q : Nat → Prop) (A : Option Addr) (l : List F57) (c : Nat) (a1 : Int) (w : World) (hs : F57.Ok w Q A l) :
    Calls Try.prog 76 #[.slice A l.length c, .int .i64 a1] w fun e w' => e = .returned (.int .i64 (mkI (foot57 A l).length a1)) ∧ w' = jot (foot57 A l) a1 w ∧ IntsOnly Q w w' := by
  have HS := Aside0.mk hs
  have HM := Aside0.mk hs.1
  have HI := Aside0.mk (IntsOnly.refl Q w)
  clear hs
  have hu3 := Try.underlying3
  have hu57 := Try.underlying57
  go_enter Try.func76, Try.ntmps76
  go_wp2
  go_loopw [1, 5] (fun v1 v5 wr => ∃ (m x : Int), v1 = .int .i64 m ∧ v5 = .int .i64 x ∧ Aside0 (0 ≤ x ∧ x ≤ (l.length : Nat) ∧ m = mkI (foot57 A (l.take x.toNat)).length a1) ∧ Aside0 (IntsOnly Q w wr) ∧ Aside0 (wr = jot (foot57 A (l.take x.toNat)) a1 w)) (fun _ v5 _ => l.length - (intOf v5).toNat)
  case atStart => exact ⟨a1, 0, rfl, rfl, ⟨by omega, by omega, by show a1 = mkI (foot57 A (l.take 0)).length a1; rw [foot57_nil]; rfl⟩, HI, ⟨by show w = jot (foot57 A (l.take 0)) a1 w; rw [foot57_nil]; rfl⟩⟩
  case round =>
    clear HI
    obtain ⟨m, x, rfl, rfl, HX, HI, HJ⟩ := hrel
    by_cases c0 : x < ((l.length : Nat) : Int)
    · have c0b : decide (x < ((l.length : Nat) : Int)) = true := decide_eq_true c0
      obtain ⟨g, rfl, hp, hfz, hc⟩ := HS.out.2 (by have := HX.out.1; omega)
      obtain ⟨q, hq⟩ : ∃ q, l[x.toNat]? = some q := ⟨_, List.getElem?_eq_getElem (by have := HX.out.1; omega)⟩
      have HH := Aside0.mk (hc x.toNat q hq)
      have HQ := Aside0.mk hq
      have HF := Aside0.mk hfz
      have HG := Aside0.mk hp
      clear hq hc hp hfz
      have p0 := eq_true HX.out.1
      have q0 := eq_true c0
      have HC0 := Aside0.mk c0
      clear c0
      obtain ⟨c1, hA1_, hs1_⟩ := HH.out.2.1
      have hA1 := Aside0.mk hA1_
      have hs1 := Aside0.mk hs1_
      clear hA1_ hs1_
      obtain ⟨c2, hA2_, hs2_⟩ := HH.out.2.2.1
      have hA2 := Aside0.mk hA2_
      have hs2 := Aside0.mk hs2_
      clear hA2_ hs2_
      obtain ⟨z0, hz0⟩ := HI.out.int _ (HH.out.1)
      have hf0 : wr.frozen? ⟨g, x.toNat * 4, none⟩ = false := (HI.out.frozen _).trans (HF.out _)
      have hz1 := HI.out.other _ _ hA1.out (by intro z; simp)
      go_wp2_with fail
      refine (markDeedS_ft Q _ _ _ _ _ (hs1.out.step (by repeat (first | exact HI.out | refine IntsOnly.put ?_ HG.out (by first | exact HH.out.1) _)))).mono ?_
      rintro e w1 ⟨rfl, hj0_, hi0_⟩
      have HJ0 := Aside0.mk hj0_
      have hi0 := Aside0.mk (show IntsOnly Q w _ from IntsOnly.trans (by repeat (first | exact HI.out | refine IntsOnly.put ?_ HG.out (by first | exact HH.out.1) _)) hi0_)
      clear hi0_ hj0_
      clear hz0 hf0 z0
      clear hz1
      have hz2 := hi0.out.other _ _ hA2.out (by intro z; simp)
      go_wp2_with fail
      refine (markIntS_ft Q _ _ _ _ _ (hs2.out.step hi0.out)).mono ?_
      rintro e w2 ⟨rfl, hj1_, hi1_⟩
      have HJ1 := Aside0.mk hj1_
      have hi1 := Aside0.mk (show IntsOnly Q w _ from IntsOnly.trans hi0.out hi1_)
      clear hi1_ hj1_
      clear hz2
      obtain ⟨z3, hz3⟩ := hi1.out.int _ (HH.out.2.2.2)
      have hf3 : w2.frozen? ⟨g, x.toNat * 4 + 3, none⟩ = false := (hi1.out.frozen _).trans (HF.out _)
      go_wp2
      go_roundw
      case rel =>
        have e1 : (wrap64 (x + 1)) = x + 1 := by have h1 := HX.out.1; have h2 := HC0.out; have h3 := HM.out; unfold wrap64; omega
        have hn1 : (x + 1).toNat = x.toNat + 1 := by have := HX.out.1; omega
        refine ⟨_, _, rfl, rfl, ⟨?_⟩, ⟨(by repeat (first | exact hi1.out | refine IntsOnly.put ?_ HG.out (by first | exact HH.out.2.2.2) _))⟩, ⟨?_⟩⟩
        · rw [e1, hn1]
          refine ⟨by have := HX.out.1; omega, by have := HC0.out; omega, ?_⟩
          rw [foot57_take g q l x.toNat HQ.out, List.length_append, mkI_add, ← HX.out.2.2]
          simp only [one57, List.length_append, List.length_cons, List.length_nil, Nat.mul_one, Nat.add_eq, mkI_add, mkI]
        · rw [e1, hn1, foot57_take g q l x.toNat HQ.out, jot_append, ← HX.out.2.2, ← HJ.out]
          have j0_ := HJ0.out
          subst j0_
          have j1_ := HJ1.out
          subst j1_
          simp only [one57, jot_append, jot, List.length_append, List.length_cons, List.length_nil, Nat.mul_one, Nat.add_eq, mkI_add, mkI]
      case measure =>
        have h1 := HX.out.1
        have h2 := HC0.out
        have h3 := HM.out
        have e1 : (wrap64 (x + 1)) = x + 1 := by unfold wrap64; omega
        rw [e1]
        simp [intOf]
        omega
    · have c0b : decide (x < ((l.length : Nat) : Int)) = false := decide_eq_false c0
      have q0 := eq_false c0
      have HE := Aside0.mk (show x.toNat = l.length by have := HX.out.1; have := HX.out.2.1; omega)
      clear c0
      go_wp2
      go_ret
      have h5 := HX.out.2.2
      have h6 := HJ.out
      rw [HE.out, List.take_length] at h5 h6
      exact ⟨by rw [h5]; (try rfl), h6, HI.out⟩
set_option maxHeartbeats 2000000 in
set_option maxRecDepth 100000 in
theorem markActSS_ft (Q : Nat → Prop) (A : Option Addr) (l : List F54) (c : Nat) (a1 : Int) (w : World) (hs : F54.Ok w Q A l) :
    Calls Try.prog 44 #[.slice A l.length c, .int .i64 a1] w fun e w' => e = .returned (.int .i64 (mkI (foot54 A l).length a1)) ∧ w' = jot (foot54 A l) a1 w ∧ IntsOnly Q w w' := by
  have HS := Aside0.mk hs
  have HM := Aside0.mk hs.1
  have HI := Aside0.mk (IntsOnly.refl Q w)
  clear hs
  have hu54 := Try.underlying54
  go_enter Try.func44, Try.ntmps44
  go_wp2
  go_loopw [1, 5] (fun v1 v5 wr => ∃ (m x : Int), v1 = .int .i64 m ∧ v5 = .int .i64 x ∧ Aside0 (0 ≤ x ∧ x ≤ (l.length : Nat) ∧ m = mkI (foot54 A (l.take x.toNat)).length a1) ∧ Aside0 (IntsOnly Q w wr) ∧ Aside0 (wr = jot (foot54 A (l.take x.toNat)) a1 w)) (fun _ v5 _ => l.length - (intOf v5).toNat)
  case atStart => exact ⟨a1, 0, rfl, rfl, ⟨by omega, by omega, by show a1 = mkI (foot54 A (l.take 0)).length a1; rw [foot54_nil]; rfl⟩, HI, ⟨by show w = jot (foot54 A (l.take 0)) a1 w; rw [foot54_nil]; rfl⟩⟩
  case round =>
    clear HI
    obtain ⟨m, x, rfl, rfl, HX, HI, HJ⟩ := hrel
    by_cases c0 : x < ((l.length : Nat) : Int)
    · have c0b : decide (x < ((l.length : Nat) : Int)) = true := decide_eq_true c0
      obtain ⟨g, rfl, hp, hfz, hc⟩ := HS.out.2 (by have := HX.out.1; omega)
      obtain ⟨q, hq⟩ : ∃ q, l[x.toNat]? = some q := ⟨_, List.getElem?_eq_getElem (by have := HX.out.1; omega)⟩
      have HH := Aside0.mk (hc x.toNat q hq)
      have HQ := Aside0.mk hq
      have HF := Aside0.mk hfz
      have HG := Aside0.mk hp
      clear hq hc hp hfz
      have p0 := eq_true HX.out.1
      have q0 := eq_true c0
      have HC0 := Aside0.mk c0
      clear c0
      obtain ⟨c0, hA0_, hs0_⟩ := HH.out
      have hA0 := Aside0.mk hA0_
      have hs0 := Aside0.mk hs0_
      clear hA0_ hs0_
      have hz0 := HI.out.other _ _ hA0.out (by intro z; simp)
      go_wp2_with fail
      refine (markActS_ft Q _ _ _ _ _ (hs0.out.step HI.out)).mono ?_
      rintro e w1 ⟨rfl, hj0_, hi0_⟩
      have HJ0 := Aside0.mk hj0_
      have hi0 := Aside0.mk (show IntsOnly Q w _ from IntsOnly.trans HI.out hi0_)
      clear hi0_ hj0_
      clear hz0
      go_wp2
      go_roundw
      case rel =>
        have e1 : (wrap64 (x + 1)) = x + 1 := by have h1 := HX.out.1; have h2 := HC0.out; have h3 := HM.out; unfold wrap64; omega
        have hn1 : (x + 1).toNat = x.toNat + 1 := by have := HX.out.1; omega
        refine ⟨_, _, rfl, rfl, ⟨?_⟩, ⟨hi0.out⟩, ⟨?_⟩⟩
        · rw [e1, hn1]
          refine ⟨by have := HX.out.1; omega, by have := HC0.out; omega, ?_⟩
          rw [foot54_take g q l x.toNat HQ.out, List.length_append, mkI_add, ← HX.out.2.2]
          simp only [one54, List.length_append, List.length_cons, List.length_nil, Nat.mul_one, Nat.add_eq, mkI_add, mkI]
        · rw [e1, hn1, foot54_take g q l x.toNat HQ.out, jot_append, ← HX.out.2.2, ← HJ.out]
          have j0_ := HJ0.out
          subst j0_
          simp only [one54, jot_append, jot, List.length_append, List.length_cons, List.length_nil, Nat.mul_one, Nat.add_eq, mkI_add, mkI]
      case measure =>
        have h1 := HX.out.1
        have h2 := HC0.out
        have h3 := HM.out
        have e1 : (wrap64 (x + 1)) = x + 1 := by unfold wrap64; omega
        rw [e1]
        simp [intOf]
        omega
    · have c0b : decide (x < ((l.length : Nat) : Int)) = false := decide_eq_false c0
      have q0 := eq_false c0
      have HE := Aside0.mk (show x.toNat = l.length by have := HX.out.1; have := HX.out.2.1; omega)
      clear c0
      go_wp2
      go_ret
      have h5 := HX.out.2.2
      have h6 := HJ.out
      rw [HE.out, List.take_length] at h5 h6
      exact ⟨by rw [h5]; (try rfl), h6, HI.out⟩
set_option maxHeartbeats 2000000 in
set_option maxRecDepth 100000 in
theorem markCellS_ft (Q : Nat → Prop) (A : Option Addr) (n : Nat) (c : Nat) (a1 : Int) (w : World) (hs : ShR 3 w Q A n) :
    Calls Try.prog 45 #[.slice A n c, .int .i64 a1] w fun e w' => e = .returned (.int .i64 (mkI (footR A (n * 3)).length a1)) ∧ w' = jot (footR A (n * 3)) a1 w ∧ IntsOnly Q w w' := by
  have HS := Aside0.mk hs
  have HM := Aside0.mk hs.1
  have HI := Aside0.mk (IntsOnly.refl Q w)
  clear hs
  have hu3 := Try.underlying3
  have hu69 := Try.underlying69
  go_enter Try.func45, Try.ntmps45
  go_wp2
  go_loopw [1, 5] (fun v1 v5 wr => ∃ (m x : Int), v1 = .int .i64 m ∧ v5 = .int .i64 x ∧ Aside0 (0 ≤ x ∧ x ≤ (n : Nat) ∧ m = mkI (footR A (x.toNat * 3)).length a1) ∧ Aside0 (IntsOnly Q w wr) ∧ Aside0 (wr = jot (footR A (x.toNat * 3)) a1 w)) (fun _ v5 _ => n - (intOf v5).toNat)
  case atStart => exact ⟨a1, 0, rfl, rfl, ⟨by omega, by omega, by rw [show footR A ((0 : Int).toNat * 3) = [] by rw [show (0 : Int).toNat * 3 = 0 from Nat.zero_mul _]; cases A <;> rfl]; rfl⟩, HI, ⟨by rw [show footR A ((0 : Int).toNat * 3) = [] by rw [show (0 : Int).toNat * 3 = 0 from Nat.zero_mul _]; cases A <;> rfl]; rfl⟩⟩
  case round =>
    clear HI
    obtain ⟨m, x, rfl, rfl, HX, HI, HJ⟩ := hrel
    by_cases c0 : x < ((n : Nat) : Int)
    · have c0b : decide (x < ((n : Nat) : Int)) = true := decide_eq_true c0
      obtain ⟨g, rfl, hp, hc⟩ := HS.out.2 (by have := HX.out.1; omega)
      have HG := Aside0.mk hp
      have HC := Aside0.mk hc
      have HL := Aside0.mk (show x.toNat * 3 + 3 ≤ n * 3 by have := HX.out.1; omega)
      clear hp hc
      have p0 := eq_true HX.out.1
      have q0 := eq_true c0
      have HC0 := Aside0.mk c0
      clear c0
      obtain ⟨z0, hz0⟩ := HI.out.int _ (HC.out (x.toNat * 3) (by have := HL.out; omega)).1
      have hf0 : wr.frozen? ⟨g, x.toNat * 3, none⟩ = false := (HI.out.frozen _).trans ((HC.out (x.toNat * 3) (by have := HL.out; omega)).2)
      obtain ⟨z1, hz1⟩ := HI.out.int _ (HC.out (x.toNat * 3 + 1) (by have := HL.out; omega)).1
      have hf1 : wr.frozen? ⟨g, x.toNat * 3 + 1, none⟩ = false := (HI.out.frozen _).trans ((HC.out (x.toNat * 3 + 1) (by have := HL.out; omega)).2)
      obtain ⟨z2, hz2⟩ := HI.out.int _ (HC.out (x.toNat * 3 + 2) (by have := HL.out; omega)).1
      have hf2 : wr.frozen? ⟨g, x.toNat * 3 + 2, none⟩ = false := (HI.out.frozen _).trans ((HC.out (x.toNat * 3 + 2) (by have := HL.out; omega)).2)
      go_wp2
      go_roundw
      case rel =>
        have e1 : (wrap64 (x + 1)) = x + 1 := by have h1 := HX.out.1; have h2 := HC0.out; have h3 := HM.out; unfold wrap64; omega
        have hn1 : (x + 1).toNat = x.toNat + 1 := by have := HX.out.1; omega
        refine ⟨_, _, rfl, rfl, ⟨?_⟩, ⟨(by repeat (first | exact HI.out | refine IntsOnly.put ?_ HG.out (by first | exact (HC.out (x.toNat * 3) (by have := HL.out; omega)).1 | exact (HC.out (x.toNat * 3 + 1) (by have := HL.out; omega)).1 | exact (HC.out (x.toNat * 3 + 2) (by have := HL.out; omega)).1) _))⟩, ⟨?_⟩⟩
        · rw [e1, hn1]
          refine ⟨by have := HX.out.1; omega, by have := HC0.out; omega, ?_⟩
          rw [Nat.add_mul, Nat.one_mul, footR_len, mkI_add]
          have h5 := HX.out.2.2
          rw [footR_len] at h5
          rw [← h5]
          rfl
        · rw [e1, hn1, Nat.add_mul, Nat.one_mul, footR_add g (x.toNat * 3) 3, jot_append, ← HX.out.2.2, ← HJ.out]
          simp [jot, List.range_succ]
      case measure =>
        have h1 := HX.out.1
        have h2 := HC0.out
        have h3 := HM.out
        have e1 : (wrap64 (x + 1)) = x + 1 := by unfold wrap64; omega
        rw [e1]
        simp [intOf]
        omega
    · have c0b : decide (x < ((n : Nat) : Int)) = false := decide_eq_false c0
      have q0 := eq_false c0
      have HE := Aside0.mk (show x.toNat = n by have := HX.out.1; have := HX.out.2.1; omega)
      clear c0
      go_wp2
      go_ret
      have h5 := HX.out.2.2
      have h6 := HJ.out
      rw [HE.out] at h5 h6
      exact ⟨by rw [h5]; (try rfl), h6, HI.out⟩
set_option maxHeartbeats 2000000 in
set_option maxRecDepth 100000 in
theorem markPutS_ft (Q : Nat → Prop) (A : Option Addr) (n : Nat) (c : Nat) (a1 : Int) (w : World) (hs : ShR 2 w Q A n) :
    Calls Try.prog 54 #[.slice A n c, .int .i64 a1] w fun e w' => e = .returned (.int .i64 (mkI (footR A (n * 2)).length a1)) ∧ w' = jot (footR A (n * 2)) a1 w ∧ IntsOnly Q w w' := by
  have HS := Aside0.mk hs
  have HM := Aside0.mk hs.1
  have HI := Aside0.mk (IntsOnly.refl Q w)
  clear hs
  have hu3 := Try.underlying3
  have hu115 := Try.underlying115
  go_enter Try.func54, Try.ntmps54
  go_wp2
  go_loopw [1, 5] (fun v1 v5 wr => ∃ (m x : Int), v1 = .int .i64 m ∧ v5 = .int .i64 x ∧ Aside0 (0 ≤ x ∧ x ≤ (n : Nat) ∧ m = mkI (footR A (x.toNat * 2)).length a1) ∧ Aside0 (IntsOnly Q w wr) ∧ Aside0 (wr = jot (footR A (x.toNat * 2)) a1 w)) (fun _ v5 _ => n - (intOf v5).toNat)
  case atStart => exact ⟨a1, 0, rfl, rfl, ⟨by omega, by omega, by rw [show footR A ((0 : Int).toNat * 2) = [] by rw [show (0 : Int).toNat * 2 = 0 from Nat.zero_mul _]; cases A <;> rfl]; rfl⟩, HI, ⟨by rw [show footR A ((0 : Int).toNat * 2) = [] by rw [show (0 : Int).toNat * 2 = 0 from Nat.zero_mul _]; cases A <;> rfl]; rfl⟩⟩
  case round =>
    clear HI
    obtain ⟨m, x, rfl, rfl, HX, HI, HJ⟩ := hrel
    by_cases c0 : x < ((n : Nat) : Int)
    · have c0b : decide (x < ((n : Nat) : Int)) = true := decide_eq_true c0
      obtain ⟨g, rfl, hp, hc⟩ := HS.out.2 (by have := HX.out.1; omega)
      have HG := Aside0.mk hp
      have HC := Aside0.mk hc
      have HL := Aside0.mk (show x.toNat * 2 + 2 ≤ n * 2 by have := HX.out.1; omega)
      clear hp hc
      have p0 := eq_true HX.out.1
      have q0 := eq_true c0
      have HC0 := Aside0.mk c0
      clear c0
      obtain ⟨z0, hz0⟩ := HI.out.int _ (HC.out (x.toNat * 2) (by have := HL.out; omega)).1
      have hf0 : wr.frozen? ⟨g, x.toNat * 2, none⟩ = false := (HI.out.frozen _).trans ((HC.out (x.toNat * 2) (by have := HL.out; omega)).2)
      obtain ⟨z1, hz1⟩ := HI.out.int _ (HC.out (x.toNat * 2 + 1) (by have := HL.out; omega)).1
      have hf1 : wr.frozen? ⟨g, x.toNat * 2 + 1, none⟩ = false := (HI.out.frozen _).trans ((HC.out (x.toNat * 2 + 1) (by have := HL.out; omega)).2)
      go_wp2
      go_roundw
      case rel =>
        have e1 : (wrap64 (x + 1)) = x + 1 := by have h1 := HX.out.1; have h2 := HC0.out; have h3 := HM.out; unfold wrap64; omega
        have hn1 : (x + 1).toNat = x.toNat + 1 := by have := HX.out.1; omega
        refine ⟨_, _, rfl, rfl, ⟨?_⟩, ⟨(by repeat (first | exact HI.out | refine IntsOnly.put ?_ HG.out (by first | exact (HC.out (x.toNat * 2) (by have := HL.out; omega)).1 | exact (HC.out (x.toNat * 2 + 1) (by have := HL.out; omega)).1) _))⟩, ⟨?_⟩⟩
        · rw [e1, hn1]
          refine ⟨by have := HX.out.1; omega, by have := HC0.out; omega, ?_⟩
          rw [Nat.add_mul, Nat.one_mul, footR_len, mkI_add]
          have h5 := HX.out.2.2
          rw [footR_len] at h5
          rw [← h5]
          rfl
        · rw [e1, hn1, Nat.add_mul, Nat.one_mul, footR_add g (x.toNat * 2) 2, jot_append, ← HX.out.2.2, ← HJ.out]
          simp [jot, List.range_succ]
      case measure =>
        have h1 := HX.out.1
        have h2 := HC0.out
        have h3 := HM.out
        have e1 : (wrap64 (x + 1)) = x + 1 := by unfold wrap64; omega
        rw [e1]
        simp [intOf]
        omega
    · have c0b : decide (x < ((n : Nat) : Int)) = false := decide_eq_false c0
      have q0 := eq_false c0
      have HE := Aside0.mk (show x.toNat = n by have := HX.out.1; have := HX.out.2.1; omega)
      clear c0
      go_wp2
      go_ret
      have h5 := HX.out.2.2
      have h6 := HJ.out
      rw [HE.out] at h5 h6
      exact ⟨by rw [h5]; (try rfl), h6, HI.out⟩
set_option maxHeartbeats 2000000 in
set_option maxRecDepth 100000 in
theorem markEntryS_ft (Q : Nat → Prop) (A : Option Addr) (l : List F84) (c : Nat) (a1 : Int) (w : World) (hs : F84.Ok w Q A l) :
    Calls Try.prog 23 #[.slice A l.length c, .int .i64 a1] w fun e w' => e = .returned (.int .i64 (mkI (foot84 A l).length a1)) ∧ w' = jot (foot84 A l) a1 w ∧ IntsOnly Q w w' := by
  have HS := Aside0.mk hs
  have HM := Aside0.mk hs.1
  have HI := Aside0.mk (IntsOnly.refl Q w)
  clear hs
  have hu3 := Try.underlying3
  have hu84 := Try.underlying84
  go_enter Try.func23, Try.ntmps23
  go_wp2
  go_loopw [1, 5] (fun v1 v5 wr => ∃ (m x : Int), v1 = .int .i64 m ∧ v5 = .int .i64 x ∧ Aside0 (0 ≤ x ∧ x ≤ (l.length : Nat) ∧ m = mkI (foot84 A (l.take x.toNat)).length a1) ∧ Aside0 (IntsOnly Q w wr) ∧ Aside0 (wr = jot (foot84 A (l.take x.toNat)) a1 w)) (fun _ v5 _ => l.length - (intOf v5).toNat)
  case atStart => exact ⟨a1, 0, rfl, rfl, ⟨by omega, by omega, by show a1 = mkI (foot84 A (l.take 0)).length a1; rw [foot84_nil]; rfl⟩, HI, ⟨by show w = jot (foot84 A (l.take 0)) a1 w; rw [foot84_nil]; rfl⟩⟩
  case round =>
    clear HI
    obtain ⟨m, x, rfl, rfl, HX, HI, HJ⟩ := hrel
    by_cases c0 : x < ((l.length : Nat) : Int)
    · have c0b : decide (x < ((l.length : Nat) : Int)) = true := decide_eq_true c0
      obtain ⟨g, rfl, hp, hfz, hc⟩ := HS.out.2 (by have := HX.out.1; omega)
      obtain ⟨q, hq⟩ : ∃ q, l[x.toNat]? = some q := ⟨_, List.getElem?_eq_getElem (by have := HX.out.1; omega)⟩
      have HH := Aside0.mk (hc x.toNat q hq)
      have HQ := Aside0.mk hq
      have HF := Aside0.mk hfz
      have HG := Aside0.mk hp
      clear hq hc hp hfz
      have p0 := eq_true HX.out.1
      have q0 := eq_true c0
      have HC0 := Aside0.mk c0
      clear c0
      obtain ⟨c3, hA3_, hs3_⟩ := HH.out.2.2.2.1
      have hA3 := Aside0.mk hA3_
      have hs3 := Aside0.mk hs3_
      clear hA3_ hs3_
      obtain ⟨c4, hA4_, hs4_⟩ := HH.out.2.2.2.2.1
      have hA4 := Aside0.mk hA4_
      have hs4 := Aside0.mk hs4_
      clear hA4_ hs4_
      obtain ⟨z0, hz0⟩ := HI.out.int _ (HH.out.1)
      have hf0 : wr.frozen? ⟨g, x.toNat * 6, none⟩ = false := (HI.out.frozen _).trans (HF.out _)
      obtain ⟨z1, hz1⟩ := HI.out.int _ (HH.out.2.1)
      have hf1 : wr.frozen? ⟨g, x.toNat * 6 + 1, none⟩ = false := (HI.out.frozen _).trans (HF.out _)
      obtain ⟨z2, hz2⟩ := HI.out.int _ (HH.out.2.2.1)
      have hf2 : wr.frozen? ⟨g, x.toNat * 6 + 2, none⟩ = false := (HI.out.frozen _).trans (HF.out _)
      have hz3 := HI.out.other _ _ hA3.out (by intro z; simp)
      go_wp2_with fail
      refine (markPutS_ft Q _ _ _ _ _ (hs3.out.step (by repeat (first | exact HI.out | refine IntsOnly.put ?_ HG.out (by first | exact HH.out.1 | exact HH.out.2.1 | exact HH.out.2.2.1) _)))).mono ?_
      rintro e w1 ⟨rfl, hj0_, hi0_⟩
      have HJ0 := Aside0.mk hj0_
      have hi0 := Aside0.mk (show IntsOnly Q w _ from IntsOnly.trans (by repeat (first | exact HI.out | refine IntsOnly.put ?_ HG.out (by first | exact HH.out.1 | exact HH.out.2.1 | exact HH.out.2.2.1) _)) hi0_)
      clear hi0_ hj0_
      clear hz0 hf0 z0
      clear hz1 hf1 z1
      clear hz2 hf2 z2
      clear hz3
      have hz4 := hi0.out.other _ _ hA4.out (by intro z; simp)
      go_wp2_with fail
      refine (markPutS_ft Q _ _ _ _ _ (hs4.out.step hi0.out)).mono ?_
      rintro e w2 ⟨rfl, hj1_, hi1_⟩
      have HJ1 := Aside0.mk hj1_
      have hi1 := Aside0.mk (show IntsOnly Q w _ from IntsOnly.trans hi0.out hi1_)
      clear hi1_ hj1_
      clear hz4
      obtain ⟨z5, hz5⟩ := hi1.out.int _ (HH.out.2.2.2.2.2)
      have hf5 : w2.frozen? ⟨g, x.toNat * 6 + 5, none⟩ = false := (hi1.out.frozen _).trans (HF.out _)
      go_wp2
      go_roundw
      case rel =>
        have e1 : (wrap64 (x + 1)) = x + 1 := by have h1 := HX.out.1; have h2 := HC0.out; have h3 := HM.out; unfold wrap64; omega
        have hn1 : (x + 1).toNat = x.toNat + 1 := by have := HX.out.1; omega
        refine ⟨_, _, rfl, rfl, ⟨?_⟩, ⟨(by repeat (first | exact hi1.out | refine IntsOnly.put ?_ HG.out (by first | exact HH.out.2.2.2.2.2) _))⟩, ⟨?_⟩⟩
        · rw [e1, hn1]
          refine ⟨by have := HX.out.1; omega, by have := HC0.out; omega, ?_⟩
          rw [foot84_take g q l x.toNat HQ.out, List.length_append, mkI_add, ← HX.out.2.2]
          simp only [one84, List.length_append, List.length_cons, List.length_nil, Nat.mul_one, Nat.add_eq, mkI_add, mkI]
        · rw [e1, hn1, foot84_take g q l x.toNat HQ.out, jot_append, ← HX.out.2.2, ← HJ.out]
          have j0_ := HJ0.out
          subst j0_
          have j1_ := HJ1.out
          subst j1_
          simp only [one84, jot_append, jot, List.length_append, List.length_cons, List.length_nil, Nat.mul_one, Nat.add_eq, mkI_add, mkI]
      case measure =>
        have h1 := HX.out.1
        have h2 := HC0.out
        have h3 := HM.out
        have e1 : (wrap64 (x + 1)) = x + 1 := by unfold wrap64; omega
        rw [e1]
        simp [intOf]
        omega
    · have c0b : decide (x < ((l.length : Nat) : Int)) = false := decide_eq_false c0
      have q0 := eq_false c0
      have HE := Aside0.mk (show x.toNat = l.length by have := HX.out.1; have := HX.out.2.1; omega)
      clear c0
      go_wp2
      go_ret
      have h5 := HX.out.2.2
      have h6 := HJ.out
      rw [HE.out, List.take_length] at h5 h6
      exact ⟨by rw [h5]; (try rfl), h6, HI.out⟩
set_option maxHeartbeats 2000000 in
set_option maxRecDepth 100000 in
theorem markTaskS_ft (Q : Nat → Prop) (A : Option Addr) (l : List F66) (c : Nat) (a1 : Int) (w : World) (hs : F66.Ok w Q A l) :
    Calls Try.prog 46 #[.slice A l.length c, .int .i64 a1] w fun e w' => e = .returned (.int .i64 (mkI (foot66 A l).length a1)) ∧ w' = jot (foot66 A l) a1 w ∧ IntsOnly Q w w' := by
  have HS := Aside0.mk hs
  have HM := Aside0.mk hs.1
  have HI := Aside0.mk (IntsOnly.refl Q w)
  clear hs
  have hu3 := Try.underlying3
  have hu66 := Try.underlying66
  go_enter Try.func46, Try.ntmps46
  go_wp2
  go_loopw [1, 5] (fun v1 v5 wr => ∃ (m x : Int), v1 = .int .i64 m ∧ v5 = .int .i64 x ∧ Aside0 (0 ≤ x ∧ x ≤ (l.length : Nat) ∧ m = mkI (foot66 A (l.take x.toNat)).length a1) ∧ Aside0 (IntsOnly Q w wr) ∧ Aside0 (wr = jot (foot66 A (l.take x.toNat)) a1 w)) (fun _ v5 _ => l.length - (intOf v5).toNat)
  case atStart => exact ⟨a1, 0, rfl, rfl, ⟨by omega, by omega, by show a1 = mkI (foot66 A (l.take 0)).length a1; rw [foot66_nil]; rfl⟩, HI, ⟨by show w = jot (foot66 A (l.take 0)) a1 w; rw [foot66_nil]; rfl⟩⟩
  case round =>
    clear HI
    obtain ⟨m, x, rfl, rfl, HX, HI, HJ⟩ := hrel
    by_cases c0 : x < ((l.length : Nat) : Int)
    · have c0b : decide (x < ((l.length : Nat) : Int)) = true := decide_eq_true c0
      obtain ⟨g, rfl, hp, hfz, hc⟩ := HS.out.2 (by have := HX.out.1; omega)
      obtain ⟨q, hq⟩ : ∃ q, l[x.toNat]? = some q := ⟨_, List.getElem?_eq_getElem (by have := HX.out.1; omega)⟩
      have HH := Aside0.mk (hc x.toNat q hq)
      have HQ := Aside0.mk hq
      have HF := Aside0.mk hfz
      have HG := Aside0.mk hp
      clear hq hc hp hfz
      have p0 := eq_true HX.out.1
      have q0 := eq_true c0
      have HC0 := Aside0.mk c0
      clear c0
      obtain ⟨c3, hA3_, hs3_⟩ := HH.out.2.2.2.1
      have hA3 := Aside0.mk hA3_
      have hs3 := Aside0.mk hs3_
      clear hA3_ hs3_
      obtain ⟨c8, hA8_, hs8_⟩ := HH.out.2.2.2.2.2.2.2.2.1
      have hA8 := Aside0.mk hA8_
      have hs8 := Aside0.mk hs8_
      clear hA8_ hs8_
      obtain ⟨c9, hA9_, hs9_⟩ := HH.out.2.2.2.2.2.2.2.2.2.1
      have hA9 := Aside0.mk hA9_
      have hs9 := Aside0.mk hs9_
      clear hA9_ hs9_
      obtain ⟨c10, hA10_, hs10_⟩ := HH.out.2.2.2.2.2.2.2.2.2.2.1
      have hA10 := Aside0.mk hA10_
      have hs10 := Aside0.mk hs10_
      clear hA10_ hs10_
      obtain ⟨z0, hz0⟩ := HI.out.int _ (HH.out.1)
      have hf0 : wr.frozen? ⟨g, x.toNat * 13, none⟩ = false := (HI.out.frozen _).trans (HF.out _)
      obtain ⟨z1, hz1⟩ := HI.out.int _ (HH.out.2.1)
      have hf1 : wr.frozen? ⟨g, x.toNat * 13 + 1, none⟩ = false := (HI.out.frozen _).trans (HF.out _)
      obtain ⟨z2, hz2⟩ := HI.out.int _ (HH.out.2.2.1)
      have hf2 : wr.frozen? ⟨g, x.toNat * 13 + 2, none⟩ = false := (HI.out.frozen _).trans (HF.out _)
      have hz3 := HI.out.other _ _ hA3.out (by intro z; simp)
      go_wp2_with fail
      refine (markIntS_ft Q _ _ _ _ _ (hs3.out.step (by repeat (first | exact HI.out | refine IntsOnly.put ?_ HG.out (by first | exact HH.out.1 | exact HH.out.2.1 | exact HH.out.2.2.1) _)))).mono ?_
      rintro e w1 ⟨rfl, hj0_, hi0_⟩
      have HJ0 := Aside0.mk hj0_
      have hi0 := Aside0.mk (show IntsOnly Q w _ from IntsOnly.trans (by repeat (first | exact HI.out | refine IntsOnly.put ?_ HG.out (by first | exact HH.out.1 | exact HH.out.2.1 | exact HH.out.2.2.1) _)) hi0_)
      clear hi0_ hj0_
      clear hz0 hf0 z0
      clear hz1 hf1 z1
      clear hz2 hf2 z2
      clear hz3
      obtain ⟨z4, hz4⟩ := hi0.out.int _ (HH.out.2.2.2.2.1)
      have hf4 : w1.frozen? ⟨g, x.toNat * 13 + 4, none⟩ = false := (hi0.out.frozen _).trans (HF.out _)
      obtain ⟨z5, hz5⟩ := hi0.out.int _ (HH.out.2.2.2.2.2.1)
      have hf5 : w1.frozen? ⟨g, x.toNat * 13 + 5, none⟩ = false := (hi0.out.frozen _).trans (HF.out _)
      obtain ⟨z6, hz6⟩ := hi0.out.int _ (HH.out.2.2.2.2.2.2.1)
      have hf6 : w1.frozen? ⟨g, x.toNat * 13 + 6, none⟩ = false := (hi0.out.frozen _).trans (HF.out _)
      obtain ⟨z7, hz7⟩ := hi0.out.int _ (HH.out.2.2.2.2.2.2.2.1)
      have hf7 : w1.frozen? ⟨g, x.toNat * 13 + 7, none⟩ = false := (hi0.out.frozen _).trans (HF.out _)
      have hz8 := hi0.out.other _ _ hA8.out (by intro z; simp)
      go_wp2_with fail
      refine (markIntS_ft Q _ _ _ _ _ (hs8.out.step (by repeat (first | exact hi0.out | refine IntsOnly.put ?_ HG.out (by first | exact HH.out.2.2.2.2.1 | exact HH.out.2.2.2.2.2.1 | exact HH.out.2.2.2.2.2.2.1 | exact HH.out.2.2.2.2.2.2.2.1) _)))).mono ?_
      rintro e w2 ⟨rfl, hj1_, hi1_⟩
      have HJ1 := Aside0.mk hj1_
      have hi1 := Aside0.mk (show IntsOnly Q w _ from IntsOnly.trans (by repeat (first | exact hi0.out | refine IntsOnly.put ?_ HG.out (by first | exact HH.out.2.2.2.2.1 | exact HH.out.2.2.2.2.2.1 | exact HH.out.2.2.2.2.2.2.1 | exact HH.out.2.2.2.2.2.2.2.1) _)) hi1_)
      clear hi1_ hj1_
      clear hz4 hf4 z4
      clear hz5 hf5 z5
      clear hz6 hf6 z6
      clear hz7 hf7 z7
      clear hz8
      have hz9 := hi1.out.other _ _ hA9.out (by intro z; simp)
      go_wp2_with fail
      refine (markPutS_ft Q _ _ _ _ _ (hs9.out.step hi1.out)).mono ?_
      rintro e w3 ⟨rfl, hj2_, hi2_⟩
      have HJ2 := Aside0.mk hj2_
      have hi2 := Aside0.mk (show IntsOnly Q w _ from IntsOnly.trans hi1.out hi2_)
      clear hi2_ hj2_
      clear hz9
      have hz10 := hi2.out.other _ _ hA10.out (by intro z; simp)
      go_wp2_with fail
      refine (markPutS_ft Q _ _ _ _ _ (hs10.out.step hi2.out)).mono ?_
      rintro e w4 ⟨rfl, hj3_, hi3_⟩
      have HJ3 := Aside0.mk hj3_
      have hi3 := Aside0.mk (show IntsOnly Q w _ from IntsOnly.trans hi2.out hi3_)
      clear hi3_ hj3_
      clear hz10
      obtain ⟨z11, hz11⟩ := hi3.out.int _ (HH.out.2.2.2.2.2.2.2.2.2.2.2.1)
      have hf11 : w4.frozen? ⟨g, x.toNat * 13 + 11, none⟩ = false := (hi3.out.frozen _).trans (HF.out _)
      obtain ⟨z12, hz12⟩ := hi3.out.int _ (HH.out.2.2.2.2.2.2.2.2.2.2.2.2)
      have hf12 : w4.frozen? ⟨g, x.toNat * 13 + 12, none⟩ = false := (hi3.out.frozen _).trans (HF.out _)
      go_wp2
      go_roundw
      case rel =>
        have e1 : (wrap64 (x + 1)) = x + 1 := by have h1 := HX.out.1; have h2 := HC0.out; have h3 := HM.out; unfold wrap64; omega
        have hn1 : (x + 1).toNat = x.toNat + 1 := by have := HX.out.1; omega
        refine ⟨_, _, rfl, rfl, ⟨?_⟩, ⟨(by repeat (first | exact hi3.out | refine IntsOnly.put ?_ HG.out (by first | exact HH.out.2.2.2.2.2.2.2.2.2.2.2.1 | exact HH.out.2.2.2.2.2.2.2.2.2.2.2.2) _))⟩, ⟨?_⟩⟩
        · rw [e1, hn1]
          refine ⟨by have := HX.out.1; omega, by have := HC0.out; omega, ?_⟩
          rw [foot66_take g q l x.toNat HQ.out, List.length_append, mkI_add, ← HX.out.2.2]
          simp only [one66, List.length_append, List.length_cons, List.length_nil, Nat.mul_one, Nat.add_eq, mkI_add, mkI]
        · rw [e1, hn1, foot66_take g q l x.toNat HQ.out, jot_append, ← HX.out.2.2, ← HJ.out]
          have j0_ := HJ0.out
          subst j0_
          have j1_ := HJ1.out
          subst j1_
          have j2_ := HJ2.out
          subst j2_
          have j3_ := HJ3.out
          subst j3_
          simp only [one66, jot_append, jot, List.length_append, List.length_cons, List.length_nil, Nat.mul_one, Nat.add_eq, mkI_add, mkI]
      case measure =>
        have h1 := HX.out.1
        have h2 := HC0.out
        have h3 := HM.out
        have e1 : (wrap64 (x + 1)) = x + 1 := by unfold wrap64; omega
        rw [e1]
        simp [intOf]
        omega
    · have c0b : decide (x < ((l.length : Nat) : Int)) = false := decide_eq_false c0
      have q0 := eq_false c0
      have HE := Aside0.mk (show x.toNat = l.length by have := HX.out.1; have := HX.out.2.1; omega)
      clear c0
      go_wp2
      go_ret
      have h5 := HX.out.2.2
      have h6 := HJ.out
      rw [HE.out, List.take_length] at h5 h6
      exact ⟨by rw [h5]; (try rfl), h6, HI.out⟩
set_option maxHeartbeats 2000000 in
set_option maxRecDepth 100000 in
theorem heldCellS_ft (Q : Nat → Prop) (A : Option Addr) (n : Nat) (c : Nat) (a1 : Int) (w : World) (hs : ShR 3 w Q A n) (hh : HoldsN w (footR A (n * 3)) a1) (h0 : 0 ≤ a1) (h1 : a1 + (footR A (n * 3)).length ≤ 9223372036854775807) :
    Calls Try.prog 47 #[.slice A n c, .int .i64 a1] w fun e w' => e = .returned (.int .i64 (a1 + (footR A (n * 3)).length)) ∧ w = w' := by
  have HS := Aside0.mk hs
  have HM := Aside0.mk hs.1
  have HD := SameW.mk (rfl : w = w)
  have HH0 := Aside0.mk hh
  have HL1 := Aside0.mk (show 0 ≤ a1 ∧ a1 + (footR A (n * 3)).length ≤ 9223372036854775807 from ⟨h0, h1⟩)
  clear hs hh h0 h1
  have hu3 := Try.underlying3
  have hu69 := Try.underlying69
  go_enter Try.func47, Try.ntmps47
  go_wp2
  go_loopw [1, 5] (fun v1 v5 wr => ∃ (m x : Int), v1 = .int .i64 m ∧ v5 = .int .i64 x ∧ Aside0 (0 ≤ x ∧ x ≤ (n : Nat) ∧ m = a1 + ((footR A (x.toNat * 3)).length : Int)) ∧ SameW w wr) (fun _ v5 _ => n - (intOf v5).toNat)
  case atStart => exact ⟨a1, 0, rfl, rfl, ⟨by omega, by omega, by rw [show footR A ((0 : Int).toNat * 3) = [] by rw [show (0 : Int).toNat * 3 = 0 from Nat.zero_mul _]; cases A <;> rfl]; simp⟩, ⟨rfl⟩⟩
  case round =>
    clear HD
    obtain ⟨m, x, rfl, rfl, HX, HD⟩ := hrel
    obtain rfl := HD.out
    clear HD
    by_cases c0 : x < ((n : Nat) : Int)
    · have c0b : decide (x < ((n : Nat) : Int)) = true := decide_eq_true c0
      obtain ⟨g, rfl, hp, hc⟩ := HS.out.2 (by have := HX.out.1; omega)
      have HG := Aside0.mk hp
      have HC := Aside0.mk hc
      have HL := Aside0.mk (show x.toNat * 3 + 3 ≤ n * 3 by have := HX.out.1; omega)
      clear hp hc
      have p0 := eq_true HX.out.1
      have q0 := eq_true c0
      have HC0 := Aside0.mk c0
      clear c0
      have HO_ := HH0.out
      rw [show n * 3 = x.toNat * 3 + (3 + (n - x.toNat - 1) * 3) by have := HL.out; omega, footR_add, List.range_add, List.map_append, HoldsN_append, HoldsN_append, footR_len] at HO_
      obtain ⟨-, HO_, -⟩ := HO_
      have hm_ := HX.out.2.2
      rw [footR_len] at hm_
      rw [← hm_] at HO_
      have HL2 : 0 ≤ m ∧ m + 3 ≤ 9223372036854775807 := by have h1 := HL1.out; rw [footR_len] at h1; have := HL.out; omega
      clear hm_
      simp only [List.range_succ, List.range_zero, List.nil_append, List.map_append, List.map_cons, List.map_nil, List.cons_append, HoldsN, and_true, Nat.add_zero, Nat.mul_one] at HO_
      obtain ⟨o0, o1, o2⟩ := HO_
      have HB := Aside0.mk HL2
      have O0 := Aside0.mk o0
      clear o0
      have O1 := Aside0.mk o1
      clear o1
      have O2 := Aside0.mk o2
      clear o2
      clear HL2
      have b0 : 0 ≤ m := HB.out.1
      have b1 : m ≤ 9223372036854775807 - 3 := by have := HB.out.2; omega
      have hz0 : w.cell? ⟨g, x.toNat * 3, none⟩ = some (.int .i64 _) := O0.out
      have hz1 : w.cell? ⟨g, x.toNat * 3 + 1, none⟩ = some (.int .i64 _) := O1.out
      have hz2 : w.cell? ⟨g, x.toNat * 3 + 2, none⟩ = some (.int .i64 _) := O2.out
      go_wp2
      go_roundw
      case rel =>
        have e1 : (wrap64 (x + 1)) = x + 1 := by have h1 := HX.out.1; have h2 := HC0.out; have h3 := HM.out; unfold wrap64; omega
        have hn1 : (x + 1).toNat = x.toNat + 1 := by have := HX.out.1; omega
        refine ⟨_, _, rfl, rfl, ⟨?_⟩, ⟨rfl⟩⟩
        rw [e1, hn1, footR_len]
        have h5 := HX.out.2.2
        rw [footR_len] at h5
        exact ⟨by have := HX.out.1; omega, by have := HC0.out; omega, by omega⟩
      case measure =>
        have h1 := HX.out.1
        have h2 := HC0.out
        have h3 := HM.out
        have e1 : (wrap64 (x + 1)) = x + 1 := by unfold wrap64; omega
        rw [e1]
        simp [intOf]
        omega
    · have c0b : decide (x < ((n : Nat) : Int)) = false := decide_eq_false c0
      have q0 := eq_false c0
      have HE := Aside0.mk (show x.toNat = n by have := HX.out.1; have := HX.out.2.1; omega)
      clear c0
      go_wp2
      go_ret
      have h5 := HX.out.2.2
      rw [HE.out] at h5
      exact ⟨by rw [h5]; (try rfl), rfl⟩
set_option maxHeartbeats 2000000 in
set_option maxRecDepth 100000 in
theorem heldPutS_ft (Q : Nat → Prop) (A : Option Addr) (n : Nat) (c : Nat) (a1 : Int) (w : World) (hs : ShR 2 w Q A n) (hh : HoldsN w (footR A (n * 2)) a1) (h0 : 0 ≤ a1) (h1 : a1 + (footR A (n * 2)).length ≤ 9223372036854775807) :
    Calls Try.prog 55 #[.slice A n c, .int .i64 a1] w fun e w' => e = .returned (.int .i64 (a1 + (footR A (n * 2)).length)) ∧ w = w' := by
  have HS := Aside0.mk hs
  have HM := Aside0.mk hs.1
  have HD := SameW.mk (rfl : w = w)
  have HH0 := Aside0.mk hh
  have HL1 := Aside0.mk (show 0 ≤ a1 ∧ a1 + (footR A (n * 2)).length ≤ 9223372036854775807 from ⟨h0, h1⟩)
  clear hs hh h0 h1
  have hu3 := Try.underlying3
  have hu115 := Try.underlying115
  go_enter Try.func55, Try.ntmps55
  go_wp2
  go_loopw [1, 5] (fun v1 v5 wr => ∃ (m x : Int), v1 = .int .i64 m ∧ v5 = .int .i64 x ∧ Aside0 (0 ≤ x ∧ x ≤ (n : Nat) ∧ m = a1 + ((footR A (x.toNat * 2)).length : Int)) ∧ SameW w wr) (fun _ v5 _ => n - (intOf v5).toNat)
  case atStart => exact ⟨a1, 0, rfl, rfl, ⟨by omega, by omega, by rw [show footR A ((0 : Int).toNat * 2) = [] by rw [show (0 : Int).toNat * 2 = 0 from Nat.zero_mul _]; cases A <;> rfl]; simp⟩, ⟨rfl⟩⟩
  case round =>
    clear HD
    obtain ⟨m, x, rfl, rfl, HX, HD⟩ := hrel
    obtain rfl := HD.out
    clear HD
    by_cases c0 : x < ((n : Nat) : Int)
    · have c0b : decide (x < ((n : Nat) : Int)) = true := decide_eq_true c0
      obtain ⟨g, rfl, hp, hc⟩ := HS.out.2 (by have := HX.out.1; omega)
      have HG := Aside0.mk hp
      have HC := Aside0.mk hc
      have HL := Aside0.mk (show x.toNat * 2 + 2 ≤ n * 2 by have := HX.out.1; omega)
      clear hp hc
      have p0 := eq_true HX.out.1
      have q0 := eq_true c0
      have HC0 := Aside0.mk c0
      clear c0
      have HO_ := HH0.out
      rw [show n * 2 = x.toNat * 2 + (2 + (n - x.toNat - 1) * 2) by have := HL.out; omega, footR_add, List.range_add, List.map_append, HoldsN_append, HoldsN_append, footR_len] at HO_
      obtain ⟨-, HO_, -⟩ := HO_
      have hm_ := HX.out.2.2
      rw [footR_len] at hm_
      rw [← hm_] at HO_
      have HL2 : 0 ≤ m ∧ m + 2 ≤ 9223372036854775807 := by have h1 := HL1.out; rw [footR_len] at h1; have := HL.out; omega
      clear hm_
      simp only [List.range_succ, List.range_zero, List.nil_append, List.map_append, List.map_cons, List.map_nil, List.cons_append, HoldsN, and_true, Nat.add_zero, Nat.mul_one] at HO_
      obtain ⟨o0, o1⟩ := HO_
      have HB := Aside0.mk HL2
      have O0 := Aside0.mk o0
      clear o0
      have O1 := Aside0.mk o1
      clear o1
      clear HL2
      have b0 : 0 ≤ m := HB.out.1
      have b1 : m ≤ 9223372036854775807 - 2 := by have := HB.out.2; omega
      have hz0 : w.cell? ⟨g, x.toNat * 2, none⟩ = some (.int .i64 _) := O0.out
      have hz1 : w.cell? ⟨g, x.toNat * 2 + 1, none⟩ = some (.int .i64 _) := O1.out
      go_wp2
      go_roundw
      case rel =>
        have e1 : (wrap64 (x + 1)) = x + 1 := by have h1 := HX.out.1; have h2 := HC0.out; have h3 := HM.out; unfold wrap64; omega
        have hn1 : (x + 1).toNat = x.toNat + 1 := by have := HX.out.1; omega
        refine ⟨_, _, rfl, rfl, ⟨?_⟩, ⟨rfl⟩⟩
        rw [e1, hn1, footR_len]
        have h5 := HX.out.2.2
        rw [footR_len] at h5
        exact ⟨by have := HX.out.1; omega, by have := HC0.out; omega, by omega⟩
      case measure =>
        have h1 := HX.out.1
        have h2 := HC0.out
        have h3 := HM.out
        have e1 : (wrap64 (x + 1)) = x + 1 := by unfold wrap64; omega
        rw [e1]
        simp [intOf]
        omega
    · have c0b : decide (x < ((n : Nat) : Int)) = false := decide_eq_false c0
      have q0 := eq_false c0
      have HE := Aside0.mk (show x.toNat = n by have := HX.out.1; have := HX.out.2.1; omega)
      clear c0
      go_wp2
      go_ret
      have h5 := HX.out.2.2
      rw [HE.out] at h5
      exact ⟨by rw [h5]; (try rfl), rfl⟩
set_option maxHeartbeats 2000000 in
set_option maxRecDepth 100000 in
theorem heldEntryS_ft (Q : Nat → Prop) (A : Option Addr) (l : List F84) (c : Nat) (a1 : Int) (w : World) (hs : F84.Ok w Q A l) (hh : HoldsN w (foot84 A l) a1) (h0 : 0 ≤ a1) (h1 : a1 + (foot84 A l).length ≤ 9223372036854775807) :
    Calls Try.prog 24 #[.slice A l.length c, .int .i64 a1] w fun e w' => e = .returned (.int .i64 (a1 + (foot84 A l).length)) ∧ w = w' := by
  have HS := Aside0.mk hs
  have HM := Aside0.mk hs.1
  have HD := SameW.mk (rfl : w = w)
  have HH0 := Aside0.mk hh
  have HL1 := Aside0.mk (show 0 ≤ a1 ∧ a1 + (foot84 A l).length ≤ 9223372036854775807 from ⟨h0, h1⟩)
  clear hs hh h0 h1
  have hu3 := Try.underlying3
  have hu84 := Try.underlying84
  go_enter Try.func24, Try.ntmps24
  go_wp2
  go_loopw [1, 5] (fun v1 v5 wr => ∃ (m x : Int), v1 = .int .i64 m ∧ v5 = .int .i64 x ∧ Aside0 (0 ≤ x ∧ x ≤ (l.length : Nat) ∧ m = a1 + ((foot84 A (l.take x.toNat)).length : Int)) ∧ SameW w wr) (fun _ v5 _ => l.length - (intOf v5).toNat)
  case atStart => exact ⟨a1, 0, rfl, rfl, ⟨by omega, by omega, by show a1 = a1 + ((foot84 A (l.take 0)).length : Int); rw [foot84_nil]; simp⟩, ⟨rfl⟩⟩
  case round =>
    clear HD
    obtain ⟨m, x, rfl, rfl, HX, HD⟩ := hrel
    obtain rfl := HD.out
    clear HD
    by_cases c0 : x < ((l.length : Nat) : Int)
    · have c0b : decide (x < ((l.length : Nat) : Int)) = true := decide_eq_true c0
      obtain ⟨g, rfl, hp, hfz, hc⟩ := HS.out.2 (by have := HX.out.1; omega)
      obtain ⟨q, hq⟩ : ∃ q, l[x.toNat]? = some q := ⟨_, List.getElem?_eq_getElem (by have := HX.out.1; omega)⟩
      have HH := Aside0.mk (hc x.toNat q hq)
      have HQ := Aside0.mk hq
      have HF := Aside0.mk hfz
      have HG := Aside0.mk hp
      clear hq hc hp hfz
      have p0 := eq_true HX.out.1
      have q0 := eq_true c0
      have HC0 := Aside0.mk c0
      clear c0
      obtain ⟨r_, hr_⟩ := foot84_split g q l x.toNat HQ.out
      have HO_ := HH0.out
      rw [hr_, HoldsN_append, HoldsN_append, ← HX.out.2.2] at HO_
      obtain ⟨-, HO_, -⟩ := HO_
      have HM0 := Aside0.mk (show 0 ≤ m ∧ m + (one84 g x.toNat q).length ≤ 9223372036854775807 by have h1 := HL1.out; have h2 := HX.out.2.2; rw [hr_, List.length_append, List.length_append] at h1; omega)
      clear hr_ r_
      have HL2 := HM0.out
      simp only [one84, List.length_append, List.length_cons, List.length_nil] at HL2
      simp only [one84, HoldsN_append, HoldsN, List.length_append, List.length_cons, List.length_nil, and_true, and_assoc] at HO_
      obtain ⟨o0, o1, o2, o3, o4, o5⟩ := HO_
      have HB := Aside0.mk HL2
      have O0 := Aside0.mk o0
      clear o0
      have O1 := Aside0.mk o1
      clear o1
      have O2 := Aside0.mk o2
      clear o2
      have O3 := Aside0.mk o3
      clear o3
      obtain ⟨c3, hA3_, hs3_⟩ := HH.out.2.2.2.1
      have hA3 := Aside0.mk hA3_
      have hs3 := Aside0.mk hs3_
      clear hA3_ hs3_
      have O4 := Aside0.mk o4
      clear o4
      obtain ⟨c4, hA4_, hs4_⟩ := HH.out.2.2.2.2.1
      have hA4 := Aside0.mk hA4_
      have hs4 := Aside0.mk hs4_
      clear hA4_ hs4_
      have O5 := Aside0.mk o5
      clear o5
      clear HL2
      have b0 : 0 ≤ m := HB.out.1
      have b1 : m ≤ 9223372036854775807 - 4 := by have := HB.out.2; omega
      have hz0 : w.cell? ⟨g, x.toNat * 6, none⟩ = some (.int .i64 (m)) := O0.out.trans (congrArg (fun z_ => some (Value.int .i64 z_)) (by have := HB.out; omega))
      have hz1 : w.cell? ⟨g, x.toNat * 6 + 1, none⟩ = some (.int .i64 (m + 1)) := O1.out.trans (congrArg (fun z_ => some (Value.int .i64 z_)) (by have := HB.out; omega))
      have hz2 : w.cell? ⟨g, x.toNat * 6 + 2, none⟩ = some (.int .i64 (m + 1 + 1)) := O2.out.trans (congrArg (fun z_ => some (Value.int .i64 z_)) (by have := HB.out; omega))
      have hz3 : w.cell? ⟨g, x.toNat * 6 + 3, none⟩ = some (.slice q.A3 q.n3 c3) := hA3.out
      go_wp2_with fail
      refine (heldPutS_ft Q _ _ _ _ _ hs3.out (HoldsN.cast O3.out (by have := HB.out; omega)) (by have := HB.out; omega) (by have := HB.out; omega)).mono ?_
      rintro e w1 ⟨rfl, rfl⟩
      obtain ⟨m1, hm1⟩ : ∃ m_, m_ = m + 1 + 1 + 1 + ((footR q.A3 (q.n3 * 2)).length : Int) := ⟨_, rfl⟩
      rw [← hm1]
      have HM1 := Aside0.mk hm1
      clear hm1
      clear hz0
      clear hz1
      clear hz2
      clear hz3
      clear b0 b1
      have b0 : 0 ≤ m1 := by have := HB.out; have := HM1.out; omega
      have b1 : m1 ≤ 9223372036854775807 - 1 := by have := HB.out; have := HM1.out; omega
      have t0 : decide (m1 < 0) = false := decide_eq_false (by omega)
      have t1 : (m1 < 0) = False := eq_false (by omega)
      have hz4 : w.cell? ⟨g, x.toNat * 6 + 4, none⟩ = some (.slice q.A4 q.n4 c4) := hA4.out
      go_wp2_with fail
      refine (heldPutS_ft Q _ _ _ _ _ hs4.out (HoldsN.cast O4.out (by have := HB.out; have := HM1.out; omega)) (by have := HB.out; have := HM1.out; omega) (by have := HB.out; have := HM1.out; omega)).mono ?_
      rintro e w2 ⟨rfl, rfl⟩
      obtain ⟨m2, hm2⟩ : ∃ m_, m_ = m1 + ((footR q.A4 (q.n4 * 2)).length : Int) := ⟨_, rfl⟩
      rw [← hm2]
      have HM2 := Aside0.mk hm2
      clear hm2
      clear hz4
      clear b0 b1 t0 t1
      have b0 : 0 ≤ m2 := by have := HB.out; have := HM1.out; have := HM2.out; omega
      have b1 : m2 ≤ 9223372036854775807 - 1 := by have := HB.out; have := HM1.out; have := HM2.out; omega
      have t0 : decide (m2 < 0) = false := decide_eq_false (by omega)
      have t1 : (m2 < 0) = False := eq_false (by omega)
      have hz5 : w.cell? ⟨g, x.toNat * 6 + 5, none⟩ = some (.int .i64 (m2)) := O5.out.trans (congrArg (fun z_ => some (Value.int .i64 z_)) (by have := HB.out; have := HM1.out; have := HM2.out; omega))
      go_wp2
      go_roundw
      case rel =>
        have e1 : (wrap64 (x + 1)) = x + 1 := by have h1 := HX.out.1; have h2 := HC0.out; have h3 := HM.out; unfold wrap64; omega
        have hn1 : (x + 1).toNat = x.toNat + 1 := by have := HX.out.1; omega
        refine ⟨_, _, rfl, rfl, ⟨?_⟩, ⟨rfl⟩⟩
        rw [e1, hn1, foot84_take g q l x.toNat HQ.out, List.length_append]
        have h5 := HX.out.2.2
        refine ⟨by have := HX.out.1; omega, by have := HC0.out; omega, ?_⟩
        have := HM1.out; have := HM2.out
        simp only [one84, List.length_append, List.length_cons, List.length_nil]
        omega
      case measure =>
        have h1 := HX.out.1
        have h2 := HC0.out
        have h3 := HM.out
        have e1 : (wrap64 (x + 1)) = x + 1 := by unfold wrap64; omega
        rw [e1]
        simp [intOf]
        omega
    · have c0b : decide (x < ((l.length : Nat) : Int)) = false := decide_eq_false c0
      have q0 := eq_false c0
      have HE := Aside0.mk (show x.toNat = l.length by have := HX.out.1; have := HX.out.2.1; omega)
      clear c0
      go_wp2
      go_ret
      have h5 := HX.out.2.2
      rw [HE.out, List.take_length] at h5
      exact ⟨by rw [h5]; (try rfl), rfl⟩
set_option maxHeartbeats 2000000 in
set_option maxRecDepth 100000 in
theorem heldIntS_ft (Q : Nat → Prop) (A : Option Addr) (n : Nat) (c : Nat) (a1 : Int) (w : World) (hs : ShR 1 w Q A n) (hh : HoldsN w (footR A (n * 1)) a1) (h0 : 0 ≤ a1) (h1 : a1 + (footR A (n * 1)).length ≤ 9223372036854775807) :
    Calls Try.prog 77 #[.slice A n c, .int .i64 a1] w fun e w' => e = .returned (.int .i64 (a1 + (footR A (n * 1)).length)) ∧ w = w' := by
  have HS := Aside0.mk hs
  have HM := Aside0.mk hs.1
  have HD := SameW.mk (rfl : w = w)
  have HH0 := Aside0.mk hh
  have HL1 := Aside0.mk (show 0 ≤ a1 ∧ a1 + (footR A (n * 1)).length ≤ 9223372036854775807 from ⟨h0, h1⟩)
  clear hs hh h0 h1
  have hu3 := Try.underlying3
  go_enter Try.func77, Try.ntmps77
  go_wp2
  go_loopw [1, 5] (fun v1 v5 wr => ∃ (m x : Int), v1 = .int .i64 m ∧ v5 = .int .i64 x ∧ Aside0 (0 ≤ x ∧ x ≤ (n : Nat) ∧ m = a1 + ((footR A (x.toNat * 1)).length : Int)) ∧ SameW w wr) (fun _ v5 _ => n - (intOf v5).toNat)
  case atStart => exact ⟨a1, 0, rfl, rfl, ⟨by omega, by omega, by rw [show footR A ((0 : Int).toNat * 1) = [] by rw [show (0 : Int).toNat * 1 = 0 from Nat.zero_mul _]; cases A <;> rfl]; simp⟩, ⟨rfl⟩⟩
  case round =>
    clear HD
    obtain ⟨m, x, rfl, rfl, HX, HD⟩ := hrel
    obtain rfl := HD.out
    clear HD
    by_cases c0 : x < ((n : Nat) : Int)
    · have c0b : decide (x < ((n : Nat) : Int)) = true := decide_eq_true c0
      obtain ⟨g, rfl, hp, hc⟩ := HS.out.2 (by have := HX.out.1; omega)
      have HG := Aside0.mk hp
      have HC := Aside0.mk hc
      have HL := Aside0.mk (show x.toNat * 1 + 1 ≤ n * 1 by have := HX.out.1; omega)
      clear hp hc
      have p0 := eq_true HX.out.1
      have q0 := eq_true c0
      have HC0 := Aside0.mk c0
      clear c0
      have HO_ := HH0.out
      rw [show n * 1 = x.toNat * 1 + (1 + (n - x.toNat - 1) * 1) by have := HL.out; omega, footR_add, List.range_add, List.map_append, HoldsN_append, HoldsN_append, footR_len] at HO_
      obtain ⟨-, HO_, -⟩ := HO_
      have hm_ := HX.out.2.2
      rw [footR_len] at hm_
      rw [← hm_] at HO_
      have HL2 : 0 ≤ m ∧ m + 1 ≤ 9223372036854775807 := by have h1 := HL1.out; rw [footR_len] at h1; have := HL.out; omega
      clear hm_
      simp only [List.range_succ, List.range_zero, List.nil_append, List.map_append, List.map_cons, List.map_nil, List.cons_append, HoldsN, and_true, Nat.add_zero, Nat.mul_one] at HO_
      have o0 := HO_
      clear HO_
      have HB := Aside0.mk HL2
      have O0 := Aside0.mk o0
      clear o0
      clear HL2
      have b0 : 0 ≤ m := HB.out.1
      have b1 : m ≤ 9223372036854775807 - 1 := by have := HB.out.2; omega
      have hz0 : w.cell? ⟨g, x.toNat, none⟩ = some (.int .i64 _) := O0.out
      go_wp2
      go_roundw
      case rel =>
        have e1 : (wrap64 (x + 1)) = x + 1 := by have h1 := HX.out.1; have h2 := HC0.out; have h3 := HM.out; unfold wrap64; omega
        have hn1 : (x + 1).toNat = x.toNat + 1 := by have := HX.out.1; omega
        refine ⟨_, _, rfl, rfl, ⟨?_⟩, ⟨rfl⟩⟩
        rw [e1, hn1, footR_len]
        have h5 := HX.out.2.2
        rw [footR_len] at h5
        exact ⟨by have := HX.out.1; omega, by have := HC0.out; omega, by omega⟩
      case measure =>
        have h1 := HX.out.1
        have h2 := HC0.out
        have h3 := HM.out
        have e1 : (wrap64 (x + 1)) = x + 1 := by unfold wrap64; omega
        rw [e1]
        simp [intOf]
        omega
    · have c0b : decide (x < ((n : Nat) : Int)) = false := decide_eq_false c0
      have q0 := eq_false c0
      have HE := Aside0.mk (show x.toNat = n by have := HX.out.1; have := HX.out.2.1; omega)
      clear c0
      go_wp2
      go_ret
      have h5 := HX.out.2.2
      rw [HE.out] at h5
      exact ⟨by rw [h5]; (try rfl), rfl⟩
set_option maxHeartbeats 2000000 in
set_option maxRecDepth 100000 in
theorem heldTaskS_ft (Q : Nat → Prop) (A : Option Addr) (l : List F66) (c : Nat) (a1 : Int) (w : World) (hs : F66.Ok w Q A l) (hh : HoldsN w (foot66 A l) a1) (h0 : 0 ≤ a1) (h1 : a1 + (foot66 A l).length ≤ 9223372036854775807) :
    Calls Try.prog 48 #[.slice A l.length c, .int .i64 a1] w fun e w' => e = .returned (.int .i64 (a1 + (foot66 A l).length)) ∧ w = w' := by
  have HS := Aside0.mk hs
  have HM := Aside0.mk hs.1
  have HD := SameW.mk (rfl : w = w)
  have HH0 := Aside0.mk hh
  have HL1 := Aside0.mk (show 0 ≤ a1 ∧ a1 + (foot66 A l).length ≤ 9223372036854775807 from ⟨h0, h1⟩)
  clear hs hh h0 h1
  have hu3 := Try.underlying3
  have hu66 := Try.underlying66
  go_enter Try.func48, Try.ntmps48
  go_wp2
  go_loopw [1, 5] (fun v1 v5 wr => ∃ (m x : Int), v1 = .int .i64 m ∧ v5 = .int .i64 x ∧ Aside0 (0 ≤ x ∧ x ≤ (l.length : Nat) ∧ m = a1 + ((foot66 A (l.take x.toNat)).length : Int)) ∧ SameW w wr) (fun _ v5 _ => l.length - (intOf v5).toNat)
  case atStart => exact ⟨a1, 0, rfl, rfl, ⟨by omega, by omega, by show a1 = a1 + ((foot66 A (l.take 0)).length : Int); rw [foot66_nil]; simp⟩, ⟨rfl⟩⟩
  case round =>
    clear HD
    obtain ⟨m, x, rfl, rfl, HX, HD⟩ := hrel
    obtain rfl := HD.out
    clear HD
    by_cases c0 : x < ((l.length : Nat) : Int)
    · have c0b : decide (x < ((l.length : Nat) : Int)) = true := decide_eq_true c0
      obtain ⟨g, rfl, hp, hfz, hc⟩ := HS.out.2 (by have := HX.out.1; omega)
      obtain ⟨q, hq⟩ : ∃ q, l[x.toNat]? = some q := ⟨_, List.getElem?_eq_getElem (by have := HX.out.1; omega)⟩
      have HH := Aside0.mk (hc x.toNat q hq)
      have HQ := Aside0.mk hq
      have HF := Aside0.mk hfz
      have HG := Aside0.mk hp
      clear hq hc hp hfz
      have p0 := eq_true HX.out.1
      have q0 := eq_true c0
      have HC0 := Aside0.mk c0
      clear c0
      obtain ⟨r_, hr_⟩ := foot66_split g q l x.toNat HQ.out
      have HO_ := HH0.out
      rw [hr_, HoldsN_append, HoldsN_append, ← HX.out.2.2] at HO_
      obtain ⟨-, HO_, -⟩ := HO_
      have HM0 := Aside0.mk (show 0 ≤ m ∧ m + (one66 g x.toNat q).length ≤ 9223372036854775807 by have h1 := HL1.out; have h2 := HX.out.2.2; rw [hr_, List.length_append, List.length_append] at h1; omega)
      clear hr_ r_
      have HL2 := HM0.out
      simp only [one66, List.length_append, List.length_cons, List.length_nil] at HL2
      simp only [one66, HoldsN_append, HoldsN, List.length_append, List.length_cons, List.length_nil, and_true, and_assoc] at HO_
      obtain ⟨o0, o1, o2, o3, o4, o5, o6, o7, o8, o9, o10, o11, o12⟩ := HO_
      have HB := Aside0.mk HL2
      have O0 := Aside0.mk o0
      clear o0
      have O1 := Aside0.mk o1
      clear o1
      have O2 := Aside0.mk o2
      clear o2
      have O3 := Aside0.mk o3
      clear o3
      obtain ⟨c3, hA3_, hs3_⟩ := HH.out.2.2.2.1
      have hA3 := Aside0.mk hA3_
      have hs3 := Aside0.mk hs3_
      clear hA3_ hs3_
      have O4 := Aside0.mk o4
      clear o4
      have O5 := Aside0.mk o5
      clear o5
      have O6 := Aside0.mk o6
      clear o6
      have O7 := Aside0.mk o7
      clear o7
      have O8 := Aside0.mk o8
      clear o8
      obtain ⟨c8, hA8_, hs8_⟩ := HH.out.2.2.2.2.2.2.2.2.1
      have hA8 := Aside0.mk hA8_
      have hs8 := Aside0.mk hs8_
      clear hA8_ hs8_
      have O9 := Aside0.mk o9
      clear o9
      obtain ⟨c9, hA9_, hs9_⟩ := HH.out.2.2.2.2.2.2.2.2.2.1
      have hA9 := Aside0.mk hA9_
      have hs9 := Aside0.mk hs9_
      clear hA9_ hs9_
      have O10 := Aside0.mk o10
      clear o10
      obtain ⟨c10, hA10_, hs10_⟩ := HH.out.2.2.2.2.2.2.2.2.2.2.1
      have hA10 := Aside0.mk hA10_
      have hs10 := Aside0.mk hs10_
      clear hA10_ hs10_
      have O11 := Aside0.mk o11
      clear o11
      have O12 := Aside0.mk o12
      clear o12
      clear HL2
      have b0 : 0 ≤ m := HB.out.1
      have b1 : m ≤ 9223372036854775807 - 9 := by have := HB.out.2; omega
      have hz0 : w.cell? ⟨g, x.toNat * 13, none⟩ = some (.int .i64 (m)) := O0.out.trans (congrArg (fun z_ => some (Value.int .i64 z_)) (by have := HB.out; omega))
      have hz1 : w.cell? ⟨g, x.toNat * 13 + 1, none⟩ = some (.int .i64 (m + 1)) := O1.out.trans (congrArg (fun z_ => some (Value.int .i64 z_)) (by have := HB.out; omega))
      have hz2 : w.cell? ⟨g, x.toNat * 13 + 2, none⟩ = some (.int .i64 (m + 1 + 1)) := O2.out.trans (congrArg (fun z_ => some (Value.int .i64 z_)) (by have := HB.out; omega))
      have hz3 : w.cell? ⟨g, x.toNat * 13 + 3, none⟩ = some (.slice q.A3 q.n3 c3) := hA3.out
      go_wp2_with fail
      refine (heldIntS_ft Q _ _ _ _ _ hs3.out (HoldsN.cast O3.out (by have := HB.out; omega)) (by have := HB.out; omega) (by have := HB.out; omega)).mono ?_
      rintro e w1 ⟨rfl, rfl⟩
      obtain ⟨m1, hm1⟩ : ∃ m_, m_ = m + 1 + 1 + 1 + ((footR q.A3 (q.n3 * 1)).length : Int) := ⟨_, rfl⟩
      rw [← hm1]
      have HM1 := Aside0.mk hm1
      clear hm1
      clear hz0
      clear hz1
      clear hz2
      clear hz3
      clear b0 b1
      have b0 : 0 ≤ m1 := by have := HB.out; have := HM1.out; omega
      have b1 : m1 ≤ 9223372036854775807 - 6 := by have := HB.out; have := HM1.out; omega
      have t0 : decide (m1 < 0) = false := decide_eq_false (by omega)
      have t1 : (m1 < 0) = False := eq_false (by omega)
      have hz4 : w.cell? ⟨g, x.toNat * 13 + 4, none⟩ = some (.int .i64 (m1)) := O4.out.trans (congrArg (fun z_ => some (Value.int .i64 z_)) (by have := HB.out; have := HM1.out; omega))
      have hz5 : w.cell? ⟨g, x.toNat * 13 + 5, none⟩ = some (.int .i64 (m1 + 1)) := O5.out.trans (congrArg (fun z_ => some (Value.int .i64 z_)) (by have := HB.out; have := HM1.out; omega))
      have hz6 : w.cell? ⟨g, x.toNat * 13 + 6, none⟩ = some (.int .i64 (m1 + 1 + 1)) := O6.out.trans (congrArg (fun z_ => some (Value.int .i64 z_)) (by have := HB.out; have := HM1.out; omega))
      have hz7 : w.cell? ⟨g, x.toNat * 13 + 7, none⟩ = some (.int .i64 (m1 + 1 + 1 + 1)) := O7.out.trans (congrArg (fun z_ => some (Value.int .i64 z_)) (by have := HB.out; have := HM1.out; omega))
      have hz8 : w.cell? ⟨g, x.toNat * 13 + 8, none⟩ = some (.slice q.A8 q.n8 c8) := hA8.out
      go_wp2_with fail
      refine (heldIntS_ft Q _ _ _ _ _ hs8.out (HoldsN.cast O8.out (by have := HB.out; have := HM1.out; omega)) (by have := HB.out; have := HM1.out; omega) (by have := HB.out; have := HM1.out; omega)).mono ?_
      rintro e w2 ⟨rfl, rfl⟩
      obtain ⟨m2, hm2⟩ : ∃ m_, m_ = m1 + 1 + 1 + 1 + 1 + ((footR q.A8 (q.n8 * 1)).length : Int) := ⟨_, rfl⟩
      rw [← hm2]
      have HM2 := Aside0.mk hm2
      clear hm2
      clear hz4
      clear hz5
      clear hz6
      clear hz7
      clear hz8
      clear b0 b1 t0 t1
      have b0 : 0 ≤ m2 := by have := HB.out; have := HM1.out; have := HM2.out; omega
      have b1 : m2 ≤ 9223372036854775807 - 2 := by have := HB.out; have := HM1.out; have := HM2.out; omega
      have t0 : decide (m2 < 0) = false := decide_eq_false (by omega)
      have t1 : (m2 < 0) = False := eq_false (by omega)
      have hz9 : w.cell? ⟨g, x.toNat * 13 + 9, none⟩ = some (.slice q.A9 q.n9 c9) := hA9.out
      go_wp2_with fail
      refine (heldPutS_ft Q _ _ _ _ _ hs9.out (HoldsN.cast O9.out (by have := HB.out; have := HM1.out; have := HM2.out; omega)) (by have := HB.out; have := HM1.out; have := HM2.out; omega) (by have := HB.out; have := HM1.out; have := HM2.out; omega)).mono ?_
      rintro e w3 ⟨rfl, rfl⟩
      obtain ⟨m3, hm3⟩ : ∃ m_, m_ = m2 + ((footR q.A9 (q.n9 * 2)).length : Int) := ⟨_, rfl⟩
      rw [← hm3]
      have HM3 := Aside0.mk hm3
      clear hm3
      clear hz9
      clear b0 b1 t0 t1
      have b0 : 0 ≤ m3 := by have := HB.out; have := HM1.out; have := HM2.out; have := HM3.out; omega
      have b1 : m3 ≤ 9223372036854775807 - 2 := by have := HB.out; have := HM1.out; have := HM2.out; have := HM3.out; omega
      have t0 : decide (m3 < 0) = false := decide_eq_false (by omega)
      have t1 : (m3 < 0) = False := eq_false (by omega)
      have hz10 : w.cell? ⟨g, x.toNat * 13 + 10, none⟩ = some (.slice q.A10 q.n10 c10) := hA10.out
      go_wp2_with fail
      refine (heldPutS_ft Q _ _ _ _ _ hs10.out (HoldsN.cast O10.out (by have := HB.out; have := HM1.out; have := HM2.out; have := HM3.out; omega)) (by have := HB.out; have := HM1.out; have := HM2.out; have := HM3.out; omega) (by have := HB.out; have := HM1.out; have := HM2.out; have := HM3.out; omega)).mono ?_
      rintro e w4 ⟨rfl, rfl⟩
      obtain ⟨m4, hm4⟩ : ∃ m_, m_ = m3 + ((footR q.A10 (q.n10 * 2)).length : Int) := ⟨_, rfl⟩
      rw [← hm4]
      have HM4 := Aside0.mk hm4
      clear hm4
      clear hz10
      clear b0 b1 t0 t1
      have b0 : 0 ≤ m4 := by have := HB.out; have := HM1.out; have := HM2.out; have := HM3.out; have := HM4.out; omega
      have b1 : m4 ≤ 9223372036854775807 - 2 := by have := HB.out; have := HM1.out; have := HM2.out; have := HM3.out; have := HM4.out; omega
      have t0 : decide (m4 < 0) = false := decide_eq_false (by omega)
      have t1 : (m4 < 0) = False := eq_false (by omega)
      have hz11 : w.cell? ⟨g, x.toNat * 13 + 11, none⟩ = some (.int .i64 (m4)) := O11.out.trans (congrArg (fun z_ => some (Value.int .i64 z_)) (by have := HB.out; have := HM1.out; have := HM2.out; have := HM3.out; have := HM4.out; omega))
      have hz12 : w.cell? ⟨g, x.toNat * 13 + 12, none⟩ = some (.int .i64 (m4 + 1)) := O12.out.trans (congrArg (fun z_ => some (Value.int .i64 z_)) (by have := HB.out; have := HM1.out; have := HM2.out; have := HM3.out; have := HM4.out; omega))
      go_wp2
      go_roundw
      case rel =>
        have e1 : (wrap64 (x + 1)) = x + 1 := by have h1 := HX.out.1; have h2 := HC0.out; have h3 := HM.out; unfold wrap64; omega
        have hn1 : (x + 1).toNat = x.toNat + 1 := by have := HX.out.1; omega
        refine ⟨_, _, rfl, rfl, ⟨?_⟩, ⟨rfl⟩⟩
        rw [e1, hn1, foot66_take g q l x.toNat HQ.out, List.length_append]
        have h5 := HX.out.2.2
        refine ⟨by have := HX.out.1; omega, by have := HC0.out; omega, ?_⟩
        have := HM1.out; have := HM2.out; have := HM3.out; have := HM4.out
        simp only [one66, List.length_append, List.length_cons, List.length_nil]
        omega
      case measure =>
        have h1 := HX.out.1
        have h2 := HC0.out
        have h3 := HM.out
        have e1 : (wrap64 (x + 1)) = x + 1 := by unfold wrap64; omega
        rw [e1]
        simp [intOf]
        omega
    · have c0b : decide (x < ((l.length : Nat) : Int)) = false := decide_eq_false c0
      have q0 := eq_false c0
      have HE := Aside0.mk (show x.toNat = l.length by have := HX.out.1; have := HX.out.2.1; omega)
      clear c0
      go_wp2
      go_ret
      have h5 := HX.out.2.2
      rw [HE.out, List.take_length] at h5
      exact ⟨by rw [h5]; (try rfl), rfl⟩
end Go.Proofs.YtoeepmcaabmjkaaW.PrintWords
namespace Go.Proofs.YtoeepmcaabmjkaaW.PrintWords
/-- A deed as a part: which kind (0: none), and its two numbers. -/
structure Part where
  t : Int
  a : Int
  b : Int
def partW (p : Part) : Value :=
  if p.t = 1 then .iface 159 (.agg #[.int .i64 p.a, .int .i64 p.b])
  else if p.t = 2 then .iface 161 (.agg #[.int .i64 p.a, .int .i64 p.b])
  else if p.t = 3 then .iface 163 (.agg #[.int .i64 p.a, .int .i64 p.b])
  else if p.t = 4 then .iface 165 (.agg #[.int .i64 p.a, .int .i64 p.b])
  else if p.t = 5 then .iface 166 (.agg #[.int .i64 p.a])
  else .nilIface
end Go.Proofs.YtoeepmcaabmjkaaW.PrintWords
namespace Go.Proofs.YtoeepmcaabmjkaaW.PrintWords
/-- An act as a part, by its fields' values and lengths. -/
def actW (k : Int) (v1 : Value) (n1 : Nat) (v2 : Value) (n2 : Nat) (r : Int) : Value :=
  if k = 1 ∧ n2 = 0 ∧ r = 0 then .iface 127 (.agg #[v1])
  else if k = 2 ∧ n1 = 0 ∧ r = 0 then .iface 130 (.agg #[v2])
  else if k = 3 ∧ n1 = 0 ∧ n2 = 0 ∧ r = 0 then .iface 132 (.agg #[])
  else if k = 4 ∧ n1 = 0 ∧ n2 = 0 then .iface 134 (.agg #[.int .i64 r])
  else .nilIface
end Go.Proofs.YtoeepmcaabmjkaaW.PrintWords
namespace Go.Proofs.Ytoeepmcaabmjkaa.QSN
open Go.RowKit Go.Proofs.YtoeepmcaabmjkaaW.PrintWords Go.Proofs.YtoeepmcaabmjkaaW.PrintLast Go.Proofs.YtoeepmcaabmjkaaW.PrintMore
attribute [local go_sem] max2_int min2_int max_two min_two max_three min_three max_four min_four   -- for this text's walks alone
set_option linter.unusedVariables false
set_option linter.unusedSimpArgs false
def errW : Option Int → Value
  | none => .nilIface
  | some c => .iface 0 (.int .i64 c)
theorem errW_none : errW none = .nilIface := rfl
theorem errW_some (c : Int) : errW (some c) = .iface 0 (.int .i64 c) := rfl
theorem info3 : (Try.prog.info? 3).map (fun i => (i.zero, i.size, i.bytes)) = some (some (.int .i64 0), 1, 8) := by kernel_rfl
theorem info54 : (Try.prog.info? 54).map (fun i => (i.zero, i.size, i.bytes)) = some (some (.slice none 0 0), 1, 24) := by kernel_rfl
theorem info57 : (Try.prog.info? 57).map (fun i => (i.zero, i.size, i.bytes)) = some (some (.agg #[(.int .i64 0), (.slice none 0 0), (.slice none 0 0), (.int .i64 0)]), 4, 64) := by kernel_rfl
theorem info69 : (Try.prog.info? 69).map (fun i => (i.zero, i.size, i.bytes)) = some (some (.agg #[(.int .i64 0), (.int .i64 0), (.int .i64 0)]), 3, 24) := by kernel_rfl
theorem info122 : (Try.prog.info? 122).map (fun i => (i.zero, i.size, i.bytes)) = some (some (.agg #[(.int .i64 0), (.int .i64 0), (.int .i64 0)]), 3, 24) := by kernel_rfl
-- the values' own types
structure S169 where
  f0 : Int
  f1 : Int
  f2 : Int
instance instDecS169 : DecidableEq S169 := fun x y => decidable_of_iff (x.f0 = y.f0 ∧ x.f1 = y.f1 ∧ x.f2 = y.f2) (by cases x; cases y; simp)
def z169 : S169 := ⟨(0 : Int), (0 : Int), (0 : Int)⟩
def k169 : Kd S169 := Kd.iso (Kd.pair (Kd.int .i64) (Kd.pair (Kd.int .i64) (Kd.int .i64))) (fun x : S169 => (x.f0, x.f1, x.f2))
theorem k169_open {w : World} {x : S169} {cs : List Value} (h : k169.K w x cs) : cs = [.int .i64 x.f0, .int .i64 x.f1, .int .i64 x.f2] := by
  obtain ⟨_, _, rfl, rfl, ⟨_, _, rfl, rfl, rfl⟩⟩ := h
  exact rfl
def rd_T169 (xs : List S169) (i : Int) : S169 := xs.getD i.toNat z169
theorem at_T169 {w : World} {A : Option Addr} {n : Nat} {xs : List S169} (h : Kd.C k169 w A n xs) (i : Int) (h0 : 0 ≤ i) (h1 : i < n) : ∃ ad , A = some ad ∧ w.cell? (ad.add (i.toNat * 3)) = some (.int .i64 (rd_T169 xs i).f0) ∧ w.cell? ⟨(ad.add (i.toNat * 3)).block, (ad.add (i.toNat * 3)).off + 1, none⟩ = some (.int .i64 (rd_T169 xs i).f1) ∧ w.cell? ⟨(ad.add (i.toNat * 3)).block, (ad.add (i.toNat * 3)).off + 2, none⟩ = some (.int .i64 (rd_T169 xs i).f2) := by
  obtain ⟨ad, c, e, _, hK, hc0⟩ := Kd.C_get h z169 i h0 h1
  have hc : ∀ j u, c[j]? = some u → w.cell? (ad.add (i.toNat * 3 + j)) = some u := hc0
  obtain rfl := k169_open hK
  exact ⟨ad, e, hc 0 _ rfl, by rw [← add_field _ _ 1 (by omega)]; exact hc 1 _ rfl, by rw [← add_field _ _ 2 (by omega)]; exact hc 2 _ rfl⟩
structure S141 where
  f0 : Int
  f1 : (List S169)
  f2 : (List Int)
  f3 : Int
instance instDecS141 : DecidableEq S141 := fun x y => decidable_of_iff (x.f0 = y.f0 ∧ x.f1 = y.f1 ∧ x.f2 = y.f2 ∧ x.f3 = y.f3) (by cases x; cases y; simp)
def z141 : S141 := ⟨(0 : Int), ([] : List S169), ([] : List Int), (0 : Int)⟩
def k141 : Kd S141 := Kd.iso (Kd.pair (Kd.int .i64) (Kd.pair (Kd.slice 169 k169) (Kd.pair (Kd.slice 3 (Kd.int .i64)) (Kd.int .i64)))) (fun x : S141 => (x.f0, x.f1, x.f2, x.f3))
theorem k141_open {w : World} {x : S141} {cs : List Value} (h : k141.K w x cs) : ∃ A1 c1 A2 c2, cs = [.int .i64 x.f0, .slice A1 x.f1.length c1, .slice A2 x.f2.length c2, .int .i64 x.f3] ∧ x.f1.length ≤ c1 ∧ k169.C w A1 x.f1.length x.f1 ∧ x.f2.length ≤ c2 ∧ (Kd.int .i64).C w A2 x.f2.length x.f2 := by
  obtain ⟨_, _, rfl, rfl, ⟨_, _, rfl, ⟨A1, c1, rfl, l1, g1⟩, ⟨_, _, rfl, ⟨A2, c2, rfl, l2, g2⟩, rfl⟩⟩⟩ := h
  exact ⟨A1, c1, A2, c2, rfl, l1, g1, l2, g2⟩
def rd_T141 (xs : List S141) (i : Int) : S141 := xs.getD i.toNat z141
theorem at_T141 {w : World} {A : Option Addr} {n : Nat} {xs : List S141} (h : Kd.C k141 w A n xs) (i : Int) (h0 : 0 ≤ i) (h1 : i < n) : ∃ ad A1 c1 A2 c2, A = some ad ∧ w.cell? (ad.add (i.toNat * 4)) = some (.int .i64 (rd_T141 xs i).f0) ∧ w.cell? ⟨(ad.add (i.toNat * 4)).block, (ad.add (i.toNat * 4)).off + 1, none⟩ = some (.slice A1 (rd_T141 xs i).f1.length c1) ∧ w.cell? ⟨(ad.add (i.toNat * 4)).block, (ad.add (i.toNat * 4)).off + 2, none⟩ = some (.slice A2 (rd_T141 xs i).f2.length c2) ∧ w.cell? ⟨(ad.add (i.toNat * 4)).block, (ad.add (i.toNat * 4)).off + 3, none⟩ = some (.int .i64 (rd_T141 xs i).f3) ∧ (rd_T141 xs i).f1.length ≤ c1 ∧ k169.C w A1 (rd_T141 xs i).f1.length (rd_T141 xs i).f1 ∧ (rd_T141 xs i).f2.length ≤ c2 ∧ (Kd.int .i64).C w A2 (rd_T141 xs i).f2.length (rd_T141 xs i).f2 := by
  obtain ⟨ad, c, e, _, hK, hc0⟩ := Kd.C_get h z141 i h0 h1
  have hc : ∀ j u, c[j]? = some u → w.cell? (ad.add (i.toNat * 4 + j)) = some u := hc0
  obtain ⟨A1, c1, A2, c2, rfl, l1, g1, l2, g2⟩ := k141_open hK
  exact ⟨ad, A1, c1, A2, c2, e, hc 0 _ rfl, by rw [← add_field _ _ 1 (by omega)]; exact hc 1 _ rfl, by rw [← add_field _ _ 2 (by omega)]; exact hc 2 _ rfl, by rw [← add_field _ _ 3 (by omega)]; exact hc 3 _ rfl, l1, g1, l2, g2⟩
def rd_L5 (xs : List (List S141)) (i : Int) : (List S141) := xs.getD i.toNat ([] : List S141)
theorem at_L5 {w : World} {A : Option Addr} {n : Nat} {xs : List (List S141)} (h : Kd.C (Kd.slice 141 k141) w A n xs) (i : Int) (h0 : 0 ≤ i) (h1 : i < n) : ∃ ad A0 c0, A = some ad ∧ w.cell? (ad.add i.toNat) = some (.slice A0 (rd_L5 xs i).length c0) ∧ (rd_L5 xs i).length ≤ c0 ∧ k141.C w A0 (rd_L5 xs i).length (rd_L5 xs i) := by
  obtain ⟨ad, c, e, _, hK, hc0⟩ := Kd.C_get h ([] : List S141) i h0 h1
  have hc : ∀ j u, c[j]? = some u → w.cell? (ad.add (i.toNat * 1 + j)) = some u := hc0
  obtain ⟨A0, c0, rfl, l0, g0⟩ := hK
  exact ⟨ad, A0, c0, e, by have hq := hc 0 _ rfl; rwa [Nat.mul_one, Nat.add_zero] at hq, l0, g0⟩
structure S122 where
  f0 : Int
  f1 : Int
  f2 : Int
instance instDecS122 : DecidableEq S122 := fun x y => decidable_of_iff (x.f0 = y.f0 ∧ x.f1 = y.f1 ∧ x.f2 = y.f2) (by cases x; cases y; simp)
def z122 : S122 := ⟨(0 : Int), (0 : Int), (0 : Int)⟩
def k122 : Kd S122 := Kd.iso (Kd.pair (Kd.int .i64) (Kd.pair (Kd.int .i64) (Kd.int .i64))) (fun x : S122 => (x.f0, x.f1, x.f2))
theorem k122_open {w : World} {x : S122} {cs : List Value} (h : k122.K w x cs) : cs = [.int .i64 x.f0, .int .i64 x.f1, .int .i64 x.f2] := by
  obtain ⟨_, _, rfl, rfl, ⟨_, _, rfl, rfl, rfl⟩⟩ := h
  exact rfl
theorem k122_openM {w : World} {base : Nat} {ok : Nat → Prop} {x : S122} {cs : List Value} (h : k122.M w base ok x cs) : cs = [.int .i64 x.f0, .int .i64 x.f1, .int .i64 x.f2] := by
  obtain ⟨_, _, rfl, rfl, ⟨_, _, rfl, rfl, rfl⟩⟩ := h
  exact rfl
theorem k122_mkM (w : World) (base : Nat) (ok : Nat → Prop) (x : S122)  : k122.M w base ok x [.int .i64 x.f0, .int .i64 x.f1, .int .i64 x.f2] := ⟨[.int .i64 x.f0], [.int .i64 x.f1, .int .i64 x.f2], rfl, rfl, ⟨[.int .i64 x.f1], [.int .i64 x.f2], rfl, rfl, rfl⟩⟩
def rd_T122 (xs : List S122) (i : Int) : S122 := xs.getD i.toNat z122
theorem at_T122 {w : World} {A : Option Addr} {n : Nat} {xs : List S122} (h : Kd.C k122 w A n xs) (i : Int) (h0 : 0 ≤ i) (h1 : i < n) : ∃ ad , A = some ad ∧ w.cell? (ad.add (i.toNat * 3)) = some (.int .i64 (rd_T122 xs i).f0) ∧ w.cell? ⟨(ad.add (i.toNat * 3)).block, (ad.add (i.toNat * 3)).off + 1, none⟩ = some (.int .i64 (rd_T122 xs i).f1) ∧ w.cell? ⟨(ad.add (i.toNat * 3)).block, (ad.add (i.toNat * 3)).off + 2, none⟩ = some (.int .i64 (rd_T122 xs i).f2) := by
  obtain ⟨ad, c, e, _, hK, hc0⟩ := Kd.C_get h z122 i h0 h1
  have hc : ∀ j u, c[j]? = some u → w.cell? (ad.add (i.toNat * 3 + j)) = some u := hc0
  obtain rfl := k122_open hK
  exact ⟨ad, e, hc 0 _ rfl, by rw [← add_field _ _ 1 (by omega)]; exact hc 1 _ rfl, by rw [← add_field _ _ 2 (by omega)]; exact hc 2 _ rfl⟩
structure S57 where
  f0 : Int
  f1 : (List S122)
  f2 : (List Int)
  f3 : Int
instance instDecS57 : DecidableEq S57 := fun x y => decidable_of_iff (x.f0 = y.f0 ∧ x.f1 = y.f1 ∧ x.f2 = y.f2 ∧ x.f3 = y.f3) (by cases x; cases y; simp)
def z57 : S57 := ⟨(0 : Int), ([] : List S122), ([] : List Int), (0 : Int)⟩
def k57 : Kd S57 := Kd.iso (Kd.pair (Kd.int .i64) (Kd.pair (Kd.slice 122 k122) (Kd.pair (Kd.slice 3 (Kd.int .i64)) (Kd.int .i64)))) (fun x : S57 => (x.f0, x.f1, x.f2, x.f3))
theorem k57_open {w : World} {x : S57} {cs : List Value} (h : k57.K w x cs) : ∃ A1 c1 A2 c2, cs = [.int .i64 x.f0, .slice A1 x.f1.length c1, .slice A2 x.f2.length c2, .int .i64 x.f3] ∧ x.f1.length ≤ c1 ∧ k122.C w A1 x.f1.length x.f1 ∧ x.f2.length ≤ c2 ∧ (Kd.int .i64).C w A2 x.f2.length x.f2 := by
  obtain ⟨_, _, rfl, rfl, ⟨_, _, rfl, ⟨A1, c1, rfl, l1, g1⟩, ⟨_, _, rfl, ⟨A2, c2, rfl, l2, g2⟩, rfl⟩⟩⟩ := h
  exact ⟨A1, c1, A2, c2, rfl, l1, g1, l2, g2⟩
theorem k57_openM {w : World} {base : Nat} {ok : Nat → Prop} {x : S57} {cs : List Value} (h : k57.M w base ok x cs) : ∃ v1 v2, cs = [.int .i64 x.f0, v1, v2, .int .i64 x.f3] ∧ k122.R 122 w base ok v1 x.f1 ∧ (Kd.int .i64).R 3 w base ok v2 x.f2 := by
  obtain ⟨_, _, rfl, rfl, ⟨_, _, rfl, ⟨v1, rfl, g1⟩, ⟨_, _, rfl, ⟨v2, rfl, g2⟩, rfl⟩⟩⟩ := h
  exact ⟨v1, v2, rfl, g1, g2⟩
theorem k57_mkM (w : World) (base : Nat) (ok : Nat → Prop) (x : S57) {v1 : Value} (g1 : k122.R 122 w base ok v1 x.f1) {v2 : Value} (g2 : (Kd.int .i64).R 3 w base ok v2 x.f2) : k57.M w base ok x [.int .i64 x.f0, v1, v2, .int .i64 x.f3] := ⟨[.int .i64 x.f0], [v1, v2, .int .i64 x.f3], rfl, rfl, ⟨[v1], [v2, .int .i64 x.f3], rfl, ⟨v1, rfl, g1⟩, ⟨[v2], [.int .i64 x.f3], rfl, ⟨v2, rfl, g2⟩, rfl⟩⟩⟩
def rd_T57 (xs : List S57) (i : Int) : S57 := xs.getD i.toNat z57
theorem at_T57 {w : World} {A : Option Addr} {n : Nat} {xs : List S57} (h : Kd.C k57 w A n xs) (i : Int) (h0 : 0 ≤ i) (h1 : i < n) : ∃ ad A1 c1 A2 c2, A = some ad ∧ w.cell? (ad.add (i.toNat * 4)) = some (.int .i64 (rd_T57 xs i).f0) ∧ w.cell? ⟨(ad.add (i.toNat * 4)).block, (ad.add (i.toNat * 4)).off + 1, none⟩ = some (.slice A1 (rd_T57 xs i).f1.length c1) ∧ w.cell? ⟨(ad.add (i.toNat * 4)).block, (ad.add (i.toNat * 4)).off + 2, none⟩ = some (.slice A2 (rd_T57 xs i).f2.length c2) ∧ w.cell? ⟨(ad.add (i.toNat * 4)).block, (ad.add (i.toNat * 4)).off + 3, none⟩ = some (.int .i64 (rd_T57 xs i).f3) ∧ (rd_T57 xs i).f1.length ≤ c1 ∧ k122.C w A1 (rd_T57 xs i).f1.length (rd_T57 xs i).f1 ∧ (rd_T57 xs i).f2.length ≤ c2 ∧ (Kd.int .i64).C w A2 (rd_T57 xs i).f2.length (rd_T57 xs i).f2 := by
  obtain ⟨ad, c, e, _, hK, hc0⟩ := Kd.C_get h z57 i h0 h1
  have hc : ∀ j u, c[j]? = some u → w.cell? (ad.add (i.toNat * 4 + j)) = some u := hc0
  obtain ⟨A1, c1, A2, c2, rfl, l1, g1, l2, g2⟩ := k57_open hK
  exact ⟨ad, A1, c1, A2, c2, e, hc 0 _ rfl, by rw [← add_field _ _ 1 (by omega)]; exact hc 1 _ rfl, by rw [← add_field _ _ 2 (by omega)]; exact hc 2 _ rfl, by rw [← add_field _ _ 3 (by omega)]; exact hc 3 _ rfl, l1, g1, l2, g2⟩
def rd_L9 (xs : List (List S57)) (i : Int) : (List S57) := xs.getD i.toNat ([] : List S57)
theorem at_L9 {w : World} {A : Option Addr} {n : Nat} {xs : List (List S57)} (h : Kd.C (Kd.slice 57 k57) w A n xs) (i : Int) (h0 : 0 ≤ i) (h1 : i < n) : ∃ ad A0 c0, A = some ad ∧ w.cell? (ad.add i.toNat) = some (.slice A0 (rd_L9 xs i).length c0) ∧ (rd_L9 xs i).length ≤ c0 ∧ k57.C w A0 (rd_L9 xs i).length (rd_L9 xs i) := by
  obtain ⟨ad, c, e, _, hK, hc0⟩ := Kd.C_get h ([] : List S57) i h0 h1
  have hc : ∀ j u, c[j]? = some u → w.cell? (ad.add (i.toNat * 1 + j)) = some u := hc0
  obtain ⟨A0, c0, rfl, l0, g0⟩ := hK
  exact ⟨ad, A0, c0, e, by have hq := hc 0 _ rfl; rwa [Nat.mul_one, Nat.add_zero] at hq, l0, g0⟩
structure S115 where
  f0 : Int
  f1 : Int
instance instDecS115 : DecidableEq S115 := fun x y => decidable_of_iff (x.f0 = y.f0 ∧ x.f1 = y.f1) (by cases x; cases y; simp)
def z115 : S115 := ⟨(0 : Int), (0 : Int)⟩
def k115 : Kd S115 := Kd.iso (Kd.pair (Kd.int .i64) (Kd.int .i64)) (fun x : S115 => (x.f0, x.f1))
theorem k115_open {w : World} {x : S115} {cs : List Value} (h : k115.K w x cs) : cs = [.int .i64 x.f0, .int .i64 x.f1] := by
  obtain ⟨_, _, rfl, rfl, rfl⟩ := h
  exact rfl
theorem k115_openM {w : World} {base : Nat} {ok : Nat → Prop} {x : S115} {cs : List Value} (h : k115.M w base ok x cs) : cs = [.int .i64 x.f0, .int .i64 x.f1] := by
  obtain ⟨_, _, rfl, rfl, rfl⟩ := h
  exact rfl
def rd_T115 (xs : List S115) (i : Int) : S115 := xs.getD i.toNat z115
theorem at_T115 {w : World} {A : Option Addr} {n : Nat} {xs : List S115} (h : Kd.C k115 w A n xs) (i : Int) (h0 : 0 ≤ i) (h1 : i < n) : ∃ ad , A = some ad ∧ w.cell? (ad.add (i.toNat * 2)) = some (.int .i64 (rd_T115 xs i).f0) ∧ w.cell? ⟨(ad.add (i.toNat * 2)).block, (ad.add (i.toNat * 2)).off + 1, none⟩ = some (.int .i64 (rd_T115 xs i).f1) := by
  obtain ⟨ad, c, e, _, hK, hc0⟩ := Kd.C_get h z115 i h0 h1
  have hc : ∀ j u, c[j]? = some u → w.cell? (ad.add (i.toNat * 2 + j)) = some u := hc0
  obtain rfl := k115_open hK
  exact ⟨ad, e, hc 0 _ rfl, by rw [← add_field _ _ 1 (by omega)]; exact hc 1 _ rfl⟩
structure S66 where
  f0 : Int
  f1 : Int
  f2 : Int
  f3 : (List Int)
  f4 : Int
  f5 : Int
  f6 : Int
  f7 : Int
  f8 : (List Int)
  f9 : (List S115)
  f10 : (List S115)
  f11 : Int
  f12 : Int
instance instDecS66 : DecidableEq S66 := fun x y => decidable_of_iff (x.f0 = y.f0 ∧ x.f1 = y.f1 ∧ x.f2 = y.f2 ∧ x.f3 = y.f3 ∧ x.f4 = y.f4 ∧ x.f5 = y.f5 ∧ x.f6 = y.f6 ∧ x.f7 = y.f7 ∧ x.f8 = y.f8 ∧ x.f9 = y.f9 ∧ x.f10 = y.f10 ∧ x.f11 = y.f11 ∧ x.f12 = y.f12) (by cases x; cases y; simp)
def z66 : S66 := ⟨(0 : Int), (0 : Int), (0 : Int), ([] : List Int), (0 : Int), (0 : Int), (0 : Int), (0 : Int), ([] : List Int), ([] : List S115), ([] : List S115), (0 : Int), (0 : Int)⟩
def k66 : Kd S66 := Kd.iso (Kd.pair (Kd.int .i64) (Kd.pair (Kd.int .i64) (Kd.pair (Kd.int .i64) (Kd.pair (Kd.slice 3 (Kd.int .i64)) (Kd.pair (Kd.int .i64) (Kd.pair (Kd.int .i64) (Kd.pair (Kd.int .i64) (Kd.pair (Kd.int .i64) (Kd.pair (Kd.slice 3 (Kd.int .i64)) (Kd.pair (Kd.slice 115 k115) (Kd.pair (Kd.slice 115 k115) (Kd.pair (Kd.int .i64) (Kd.int .i64))))))))))))) (fun x : S66 => (x.f0, x.f1, x.f2, x.f3, x.f4, x.f5, x.f6, x.f7, x.f8, x.f9, x.f10, x.f11, x.f12))
theorem k66_open {w : World} {x : S66} {cs : List Value} (h : k66.K w x cs) : ∃ A3 c3 A8 c8 A9 c9 A10 c10, cs = [.int .i64 x.f0, .int .i64 x.f1, .int .i64 x.f2, .slice A3 x.f3.length c3, .int .i64 x.f4, .int .i64 x.f5, .int .i64 x.f6, .int .i64 x.f7, .slice A8 x.f8.length c8, .slice A9 x.f9.length c9, .slice A10 x.f10.length c10, .int .i64 x.f11, .int .i64 x.f12] ∧ x.f3.length ≤ c3 ∧ (Kd.int .i64).C w A3 x.f3.length x.f3 ∧ x.f8.length ≤ c8 ∧ (Kd.int .i64).C w A8 x.f8.length x.f8 ∧ x.f9.length ≤ c9 ∧ k115.C w A9 x.f9.length x.f9 ∧ x.f10.length ≤ c10 ∧ k115.C w A10 x.f10.length x.f10 := by
  obtain ⟨_, _, rfl, rfl, ⟨_, _, rfl, rfl, ⟨_, _, rfl, rfl, ⟨_, _, rfl, ⟨A3, c3, rfl, l3, g3⟩, ⟨_, _, rfl, rfl, ⟨_, _, rfl, rfl, ⟨_, _, rfl, rfl, ⟨_, _, rfl, rfl, ⟨_, _, rfl, ⟨A8, c8, rfl, l8, g8⟩, ⟨_, _, rfl, ⟨A9, c9, rfl, l9, g9⟩, ⟨_, _, rfl, ⟨A10, c10, rfl, l10, g10⟩, ⟨_, _, rfl, rfl, rfl⟩⟩⟩⟩⟩⟩⟩⟩⟩⟩⟩⟩ := h
  exact ⟨A3, c3, A8, c8, A9, c9, A10, c10, rfl, l3, g3, l8, g8, l9, g9, l10, g10⟩
theorem k66_mk (w : World) (x : S66) {A3 : Option Addr} {c3 : Nat} (l3 : x.f3.length ≤ c3) (g3 : (Kd.int .i64).C w A3 x.f3.length x.f3) {A8 : Option Addr} {c8 : Nat} (l8 : x.f8.length ≤ c8) (g8 : (Kd.int .i64).C w A8 x.f8.length x.f8) {A9 : Option Addr} {c9 : Nat} (l9 : x.f9.length ≤ c9) (g9 : k115.C w A9 x.f9.length x.f9) {A10 : Option Addr} {c10 : Nat} (l10 : x.f10.length ≤ c10) (g10 : k115.C w A10 x.f10.length x.f10) : k66.K w x [.int .i64 x.f0, .int .i64 x.f1, .int .i64 x.f2, .slice A3 x.f3.length c3, .int .i64 x.f4, .int .i64 x.f5, .int .i64 x.f6, .int .i64 x.f7, .slice A8 x.f8.length c8, .slice A9 x.f9.length c9, .slice A10 x.f10.length c10, .int .i64 x.f11, .int .i64 x.f12] := ⟨[.int .i64 x.f0], [.int .i64 x.f1, .int .i64 x.f2, .slice A3 x.f3.length c3, .int .i64 x.f4, .int .i64 x.f5, .int .i64 x.f6, .int .i64 x.f7, .slice A8 x.f8.length c8, .slice A9 x.f9.length c9, .slice A10 x.f10.length c10, .int .i64 x.f11, .int .i64 x.f12], rfl, rfl, ⟨[.int .i64 x.f1], [.int .i64 x.f2, .slice A3 x.f3.length c3, .int .i64 x.f4, .int .i64 x.f5, .int .i64 x.f6, .int .i64 x.f7, .slice A8 x.f8.length c8, .slice A9 x.f9.length c9, .slice A10 x.f10.length c10, .int .i64 x.f11, .int .i64 x.f12], rfl, rfl, ⟨[.int .i64 x.f2], [.slice A3 x.f3.length c3, .int .i64 x.f4, .int .i64 x.f5, .int .i64 x.f6, .int .i64 x.f7, .slice A8 x.f8.length c8, .slice A9 x.f9.length c9, .slice A10 x.f10.length c10, .int .i64 x.f11, .int .i64 x.f12], rfl, rfl, ⟨[.slice A3 x.f3.length c3], [.int .i64 x.f4, .int .i64 x.f5, .int .i64 x.f6, .int .i64 x.f7, .slice A8 x.f8.length c8, .slice A9 x.f9.length c9, .slice A10 x.f10.length c10, .int .i64 x.f11, .int .i64 x.f12], rfl, ⟨A3, c3, rfl, l3, g3⟩, ⟨[.int .i64 x.f4], [.int .i64 x.f5, .int .i64 x.f6, .int .i64 x.f7, .slice A8 x.f8.length c8, .slice A9 x.f9.length c9, .slice A10 x.f10.length c10, .int .i64 x.f11, .int .i64 x.f12], rfl, rfl, ⟨[.int .i64 x.f5], [.int .i64 x.f6, .int .i64 x.f7, .slice A8 x.f8.length c8, .slice A9 x.f9.length c9, .slice A10 x.f10.length c10, .int .i64 x.f11, .int .i64 x.f12], rfl, rfl, ⟨[.int .i64 x.f6], [.int .i64 x.f7, .slice A8 x.f8.length c8, .slice A9 x.f9.length c9, .slice A10 x.f10.length c10, .int .i64 x.f11, .int .i64 x.f12], rfl, rfl, ⟨[.int .i64 x.f7], [.slice A8 x.f8.length c8, .slice A9 x.f9.length c9, .slice A10 x.f10.length c10, .int .i64 x.f11, .int .i64 x.f12], rfl, rfl, ⟨[.slice A8 x.f8.length c8], [.slice A9 x.f9.length c9, .slice A10 x.f10.length c10, .int .i64 x.f11, .int .i64 x.f12], rfl, ⟨A8, c8, rfl, l8, g8⟩, ⟨[.slice A9 x.f9.length c9], [.slice A10 x.f10.length c10, .int .i64 x.f11, .int .i64 x.f12], rfl, ⟨A9, c9, rfl, l9, g9⟩, ⟨[.slice A10 x.f10.length c10], [.int .i64 x.f11, .int .i64 x.f12], rfl, ⟨A10, c10, rfl, l10, g10⟩, ⟨[.int .i64 x.f11], [.int .i64 x.f12], rfl, rfl, rfl⟩⟩⟩⟩⟩⟩⟩⟩⟩⟩⟩⟩
theorem k66_mkM (w : World) (base : Nat) (ok : Nat → Prop) (x : S66) {v3 : Value} (g3 : (Kd.int .i64).R 3 w base ok v3 x.f3) {v8 : Value} (g8 : (Kd.int .i64).R 3 w base ok v8 x.f8) {v9 : Value} (g9 : k115.R 115 w base ok v9 x.f9) {v10 : Value} (g10 : k115.R 115 w base ok v10 x.f10) : k66.M w base ok x [.int .i64 x.f0, .int .i64 x.f1, .int .i64 x.f2, v3, .int .i64 x.f4, .int .i64 x.f5, .int .i64 x.f6, .int .i64 x.f7, v8, v9, v10, .int .i64 x.f11, .int .i64 x.f12] := ⟨[.int .i64 x.f0], [.int .i64 x.f1, .int .i64 x.f2, v3, .int .i64 x.f4, .int .i64 x.f5, .int .i64 x.f6, .int .i64 x.f7, v8, v9, v10, .int .i64 x.f11, .int .i64 x.f12], rfl, rfl, ⟨[.int .i64 x.f1], [.int .i64 x.f2, v3, .int .i64 x.f4, .int .i64 x.f5, .int .i64 x.f6, .int .i64 x.f7, v8, v9, v10, .int .i64 x.f11, .int .i64 x.f12], rfl, rfl, ⟨[.int .i64 x.f2], [v3, .int .i64 x.f4, .int .i64 x.f5, .int .i64 x.f6, .int .i64 x.f7, v8, v9, v10, .int .i64 x.f11, .int .i64 x.f12], rfl, rfl, ⟨[v3], [.int .i64 x.f4, .int .i64 x.f5, .int .i64 x.f6, .int .i64 x.f7, v8, v9, v10, .int .i64 x.f11, .int .i64 x.f12], rfl, ⟨v3, rfl, g3⟩, ⟨[.int .i64 x.f4], [.int .i64 x.f5, .int .i64 x.f6, .int .i64 x.f7, v8, v9, v10, .int .i64 x.f11, .int .i64 x.f12], rfl, rfl, ⟨[.int .i64 x.f5], [.int .i64 x.f6, .int .i64 x.f7, v8, v9, v10, .int .i64 x.f11, .int .i64 x.f12], rfl, rfl, ⟨[.int .i64 x.f6], [.int .i64 x.f7, v8, v9, v10, .int .i64 x.f11, .int .i64 x.f12], rfl, rfl, ⟨[.int .i64 x.f7], [v8, v9, v10, .int .i64 x.f11, .int .i64 x.f12], rfl, rfl, ⟨[v8], [v9, v10, .int .i64 x.f11, .int .i64 x.f12], rfl, ⟨v8, rfl, g8⟩, ⟨[v9], [v10, .int .i64 x.f11, .int .i64 x.f12], rfl, ⟨v9, rfl, g9⟩, ⟨[v10], [.int .i64 x.f11, .int .i64 x.f12], rfl, ⟨v10, rfl, g10⟩, ⟨[.int .i64 x.f11], [.int .i64 x.f12], rfl, rfl, rfl⟩⟩⟩⟩⟩⟩⟩⟩⟩⟩⟩⟩
theorem k66_mkF (W : World) (ok : Nat → Prop) (x : S66) {A3 : Option Addr} {c3 : Nat} (l3 : x.f3.length ≤ c3) (g3 : Kd.F (Kd.int .i64) W ok A3 x.f3.length x.f3) {A8 : Option Addr} {c8 : Nat} (l8 : x.f8.length ≤ c8) (g8 : Kd.F (Kd.int .i64) W ok A8 x.f8.length x.f8) {A9 : Option Addr} {c9 : Nat} (l9 : x.f9.length ≤ c9) (g9 : Kd.F k115 W ok A9 x.f9.length x.f9) {A10 : Option Addr} {c10 : Nat} (l10 : x.f10.length ≤ c10) (g10 : Kd.F k115 W ok A10 x.f10.length x.f10) : Kd.FK k66 W ok x [.int .i64 x.f0, .int .i64 x.f1, .int .i64 x.f2, .slice A3 x.f3.length c3, .int .i64 x.f4, .int .i64 x.f5, .int .i64 x.f6, .int .i64 x.f7, .slice A8 x.f8.length c8, .slice A9 x.f9.length c9, .slice A10 x.f10.length c10, .int .i64 x.f11, .int .i64 x.f12] := fun W2 hW => k66_mk W2 x l3 (g3 W2 hW) l8 (g8 W2 hW) l9 (g9 W2 hW) l10 (g10 W2 hW)
def rd_T66 (xs : List S66) (i : Int) : S66 := xs.getD i.toNat z66
theorem at_T66 {w : World} {A : Option Addr} {n : Nat} {xs : List S66} (h : Kd.C k66 w A n xs) (i : Int) (h0 : 0 ≤ i) (h1 : i < n) : ∃ ad A3 c3 A8 c8 A9 c9 A10 c10, A = some ad ∧ w.cell? (ad.add (i.toNat * 13)) = some (.int .i64 (rd_T66 xs i).f0) ∧ w.cell? ⟨(ad.add (i.toNat * 13)).block, (ad.add (i.toNat * 13)).off + 1, none⟩ = some (.int .i64 (rd_T66 xs i).f1) ∧ w.cell? ⟨(ad.add (i.toNat * 13)).block, (ad.add (i.toNat * 13)).off + 2, none⟩ = some (.int .i64 (rd_T66 xs i).f2) ∧ w.cell? ⟨(ad.add (i.toNat * 13)).block, (ad.add (i.toNat * 13)).off + 3, none⟩ = some (.slice A3 (rd_T66 xs i).f3.length c3) ∧ w.cell? ⟨(ad.add (i.toNat * 13)).block, (ad.add (i.toNat * 13)).off + 4, none⟩ = some (.int .i64 (rd_T66 xs i).f4) ∧ w.cell? ⟨(ad.add (i.toNat * 13)).block, (ad.add (i.toNat * 13)).off + 5, none⟩ = some (.int .i64 (rd_T66 xs i).f5) ∧ w.cell? ⟨(ad.add (i.toNat * 13)).block, (ad.add (i.toNat * 13)).off + 6, none⟩ = some (.int .i64 (rd_T66 xs i).f6) ∧ w.cell? ⟨(ad.add (i.toNat * 13)).block, (ad.add (i.toNat * 13)).off + 7, none⟩ = some (.int .i64 (rd_T66 xs i).f7) ∧ w.cell? ⟨(ad.add (i.toNat * 13)).block, (ad.add (i.toNat * 13)).off + 8, none⟩ = some (.slice A8 (rd_T66 xs i).f8.length c8) ∧ w.cell? ⟨(ad.add (i.toNat * 13)).block, (ad.add (i.toNat * 13)).off + 9, none⟩ = some (.slice A9 (rd_T66 xs i).f9.length c9) ∧ w.cell? ⟨(ad.add (i.toNat * 13)).block, (ad.add (i.toNat * 13)).off + 10, none⟩ = some (.slice A10 (rd_T66 xs i).f10.length c10) ∧ w.cell? ⟨(ad.add (i.toNat * 13)).block, (ad.add (i.toNat * 13)).off + 11, none⟩ = some (.int .i64 (rd_T66 xs i).f11) ∧ w.cell? ⟨(ad.add (i.toNat * 13)).block, (ad.add (i.toNat * 13)).off + 12, none⟩ = some (.int .i64 (rd_T66 xs i).f12) ∧ (rd_T66 xs i).f3.length ≤ c3 ∧ (Kd.int .i64).C w A3 (rd_T66 xs i).f3.length (rd_T66 xs i).f3 ∧ (rd_T66 xs i).f8.length ≤ c8 ∧ (Kd.int .i64).C w A8 (rd_T66 xs i).f8.length (rd_T66 xs i).f8 ∧ (rd_T66 xs i).f9.length ≤ c9 ∧ k115.C w A9 (rd_T66 xs i).f9.length (rd_T66 xs i).f9 ∧ (rd_T66 xs i).f10.length ≤ c10 ∧ k115.C w A10 (rd_T66 xs i).f10.length (rd_T66 xs i).f10 := by
  obtain ⟨ad, c, e, _, hK, hc0⟩ := Kd.C_get h z66 i h0 h1
  have hc : ∀ j u, c[j]? = some u → w.cell? (ad.add (i.toNat * 13 + j)) = some u := hc0
  obtain ⟨A3, c3, A8, c8, A9, c9, A10, c10, rfl, l3, g3, l8, g8, l9, g9, l10, g10⟩ := k66_open hK
  exact ⟨ad, A3, c3, A8, c8, A9, c9, A10, c10, e, hc 0 _ rfl, by rw [← add_field _ _ 1 (by omega)]; exact hc 1 _ rfl, by rw [← add_field _ _ 2 (by omega)]; exact hc 2 _ rfl, by rw [← add_field _ _ 3 (by omega)]; exact hc 3 _ rfl, by rw [← add_field _ _ 4 (by omega)]; exact hc 4 _ rfl, by rw [← add_field _ _ 5 (by omega)]; exact hc 5 _ rfl, by rw [← add_field _ _ 6 (by omega)]; exact hc 6 _ rfl, by rw [← add_field _ _ 7 (by omega)]; exact hc 7 _ rfl, by rw [← add_field _ _ 8 (by omega)]; exact hc 8 _ rfl, by rw [← add_field _ _ 9 (by omega)]; exact hc 9 _ rfl, by rw [← add_field _ _ 10 (by omega)]; exact hc 10 _ rfl, by rw [← add_field _ _ 11 (by omega)]; exact hc 11 _ rfl, by rw [← add_field _ _ 12 (by omega)]; exact hc 12 _ rfl, l3, g3, l8, g8, l9, g9, l10, g10⟩
structure S69 where
  f0 : Int
  f1 : Int
  f2 : Int
instance instDecS69 : DecidableEq S69 := fun x y => decidable_of_iff (x.f0 = y.f0 ∧ x.f1 = y.f1 ∧ x.f2 = y.f2) (by cases x; cases y; simp)
def z69 : S69 := ⟨(0 : Int), (0 : Int), (0 : Int)⟩
def k69 : Kd S69 := Kd.iso (Kd.pair (Kd.int .i64) (Kd.pair (Kd.int .i64) (Kd.int .i64))) (fun x : S69 => (x.f0, x.f1, x.f2))
theorem k69_open {w : World} {x : S69} {cs : List Value} (h : k69.K w x cs) : cs = [.int .i64 x.f0, .int .i64 x.f1, .int .i64 x.f2] := by
  obtain ⟨_, _, rfl, rfl, ⟨_, _, rfl, rfl, rfl⟩⟩ := h
  exact rfl
theorem k69_openM {w : World} {base : Nat} {ok : Nat → Prop} {x : S69} {cs : List Value} (h : k69.M w base ok x cs) : cs = [.int .i64 x.f0, .int .i64 x.f1, .int .i64 x.f2] := by
  obtain ⟨_, _, rfl, rfl, ⟨_, _, rfl, rfl, rfl⟩⟩ := h
  exact rfl
theorem k69_mkM (w : World) (base : Nat) (ok : Nat → Prop) (x : S69)  : k69.M w base ok x [.int .i64 x.f0, .int .i64 x.f1, .int .i64 x.f2] := ⟨[.int .i64 x.f0], [.int .i64 x.f1, .int .i64 x.f2], rfl, rfl, ⟨[.int .i64 x.f1], [.int .i64 x.f2], rfl, rfl, rfl⟩⟩
def rd_T69 (xs : List S69) (i : Int) : S69 := xs.getD i.toNat z69
theorem at_T69 {w : World} {A : Option Addr} {n : Nat} {xs : List S69} (h : Kd.C k69 w A n xs) (i : Int) (h0 : 0 ≤ i) (h1 : i < n) : ∃ ad , A = some ad ∧ w.cell? (ad.add (i.toNat * 3)) = some (.int .i64 (rd_T69 xs i).f0) ∧ w.cell? ⟨(ad.add (i.toNat * 3)).block, (ad.add (i.toNat * 3)).off + 1, none⟩ = some (.int .i64 (rd_T69 xs i).f1) ∧ w.cell? ⟨(ad.add (i.toNat * 3)).block, (ad.add (i.toNat * 3)).off + 2, none⟩ = some (.int .i64 (rd_T69 xs i).f2) := by
  obtain ⟨ad, c, e, _, hK, hc0⟩ := Kd.C_get h z69 i h0 h1
  have hc : ∀ j u, c[j]? = some u → w.cell? (ad.add (i.toNat * 3 + j)) = some u := hc0
  obtain rfl := k69_open hK
  exact ⟨ad, e, hc 0 _ rfl, by rw [← add_field _ _ 1 (by omega)]; exact hc 1 _ rfl, by rw [← add_field _ _ 2 (by omega)]; exact hc 2 _ rfl⟩
structure S84 where
  f0 : Int
  f1 : Int
  f2 : Int
  f3 : (List S115)
  f4 : (List S115)
  f5 : Int
instance instDecS84 : DecidableEq S84 := fun x y => decidable_of_iff (x.f0 = y.f0 ∧ x.f1 = y.f1 ∧ x.f2 = y.f2 ∧ x.f3 = y.f3 ∧ x.f4 = y.f4 ∧ x.f5 = y.f5) (by cases x; cases y; simp)
def z84 : S84 := ⟨(0 : Int), (0 : Int), (0 : Int), ([] : List S115), ([] : List S115), (0 : Int)⟩
def k84 : Kd S84 := Kd.iso (Kd.pair (Kd.int .i64) (Kd.pair (Kd.int .i64) (Kd.pair (Kd.int .i64) (Kd.pair (Kd.slice 115 k115) (Kd.pair (Kd.slice 115 k115) (Kd.int .i64)))))) (fun x : S84 => (x.f0, x.f1, x.f2, x.f3, x.f4, x.f5))
theorem k84_open {w : World} {x : S84} {cs : List Value} (h : k84.K w x cs) : ∃ A3 c3 A4 c4, cs = [.int .i64 x.f0, .int .i64 x.f1, .int .i64 x.f2, .slice A3 x.f3.length c3, .slice A4 x.f4.length c4, .int .i64 x.f5] ∧ x.f3.length ≤ c3 ∧ k115.C w A3 x.f3.length x.f3 ∧ x.f4.length ≤ c4 ∧ k115.C w A4 x.f4.length x.f4 := by
  obtain ⟨_, _, rfl, rfl, ⟨_, _, rfl, rfl, ⟨_, _, rfl, rfl, ⟨_, _, rfl, ⟨A3, c3, rfl, l3, g3⟩, ⟨_, _, rfl, ⟨A4, c4, rfl, l4, g4⟩, rfl⟩⟩⟩⟩⟩ := h
  exact ⟨A3, c3, A4, c4, rfl, l3, g3, l4, g4⟩
def rd_T84 (xs : List S84) (i : Int) : S84 := xs.getD i.toNat z84
theorem at_T84 {w : World} {A : Option Addr} {n : Nat} {xs : List S84} (h : Kd.C k84 w A n xs) (i : Int) (h0 : 0 ≤ i) (h1 : i < n) : ∃ ad A3 c3 A4 c4, A = some ad ∧ w.cell? (ad.add (i.toNat * 6)) = some (.int .i64 (rd_T84 xs i).f0) ∧ w.cell? ⟨(ad.add (i.toNat * 6)).block, (ad.add (i.toNat * 6)).off + 1, none⟩ = some (.int .i64 (rd_T84 xs i).f1) ∧ w.cell? ⟨(ad.add (i.toNat * 6)).block, (ad.add (i.toNat * 6)).off + 2, none⟩ = some (.int .i64 (rd_T84 xs i).f2) ∧ w.cell? ⟨(ad.add (i.toNat * 6)).block, (ad.add (i.toNat * 6)).off + 3, none⟩ = some (.slice A3 (rd_T84 xs i).f3.length c3) ∧ w.cell? ⟨(ad.add (i.toNat * 6)).block, (ad.add (i.toNat * 6)).off + 4, none⟩ = some (.slice A4 (rd_T84 xs i).f4.length c4) ∧ w.cell? ⟨(ad.add (i.toNat * 6)).block, (ad.add (i.toNat * 6)).off + 5, none⟩ = some (.int .i64 (rd_T84 xs i).f5) ∧ (rd_T84 xs i).f3.length ≤ c3 ∧ k115.C w A3 (rd_T84 xs i).f3.length (rd_T84 xs i).f3 ∧ (rd_T84 xs i).f4.length ≤ c4 ∧ k115.C w A4 (rd_T84 xs i).f4.length (rd_T84 xs i).f4 := by
  obtain ⟨ad, c, e, _, hK, hc0⟩ := Kd.C_get h z84 i h0 h1
  have hc : ∀ j u, c[j]? = some u → w.cell? (ad.add (i.toNat * 6 + j)) = some u := hc0
  obtain ⟨A3, c3, A4, c4, rfl, l3, g3, l4, g4⟩ := k84_open hK
  exact ⟨ad, A3, c3, A4, c4, e, hc 0 _ rfl, by rw [← add_field _ _ 1 (by omega)]; exact hc 1 _ rfl, by rw [← add_field _ _ 2 (by omega)]; exact hc 2 _ rfl, by rw [← add_field _ _ 3 (by omega)]; exact hc 3 _ rfl, by rw [← add_field _ _ 4 (by omega)]; exact hc 4 _ rfl, by rw [← add_field _ _ 5 (by omega)]; exact hc 5 _ rfl, l3, g3, l4, g4⟩
structure S36 where
  f0 : (List Int)
  f1 : (List (List S57))
instance instDecS36 : DecidableEq S36 := fun x y => decidable_of_iff (x.f0 = y.f0 ∧ x.f1 = y.f1) (by cases x; cases y; simp)
structure S31 where
  f0 : (List S69)
  f1 : (List S66)
  f2 : Int
  f3 : (List S84)
instance instDecS31 : DecidableEq S31 := fun x y => decidable_of_iff (x.f0 = y.f0 ∧ x.f1 = y.f1 ∧ x.f2 = y.f2 ∧ x.f3 = y.f3) (by cases x; cases y; simp)
end Go.Proofs.Ytoeepmcaabmjkaa.QSN
