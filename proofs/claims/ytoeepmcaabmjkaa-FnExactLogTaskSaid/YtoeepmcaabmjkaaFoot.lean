/- Numbers that are stored one after the other at told places, and that stand there then. No condition. -/
import Derived.Test.YtoeepmcaabmjkaaMark
namespace Go.Proofs.YtoeepmcaabmjkaaW.PrintWords
open Go.RowKit

/-- k, k + 1, .. at the places of F, one behind the other. -/
def jot : List Addr → Int → World → World
  | [], _, w => w
  | a :: F, k, w => jot F (wrap64 (k + 1)) (w.setCell a (.int .i64 k))
theorem mkI_head (n : Nat) (k : Int) : mkI n (wrap64 (k + 1)) = mkI (n + 1) k := by
  rw [Nat.add_comm n 1, mkI_add]
  rfl
theorem jot_append : ∀ (F G : List Addr) (k : Int) (w : World), jot (F ++ G) k w = jot G (mkI F.length k) (jot F k w)
  | [], _, _, _ => rfl
  | a :: F, G, k, w => by
    show jot (F ++ G) (wrap64 (k + 1)) (w.setCell a (.int .i64 k)) = jot G (mkI (F.length + 1) k) (jot F (wrap64 (k + 1)) (w.setCell a (.int .i64 k)))
    rw [jot_append F G, mkI_head]
theorem jot_other : ∀ (F : List Addr) (k : Int) (w : World) (x : Addr), x ∉ F → (jot F k w).cell? x = w.cell? x
  | [], _, _, _, _ => rfl
  | a :: F, k, w, x, h => by
    have h1 : a ≠ x := fun e => h (e ▸ List.mem_cons_self)
    exact (jot_other F _ _ x (fun e => h (List.mem_cons_of_mem _ e))).trans (World.cell?_setCell_other _ _ _ _ h1)
theorem jot_ints {P : Nat → Prop} : ∀ (F : List Addr) (k : Int) (w : World), (∀ a ∈ F, P a.block ∧ IsI (w.cell? a)) → IntsOnly P w (jot F k w)
  | [], _, w, _ => IntsOnly.refl P w
  | a :: F, k, w, h => by
    have h0 := h a List.mem_cons_self
    have i1 : IntsOnly P w (w.setCell a (.int .i64 k)) := (IntsOnly.refl P w).set h0.1 h0.2 k
    exact i1.trans (jot_ints F _ _ (fun b hb => ⟨(h b (List.mem_cons_of_mem _ hb)).1, i1.int _ (h b (List.mem_cons_of_mem _ hb)).2⟩))
def Holds (w : World) : List Addr → Int → Prop
  | [], _ => True
  | a :: F, k => w.cell? a = some (.int .i64 k) ∧ Holds w F (wrap64 (k + 1))
theorem Holds_append {w : World} : ∀ (F G : List Addr) (k : Int), Holds w (F ++ G) k ↔ Holds w F k ∧ Holds w G (mkI F.length k)
  | [], G, k => ⟨fun h => ⟨trivial, h⟩, fun h => h.2⟩
  | a :: F, G, k => by
    show (w.cell? a = some (.int .i64 k) ∧ Holds w (F ++ G) (wrap64 (k + 1))) ↔ (w.cell? a = some (.int .i64 k) ∧ Holds w F (wrap64 (k + 1))) ∧ Holds w G (mkI (F.length + 1) k)
    rw [Holds_append F G, mkI_head, and_assoc]
theorem Holds.move {w w' : World} : ∀ (F : List Addr) (k : Int), Holds w F k → (∀ a ∈ F, w'.cell? a = w.cell? a) → Holds w' F k
  | [], _, _, _ => trivial
  | a :: F, _, h, hm => ⟨(hm a List.mem_cons_self).trans h.1, Holds.move F _ h.2 (fun b hb => hm b (List.mem_cons_of_mem _ hb))⟩
theorem Holds.below {w w' : World} {F : List Addr} {k : Int} (h : Holds w F k) (hb : Below w.heap.size w w') : Holds w' F k := by
  refine Holds.move F k h fun a ha => ?_
  have : ∃ z, w.cell? a = some (.int .i64 z) := by
    clear hb
    induction F generalizing k with
    | nil => cases ha
    | cons b F ih =>
      rcases List.mem_cons.1 ha with rfl | ha
      · exact ⟨_, h.1⟩
      · exact ih h.2 ha
  obtain ⟨z, hz⟩ := this
  exact (pw_cell_below hb hz).trans hz.symm
theorem jot_holds : ∀ (F : List Addr) (k : Int) (w : World), F.Nodup → (∀ a ∈ F, IsI (w.cell? a)) → Holds (jot F k w) F k
  | [], _, _, _, _ => trivial
  | a :: F, k, w, hn, h => by
    have hn' := List.nodup_cons.1 hn
    have i1 : IntsOnly (fun _ => True) w (w.setCell a (.int .i64 k)) := (IntsOnly.refl _ w).set trivial (h a List.mem_cons_self) k
    refine ⟨(jot_other F _ _ a hn'.1).trans ?_, jot_holds F _ _ hn'.2 (fun b hb => i1.int _ (h b (List.mem_cons_of_mem _ hb)))⟩
    obtain ⟨z, hz⟩ := h a List.mem_cons_self
    exact World.cell?_setCell_same _ _ _ hz

/-- The places of a row's first m numbers. -/
def footR (A : Option Addr) (m : Nat) : List Addr := match A with
  | some a => (List.range m).map fun j => ⟨a.block, j, none⟩
  | none => []
theorem footR_len (g m : Nat) : (footR (some ⟨g, 0, none⟩) m).length = m := by simp [footR]
theorem footR_mem {A : Option Addr} {m : Nat} {x : Addr} (h : x ∈ footR A m) : ∃ a j, A = some a ∧ j < m ∧ x = ⟨a.block, j, none⟩ := by
  cases A with
  | none => cases h
  | some a =>
    obtain ⟨j, hj, rfl⟩ := List.mem_map.1 h
    exact ⟨a, j, rfl, List.mem_range.1 hj, rfl⟩
theorem footR_nodup (A : Option Addr) (m : Nat) : (footR A m).Nodup := by
  cases A with
  | none => exact List.nodup_nil
  | some a =>
    refine List.Pairwise.map _ (R := fun a b => a ≠ b) (fun i j hij he => hij ?_) List.nodup_range
    injection he
theorem footR_add (g n m : Nat) : footR (some ⟨g, 0, none⟩) (n + m) = footR (some ⟨g, 0, none⟩) n ++ (List.range m).map fun j => (⟨g, n + j, none⟩ : Addr) := by
  simp only [footR, List.range_add, List.map_append, List.map_map]
  rfl
theorem ShR.len {m : Nat} {w : World} {P : Nat → Prop} {A : Option Addr} {n : Nat} (h : ShR m w P A n) : (footR A (n * m)).length = n * m := by
  rcases Nat.eq_zero_or_pos n with h0 | h0
  · subst h0
    rw [Nat.zero_mul]
    cases A <;> simp [footR]
  · obtain ⟨g, rfl, _⟩ := h.2 h0
    exact footR_len g _
theorem ShR.below {m : Nat} {w w' : World} {P : Nat → Prop} {A : Option Addr} {n : Nat} (h : ShR m w P A n) (hb : Below w.heap.size w w') : ShR m w' P A n := by
  refine ⟨h.1, fun hn => ?_⟩
  obtain ⟨g, e, hp, hc⟩ := h.2 hn
  refine ⟨g, e, hp, fun j hj => ?_⟩
  obtain ⟨⟨z, hz⟩, hf⟩ := hc j hj
  exact ⟨⟨z, pw_cell_below hb hz⟩, (hb.frozen (p := ⟨g, j, none⟩) (World.block_lt_of_cell? w _ hz)).trans hf⟩
theorem ShR.foot {m : Nat} {w : World} {P : Nat → Prop} {A : Option Addr} {n : Nat} (h : ShR m w P A n) : ∀ a ∈ footR A (n * m), P a.block ∧ IsI (w.cell? a) := by
  intro x hx
  obtain ⟨a, j, rfl, hj, rfl⟩ := footR_mem hx
  obtain ⟨g, e, hp, hc⟩ := h.2 (Nat.pos_of_ne_zero (fun h0 => by subst h0; rw [Nat.zero_mul] at hj; exact absurd hj (Nat.not_lt_zero _)))
  injection e with e
  subst e
  exact ⟨hp, (hc j hj).1⟩
/-- The same, the numbers unwrapped. -/
def HoldsN (w : World) : List Addr → Int → Prop
  | [], _ => True
  | a :: F, k => w.cell? a = some (.int .i64 k) ∧ HoldsN w F (k + 1)
theorem HoldsN_append {w : World} : ∀ (F G : List Addr) (k : Int), HoldsN w (F ++ G) k ↔ HoldsN w F k ∧ HoldsN w G (k + F.length)
  | [], G, k => by
    show HoldsN w G k ↔ True ∧ HoldsN w G (k + ((0 : Nat) : Int))
    rw [show k + ((0 : Nat) : Int) = k by omega]
    exact ⟨fun h => ⟨trivial, h⟩, fun h => h.2⟩
  | a :: F, G, k => by
    show (w.cell? a = some (.int .i64 k) ∧ HoldsN w (F ++ G) (k + 1)) ↔ (w.cell? a = some (.int .i64 k) ∧ HoldsN w F (k + 1)) ∧ HoldsN w G (k + ((F.length + 1 : Nat) : Int))
    rw [HoldsN_append F G, and_assoc, show k + ((F.length + 1 : Nat) : Int) = k + 1 + (F.length : Int) by omega]
theorem HoldsN.move {w w' : World} : ∀ (F : List Addr) (k : Int), HoldsN w F k → (∀ a ∈ F, w'.cell? a = w.cell? a) → HoldsN w' F k
  | [], _, _, _ => trivial
  | a :: F, _, h, hm => ⟨(hm a List.mem_cons_self).trans h.1, HoldsN.move F _ h.2 (fun b hb => hm b (List.mem_cons_of_mem _ hb))⟩
theorem HoldsN.cast {w : World} {F : List Addr} {k k' : Int} (h : HoldsN w F k) (e : k = k') : HoldsN w F k' := e ▸ h
structure SameW (w w' : World) : Prop where mk :: (out : w = w')
theorem HoldsN.drewN {w : World} {F : List Addr} {k : Int} (h : HoldsN w F k) (n : Nat) : HoldsN (w.drewN n) F k := HoldsN.move F k h (fun _ _ => rfl)
theorem HoldsN.below {w w' : World} : ∀ {F : List Addr} {k : Int}, HoldsN w F k → Below w.heap.size w w' → HoldsN w' F k
  | [], _, _, _ => trivial
  | _ :: F, _, h, hb => ⟨pw_cell_below hb h.1, HoldsN.below (F := F) h.2 hb⟩
theorem Holds.bare {w : World} : ∀ {F : List Addr} {k : Int}, Holds w F k → 0 ≤ k → k + F.length ≤ 9223372036854775807 → HoldsN w F k
  | [], _, _, _, _ => trivial
  | a :: F, k, h, h0, h1 => by
    have h1' : k + ((F.length + 1 : Nat) : Int) ≤ 9223372036854775807 := h1
    have e : wrap64 (k + 1) = k + 1 := by unfold wrap64; omega
    refine ⟨h.1, ?_⟩
    have h2 := h.2
    rw [e] at h2
    exact Holds.bare h2 (by omega) (by omega)
/-- A list of what is there at each place. -/
theorem list_of {α : Type} {p : Nat → α → Prop} : ∀ (n : Nat), (∀ i, i < n → ∃ q, p i q) → ∃ F : List α, F.length = n ∧ ∀ (i : Nat) q, F[i]? = some q → p i q
  | 0, _ => ⟨[], rfl, fun i q h => by simp at h⟩
  | n + 1, h => by
    obtain ⟨F, hF, hp⟩ := list_of n (fun i hi => h i (by omega))
    obtain ⟨q, hq⟩ := h n (by omega)
    refine ⟨F ++ [q], by simp [hF], fun i q' hi => ?_⟩
    rcases Nat.lt_or_ge i F.length with hl | hl
    · rw [List.getElem?_append_left hl] at hi; exact hp i q' hi
    · have hi' : i = F.length := by
        have := (List.getElem?_eq_some_iff.1 hi).1
        rw [List.length_append, List.length_singleton] at this
        omega
      subst hi'
      have : q = q' := by simpa using hi
      rw [← this, hF]; exact hq
end Go.Proofs.YtoeepmcaabmjkaaW.PrintWords
