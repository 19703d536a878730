/- Plain lemmas: lists of cells in order; what a change stores to, and reads, by the program and by the reference: the same. -/
import Derived.Test.YtedbgdnhkcllaaaPChange
import Derived.Test.YtedbgdnhkcllaaaQRBx20
namespace Go.Proofs.Ytedbgdnhkcllaaa.PSets
open Go.RowKit Go.Proofs.Ytedbgdnhkcllaaa.QRB Go.Proofs.YtedbgdnhkcllaaaW.PrintWords Go.Proofs.YtedbgdnhkcllaaaW.PrintLast Go.Proofs.Ytedbgdnhkcllaaa.PDeed Go.Proofs.Ytedbgdnhkcllaaa.PDraw Go.Proofs.Ytedbgdnhkcllaaa.PChange

/-! ### numbers in a list -/
theorem lqHas_ev (l : List Int) (x : Int) (hl : l.length ≤ 9223372036854775806) : Ev (fun k => laws_lqHas.f k l x) (decide (x ∈ l)) := by
  have key : ∀ i, i ≤ l.length → Ev (fun k => laws_lqHas.l0 k l x (i : Int)) (decide (x ∈ l.drop i)) := by
    refine down ?_ ?_
    · refine Ev.step (fun k => by rw [laws_lqHas.l0, if_neg (by omega)]) ?_
      rw [List.drop_length]
      exact Ev.now _
    · intro i hi ih
      rw [List.drop_eq_getElem_cons hi]
      by_cases h : l[i] = x
      · rw [decide_eq_true (by rw [h]; exact List.mem_cons_self)]
        exact Ev.step (fun k => by rw [laws_lqHas.l0, if_pos (by omega), if_pos (by omega), if_pos (by rw [rdN l i hi]; exact h)]) (Ev.now _)
      · have e : decide (x ∈ l[i] :: l.drop (i + 1)) = decide (x ∈ l.drop (i + 1)) := decide_eq_decide.2 ⟨fun hx => (List.mem_cons.1 hx).elim (fun e => absurd e.symm h) id, List.mem_cons_of_mem _⟩
        rw [e]
        refine Ev.step (fun k => ?_) ih
        rw [laws_lqHas.l0, if_pos (by omega), if_pos (by omega), if_neg (by rw [rdN l i hi]; exact h), w64 (by omega) (by omega)]
        rfl
  exact key 0 (Nat.zero_le _)
theorem l2Has_ev (l : List Int) (x : Int) (hl : l.length ≤ 9223372036854775806) : Ev (fun k => spec_l2Has.f k l x) (decide (x ∈ l)) := by
  have key : ∀ i, i ≤ l.length → Ev (fun k => spec_l2Has.l0 k l x (i : Int)) (decide (x ∈ l.drop i)) := by
    refine down ?_ ?_
    · refine Ev.step (fun k => by rw [spec_l2Has.l0, if_neg (by omega)]) ?_
      rw [List.drop_length]
      exact Ev.now _
    · intro i hi ih
      rw [List.drop_eq_getElem_cons hi]
      by_cases h : l[i] = x
      · rw [decide_eq_true (by rw [h]; exact List.mem_cons_self)]
        exact Ev.step (fun k => by rw [spec_l2Has.l0, if_pos (by omega), if_pos (by omega), if_pos (by rw [rdN l i hi]; exact h)]) (Ev.now _)
      · have e : decide (x ∈ l[i] :: l.drop (i + 1)) = decide (x ∈ l.drop (i + 1)) := decide_eq_decide.2 ⟨fun hx => (List.mem_cons.1 hx).elim (fun e => absurd e.symm h) id, List.mem_cons_of_mem _⟩
        rw [e]
        refine Ev.step (fun k => ?_) ih
        rw [spec_l2Has.l0, if_pos (by omega), if_pos (by omega), if_neg (by rw [rdN l i hi]; exact h), w64 (by omega) (by omega)]
        rfl
  exact key 0 (Nat.zero_le _)
def Up (l : List Int) : Prop := l.Pairwise (· < ·)
theorem up_get {l : List Int} (h : Up l) {i j : Nat} (hij : i < j) (hj : j < l.length) : l[i] < l[j] := List.pairwise_iff_getElem.1 h i j (by omega) hj hij
/-- Two lists in order with the same members are one. -/
theorem up_ext : ∀ {a b : List Int}, Up a → Up b → (∀ x, x ∈ a ↔ x ∈ b) → a = b
  | [], [], _, _, _ => rfl
  | [], y :: b, _, _, h => absurd ((h y).2 List.mem_cons_self) (by simp)
  | x :: a, [], _, _, h => absurd ((h x).1 List.mem_cons_self) (by simp)
  | x :: a, y :: b, ha, hb, h => by
    obtain ⟨a1, a2⟩ := List.pairwise_cons.1 ha
    obtain ⟨b1, b2⟩ := List.pairwise_cons.1 hb
    have e : x = y := by
      rcases List.mem_cons.1 ((h x).1 List.mem_cons_self) with e | e
      · exact e
      · rcases List.mem_cons.1 ((h y).2 List.mem_cons_self) with f | f
        · exact f.symm
        · have := a1 y f; have := b1 x e; omega
    subst e
    rw [up_ext a2 b2 (fun z => ⟨fun hz => (List.mem_cons.1 ((h z).1 (List.mem_cons_of_mem _ hz))).resolve_left (fun e => by have := a1 z hz; omega), fun hz => (List.mem_cons.1 ((h z).2 (List.mem_cons_of_mem _ hz))).resolve_left (fun e => by have := b1 z hz; omega)⟩)]
/-! ### where a number stands in a list in order -/
theorem mid_eq {lo hi : Nat} (h : lo + hi ≤ 4000000) : wrap64 ((IntKind.u64.wrap (wrap64 ((lo : Int) + (hi : Int)))) / 2) = (((lo + hi) / 2 : Nat) : Int) := by
  rw [w64 (i := (lo : Int) + (hi : Int)) (by omega) (by omega)]
  have e : IntKind.u64.wrap ((lo : Int) + (hi : Int)) = (lo : Int) + (hi : Int) := by simp [IntKind.wrap, IntKind.bits, IntKind.signed]; omega
  rw [e, w64 (by omega) (by omega)]
  omega
theorem less_eq (a b : Int) : cmp_Less_int.f a b = some (decide (a < b)) := by
  unfold cmp_Less_int.f cmp_isNaN_int.f
  simp
theorem bs_ev (l : List Int) (x : Int) (hl : l.length ≤ 1000000) (h : Up l) :
    ∃ p : Nat, Ev (fun k => slices_BinarySearch_int_int.f k l x) ((p : Int), decide (x ∈ l)) ∧ p ≤ l.length ∧ (∀ t, ∀ ht : t < l.length, t < p → l[t] < x) ∧ (∀ t, ∀ ht : t < l.length, p ≤ t → x ≤ l[t]) := by
  have key : ∀ g lo hi : Nat, hi - lo ≤ g → lo ≤ hi → hi ≤ l.length → (∀ t, ∀ ht : t < l.length, t < lo → l[t] < x) → (∀ t, ∀ ht : t < l.length, hi ≤ t → x ≤ l[t]) →
      ∃ p : Nat, Ev (fun k => slices_BinarySearch_int_int.l0 k l x (l.length : Int) (lo : Int) (hi : Int)) ((p : Int), decide (x ∈ l)) ∧ p ≤ l.length ∧ (∀ t, ∀ ht : t < l.length, t < p → l[t] < x) ∧ (∀ t, ∀ ht : t < l.length, p ≤ t → x ≤ l[t]) := by
    intro g
    induction g with
    | zero =>
      intro lo hi h1 h2 h3 h4 h5
      obtain rfl : lo = hi := by omega
      refine ⟨lo, ?_, h3, h4, h5⟩
      by_cases h6 : lo < l.length
      · by_cases h7 : l[lo] = x
        · rw [decide_eq_true (by rw [← h7]; exact List.getElem_mem h6)]
          exact Ev.step (fun k => by rw [slices_BinarySearch_int_int.l0, if_neg (by omega), if_pos (by omega), if_pos (by omega), if_pos (by omega), if_pos (by rw [rdN l lo h6]; exact h7)]) (Ev.now _)
        · have hn : ¬ x ∈ l := fun hx => by
            obtain ⟨t, ht, e⟩ := List.getElem_of_mem hx
            by_cases h8 : t < lo
            · have := h4 t ht h8; omega
            · have h9 := h5 lo h6 (Nat.le_refl _)
              by_cases h10 : t = lo
              · subst h10; exact h7 e
              · have := up_get h (show lo < t by omega) ht; omega
          rw [decide_eq_false hn]
          refine Ev.step (fun k => ?_) (Ev.now _)
          rw [slices_BinarySearch_int_int.l0, if_neg (by omega), if_pos (by omega), if_pos (by omega), if_pos (by omega), if_neg (by rw [rdN l lo h6]; exact h7)]
          unfold slices_isNaN_int.f
          simp
      · have hn : ¬ x ∈ l := fun hx => by
          obtain ⟨t, ht, e⟩ := List.getElem_of_mem hx
          have := h4 t ht (by omega)
          omega
        rw [decide_eq_false hn]
        exact Ev.step (fun k => by rw [slices_BinarySearch_int_int.l0, if_neg (by omega), if_neg (by omega)]) (Ev.now _)
    | succ g ih =>
      intro lo hi h1 h2 h3 h4 h5
      by_cases h6 : lo < hi
      · have hm : (lo + hi) / 2 < l.length := by omega
        obtain ⟨m, e⟩ : ∃ m, (lo + hi) / 2 = m := ⟨_, rfl⟩
        have he := mid_eq (lo := lo) (hi := hi) (by omega)
        rw [e] at hm he
        by_cases h7 : l[m] < x
        · obtain ⟨p, ep, hp⟩ := ih (m + 1) hi (by omega) (by omega) h3 (fun t ht hlt => by
            by_cases h8 : t = m
            · subst h8; exact h7
            · have := up_get h (show t < m by omega) hm; omega) h5
          refine ⟨p, Ev.step (fun k => ?_) ep, hp⟩
          rw [slices_BinarySearch_int_int.l0, if_pos (by omega), he, if_pos (by omega), if_pos (by omega), rdN l m hm, less_eq, decide_eq_true h7, Option.bind_some, if_pos rfl, w64 (by omega) (by omega)]
          rfl
        · obtain ⟨p, ep, hp⟩ := ih lo m (by omega) (by omega) (by omega) h4 (fun t ht hle => by
            by_cases h8 : t = m
            · subst h8; omega
            · have := up_get h (show m < t by omega) ht; omega)
          refine ⟨p, Ev.step (fun k => ?_) ep, hp⟩
          rw [slices_BinarySearch_int_int.l0, if_pos (by omega), he, if_pos (by omega), if_pos (by omega), rdN l m hm, less_eq, decide_eq_false h7, Option.bind_some, if_neg Bool.false_ne_true]
      · exact ih lo hi (by omega) h2 h3 h4 h5
  exact key l.length 0 l.length (by omega) (Nat.zero_le _) (Nat.le_refl _) (fun t _ ht => by omega) (fun t ht h => by omega)
theorem hasCell_ev (l : List Int) (x : Int) (hl : l.length ≤ 1000000) (h : Up l) : Ev (fun k => impl_hasCell.f k l x) (decide (x ∈ l)) := by
  obtain ⟨p, e, -⟩ := bs_ev l x hl h
  exact Ev.bind e (Ev.now _)
theorem withCell_ev (l : List Int) (x : Int) (hl : l.length ≤ 1000000) (h : Up l) :
    ∃ r : List Int, Ev (fun k => impl_withCell.f k l x) r ∧ Up r ∧ (∀ y, y ∈ r ↔ y ∈ l ∨ y = x) ∧ r.length ≤ l.length + 1 := by
  obtain ⟨p, e, hp, h1, h2⟩ := bs_ev l x hl h
  unfold impl_withCell.f
  by_cases hx : x ∈ l
  · rw [decide_eq_true hx] at e
    exact ⟨l, Ev.bind e (ev_pos rfl (Ev.now _)), h, fun y => ⟨.inl, fun hy => hy.elim id (fun e => e ▸ hx)⟩, by omega⟩
  · rw [decide_eq_false hx] at e
    refine ⟨insL l p x, Ev.bind e (ev_neg Bool.false_ne_true (ev_pos ⟨hl, by dsimp only; omega, by dsimp only; omega⟩ ?_)), ?_, ?_, by rw [insL_len]; omega⟩
    · exact Ev.now _
    · unfold insL Up
      rw [List.pairwise_append, List.pairwise_cons]
      refine ⟨List.Pairwise.sublist (List.take_sublist _ _) h, ⟨fun y hy => ?_, List.Pairwise.sublist (List.drop_sublist _ _) h⟩, fun y hy z hz => ?_⟩
      · obtain ⟨t, ht, rfl⟩ := List.getElem_of_mem hy
        rw [List.getElem_drop]
        rw [List.length_drop] at ht
        have := h2 (p + t) (by omega) (by omega)
        have : l[p + t] ≠ x := fun e => hx (e ▸ List.getElem_mem _)
        omega
      · obtain ⟨t, ht, rfl⟩ := List.getElem_of_mem hy
        rw [List.length_take] at ht
        rw [List.getElem_take]
        have h3 := h1 t (by omega) (by omega)
        rcases List.mem_cons.1 hz with rfl | hz
        · exact h3
        · obtain ⟨s, hs, rfl⟩ := List.getElem_of_mem hz
          rw [List.getElem_drop]
          rw [List.length_drop] at hs
          exact up_get h (by omega) (by omega)
    · intro y
      unfold insL
      rw [List.mem_append, List.mem_cons]
      constructor
      · rintro (hy | rfl | hy)
        · exact .inl (List.mem_of_mem_take hy)
        · exact .inr rfl
        · exact .inl (List.mem_of_mem_drop hy)
      · rintro (hy | rfl)
        · rw [← List.take_append_drop p l, List.mem_append] at hy
          exact hy.elim .inl (fun h => .inr (.inr h))
        · exact .inr (.inl rfl)
/-! ### what a change stores to, and what it reads -/
def Stores (d : List S41) (y : Int) : Prop := ∃ q ∈ d, q.f0 = 2 ∧ q.f1 = y
def Reads : (Int → Prop) → List S41 → Int → Prop
  | _, [], _ => False
  | W, q :: l, y => (q.f0 = 1 ∧ q.f2 = y ∧ ¬ W y) ∨ Reads (fun z => W z ∨ (q.f0 = 2 ∧ q.f1 = z)) l y
theorem reads_congr {W V : Int → Prop} : ∀ {l : List S41}, (∀ z, W z ↔ V z) → ∀ y, Reads W l y ↔ Reads V l y := by
  intro l h y
  have : W = V := funext fun z => propext (h z)
  rw [this]
theorem reads_anti {l : List S41} : ∀ {W V : Int → Prop}, (∀ z, V z → W z) → ∀ y, Reads W l y → Reads V l y := by
  induction l with
  | nil => intro W V _ y h; exact h
  | cons q l ih =>
    intro W V h y hr
    rcases hr with ⟨a, b, c⟩ | hr
    · exact .inl ⟨a, b, fun hv => c (h y hv)⟩
    · exact .inr (ih (fun z hz => hz.imp_left (h z)) y hr)
theorem reads_append {a b : List S41} : ∀ {W : Int → Prop} {y : Int}, Reads W a y → Reads W (a ++ b) y := by
  induction a with
  | nil => intro W y h; exact h.elim
  | cons q a ih => intro W y h; exact h.imp_right ih
theorem reads_all {l : List S41} : ∀ {W : Int → Prop} (q : S41), q ∈ l → q.f0 = 1 → Reads W l q.f2 ∨ W q.f2 ∨ Stores l q.f2 := by
  induction l with
  | nil => intro W q h; cases h
  | cons s l ih =>
    intro W q h h1
    rcases List.mem_cons.1 h with rfl | h
    · by_cases hw : W q.f2
      · exact .inr (.inl hw)
      · exact .inl (.inl ⟨h1, rfl, hw⟩)
    · rcases ih (W := fun z => W z ∨ (s.f0 = 2 ∧ s.f1 = z)) q h h1 with h2 | (h2 | h2) | ⟨t, ht, h2⟩
      · exact .inl (.inr h2)
      · exact .inr (.inl h2)
      · exact .inr (.inr ⟨s, List.mem_cons_self, h2⟩)
      · exact .inr (.inr ⟨t, List.mem_cons_of_mem _ ht, h2⟩)
theorem reads_from {l : List S41} : ∀ {W : Int → Prop} {y : Int}, Reads W l y → ∃ q ∈ l, q.f0 = 1 ∧ q.f2 = y := by
  induction l with
  | nil => intro W y h; exact h.elim
  | cons s l ih =>
    intro W y h
    rcases h with ⟨a, b, -⟩ | h
    · exact ⟨s, List.mem_cons_self, a, b⟩
    · obtain ⟨q, hq, h⟩ := ih h
      exact ⟨q, List.mem_cons_of_mem _ hq, h⟩
theorem stores_cons {q : S41} {l : List S41} {y : Int} : Stores (q :: l) y ↔ (q.f0 = 2 ∧ q.f1 = y) ∨ Stores l y := by
  constructor
  · rintro ⟨s, hs, h⟩
    rcases List.mem_cons.1 hs with rfl | hs
    · exact .inl h
    · exact .inr ⟨s, hs, h⟩
  · rintro (h | ⟨s, hs, h⟩)
    · exact ⟨q, List.mem_cons_self, h⟩
    · exact ⟨s, List.mem_cons_of_mem _ hs, h⟩
theorem not_both {q : S41} (h : q.f0 ≠ 2) (z : Int) : ¬ (q.f0 = 2 ∧ q.f1 = z) := fun e => h e.1
theorem writes_ev (d : List S41) (hd : d.length ≤ 10000) : ∃ r : List Int, Ev (fun k => impl_ChangeWrites.f k d) r ∧ Up r ∧ (∀ y, y ∈ r ↔ Stores d y) ∧ r.length ≤ d.length := by
  have key : ∀ i, i ≤ d.length → ∀ l : List Int, Up l → l.length ≤ i → ∃ r : List Int, Ev (fun k => impl_ChangeWrites.l0 k l d (d.length : Int) (i : Int)) r ∧ Up r ∧ (∀ y, y ∈ r ↔ y ∈ l ∨ Stores (d.drop i) y) ∧ r.length ≤ d.length := by
    refine down ?_ ?_
    · intro l hu hl
      refine ⟨l, Ev.step (fun k => by rw [impl_ChangeWrites.l0, if_neg (by omega)]) (Ev.now _), hu, fun y => ?_, by omega⟩
      rw [List.drop_length]
      exact ⟨.inl, fun h => h.elim id (fun ⟨_, h, _⟩ => by cases h)⟩
    · intro i hi ih l hu hl
      have hr := rdD d i hi
      have hw : wrap64 ((i : Int) + 1) = ((i + 1 : Nat) : Int) := by rw [w64 (by omega) (by omega)]; rfl
      rw [List.drop_eq_getElem_cons hi]
      generalize d[i] = q at hr
      by_cases h2 : q.f0 = 2
      · obtain ⟨m, em, um, mm, lm⟩ := withCell_ev l q.f1 (by omega) hu
        obtain ⟨r, er, ur, mr, lr⟩ := ih m um (by omega)
        refine ⟨r, Ev.step (fun k => by rw [impl_ChangeWrites.l0, if_pos (by omega), if_pos (by omega), if_pos (by omega), hr, if_pos h2, hw]) (by exact Ev.bind em er), ur, fun y => ?_, lr⟩
        rw [mr, mm, stores_cons, or_assoc]
        exact or_congr_right (or_congr_left ⟨fun e => ⟨h2, e.symm⟩, fun e => e.2.symm⟩)
      · obtain ⟨r, er, ur, mr, lr⟩ := ih l hu (by omega)
        refine ⟨r, Ev.step (fun k => by rw [impl_ChangeWrites.l0, if_pos (by omega), if_pos (by omega), if_pos (by omega), hr, if_neg h2, hw]) er, ur, fun y => ?_, lr⟩
        rw [mr, stores_cons]
        exact or_congr_right ⟨.inr, fun h => h.resolve_left (not_both h2 y)⟩
  obtain ⟨r, er, ur, mr, lr⟩ := key 0 (Nat.zero_le _) [] List.Pairwise.nil (Nat.zero_le _)
  exact ⟨r, er, ur, fun y => by rw [mr]; simp, lr⟩
theorem reads_ev (d : List S41) (hd : d.length ≤ 10000) : ∃ r : List Int, Ev (fun k => impl_ChangeReads.f k d) r ∧ Up r ∧ (∀ y, y ∈ r ↔ Reads (fun _ => False) d y) ∧ r.length ≤ d.length := by
  have key : ∀ i, i ≤ d.length → ∀ a l : List Int, Up a → a.length ≤ i → Up l → l.length ≤ i → ∃ r : List Int, Ev (fun k => impl_ChangeReads.l0 k a l d (d.length : Int) (i : Int)) r ∧ Up r ∧ (∀ y, y ∈ r ↔ y ∈ a ∨ Reads (fun z => z ∈ l) (d.drop i) y) ∧ r.length ≤ d.length := by
    refine down ?_ ?_
    · intro a l ha la hu hl
      refine ⟨a, Ev.step (fun k => by rw [impl_ChangeReads.l0, if_neg (by omega)]) (Ev.now _), ha, fun y => ?_, by omega⟩
      rw [List.drop_length]
      exact ⟨.inl, fun h => h.elim id (fun h => h.elim)⟩
    · intro i hi ih a l ha la hu hl
      have hr := rdD d i hi
      have hw : wrap64 ((i : Int) + 1) = ((i + 1 : Nat) : Int) := by rw [w64 (by omega) (by omega)]; rfl
      rw [List.drop_eq_getElem_cons hi]
      generalize d[i] = q at hr
      by_cases h1 : q.f0 = 1
      · have eh := hasCell_ev l q.f2 (by omega) hu
        have hz : ∀ z, (z ∈ l ∨ q.f0 = 2 ∧ q.f1 = z) ↔ z ∈ l := fun z => ⟨fun h => h.elim id (fun e => absurd e.1 (by omega)), .inl⟩
        by_cases hm : q.f2 ∈ l
        · obtain ⟨r, er, ur, mr, lr⟩ := ih a l ha (by omega) hu (by omega)
          rw [decide_eq_true hm] at eh
          refine ⟨r, Ev.step (fun k => by rw [impl_ChangeReads.l0, if_pos (by omega), if_pos (by omega), if_pos (by omega), hr, if_pos h1, hw]) (by exact Ev.bind eh (ev_pos rfl er)), ur, fun y => ?_, lr⟩
          rw [mr]
          refine or_congr_right ⟨fun h => .inr ((reads_congr hz y).2 h), fun h => h.elim (fun ⟨_, e, n⟩ => absurd (e ▸ hm) n) (fun h => (reads_congr hz y).1 h)⟩
        · obtain ⟨m, em, um, mm, lm⟩ := withCell_ev a q.f2 (by omega) ha
          obtain ⟨r, er, ur, mr, lr⟩ := ih m l um (by omega) hu (by omega)
          rw [decide_eq_false hm] at eh
          refine ⟨r, Ev.step (fun k => by rw [impl_ChangeReads.l0, if_pos (by omega), if_pos (by omega), if_pos (by omega), hr, if_pos h1, hw]) (by exact Ev.bind eh (ev_neg Bool.false_ne_true (Ev.bind em er))), ur, fun y => ?_, lr⟩
          rw [mr, mm, or_assoc]
          exact or_congr_right (or_congr ⟨fun e => ⟨h1, e.symm, e ▸ hm⟩, fun e => e.2.1.symm⟩ (reads_congr hz y).symm)
      · by_cases h2 : q.f0 = 2
        · obtain ⟨m, em, um, mm, lm⟩ := withCell_ev l q.f1 (by omega) hu
          obtain ⟨r, er, ur, mr, lr⟩ := ih a m ha (by omega) um (by omega)
          refine ⟨r, Ev.step (fun k => by rw [impl_ChangeReads.l0, if_pos (by omega), if_pos (by omega), if_pos (by omega), hr, if_neg h1, if_pos h2, hw]) (by exact Ev.bind em er), ur, fun y => ?_, lr⟩
          rw [mr]
          refine or_congr_right (Iff.trans (reads_congr (fun z => ?_) y) ⟨.inr, fun h => h.resolve_left (fun e => h1 e.1)⟩)
          rw [mm]
          exact or_congr_right ⟨fun e => ⟨h2, e.symm⟩, fun e => e.2.symm⟩
        · obtain ⟨r, er, ur, mr, lr⟩ := ih a l ha (by omega) hu (by omega)
          refine ⟨r, Ev.step (fun k => by rw [impl_ChangeReads.l0, if_pos (by omega), if_pos (by omega), if_pos (by omega), hr, if_neg h1, if_neg h2, hw]) er, ur, fun y => ?_, lr⟩
          rw [mr]
          exact or_congr_right (Iff.trans (reads_congr (fun z => ⟨.inl, fun h => h.resolve_right (not_both h2 z)⟩) y) ⟨.inr, fun h => h.resolve_left (fun e => h1 e.1)⟩)
  obtain ⟨r, er, ur, mr, lr⟩ := key 0 (Nat.zero_le _) [] [] List.Pairwise.nil (Nat.zero_le _) List.Pairwise.nil (Nat.zero_le _)
  refine ⟨r, er, ur, fun y => ?_, lr⟩
  rw [mr, List.drop_zero]
  exact ⟨fun h => (reads_congr (fun z => by simp) y).1 (h.resolve_left (by simp)), fun h => .inr ((reads_congr (fun z => by simp) y).1 h)⟩
end Go.Proofs.Ytedbgdnhkcllaaa.PSets
