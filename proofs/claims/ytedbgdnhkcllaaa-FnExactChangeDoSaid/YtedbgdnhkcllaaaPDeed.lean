/- Plain lemmas: what it is for deeds to be those of a change; the program's test and the reference's tell it (no condition but lengths that fit into an int). -/
import Derived.Test.YtedbgdnhkcllaaaU0
namespace Go.Proofs.Ytedbgdnhkcllaaa.PDeed
open Go.RowKit Go.Proofs.Ytedbgdnhkcllaaa.QRB Go.Proofs.YtedbgdnhkcllaaaW.PrintWords Go.Proofs.YtedbgdnhkcllaaaW.PrintLast

theorem w64 {i : Int} (h0 : -9223372036854775808 ≤ i) (h1 : i ≤ 9223372036854775807) : wrap64 i = i := by
  unfold wrap64
  omega
theorem down {P : Nat → Prop} {n : Nat} (he : P n) (hs : ∀ i, i < n → P (i + 1) → P i) : ∀ i, i ≤ n → P i := by
  intro i hi
  obtain ⟨d, hd⟩ : ∃ d, n = i + d := ⟨n - i, by omega⟩
  induction d generalizing i with
  | zero =>
    have : i = n := by omega
    rw [this]
    exact he
  | succ d ih => exact hs i (by omega) (ih (i + 1) (by omega) (by omega))
theorem ev_pos {α : Type} {c : Prop} [Decidable c] {f g : Nat → Option α} {r : α} (hc : c) (h : Ev f r) : Ev (fun n => if c then f n else g n) r := by
  simp only [if_pos hc]
  exact h
theorem ev_neg {α : Type} {c : Prop} [Decidable c] {f g : Nat → Option α} {r : α} (hc : ¬ c) (h : Ev g r) : Ev (fun n => if c then f n else g n) r := by
  simp only [if_neg hc]
  exact h
theorem rdD (l : List S41) (i : Nat) (hi : i < l.length) : rd_T41 l (i : Int) = l[i] := by
  simp [rd_T41, List.getD, hi]

def inB (x lo hi : Int) : Bool := decide (lo ≤ x) && decide (x ≤ hi)
theorem l6In_eq (x lo hi : Int) : spec_l6In.f x lo hi = some (inB x lo hi) := by
  unfold spec_l6In.f inB
  by_cases h : x ≥ lo
  · rw [if_pos h, decide_eq_true h, Bool.true_and]
  · rw [if_neg h, decide_eq_false h, Bool.false_and]
theorem isPlace_eq (x n : Int) : impl_isPlace.f x n = some (inB x 0 (n - 1)) := by
  unfold impl_isPlace.f inB
  by_cases h : 0 ≤ x
  · rw [if_pos h, decide_eq_true h, Bool.true_and]
    congr 1
    exact decide_eq_decide.2 (by omega)
  · rw [if_neg h, decide_eq_false h, Bool.false_and]
theorem isReg_eq (x : Int) : impl_isReg.f x = some (inB x 0 2) := by
  unfold impl_isReg.f
  rw [isPlace_eq]
  rfl
theorem isNum_eq (x : Int) : impl_isNum.f x = some (inB x 0 99) := by
  unfold impl_isNum.f
  rw [isPlace_eq]
  rfl

/-- Is a deed in form, if there are so many cells? -/
def deedB (k a b cells : Int) : Bool :=
  if k = 1 then inB a 0 2 && inB b 0 (cells - 1) else if k = 2 then inB a 0 (cells - 1) && inB b 0 2 else if k = 3 then inB a 0 2 && inB b 0 99
  else if k = 4 then inB a 0 2 && inB b 0 2 else if k = 5 then inB a 0 2 && (b == 0) else false
theorem some_and (p q : Bool) : (if p = true then some q else some false) = some (p && q) := by cases p <;> rfl
theorem l1Deed_some (k a b c : Int) : ∃ r, spec_l1Deed.f k a b c = some r := by
  unfold spec_l1Deed.f
  simp only [l6In_eq, Option.bind_some, some_and]
  repeat' (first | exact ⟨_, rfl⟩ | split)
theorem l1Deed_eq (k a b c : Int) (h0 : 0 ≤ c) (h1 : c ≤ 3) : spec_l1Deed.f k a b c = some (deedB k a b c) := by
  unfold spec_l1Deed.f deedB
  simp only [l6In_eq, Option.bind_some, some_and, w64 (show -9223372036854775808 ≤ c - 1 by omega) (show c - 1 ≤ 9223372036854775807 by omega)]
  repeat' (first | rfl | split)
theorem deedOk_eq (k a b c : Int) : ((impl_partOfDeed.f k a b).bind fun t => impl_deedOk.f t c) = some (deedB k a b c) := by
  unfold impl_partOfDeed.f impl_deedOk.f deedB
  simp only [Option.bind_some, isReg_eq, isPlace_eq, isNum_eq, some_and]
  by_cases h1 : k = 1
  · subst h1; simp
  by_cases h2 : k = 2
  · subst h2; simp
  by_cases h3 : k = 3
  · subst h3; simp
  by_cases h4 : k = 4
  · subst h4; simp
  by_cases h5 : k = 5
  · subst h5
    by_cases h6 : b = 0
    · subst h6; simp
    · simp [h6]
  · simp [h1, h2, h3, h4, h5]

def dB (cells : Int) (d : S41) : Bool := deedB d.f0 d.f1 d.f2 cells
/-- Are deeds those of a change, if there are so many cells? -/
def okC (l : List S41) (cells : Int) : Bool := (inB cells 0 3 && decide (l.length ≤ 5)) && l.all (dB cells)

theorem specOk_ev (l : List S41) (cells : Int) (hl : l.length ≤ 9223372036854775806) : Ev (fun k => spec_ChangeOk.f k l cells) (okC l cells) := by
  have fin : ∀ k : Nat, spec_ChangeOk.l0 (k + 1) l cells (l.length : Int) = some (inB cells 0 3 && decide (l.length ≤ 5)) := by
    intro k
    rw [spec_ChangeOk.l0, if_neg (by omega)]
    by_cases h : l.length ≤ 5
    · rw [if_pos (by omega), l6In_eq, decide_eq_true h, Bool.and_true]
      rfl
    · rw [if_neg (by omega), decide_eq_false h, Bool.and_false]
  by_cases hc : 0 ≤ cells ∧ cells ≤ 3
  · have key : ∀ i, i ≤ l.length → Ev (fun k => spec_ChangeOk.l0 k l cells (i : Int)) ((inB cells 0 3 && decide (l.length ≤ 5)) && (l.drop i).all (dB cells)) := by
      refine down ?_ ?_
      · refine Ev.step fin ?_
        rw [List.drop_length, List.all_nil, Bool.and_true]
        exact Ev.now _
      · intro i hi ih
        rw [List.drop_eq_getElem_cons hi, List.all_cons]
        cases hb : dB cells l[i] with
        | true =>
          rw [Bool.true_and]
          refine Ev.step (fun k => ?_) ih
          rw [spec_ChangeOk.l0, if_pos (by omega), if_pos (by omega), rdD l i hi, l1Deed_eq _ _ _ _ hc.1 hc.2, w64 (by omega) (by omega)]
          unfold dB at hb
          rw [hb]
          rfl
        | false =>
          rw [Bool.false_and, Bool.and_false]
          refine Ev.step (fun k => ?_) (Ev.now false)
          rw [spec_ChangeOk.l0, if_pos (by omega), if_pos (by omega), rdD l i hi, l1Deed_eq _ _ _ _ hc.1 hc.2]
          unfold dB at hb
          rw [hb]
          rfl
    exact key 0 (Nat.zero_le _)
  · have hin : inB cells 0 3 = false := by
      unfold inB
      by_cases h : 0 ≤ cells
      · rw [decide_eq_false (p := cells ≤ 3) (by omega), Bool.and_false]
      · rw [decide_eq_false h, Bool.false_and]
    have key : ∀ i, i ≤ l.length → Ev (fun k => spec_ChangeOk.l0 k l cells (i : Int)) false := by
      refine down ?_ ?_
      · refine Ev.step fin ?_
        rw [hin, Bool.false_and]
        exact Ev.now _
      · intro i hi ih
        obtain ⟨r, hr⟩ := l1Deed_some l[i].f0 l[i].f1 l[i].f2 cells
        cases r with
        | true =>
          refine Ev.step (fun k => ?_) ih
          rw [spec_ChangeOk.l0, if_pos (by omega), if_pos (by omega), rdD l i hi, hr, w64 (by omega) (by omega)]
          rfl
        | false =>
          refine Ev.step (fun k => ?_) (Ev.now false)
          rw [spec_ChangeOk.l0, if_pos (by omega), if_pos (by omega), rdD l i hi, hr]
          rfl
    unfold okC
    rw [hin, Bool.false_and, Bool.false_and]
    exact key 0 (Nat.zero_le _)

theorem implOk_ev (l : List S41) (cells : Int) (hl : l.length ≤ 9223372036854775806) : Ev (fun k => impl_ChangeOk.f k l cells) (okC l cells) := by
  have key : ∀ i, i ≤ l.length → Ev (fun k => impl_ChangeOk.l0 k cells l (l.length : Int) (i : Int)) ((l.drop i).all (dB cells)) := by
    refine down ?_ ?_
    · refine Ev.step (fun k => by rw [impl_ChangeOk.l0, if_neg (by omega)]) ?_
      rw [List.drop_length, List.all_nil]
      exact Ev.now _
    · intro i hi ih
      rw [List.drop_eq_getElem_cons hi, List.all_cons]
      have hd : ∀ (f : Bool → Option Bool), ((impl_partOfDeed.f l[i].f0 l[i].f1 l[i].f2).bind fun t => (impl_deedOk.f t cells).bind f) = f (dB cells l[i]) := by
        intro f
        have := deedOk_eq l[i].f0 l[i].f1 l[i].f2 cells
        unfold dB
        have e : ((impl_partOfDeed.f l[i].f0 l[i].f1 l[i].f2).bind fun t => (impl_deedOk.f t cells).bind f) = (((impl_partOfDeed.f l[i].f0 l[i].f1 l[i].f2).bind fun t => impl_deedOk.f t cells).bind f) := by rw [Option.bind_assoc]
        rw [e, this]
        rfl
      cases hb : dB cells l[i] with
      | true =>
        rw [Bool.true_and]
        refine Ev.step (fun k => ?_) ih
        rw [impl_ChangeOk.l0, if_pos (by omega), if_pos (by omega), if_pos (by omega), rdD l i hi, hd, hb, if_pos rfl, w64 (by omega) (by omega)]
        rfl
      | false =>
        rw [Bool.false_and]
        refine Ev.step (fun k => ?_) (Ev.now false)
        rw [impl_ChangeOk.l0, if_pos (by omega), if_pos (by omega), if_pos (by omega), rdD l i hi, hd, hb, if_neg Bool.false_ne_true]
  have k0 := key 0 (Nat.zero_le _)
  unfold impl_ChangeOk.f okC inB
  by_cases h0 : cells < 0
  · refine ev_pos h0 ?_
    rw [decide_eq_false (p := 0 ≤ cells) (by omega)]
    simp only [Bool.false_and]
    exact Ev.step (fun k => by rw [impl_ChangeOk.j0, if_pos rfl]) (Ev.now _)
  · refine ev_neg h0 ?_
    by_cases h1 : cells > 3
    · refine ev_pos h1 ?_
      rw [decide_eq_false (p := cells ≤ 3) (by omega)]
      simp only [Bool.and_false, Bool.false_and]
      exact Ev.step (fun k => by rw [impl_ChangeOk.j0, if_pos rfl]) (Ev.now _)
    · refine ev_neg h1 ?_
      rw [decide_eq_true (p := 0 ≤ cells) (by omega), decide_eq_true (p := cells ≤ 3) (by omega)]
      simp only [Bool.true_and]
      by_cases h2 : l.length ≤ 5
      · rw [decide_eq_true h2, Bool.true_and, decide_eq_false (p := (l.length : Int) > 5) (by omega)]
        exact Ev.step (fun k => by rw [impl_ChangeOk.j0, if_neg Bool.false_ne_true]; rfl) k0
      · rw [decide_eq_false h2, Bool.false_and, decide_eq_true (p := (l.length : Int) > 5) (by omega)]
        exact Ev.step (fun k => by rw [impl_ChangeOk.j0, if_pos rfl]) (Ev.now _)
end Go.Proofs.Ytedbgdnhkcllaaa.PDeed
