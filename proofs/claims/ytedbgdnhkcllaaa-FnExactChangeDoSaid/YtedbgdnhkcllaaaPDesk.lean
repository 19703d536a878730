/- Plain lemmas: a change done, by the program and by the reference: the same; no draws. -/
import Derived.Test.YtedbgdnhkcllaaaPDeed
import Derived.Test.YtedbgdnhkcllaaaU3
namespace Go.Proofs.Ytedbgdnhkcllaaa.PDesk
open Go.RowKit Go.Proofs.Ytedbgdnhkcllaaa.QRB Go.Proofs.YtedbgdnhkcllaaaW.PrintWords Go.Proofs.YtedbgdnhkcllaaaW.PrintLast Go.Proofs.Ytedbgdnhkcllaaa.PDeed

theorem tmod_in {a n : Int} (ha : 0 ≤ a) (hn : 1 ≤ n) : 0 ≤ Int.tmod a n ∧ Int.tmod a n < n :=
  ⟨Int.tmod_nonneg n ha, Int.tmod_lt_of_pos a (by omega)⟩
theorem inB_true {x lo hi : Int} : inB x lo hi = true ↔ lo ≤ x ∧ x ≤ hi := by
  unfold inB
  rw [Bool.and_eq_true, decide_eq_true_iff, decide_eq_true_iff]
def numB (l : List Int) : Bool := l.all fun x => inB x 0 99
theorem numB_iff {l : List Int} : numB l = true ↔ ∀ x ∈ l, 0 ≤ x ∧ x ≤ 99 := by
  unfold numB
  rw [List.all_eq_true]
  exact forall_congr' fun x => forall_congr' fun _ => inB_true
theorem rdN (l : List Int) (i : Nat) (hi : i < l.length) : rd l (i : Int) = l[i] := by
  simp [rd, List.getD, hi]
theorem rd_getD (l : List Int) (i : Int) : rd l i = l.getD i.toNat 0 := rfl
theorem allNums_ev (l : List Int) (hl : l.length ≤ 9223372036854775806) : Ev (fun k => impl_allNums.f k l) (numB l) := by
  have key : ∀ i, i ≤ l.length → Ev (fun k => impl_allNums.l0 k l (l.length : Int) (i : Int)) ((l.drop i).all fun x => inB x 0 99) := by
    refine down ?_ ?_
    · refine Ev.step (fun k => by rw [impl_allNums.l0, if_neg (by omega)]) ?_
      rw [List.drop_length, List.all_nil]
      exact Ev.now _
    · intro i hi ih
      rw [List.drop_eq_getElem_cons hi, List.all_cons]
      cases hb : inB l[i] 0 99 with
      | true =>
        rw [Bool.true_and]
        refine Ev.step (fun k => ?_) ih
        rw [impl_allNums.l0, if_pos (by omega), if_pos (by omega), if_pos (by omega), rdN l i hi, isNum_eq, hb, w64 (by omega) (by omega)]
        rfl
      | false =>
        rw [Bool.false_and]
        refine Ev.step (fun k => ?_) (Ev.now false)
        rw [impl_allNums.l0, if_pos (by omega), if_pos (by omega), if_pos (by omega), rdN l i hi, isNum_eq, hb]
        rfl
  exact key 0 (Nat.zero_le _)
theorem l2Nums_ev (l : List Int) (n : Int) (hl : l.length ≤ 9223372036854775806) : Ev (fun k => spec_l2Nums.f k l n) (numB l && ((l.length : Int) == n)) := by
  have key : ∀ i, i ≤ l.length → Ev (fun k => spec_l2Nums.l0 k l n (i : Int)) (((l.drop i).all fun x => inB x 0 99) && ((l.length : Int) == n)) := by
    refine down ?_ ?_
    · refine Ev.step (fun k => by rw [spec_l2Nums.l0, if_neg (by omega)]) ?_
      rw [List.drop_length, List.all_nil, Bool.true_and]
      exact Ev.now _
    · intro i hi ih
      rw [List.drop_eq_getElem_cons hi, List.all_cons]
      cases hb : inB l[i] 0 99 with
      | true =>
        rw [Bool.true_and]
        refine Ev.step (fun k => ?_) ih
        rw [spec_l2Nums.l0, if_pos (by omega), if_pos (by omega), rdN l i hi, l6In_eq, hb, w64 (by omega) (by omega)]
        rfl
      | false =>
        rw [Bool.false_and, Bool.false_and]
        refine Ev.step (fun k => ?_) (Ev.now false)
        rw [spec_l2Nums.l0, if_pos (by omega), if_pos (by omega), rdN l i hi, l6In_eq, hb]
        rfl
  exact key 0 (Nat.zero_le _)
/-- Cells and registers in form. -/
def St (n : Nat) (c r : List Int) : Prop := (c.length = n ∧ numB c = true) ∧ r.length = 3 ∧ numB r = true
theorem numB_set {l : List Int} (h : numB l = true) (i : Nat) (x : Int) (hx : 0 ≤ x ∧ x ≤ 99) : numB (l.set i x) = true := by
  rw [numB_iff] at h ⊢
  intro y hy
  rcases List.mem_or_eq_of_mem_set hy with h1 | rfl
  · exact h y h1
  · exact hx
theorem numB_get {l : List Int} (h : numB l = true) (i : Nat) : 0 ≤ l.getD i 0 ∧ l.getD i 0 ≤ 99 := by
  rw [numB_iff] at h
  rw [List.getD_eq_getElem?_getD]
  cases e : l[i]? with
  | none => simp
  | some x => exact h x (List.mem_of_getElem? e)
theorem step_ok {n : Nat} {c r : List Int} {d : S41} (hs : St n c r) (hd : dB (n : Int) d = true) :
    ∃ c' r' b, deskStep d c r = some (c', r', b) ∧ St n c' r' := by
  obtain ⟨⟨s1, s2⟩, s3, s4⟩ := hs
  unfold dB deedB at hd
  unfold deskStep
  by_cases h1 : d.f0 = 1
  · rw [if_pos h1, Bool.and_eq_true, inB_true, inB_true] at hd
    rw [if_pos h1, if_pos (by omega)]
    exact ⟨_, _, _, rfl, ⟨s1, s2⟩, by rw [List.length_set]; exact s3, numB_set s4 _ _ (numB_get s2 _)⟩
  rw [if_neg h1] at hd ⊢
  by_cases h2 : d.f0 = 2
  · rw [if_pos h2, Bool.and_eq_true, inB_true, inB_true] at hd
    rw [if_pos h2, if_pos (by omega)]
    exact ⟨_, _, _, rfl, ⟨by rw [List.length_set]; exact s1, numB_set s2 _ _ (numB_get s4 _)⟩, s3, s4⟩
  rw [if_neg h2] at hd ⊢
  by_cases h3 : d.f0 = 3
  · rw [if_pos h3, Bool.and_eq_true, inB_true, inB_true] at hd
    rw [if_pos h3, if_pos (by omega)]
    exact ⟨_, _, _, rfl, ⟨s1, s2⟩, by rw [List.length_set]; exact s3, numB_set s4 _ _ hd.2⟩
  rw [if_neg h3] at hd ⊢
  by_cases h4 : d.f0 = 4
  · rw [if_pos h4, Bool.and_eq_true, inB_true, inB_true] at hd
    rw [if_pos h4, if_pos (by omega)]
    have ga := numB_get s4 d.f1.toNat
    have gb := numB_get s4 d.f2.toNat
    rw [w64 (by omega) (by omega)]
    have t := tmod_in (a := r.getD d.f1.toNat 0 + r.getD d.f2.toNat 0) (n := 100) (by omega) (by omega)
    exact ⟨_, _, _, rfl, ⟨s1, s2⟩, by rw [List.length_set]; exact s3, numB_set s4 _ _ (by omega)⟩
  rw [if_neg h4] at hd ⊢
  by_cases h5 : d.f0 = 5
  · rw [if_pos h5, Bool.and_eq_true, inB_true] at hd
    rw [if_pos h5, if_pos (by omega)]
    exact ⟨_, _, _, rfl, ⟨s1, s2⟩, s3, s4⟩
  rw [if_neg h5] at hd
  cases hd
theorem run_ok {n : Nat} : ∀ {l : List S41} {c r : List Int}, St n c r → l.all (dB (n : Int)) = true →
    ∃ c' r' b, deskRun l c r = some (c', r', b) ∧ (b = true → St n c' r') ∧ (b = false → c' = [] ∧ r' = [])
  | [], c, r, hs, _ => ⟨c, r, true, rfl, fun _ => hs, fun h => by cases h⟩
  | d :: l, c, r, hs, hd => by
    rw [List.all_cons, Bool.and_eq_true] at hd
    obtain ⟨c1, r1, b1, e1, hs1⟩ := step_ok hs hd.1
    rw [deskRun, e1, Option.bind_some]
    cases b1 with
    | false => exact ⟨[], [], false, rfl, fun h => absurd h (by decide), fun _ => ⟨rfl, rfl⟩⟩
    | true => exact run_ok hs1 hd.2
/-- What a change comes to. -/
def fits (c r : List Int) (d : List S41) : Bool := okC d (c.length : Int) && (numB c && (decide (r.length = 3) && numB r))
def chDo (c r : List Int) (d : List S41) : List Int × List Int × Bool := if fits c r d = true then (deskRun d c r).getD ([], [], false) else ([], [], false)
theorem fits_iff {c r : List Int} {d : List S41} : fits c r d = true ↔ okC d (c.length : Int) = true ∧ St c.length c r := by
  unfold fits St
  rw [Bool.and_eq_true, Bool.and_eq_true, Bool.and_eq_true, decide_eq_true_iff]
  exact ⟨fun h => ⟨h.1, ⟨rfl, h.2.1⟩, h.2.2⟩, fun h => ⟨h.1, h.2.1.2, h.2.2⟩⟩
theorem okC_all {l : List S41} {c : Int} (h : okC l c = true) : l.all (dB c) = true := by
  unfold okC at h
  rw [Bool.and_eq_true] at h
  exact h.2
theorem implDo_ev (c r : List Int) (d : List S41) (hc : c.length ≤ 2000000) (hr : r.length ≤ 2000000) (hd : d.length ≤ 2000000) : Ev (fun k => impl_ChangeDo.f k c r d) (chDo c r d) := by
  unfold impl_ChangeDo.f
  have e0 := implOk_ev d (c.length : Int) (by omega)
  have e1 := allNums_ev c (by omega)
  have e2 := allNums_ev r (by omega)
  unfold chDo
  by_cases h0 : okC d (c.length : Int) = true
  case neg =>
    have hf : ¬ fits c r d = true := fun h => h0 (fits_iff.1 h).1
    rw [if_neg hf]
    rw [Bool.not_eq_true] at h0
    rw [h0] at e0
    exact Ev.bind e0 (ev_neg Bool.false_ne_true (Ev.now _))
  rw [h0] at e0
  refine Ev.bind e0 (ev_pos rfl ?_)
  by_cases h1 : numB c = true
  case neg =>
    have hf : ¬ fits c r d = true := fun h => h1 (fits_iff.1 h).2.1.2
    rw [if_neg hf]
    rw [Bool.not_eq_true] at h1
    rw [h1] at e1
    exact Ev.bind e1 (ev_neg Bool.false_ne_true (Ev.now _))
  rw [h1] at e1
  refine Ev.bind e1 (ev_pos rfl ?_)
  by_cases h3 : r.length = 3
  case neg =>
    have hf : ¬ fits c r d = true := fun h => h3 (fits_iff.1 h).2.2.1
    rw [if_neg hf]
    exact ev_neg h3 (Ev.now _)
  refine ev_pos h3 ?_
  by_cases h2 : numB r = true
  case neg =>
    have hf : ¬ fits c r d = true := fun h => h2 (fits_iff.1 h).2.2.2
    rw [if_neg hf]
    rw [Bool.not_eq_true] at h2
    rw [h2] at e2
    exact Ev.bind e2 (ev_neg Bool.false_ne_true (Ev.now _))
  rw [h2] at e2
  refine Ev.bind e2 (ev_pos rfl ?_)
  have hs : St c.length c r := ⟨⟨rfl, h1⟩, h3, h2⟩
  have hf : fits c r d = true := fits_iff.2 ⟨h0, hs⟩
  rw [if_pos hf]
  obtain ⟨c', r', b, e, -⟩ := run_ok hs (okC_all h0)
  unfold slices_Clone_int_int.f
  rw [if_pos (by omega), if_pos (by omega)]
  simp only [Option.bind_some]
  rw [e]
  exact Ev.now _
theorem specRun_ev {n : Nat} (d : List S41) (hl : d.length ≤ 2000000) : ∀ i, i ≤ d.length → ∀ c r : List Int, St n c r → (d.drop i).all (dB (n : Int)) = true →
    Ev (fun k => spec_ChangeDo.l0 k d c r (i : Int)) ((deskRun (d.drop i) c r).getD ([], [], false)) := by
  refine down ?_ ?_
  · intro c r _ _
    rw [List.drop_length, deskRun]
    exact Ev.step (fun k => by rw [spec_ChangeDo.l0, if_neg (by omega)]; rfl) (Ev.now _)
  · intro i hi ih c r hs hd
    rw [List.drop_eq_getElem_cons hi, List.all_cons, Bool.and_eq_true] at hd
    obtain ⟨hp, hd⟩ := hd
    rw [List.drop_eq_getElem_cons hi]
    obtain ⟨c1, r1, b1, e1, hs1⟩ := step_ok hs hp
    have e1' := e1
    rw [deskRun, e1, Option.bind_some]
    obtain ⟨⟨s1, s2⟩, s3, s4⟩ := hs
    have hr := rdD d i hi
    have hw : wrap64 ((i : Int) + 1) = ((i + 1 : Nat) : Int) := by rw [w64 (by omega) (by omega)]; rfl
    generalize d[i] = q at *
    unfold dB deedB at hp
    unfold deskStep at e1
    by_cases h1 : q.f0 = 1
    · rw [if_pos h1, Bool.and_eq_true, inB_true, inB_true] at hp
      rw [if_pos h1, if_pos (by omega)] at e1
      obtain ⟨rfl, rfl, rfl⟩ : c = c1 ∧ _ = r1 ∧ true = b1 := by simpa using e1
      refine Ev.step (fun k => ?_) (ih _ _ hs1 hd)
      rw [spec_ChangeDo.l0, if_pos (by omega), if_pos (by omega), hr, if_pos h1, if_pos (by omega), if_pos (by omega), if_pos (by omega), if_pos (by omega), hw]
      rfl
    rw [if_neg h1] at hp e1
    by_cases h2 : q.f0 = 2
    · rw [if_pos h2, Bool.and_eq_true, inB_true, inB_true] at hp
      rw [if_pos h2, if_pos (by omega)] at e1
      obtain ⟨rfl, rfl, rfl⟩ : _ = c1 ∧ r = r1 ∧ true = b1 := by simpa using e1
      refine Ev.step (fun k => ?_) (ih _ _ hs1 hd)
      rw [spec_ChangeDo.l0, if_pos (by omega), if_pos (by omega), hr, if_neg h1, if_pos h2, if_pos (by omega), if_pos (by omega), if_pos (by omega), if_pos (by omega), hw]
      rfl
    rw [if_neg h2] at hp e1
    by_cases h3 : q.f0 = 3
    · rw [if_pos h3, Bool.and_eq_true, inB_true, inB_true] at hp
      rw [if_pos h3, if_pos (by omega)] at e1
      obtain ⟨rfl, rfl, rfl⟩ : c = c1 ∧ _ = r1 ∧ true = b1 := by simpa using e1
      refine Ev.step (fun k => ?_) (ih _ _ hs1 hd)
      rw [spec_ChangeDo.l0, if_pos (by omega), if_pos (by omega), hr, if_neg h1, if_neg h2, if_neg (by omega)]
      unfold spec_l2Reg.f
      rw [if_pos h3, if_pos (by omega), if_pos (by omega), Option.bind_some, hw]
    rw [if_neg h3] at hp e1
    by_cases h4 : q.f0 = 4
    · rw [if_pos h4, Bool.and_eq_true, inB_true, inB_true] at hp
      rw [if_pos h4, if_pos (by omega)] at e1
      obtain ⟨rfl, rfl, rfl⟩ : c = c1 ∧ _ = r1 ∧ true = b1 := by simpa using e1
      refine Ev.step (fun k => ?_) (ih _ _ hs1 hd)
      rw [spec_ChangeDo.l0, if_pos (by omega), if_pos (by omega), hr, if_neg h1, if_neg h2, if_neg (by omega)]
      unfold spec_l2Reg.f
      rw [if_neg h3, if_pos h4, if_pos (by omega), if_pos (by omega), if_pos (by omega), if_pos (by omega), Option.bind_some, hw]
      rfl
    rw [if_neg h4] at hp e1
    by_cases h5 : q.f0 = 5
    · rw [if_pos h5, Bool.and_eq_true, inB_true] at hp
      rw [if_pos h5, if_pos (by omega)] at e1
      obtain ⟨rfl, rfl, e2⟩ : c = c1 ∧ r = r1 ∧ (r.getD q.f1.toNat 0 != 0) = b1 := by simpa using e1
      by_cases hz : r.getD q.f1.toNat 0 = 0
      · obtain rfl : b1 = false := by rw [← e2, hz]; rfl
        refine Ev.step (fun k => ?_) (Ev.now _)
        rw [spec_ChangeDo.l0, if_pos (by omega), if_pos (by omega), hr, if_neg h1, if_neg h2, if_pos h5, if_pos (by omega), if_pos (by omega), if_pos (show rd r q.f1 = 0 from hz)]
        rfl
      · obtain rfl : b1 = true := by rw [← e2]; simpa using hz
        refine Ev.step (fun k => ?_) (ih _ _ hs1 hd)
        rw [spec_ChangeDo.l0, if_pos (by omega), if_pos (by omega), hr, if_neg h1, if_neg h2, if_pos h5, if_pos (by omega), if_pos (by omega), if_neg (show ¬ rd r q.f1 = 0 from hz), hw]
    rw [if_neg h5] at hp
    cases hp
theorem specDo_ev (c r : List Int) (d : List S41) (hc : c.length ≤ 2000000) (hr : r.length ≤ 2000000) (hd : d.length ≤ 2000000) : Ev (fun k => spec_ChangeDo.f k c r d) (chDo c r d) := by
  unfold spec_ChangeDo.f
  have e0 := specOk_ev d (c.length : Int) (by omega)
  have e1 := l2Nums_ev c (c.length : Int) (by omega)
  have e2 := l2Nums_ev r 3 (by omega)
  have nope : Ev (fun k => spec_ChangeDo.j0 k c r d true) ([], [], false) := Ev.step (fun k => by rw [spec_ChangeDo.j0, if_pos rfl]) (Ev.now _)
  rw [beq_self_eq_true, Bool.and_true] at e1
  unfold chDo
  by_cases h0 : okC d (c.length : Int) = true
  case neg =>
    have hf : ¬ fits c r d = true := fun h => h0 (fits_iff.1 h).1
    rw [if_neg hf]
    rw [Bool.not_eq_true] at h0
    rw [h0] at e0
    exact Ev.bind e0 (ev_neg Bool.false_ne_true nope)
  rw [h0] at e0
  refine Ev.bind e0 (ev_pos rfl ?_)
  by_cases h1 : numB c = true
  case neg =>
    have hf : ¬ fits c r d = true := fun h => h1 (fits_iff.1 h).2.1.2
    rw [if_neg hf]
    rw [Bool.not_eq_true] at h1
    rw [h1] at e1
    exact Ev.bind e1 (ev_neg Bool.false_ne_true nope)
  rw [h1] at e1
  refine Ev.bind e1 (ev_pos rfl (Ev.bind e2 ?_))
  by_cases h2 : numB r = true ∧ r.length = 3
  case neg =>
    have hf : ¬ fits c r d = true := fun h => h2 ⟨(fits_iff.1 h).2.2.2, (fits_iff.1 h).2.2.1⟩
    rw [if_neg hf]
    have hb : (numB r && ((r.length : Int) == 3)) = false := by
      rw [Bool.and_eq_false_iff]
      by_cases h3 : numB r = true
      · exact .inr (by simp; intro h; exact h2 ⟨h3, by omega⟩)
      · exact .inl (by simpa using h3)
    rw [hb]
    exact nope
  have hs : St c.length c r := ⟨⟨rfl, h1⟩, h2.2, h2.1⟩
  have hf : fits c r d = true := fits_iff.2 ⟨h0, hs⟩
  have hb : (numB r && ((r.length : Int) == 3)) = true := by rw [h2.1, h2.2]; rfl
  rw [if_pos hf, hb]
  refine Ev.step (fun k => by rw [Bool.not_true, spec_ChangeDo.j0, if_neg Bool.false_ne_true]) ?_
  refine Ev.bind (Ev.now _) (ev_pos (by simp; omega) (Ev.bind (Ev.now _) (ev_pos (by simp; omega) ?_)))
  have := specRun_ev (n := c.length) d hd 0 (Nat.zero_le _) c r hs (by rw [List.drop_zero]; exact okC_all h0)
  rw [List.drop_zero] at this
  simpa using this
/-- What comes out is short; and if it is done, the change fits and its run tells. -/
theorem chDo_len (c r : List Int) (d : List S41) (hc : c.length ≤ 2000000) (_hr : r.length ≤ 2000000) :
    (chDo c r d).1.length ≤ 2000000 ∧ (chDo c r d).2.1.length ≤ 2000000 ∧ ((chDo c r d).2.2 = true → fits c r d = true ∧ deskRun d c r = some ((chDo c r d).1, (chDo c r d).2.1, true) ∧ St c.length (chDo c r d).1 (chDo c r d).2.1) := by
  unfold chDo
  by_cases hf : fits c r d = true
  · rw [if_pos hf]
    obtain ⟨h0, hs⟩ := fits_iff.1 hf
    obtain ⟨c', r', b, e, h1, h2⟩ := run_ok hs (okC_all h0)
    rw [e]
    cases b with
    | true =>
      have := h1 rfl
      exact ⟨by simp only [Option.getD_some]; have := this.1.1; omega, by simp only [Option.getD_some]; have := this.2.1; omega, fun _ => ⟨hf, rfl, this⟩⟩
    | false =>
      obtain ⟨rfl, rfl⟩ := h2 rfl
      exact ⟨by simp, by simp, fun h => by cases h⟩
  · rw [if_neg hf]
    exact ⟨by simp, by simp, fun h => by cases h⟩
theorem chDo_short (c r : List Int) (d : List S41) (hc : c.length ≤ 1048576) : (chDo c r d).1.length ≤ 1048576 ∧ (chDo c r d).2.1.length ≤ 1048576 := by
  unfold chDo
  by_cases hf : fits c r d = true
  · rw [if_pos hf]
    obtain ⟨h0, hs⟩ := fits_iff.1 hf
    obtain ⟨c', r', b, e, h1, h2⟩ := run_ok hs (okC_all h0)
    rw [e]
    cases b with
    | true =>
      have := h1 rfl
      exact ⟨by simp only [Option.getD_some]; have := this.1.1; omega, by simp only [Option.getD_some]; have := this.2.1; omega⟩
    | false =>
      obtain ⟨rfl, rfl⟩ := h2 rfl
      exact ⟨by simp, by simp⟩
  · rw [if_neg hf]
    exact ⟨by simp, by simp⟩
theorem chDo_of {c r c' r' : List Int} {d : List S41} {b : Bool} (hf : fits c r d = true) (he : deskRun d c r = some (c', r', b)) : chDo c r d = (c', r', b) := by
  unfold chDo
  rw [if_pos hf, he]
  rfl
theorem okC_iff {l : List S41} {c : Int} : okC l c = true ↔ (0 ≤ c ∧ c ≤ 3) ∧ l.length ≤ 5 ∧ ∀ d ∈ l, dB c d = true := by
  unfold okC
  rw [Bool.and_eq_true, Bool.and_eq_true, inB_true, decide_eq_true_iff, List.all_eq_true, and_assoc]
theorem fits_sub {c r : List Int} {d e : List S41} (h : fits c r d = true) (hl : e.length ≤ d.length) (hs : ∀ x ∈ e, x ∈ d) : fits c r e = true := by
  rw [fits_iff] at h ⊢
  rw [okC_iff] at h ⊢
  exact ⟨⟨h.1.1, by omega, fun x hx => h.1.2.2 x (hs x hx)⟩, h.2⟩
theorem chDo_nil {c r : List Int} {d : List S41} (h : fits c r d = true) : chDo c r [] = (c, r, true) :=
  chDo_of (fits_sub h (Nat.zero_le _) (fun x hx => by cases hx)) rfl
theorem run_append {a b : List S41} : ∀ {c r c' r' : List Int}, deskRun (a ++ b) c r = some (c', r', true) → ∃ c1 r1, deskRun a c r = some (c1, r1, true) ∧ deskRun b c1 r1 = some (c', r', true) := by
  induction a with
  | nil => intro c r c' r' h; exact ⟨c, r, rfl, h⟩
  | cons x a ih =>
    intro c r c' r' h
    rw [List.cons_append, deskRun] at h
    obtain ⟨⟨c2, r2, b2⟩, e1, e2⟩ := Option.bind_eq_some_iff.1 h
    cases b2 with
    | false => simp at e2
    | true =>
      obtain ⟨c1, r1, h1, h2⟩ := ih (by simpa using e2)
      exact ⟨c1, r1, by rw [deskRun, e1]; simpa using h1, h2⟩
theorem run_snoc {a : List S41} (d : S41) : ∀ {c r c' r' : List Int}, deskRun a c r = some (c', r', true) → deskRun (a ++ [d]) c r = deskRun [d] c' r' := by
  induction a with
  | nil =>
    intro c r c' r' h
    obtain ⟨rfl, rfl⟩ : c = c' ∧ r = r' := by simpa [deskRun] using h
    rfl
  | cons x a ih =>
    intro c r c' r' h
    rw [deskRun] at h
    obtain ⟨⟨c2, r2, b2⟩, e1, e2⟩ := Option.bind_eq_some_iff.1 h
    cases b2 with
    | false => simp at e2
    | true =>
      rw [List.cons_append, deskRun, e1]
      simpa using ih (by simpa using e2)
end Go.Proofs.Ytedbgdnhkcllaaa.PDesk
