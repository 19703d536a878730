/- FnChangeRegs: on every drawn change program and reference do the same; and behind a change that is done a register that no deed sets has what it had, and all are numbers. -/
import Derived.Test.YtedbgdnhkcllaaaPChange
import Derived.Test.YtedbgdnhkcllaaaQRAx14
namespace Go.Proofs.Ytedbgdnhkcllaaa.Pure
open Go.RowKit Go.Proofs.Ytedbgdnhkcllaaa.QRA Go.Proofs.YtedbgdnhkcllaaaW.PrintWords Go.Proofs.YtedbgdnhkcllaaaW.PrintLast Go.Proofs.Ytedbgdnhkcllaaa.PDeed Go.Proofs.Ytedbgdnhkcllaaa.PDraw Go.Proofs.Ytedbgdnhkcllaaa.PChange

def setsB (n : Int) (q : S41) : Bool := decide (q.f1 = n) && (decide (q.f0 = 1) || (decide (q.f0 = 3) || decide (q.f0 = 4)))
theorem getD_set_ne {l : List Int} {i j : Nat} {x : Int} (h : i ≠ j) : (l.set i x).getD j 0 = l.getD j 0 := by
  rw [List.getD_eq_getElem?_getD, List.getD_eq_getElem?_getD, List.getElem?_set_ne h]
theorem step_keeps {q : S41} {c r c' r' : List Int} {b : Bool} (e : deskStep q c r = some (c', r', b)) (n : Int) (h0 : 0 ≤ n) (hn : setsB n q = false) : r'.getD n.toNat 0 = r.getD n.toNat 0 := by
  unfold deskStep at e
  unfold setsB at hn
  by_cases h1 : q.f0 = 1
  · rw [if_pos h1] at e
    split at e
    · rename_i g
      obtain ⟨rfl, rfl, rfl⟩ : c = c' ∧ _ = r' ∧ true = b := by simpa using e
      have : q.f1 ≠ n := by intro h; simp [h1, h] at hn
      exact getD_set_ne (by omega)
    · cases e
  rw [if_neg h1] at e
  by_cases h2 : q.f0 = 2
  · rw [if_pos h2] at e
    split at e
    · obtain ⟨rfl, rfl, rfl⟩ : _ = c' ∧ r = r' ∧ true = b := by simpa using e
      rfl
    · cases e
  rw [if_neg h2] at e
  by_cases h3 : q.f0 = 3
  · rw [if_pos h3] at e
    split at e
    · rename_i g
      obtain ⟨rfl, rfl, rfl⟩ : c = c' ∧ _ = r' ∧ true = b := by simpa using e
      have : q.f1 ≠ n := by intro h; simp [h3, h] at hn
      exact getD_set_ne (by omega)
    · cases e
  rw [if_neg h3] at e
  by_cases h4 : q.f0 = 4
  · rw [if_pos h4] at e
    split at e
    · rename_i g
      obtain ⟨rfl, rfl, rfl⟩ : c = c' ∧ _ = r' ∧ true = b := by simpa using e
      have : q.f1 ≠ n := by intro h; simp [h4, h] at hn
      exact getD_set_ne (by omega)
    · cases e
  rw [if_neg h4] at e
  by_cases h5 : q.f0 = 5
  · rw [if_pos h5] at e
    split at e
    · obtain ⟨rfl, rfl, _⟩ : c = c' ∧ r = r' ∧ _ = b := by simpa using e
      rfl
    · cases e
  rw [if_neg h5] at e
  cases e
theorem run_keeps (n : Int) (h0 : 0 ≤ n) : ∀ {l : List S41} {c r c' r' : List Int}, deskRun l c r = some (c', r', true) → (l.any (setsB n)) = false → r'.getD n.toNat 0 = r.getD n.toNat 0
  | [], c, r, c', r', h, _ => by
    obtain ⟨rfl, rfl⟩ : c = c' ∧ r = r' := by simpa [deskRun] using h
    rfl
  | q :: l, c, r, c', r', h, hs => by
    rw [List.any_cons, Bool.or_eq_false_iff] at hs
    rw [deskRun] at h
    obtain ⟨⟨c2, r2, b2⟩, e1, e2⟩ := Option.bind_eq_some_iff.1 h
    cases b2 with
    | false => simp at e2
    | true => exact (run_keeps n h0 (by simpa using e2) hs.2).trans (step_keeps e1 n h0 hs.1)

theorem regs_end (k : Nat) (r y : List Int) (d : List S41) (i : Nat) (s : Bool) (hi : i < 3) (ly : y.length = 3) (lr : r.length = 3) (h0 : 0 ≤ rd y (i : Int)) (h1 : rd y (i : Int) ≤ 99) (hs : s = false → rd y (i : Int) = rd r (i : Int)) :
    laws_FnChangeRegs.l1 (k + 1) r d y (i : Int) s (d.length : Int) = laws_FnChangeRegs.l0 k r d y ((i + 1 : Nat) : Int) := by
  have hw : wrap64 ((i : Int) + 1) = ((i + 1 : Nat) : Int) := by rw [w64 (by omega) (by omega)]; rfl
  generalize hY : rd y (i : Int) = Y at h0 h1 hs
  generalize hR : rd r (i : Int) = R at hs
  cases s with
  | true => rw [laws_FnChangeRegs.l1, if_neg (by omega), if_pos rfl, if_pos (by omega), if_pos (by omega), hY, if_neg (by omega), if_neg (by omega), hw]
  | false => rw [laws_FnChangeRegs.l1, if_neg (by omega), if_neg Bool.false_ne_true, if_pos (by omega), if_pos (by omega), if_pos (by omega), hY, hR, if_pos (hs rfl), if_neg (by omega), if_neg (by omega), hw]
theorem regs_step (k : Nat) (r y : List Int) (d : List S41) (i j : Nat) (s : Bool) (hj : j < d.length) (hd : d.length ≤ 10000) :
    laws_FnChangeRegs.l1 (k + 1) r d y (i : Int) s (j : Int) = laws_FnChangeRegs.l1 k r d y (i : Int) (s || setsB (i : Int) d[j]) ((j + 1 : Nat) : Int) := by
  have hw : wrap64 ((j : Int) + 1) = ((j + 1 : Nat) : Int) := by rw [w64 (by omega) (by omega)]; rfl
  have hq := rdD d j hj
  generalize d[j] = q at hq
  cases s with
  | true => rw [laws_FnChangeRegs.l1, if_pos (by omega), if_pos rfl, hw, Bool.true_or]
  | false =>
    rw [laws_FnChangeRegs.l1, if_pos (by omega), if_neg Bool.false_ne_true, if_pos (by omega), hq, hw, Bool.false_or]
    unfold setsB
    by_cases a : q.f1 = (i : Int)
    · rw [if_pos a, decide_eq_true a, Bool.true_and]
      by_cases b1 : q.f0 = 1
      · rw [if_pos b1, decide_eq_true b1, Bool.true_or]
      · rw [if_neg b1, decide_eq_false b1, Bool.false_or]
        by_cases b3 : q.f0 = 3
        · rw [if_pos b3, decide_eq_true b3, Bool.true_or]
        · rw [if_neg b3, decide_eq_false b3, Bool.false_or]
          rfl
    · rw [if_neg a, decide_eq_false a, Bool.false_and]
theorem regs_inner (r y : List Int) (d : List S41) (i : Nat) (hi : i < 3) (hd : d.length ≤ 10000) (ly : y.length = 3) (lr : r.length = 3) (h0 : 0 ≤ rd y (i : Int)) (h1 : rd y (i : Int) ≤ 99) (ih : Ev (fun k => laws_FnChangeRegs.l0 k r d y ((i + 1 : Nat) : Int)) true) :
    ∀ j : Nat, j ≤ d.length → ∀ s : Bool, ((s || (d.drop j).any (setsB (i : Int))) = false → rd y (i : Int) = rd r (i : Int)) → Ev (fun k => laws_FnChangeRegs.l1 k r d y (i : Int) s (j : Int)) true := by
  refine down ?_ ?_
  · intro s hs
    rw [List.drop_length, List.any_nil, Bool.or_false] at hs
    exact Ev.step (fun k => regs_end k r y d i s hi ly lr h0 h1 hs) ih
  · intro j hj ihj s hs
    refine Ev.step (fun k => regs_step k r y d i j s hj hd) (ihj _ (fun h => hs ?_))
    rw [List.drop_eq_getElem_cons hj, List.any_cons, ← Bool.or_assoc]
    exact h
theorem regs_rounds (r y : List Int) (d : List S41) (hd : d.length ≤ 10000) (ly : y.length = 3) (lr : r.length = 3) (hn : numB y = true) (hk : ∀ i : Nat, d.any (setsB (i : Int)) = false → rd y (i : Int) = rd r (i : Int)) :
    ∀ i : Nat, i ≤ 3 → Ev (fun k => laws_FnChangeRegs.l0 k r d y (i : Int)) true := by
  refine down ?_ ?_
  · exact Ev.step (fun k => by rw [laws_FnChangeRegs.l0, if_neg (by omega)]) (Ev.now _)
  · intro i hi ih
    have hy := numB_get hn i
    refine Ev.step (fun k => by rw [laws_FnChangeRegs.l0, if_pos (by omega)]; rfl) (regs_inner r y d i hi hd ly lr hy.1 hy.2 ih 0 (Nat.zero_le _) false ?_)
    rw [List.drop_zero, Bool.false_or]
    exact hk i

set_option maxHeartbeats 400000 in
theorem FnChangeRegs : laws_FnChangeRegs.Pure := by
  intro l0 _ _ w0
  refine Ev.rounds (g := fun k => laws_FnChangeRegs.f k l0) ?_
  unfold laws_FnChangeRegs.f
  by_cases h : (l0.length : Int) > 1048576
  · exact ev_pos h (Ev.now _)
  obtain ⟨⟨c, r, d⟩, e, hc, hr, hd⟩ := DrawChangeDo_ev l0 w0
  dsimp only at hc hr hd
  refine ev_neg h (Ev.bind e (Ev.bind (specDo_ev c r d (by omega) (by omega) (by omega)) (Ev.bind (implDo_ev c r d (by omega) (by omega) (by omega)) ?_)))
  obtain ⟨lx, ly, hok⟩ := chDo_len c r d (by omega) (by omega)
  refine ev_neg (by simp) (Ev.bind (lqInts_refl _ (by omega)) (ev_pos rfl (Ev.bind (lqInts_refl _ (by omega)) (ev_pos rfl ?_))))
  dsimp only
  cases hb : (chDo c r d).2.2 with
  | false =>
    refine Ev.step (fun k => by rw [Bool.not_false, laws_FnChangeRegs.j0, if_pos rfl]) ?_
    exact ev_pos rfl (Ev.bind (lqInts_refl _ (by omega)) (ev_pos rfl (Ev.bind (lqInts_refl _ (by omega)) (Ev.now _))))
  | true =>
    obtain ⟨hf, hrun, hst⟩ := hok hb
    obtain ⟨_, hs⟩ := fits_iff.1 hf
    generalize (chDo c r d).1 = x at hrun hst
    generalize (chDo c r d).2.1 = y at hrun hst
    refine Ev.step (fun k => by rw [Bool.not_true, laws_FnChangeRegs.j0, if_neg Bool.false_ne_true]) ?_
    refine regs_rounds r y d (by omega) hst.2.1 hs.2.1 hst.2.2 (fun i h => ?_) 0 (by omega)
    have := run_keeps (i : Int) (by omega) hrun h
    rw [Int.toNat_natCast] at this
    exact this
end Go.Proofs.Ytedbgdnhkcllaaa.Pure
