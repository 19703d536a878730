/- FnChangeDo: on every drawn change program and reference do the same; and behind a change that is done a cell that no deed stores to has what it had. -/
import Derived.Test.YtedbgdnhkcllaaaPSets
import Derived.Test.YtedbgdnhkcllaaaQRBx26
namespace Go.Proofs.Ytedbgdnhkcllaaa.Pure
open Go.RowKit Go.Proofs.Ytedbgdnhkcllaaa.QRB Go.Proofs.YtedbgdnhkcllaaaW.PrintWords Go.Proofs.YtedbgdnhkcllaaaW.PrintLast Go.Proofs.Ytedbgdnhkcllaaa.PDeed Go.Proofs.Ytedbgdnhkcllaaa.PDraw Go.Proofs.Ytedbgdnhkcllaaa.PChange Go.Proofs.Ytedbgdnhkcllaaa.PSets

theorem getD_set_ne {l : List Int} {i j : Nat} {x : Int} (h : i ≠ j) : (l.set i x).getD j 0 = l.getD j 0 := by
  rw [List.getD_eq_getElem?_getD, List.getD_eq_getElem?_getD, List.getElem?_set_ne h]
theorem step_cells {q : S41} {c r c' r' : List Int} {b : Bool} (e : deskStep q c r = some (c', r', b)) (n : Nat) (hn : ¬ (q.f0 = 2 ∧ q.f1 = (n : Int))) : c'.getD n 0 = c.getD n 0 := by
  unfold deskStep at e
  by_cases h1 : q.f0 = 1
  · rw [if_pos h1] at e
    split at e
    · obtain ⟨rfl, rfl, rfl⟩ : c = c' ∧ _ = r' ∧ true = b := by simpa using e
      rfl
    · cases e
  rw [if_neg h1] at e
  by_cases h2 : q.f0 = 2
  · rw [if_pos h2] at e
    split at e
    · obtain ⟨rfl, rfl, rfl⟩ : _ = c' ∧ r = r' ∧ true = b := by simpa using e
      exact getD_set_ne (fun h => hn ⟨h2, by omega⟩)
    · cases e
  rw [if_neg h2] at e
  by_cases h3 : q.f0 = 3
  · rw [if_pos h3] at e
    split at e
    · obtain ⟨rfl, rfl, rfl⟩ : c = c' ∧ _ = r' ∧ true = b := by simpa using e
      rfl
    · cases e
  rw [if_neg h3] at e
  by_cases h4 : q.f0 = 4
  · rw [if_pos h4] at e
    split at e
    · obtain ⟨rfl, rfl, rfl⟩ : c = c' ∧ _ = r' ∧ true = b := by simpa using e
      rfl
    · cases e
  rw [if_neg h4] at e
  by_cases h5 : q.f0 = 5
  · rw [if_pos h5] at e
    split at e
    · obtain ⟨rfl, rfl, _⟩ : c = c' ∧ r = r' ∧ _ = b := by simpa using e
      rfl
    · cases e
  rw [if_neg h5] at e
  cases e
theorem run_cells (n : Nat) : ∀ {l : List S41} {c r c' r' : List Int}, deskRun l c r = some (c', r', true) → ¬ Stores l (n : Int) → c'.getD n 0 = c.getD n 0
  | [], c, r, c', r', h, _ => by
    obtain ⟨rfl, rfl⟩ : c = c' ∧ r = r' := by simpa [deskRun] using h
    rfl
  | q :: l, c, r, c', r', h, hs => by
    rw [stores_cons] at hs
    rw [deskRun] at h
    obtain ⟨⟨c2, r2, b2⟩, e1, e2⟩ := Option.bind_eq_some_iff.1 h
    cases b2 with
    | false => simp at e2
    | true => exact (run_cells n (by simpa using e2) (fun h => hs (.inr h))).trans (step_cells e1 n (fun h => hs (.inl h)))
theorem do_rounds (c r x y v : List Int) (hc : c.length ≤ 10000) (hv : v.length ≤ 10000) (lx : x.length = c.length) (ly : y.length = r.length) (hk : ∀ i : Nat, ¬ ((i : Int) ∈ v) → rd x (i : Int) = rd c (i : Int)) :
    ∀ i : Nat, i ≤ c.length → Ev (fun k => laws_FnChangeDo.l0 k c r x y v (i : Int)) true := by
  refine down ?_ ?_
  · refine Ev.step (fun k => by rw [laws_FnChangeDo.l0, if_neg (by omega), if_pos (by omega)]) ?_
    rw [ly, beq_self_eq_true]
    exact Ev.now _
  · intro i hi ih
    have hw : wrap64 ((i : Int) + 1) = ((i + 1 : Nat) : Int) := by rw [w64 (by omega) (by omega)]; rfl
    have e := lqHas_ev v (i : Int) (by omega)
    by_cases hm : (i : Int) ∈ v
    · rw [decide_eq_true hm] at e
      exact Ev.step (fun k => by rw [laws_FnChangeDo.l0, if_pos (by omega), hw]) (by exact Ev.bind e (ev_pos rfl ih))
    · rw [decide_eq_false hm] at e
      exact Ev.step (fun k => by rw [laws_FnChangeDo.l0, if_pos (by omega), hw]) (by exact Ev.bind e (ev_neg Bool.false_ne_true (ev_pos (by omega) (ev_pos (by omega) (ev_pos (hk i hm) ih)))))
theorem FnChangeDo : laws_FnChangeDo.Pure := by
  intro l0 _ _ w0
  refine Ev.rounds (g := fun k => laws_FnChangeDo.f k l0) ?_
  unfold laws_FnChangeDo.f
  by_cases h : (l0.length : Int) > 1048576
  · exact ev_pos h (Ev.now _)
  obtain ⟨⟨c, r, d⟩, e, hc, hr, hd⟩ := DrawChangeDo_ev l0 w0
  dsimp only at hc hr hd
  refine ev_neg h (Ev.bind e (Ev.bind (specDo_ev c r d (by omega) (by omega) (by omega)) (Ev.bind (implDo_ev c r d (by omega) (by omega) (by omega)) ?_)))
  obtain ⟨lx, ly, hok⟩ := chDo_len c r d (by omega) (by omega)
  refine ev_neg (by simp) (Ev.bind (lqInts_refl _ (by omega)) (ev_pos rfl (Ev.bind (lqInts_refl _ (by omega)) (ev_pos rfl ?_))))
  dsimp only
  cases hb : (chDo c r d).2.2 with
  | false =>
    refine Ev.step (fun k => by rw [Bool.not_false, laws_FnChangeDo.j0, if_pos rfl]) ?_
    exact ev_pos rfl (Ev.bind (lqInts_refl _ (by omega)) (ev_pos rfl (Ev.bind (lqInts_refl _ (by omega)) (Ev.now _))))
  | true =>
    obtain ⟨hf, hrun, hst⟩ := hok hb
    obtain ⟨_, hs⟩ := fits_iff.1 hf
    generalize (chDo c r d).1 = x at hrun hst
    generalize (chDo c r d).2.1 = y at hrun hst
    obtain ⟨v, ev, uv, mv, lv⟩ := writes_ev d (by omega)
    refine Ev.step (fun k => by rw [Bool.not_true, laws_FnChangeDo.j0, if_neg Bool.false_ne_true]) ?_
    refine Ev.bind ev ?_
    refine do_rounds c r x y v (by omega) (by omega) hst.1.1 (hst.2.1.trans hs.2.1.symm) (fun i h => ?_) 0 (Nat.zero_le _)
    have := run_cells i hrun (fun hs => h ((mv _).2 hs))
    exact this
end Go.Proofs.Ytedbgdnhkcllaaa.Pure
