/- FnChangeNeed: on every drawn change program and reference do the same; and a change that is done, with a deed more that needs a register, is done just if that register has a number other than 0, and comes out the same. -/
import Derived.Test.YtedbgdnhkcllaaaPChange
import Derived.Test.YtedbgdnhkcllaaaQRAx13
namespace Go.Proofs.Ytedbgdnhkcllaaa.Pure
open Go.RowKit Go.Proofs.Ytedbgdnhkcllaaa.QRA Go.Proofs.YtedbgdnhkcllaaaW.PrintWords Go.Proofs.YtedbgdnhkcllaaaW.PrintLast Go.Proofs.Ytedbgdnhkcllaaa.PDeed Go.Proofs.Ytedbgdnhkcllaaa.PDraw Go.Proofs.Ytedbgdnhkcllaaa.PChange

theorem FnChangeNeed : laws_FnChangeNeed.Pure := by
  intro l0 l1 _ _ w0 m1 _ _
  refine Ev.rounds (g := fun k => laws_FnChangeNeed.f k l0 l1) ?_
  have J : ∀ v : Bool, Ev (fun k => laws_FnChangeNeed.j0 k l0 l1 v) true := by
    intro v
    cases v with
    | true => exact Ev.step (fun k => by rw [laws_FnChangeNeed.j0, if_pos rfl]) (Ev.now _)
    | false =>
      obtain ⟨⟨c, r, d⟩, e, hc, hr, hd⟩ := DrawChangeDo_ev l0 w0
      dsimp only at hc hr hd
      refine Ev.step (fun k => by rw [laws_FnChangeNeed.j0, if_neg Bool.false_ne_true]) ?_
      refine Ev.bind e (Ev.bind (specDo_ev c r d (by omega) (by omega) (by omega)) (Ev.bind (implDo_ev c r d (by omega) (by omega) (by omega)) ?_))
      obtain ⟨lx, ly, hok⟩ := chDo_len c r d (by omega) (by omega)
      refine ev_neg (by simp) (Ev.bind (lqInts_refl _ (by omega)) (ev_pos rfl (Ev.bind (lqInts_refl _ (by omega)) (ev_pos rfl ?_))))
      dsimp only
      have yes : ∀ b : Bool, Ev (fun k => laws_FnChangeNeed.j1 k l1 c r d (chDo c r d).1 (chDo c r d).2.1 b (chDo c r d).1 (chDo c r d).2.1 b true) true := fun b => by
        refine Ev.step (fun k => by rw [laws_FnChangeNeed.j1, if_pos rfl]) ?_
        exact ev_pos (by simp) (Ev.bind (lqInts_refl _ (by omega)) (ev_pos rfl (Ev.bind (lqInts_refl _ (by omega)) (Ev.now _))))
      cases hb : (chDo c r d).2.2 with
      | false => exact ev_neg Bool.false_ne_true (yes false)
      | true =>
        obtain ⟨hf, hrun, hst⟩ := hok hb
        refine ev_pos rfl ?_
        by_cases h5 : (d.length : Int) ≥ 5
        · rw [decide_eq_true h5]
          exact yes true
        rw [decide_eq_false h5]
        have hm0 := Int.emod_nonneg (l1.length : Int) (show (3 : Int) ≠ 0 by omega)
        have hm1 := Int.emod_lt_of_pos (l1.length : Int) (show (0 : Int) < 3 by omega)
        have hs := hst.2.1
        refine Ev.step (fun k => by rw [laws_FnChangeNeed.j1, if_neg Bool.false_ne_true]) ?_
        refine Ev.bind (Ev.now _) (ev_pos (by simp; omega) (Ev.bind (Ev.now _) (ev_pos (by simp; omega) ?_)))
        rw [List.nil_append]
        generalize (l1.length : Int) % 3 = n at hm0 hm1
        have hf' : fits c r (d ++ [⟨5, n, 0⟩]) = true := by
          rw [fits_iff, okC_iff] at hf ⊢
          refine ⟨⟨hf.1.1, by rw [List.length_append]; simp; omega, fun x hx => ?_⟩, hf.2⟩
          rcases List.mem_append.1 hx with h | h
          · exact hf.1.2.2 x h
          · obtain rfl := List.mem_singleton.1 h
            show deedB 5 n 0 _ = true
            unfold deedB
            rw [if_neg (by omega), if_neg (by omega), if_neg (by omega), if_neg (by omega), if_pos rfl, Bool.and_eq_true, inB_true]
            exact ⟨by omega, rfl⟩
        have hr' : deskRun (d ++ [⟨5, n, 0⟩]) c r = some (if (chDo c r d).2.1.getD n.toNat 0 = 0 then ([], [], false) else ((chDo c r d).1, (chDo c r d).2.1, true)) := by
          rw [run_snoc _ hrun, deskRun]
          unfold deskStep
          rw [if_neg (show ¬ (5 : Int) = 1 by decide), if_neg (show ¬ (5 : Int) = 2 by decide), if_neg (show ¬ (5 : Int) = 3 by decide), if_neg (show ¬ (5 : Int) = 4 by decide), if_pos rfl, if_pos (by dsimp only; omega), Option.bind_some]
          dsimp only
          by_cases hz : (chDo c r d).2.1.getD n.toNat 0 = 0
          · rw [if_pos hz, hz]
            rfl
          · rw [if_neg hz, if_pos (by simpa using hz)]
            rfl
        have i1 := implDo_ev c r (d ++ [⟨5, n, 0⟩]) (by omega) (by omega) (by rw [List.length_append]; simp; omega)
        have hrd : rd (chDo c r d).2.1 n = (chDo c r d).2.1.getD n.toNat 0 := rfl
        by_cases hz : (chDo c r d).2.1.getD n.toNat 0 = 0
        · rw [if_pos hz] at hr'
          rw [chDo_of hf' hr'] at i1
          exact Ev.bind i1 (ev_pos hm0 (ev_pos (by omega) (ev_pos (by rw [hrd, hz]; rfl) (ev_neg Bool.false_ne_true (Ev.now _)))))
        · rw [if_neg hz] at hr'
          rw [chDo_of hf' hr'] at i1
          exact Ev.bind i1 (ev_pos hm0 (ev_pos (by omega) (ev_pos (by rw [hrd]; simpa using hz) (ev_pos rfl (Ev.bind (lqInts_refl (chDo c r d).1 (by omega)) (ev_pos rfl (Ev.bind (lqInts_refl (chDo c r d).2.1 (by omega)) (Ev.now _))))))))
  unfold laws_FnChangeNeed.f
  by_cases h : (l0.length : Int) > 1048576
  · exact ev_pos h (J _)
  · exact ev_neg h (J _)
end Go.Proofs.Ytedbgdnhkcllaaa.Pure
