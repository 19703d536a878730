/- FnChangeEmpty: on every drawn change program and reference do the same; and a change of nothing changes nothing. -/
import Derived.Test.YtedbgdnhkcllaaaPChange
import Derived.Test.YtedbgdnhkcllaaaQRAx12
namespace Go.Proofs.Ytedbgdnhkcllaaa.Pure
open Go.RowKit Go.Proofs.Ytedbgdnhkcllaaa.QRA Go.Proofs.YtedbgdnhkcllaaaW.PrintWords Go.Proofs.YtedbgdnhkcllaaaW.PrintLast Go.Proofs.Ytedbgdnhkcllaaa.PDeed Go.Proofs.Ytedbgdnhkcllaaa.PDraw Go.Proofs.Ytedbgdnhkcllaaa.PChange

theorem FnChangeEmpty : laws_FnChangeEmpty.Pure := by
  intro l0 _ _ w0
  refine Ev.rounds (g := fun k => laws_FnChangeEmpty.f k l0) ?_
  unfold laws_FnChangeEmpty.f
  by_cases h : (l0.length : Int) > 1048576
  · exact ev_pos h (Ev.now _)
  obtain ⟨⟨c, r, d⟩, e, hc, hr, hd⟩ := DrawChangeDo_ev l0 w0
  dsimp only at hc hr hd
  refine ev_neg h (Ev.bind e (Ev.bind (specDo_ev c r d (by omega) (by omega) (by omega)) (Ev.bind (implDo_ev c r d (by omega) (by omega) (by omega)) ?_)))
  obtain ⟨lx, ly, hok⟩ := chDo_len c r d (by omega) (by omega)
  refine ev_neg (by simp) (Ev.bind (lqInts_refl _ (by omega)) (ev_pos rfl (Ev.bind (lqInts_refl _ (by omega)) (ev_pos rfl ?_))))
  cases hb : (chDo c r d).2.2 with
  | false =>
    refine Ev.step (fun k => by rw [Bool.not_false, laws_FnChangeEmpty.j0, if_pos rfl]) ?_
    exact ev_pos rfl (Ev.bind (lqInts_refl _ (by omega)) (ev_pos rfl (Ev.bind (lqInts_refl _ (by omega)) (Ev.now _))))
  | true =>
    refine Ev.step (fun k => by rw [Bool.not_true, laws_FnChangeEmpty.j0, if_neg Bool.false_ne_true]) ?_
    have e2 := implDo_ev c r [] (by omega) (by omega) (by simp)
    rw [chDo_nil (hok hb).1] at e2
    exact Ev.bind e2 (ev_pos rfl (Ev.bind (lqInts_refl c (by omega)) (ev_pos rfl (Ev.bind (lqInts_refl r (by omega)) (Ev.now _)))))
end Go.Proofs.Ytedbgdnhkcllaaa.Pure
