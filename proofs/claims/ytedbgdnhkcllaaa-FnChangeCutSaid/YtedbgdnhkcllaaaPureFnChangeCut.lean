/- FnChangeCut: on every drawn change program and reference do the same; and a change that is done comes out the same when it is done in two parts, one behind the other. -/
import Derived.Test.YtedbgdnhkcllaaaPChange
import Derived.Test.YtedbgdnhkcllaaaQRAx11
namespace Go.Proofs.Ytedbgdnhkcllaaa.Pure
open Go.RowKit Go.Proofs.Ytedbgdnhkcllaaa.QRA Go.Proofs.YtedbgdnhkcllaaaW.PrintWords Go.Proofs.YtedbgdnhkcllaaaW.PrintLast Go.Proofs.Ytedbgdnhkcllaaa.PDeed Go.Proofs.Ytedbgdnhkcllaaa.PDraw Go.Proofs.Ytedbgdnhkcllaaa.PChange

theorem FnChangeCut : laws_FnChangeCut.Pure := by
  intro l0 l1 _ _ w0 m1 _ _
  refine Ev.rounds (g := fun k => laws_FnChangeCut.f k l0 l1) ?_
  have J : ∀ v : Bool, Ev (fun k => laws_FnChangeCut.j0 k l0 l1 v) true := by
    intro v
    cases v with
    | true => exact Ev.step (fun k => by rw [laws_FnChangeCut.j0, if_pos rfl]) (Ev.now _)
    | false =>
      obtain ⟨⟨c, r, d⟩, e, hc, hr, hd⟩ := DrawChangeDo_ev l0 w0
      dsimp only at hc hr hd
      refine Ev.step (fun k => by rw [laws_FnChangeCut.j0, if_neg Bool.false_ne_true]) ?_
      refine Ev.bind e (Ev.bind (specDo_ev c r d (by omega) (by omega) (by omega)) (Ev.bind (implDo_ev c r d (by omega) (by omega) (by omega)) ?_))
      obtain ⟨lx, ly, hok⟩ := chDo_len c r d (by omega) (by omega)
      refine ev_neg (by simp) (Ev.bind (lqInts_refl _ (by omega)) (ev_pos rfl (Ev.bind (lqInts_refl _ (by omega)) (ev_pos rfl ?_))))
      dsimp only
      cases hb : (chDo c r d).2.2 with
      | false =>
        refine Ev.step (fun k => by rw [Bool.not_false, laws_FnChangeCut.j1, if_pos rfl]) ?_
        exact ev_pos rfl (Ev.bind (lqInts_refl _ (by omega)) (ev_pos rfl (Ev.bind (lqInts_refl _ (by omega)) (Ev.now _))))
      | true =>
        obtain ⟨hf, hrun, hst⟩ := hok hb
        have ew : wrap64 ((d.length : Int) + 1) = (d.length : Int) + 1 := w64 (by omega) (by omega)
        have hm0 := Int.emod_nonneg (l1.length : Int) (show (d.length : Int) + 1 ≠ 0 by omega)
        have hm1 := Int.emod_lt_of_pos (l1.length : Int) (show 0 < (d.length : Int) + 1 by omega)
        refine Ev.step (fun k => by rw [Bool.not_true, laws_FnChangeCut.j1, if_neg Bool.false_ne_true, ew, if_neg (by omega), if_pos hm0, if_pos (show (l1.length : Int) % ((d.length : Int) + 1) ≤ (d.length : Int) by omega)]) ?_
        generalize ((l1.length : Int) % ((d.length : Int) + 1)).toNat = n
        have hrun' : deskRun (d.take n ++ d.drop n) c r = some ((chDo c r d).1, (chDo c r d).2.1, true) := by rw [List.take_append_drop]; exact hrun
        obtain ⟨c1, r1, h1, h2⟩ := run_append hrun'
        have hf1 : fits c r (d.take n) = true := fits_sub hf (by rw [List.length_take]; omega) (fun x hx => List.mem_of_mem_take hx)
        have e1 := chDo_of hf1 h1
        have hk := chDo_len c r (d.take n) (by omega) (by omega)
        rw [e1] at hk
        have hst1 := (hk.2.2 rfl).2.2
        dsimp only at hst1
        have hf2 : fits c1 r1 (d.drop n) = true := by
          have := (fits_iff.1 (fits_sub (e := d.drop n) hf (by rw [List.length_drop]; omega) (fun x hx => List.mem_of_mem_drop hx))).1
          exact fits_iff.2 ⟨by rw [hst1.1.1]; exact this, ⟨rfl, hst1.1.2⟩, hst1.2⟩
        have e2 := chDo_of hf2 h2
        have i1 := implDo_ev c r (d.take n) (by omega) (by omega) (by rw [List.length_take]; omega)
        have i2 := implDo_ev c1 r1 (d.drop n) (by have := hst1.1.1; omega) (by have := hst1.2.1; omega) (by rw [List.length_drop]; omega)
        rw [e1] at i1
        rw [e2] at i2
        exact Ev.bind i1 (Ev.bind i2 (ev_pos rfl (ev_pos rfl (Ev.bind (lqInts_refl (chDo c r d).1 (by omega)) (ev_pos rfl (Ev.bind (lqInts_refl (chDo c r d).2.1 (by omega)) (Ev.now _)))))))
  unfold laws_FnChangeCut.f
  by_cases h : (l0.length : Int) > 1048576
  · exact ev_pos h (J _)
  · exact ev_neg h (J _)
end Go.Proofs.Ytedbgdnhkcllaaa.Pure
