/- FnChangeSets: on every drawn list of deeds program and reference tell the same reads and stores, in order; each store is among the stores, each load among the reads or the stores. -/
import Derived.Test.YtedbgdnhkcllaaaPSets
import Derived.Test.YtedbgdnhkcllaaaQRBx23
namespace Go.Proofs.Ytedbgdnhkcllaaa.Pure
open Go.RowKit Go.Proofs.Ytedbgdnhkcllaaa.QRB Go.Proofs.YtedbgdnhkcllaaaW.PrintWords Go.Proofs.YtedbgdnhkcllaaaW.PrintLast Go.Proofs.Ytedbgdnhkcllaaa.PDeed Go.Proofs.Ytedbgdnhkcllaaa.PDraw Go.Proofs.Ytedbgdnhkcllaaa.PChange Go.Proofs.Ytedbgdnhkcllaaa.PSets

theorem sets_rounds (d : List S41) (r v : List Int) (hd : d.length ≤ 10000) (hr : r.length ≤ 10000) (hv : v.length ≤ 10000) (ur : Up r) (uv : Up v) (mv : ∀ y, Stores d y → y ∈ v) (mr : ∀ y, Reads (fun _ => False) d y → y ∈ r) :
    ∀ i : Nat, i ≤ d.length → Ev (fun k => laws_FnChangeSets.l0 k d r v (i : Int)) true := by
  refine down ?_ ?_
  · exact Ev.step (fun k => by rw [laws_FnChangeSets.l0, if_neg (by omega)]) (by exact Ev.bind (lqUp_ev r (by omega) ur) (ev_pos rfl (Ev.bind (lqUp_ev v (by omega) uv) (Ev.now _))))
  · intro i hi ih
    have hq := rdD d i hi
    have hm := List.getElem_mem hi
    have hw : wrap64 ((i : Int) + 1) = ((i + 1 : Nat) : Int) := by rw [w64 (by omega) (by omega)]; rfl
    generalize d[i] = q at hq hm
    by_cases h2 : q.f0 = 2
    · have e := lqHas_ev v q.f1 (by omega)
      rw [decide_eq_true (mv _ ⟨q, hm, h2, rfl⟩)] at e
      exact Ev.step (fun k => by rw [laws_FnChangeSets.l0, if_pos (by omega), if_pos (by omega), hq, if_pos h2, hw]) (by exact Ev.bind e (ev_pos rfl (ev_neg (by omega) ih)))
    · by_cases h1 : q.f0 = 1
      · have e := lqHas_ev r q.f2 (by omega)
        by_cases hx : q.f2 ∈ r
        · rw [decide_eq_true hx] at e
          exact Ev.step (fun k => by rw [laws_FnChangeSets.l0, if_pos (by omega), if_pos (by omega), hq, if_neg h2, if_pos h1, hw]) (by exact Ev.bind e (ev_pos rfl ih))
        · rw [decide_eq_false hx] at e
          have e2 := lqHas_ev v q.f2 (by omega)
          rw [decide_eq_true (mv _ (((reads_all (W := fun _ => False) q hm h1).resolve_left (fun h => hx (mr _ h))).resolve_left id))] at e2
          exact Ev.step (fun k => by rw [laws_FnChangeSets.l0, if_pos (by omega), if_pos (by omega), hq, if_neg h2, if_pos h1, hw]) (by exact Ev.bind e (ev_neg Bool.false_ne_true (Ev.bind e2 (ev_pos rfl ih))))
      · exact Ev.step (fun k => by rw [laws_FnChangeSets.l0, if_pos (by omega), if_pos (by omega), hq, if_neg h2, if_neg h1, hw]) ih
theorem FnChangeSets : laws_FnChangeSets.Pure := by
  intro l0 _ _ w0
  refine Ev.rounds (g := fun k => laws_FnChangeSets.f k l0) ?_
  unfold laws_FnChangeSets.f
  by_cases h : (l0.length : Int) > 1048576
  · exact ev_pos h (Ev.now _)
  obtain ⟨d, ed, hd, hn⟩ := DrawChangeReads_ev l0 w0
  obtain ⟨r, er, ur, mr, lr⟩ := reads_ev d (by omega)
  obtain ⟨v, ev, uv, mv, lv⟩ := writes_ev d (by omega)
  obtain ⟨r2, er2, ur2, mr2⟩ := specReads_ev d (by omega)
  obtain ⟨v2, ev2, uv2, mv2⟩ := specWrites_ev d (by omega)
  obtain rfl : r = r2 := up_ext ur ur2 (fun x => by rw [mr, mr2]; exact ⟨fun h => ⟨h, near_reads hn h⟩, And.left⟩)
  obtain rfl : v = v2 := up_ext uv uv2 (fun x => by rw [mv, mv2]; exact ⟨fun h => ⟨h, near_stores hn h⟩, And.left⟩)
  refine ev_neg h (Ev.bind ed (Ev.bind er (Ev.bind ev (Ev.bind er2 (Ev.bind (lqInts_refl r (by omega)) (ev_pos rfl (Ev.bind ev2 (Ev.bind (lqInts_refl v (by omega)) ?_))))))))
  refine Ev.step (fun k => by rw [Bool.not_true, laws_FnChangeSets.j0, if_neg Bool.false_ne_true]) ?_
  exact sets_rounds d r v (by omega) (by omega) (by omega) ur uv (fun y h => (mv y).2 h) (fun y h => (mr y).2 h) 0 (Nat.zero_le _)
end Go.Proofs.Ytedbgdnhkcllaaa.Pure
