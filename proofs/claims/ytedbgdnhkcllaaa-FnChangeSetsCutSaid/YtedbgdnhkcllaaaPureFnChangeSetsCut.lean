/- FnChangeSetsCut: on every drawn list of deeds, cut anywhere: what the parts store to it does, and it stores to nothing else; what the first part reads it reads. -/
import Derived.Test.YtedbgdnhkcllaaaPSetsS
import Derived.Test.YtedbgdnhkcllaaaQRBx25
namespace Go.Proofs.Ytedbgdnhkcllaaa.Pure
open Go.RowKit Go.Proofs.Ytedbgdnhkcllaaa.QRB Go.Proofs.YtedbgdnhkcllaaaW.PrintWords Go.Proofs.YtedbgdnhkcllaaaW.PrintLast Go.Proofs.Ytedbgdnhkcllaaa.PDeed Go.Proofs.Ytedbgdnhkcllaaa.PDraw Go.Proofs.Ytedbgdnhkcllaaa.PChange Go.Proofs.Ytedbgdnhkcllaaa.PSets

theorem stores_append {a b : List S41} {y : Int} : Stores (a ++ b) y ↔ Stores a y ∨ Stores b y := by
  constructor
  · rintro ⟨q, hq, h⟩
    exact (List.mem_append.1 hq).elim (fun hq => .inl ⟨q, hq, h⟩) (fun hq => .inr ⟨q, hq, h⟩)
  · rintro (⟨q, hq, h⟩ | ⟨q, hq, h⟩)
    · exact ⟨q, List.mem_append_left _ hq, h⟩
    · exact ⟨q, List.mem_append_right _ hq, h⟩
theorem FnChangeSetsCut : laws_FnChangeSetsCut.Pure := by
  intro l0 l1 _ _ w0 _ _ _
  refine Ev.rounds (g := fun k => laws_FnChangeSetsCut.f k l0 l1) ?_
  unfold laws_FnChangeSetsCut.f
  have out : Ev (fun k => laws_FnChangeSetsCut.j0 k l0 l1 true) true := Ev.step (fun k => by rw [laws_FnChangeSetsCut.j0, if_pos rfl]) (Ev.now _)
  by_cases h : (l0.length : Int) > 1048576
  · exact ev_pos h out
  refine ev_neg h ?_
  by_cases hm : (l1.length : Int) > 1048576
  · rw [decide_eq_true hm]
    exact out
  rw [decide_eq_false hm]
  obtain ⟨d, ed, hd, hn⟩ := DrawChangeWrites_ev l0 w0
  obtain ⟨v, ev, uv, mv, lv⟩ := writes_ev d (by omega)
  obtain ⟨v2, ev2, uv2, mv2⟩ := specWrites_ev d (by omega)
  obtain rfl : v = v2 := up_ext uv uv2 (fun x => by rw [mv, mv2]; exact ⟨fun h => ⟨h, near_stores hn h⟩, And.left⟩)
  have hw : wrap64 ((d.length : Int) + 1) = (d.length : Int) + 1 := w64 (by omega) (by omega)
  have h0 : 0 ≤ (l1.length : Int) % ((d.length : Int) + 1) := Int.emod_nonneg _ (by omega)
  have h1 : (l1.length : Int) % ((d.length : Int) + 1) < (d.length : Int) + 1 := Int.emod_lt_of_pos _ (by omega)
  refine Ev.step (fun k => by rw [laws_FnChangeSetsCut.j0, if_neg Bool.false_ne_true]) ?_
  refine Ev.bind ed (Ev.bind ev (Ev.bind ev2 (Ev.bind (lqInts_refl v (by omega)) (ev_pos rfl ?_))))
  rw [hw]
  generalize (l1.length : Int) % ((d.length : Int) + 1) = n at h0 h1
  obtain ⟨a, ea, ua, ma, la⟩ := writes_ev (d.take n.toNat) (by rw [List.length_take]; omega)
  obtain ⟨b, eb, ub, mb, lb⟩ := writes_ev (d.drop n.toNat) (by rw [List.length_drop]; omega)
  obtain ⟨r, er, ur, mr, lr⟩ := reads_ev (d.take n.toNat) (by rw [List.length_take]; omega)
  obtain ⟨s, es, us, ms, ls⟩ := reads_ev d (by omega)
  have hs : ∀ y, y ∈ v ↔ y ∈ a ∨ y ∈ b := fun y => by
    rw [ma, mb, ← stores_append, List.take_append_drop]
    exact mv y
  rw [List.length_take] at la lr
  rw [List.length_drop] at lb
  refine ev_neg (by omega) (ev_pos h0 (ev_pos (by omega) (Ev.bind ea (Ev.bind eb (Ev.bind er ?_)))))
  refine Ev.bind (lqWithin_ev a v (by omega) (by omega) (fun y h => (hs y).2 (.inl h))) (ev_pos rfl ?_)
  refine Ev.bind (lqWithin_ev b v (by omega) (by omega) (fun y h => (hs y).2 (.inr h))) (ev_pos rfl ?_)
  refine Ev.bind (Ev.now []) (ev_pos (by rw [List.length_nil]; omega) (Ev.bind (Ev.now _) (ev_pos (by rw [List.length_append, List.length_nil]; omega) ?_)))
  rw [List.nil_append]
  refine Ev.bind (lqWithin_ev v (a ++ b) (by omega) (by rw [List.length_append]; omega) (fun y h => List.mem_append.2 ((hs y).1 h))) (ev_pos rfl ?_)
  refine Ev.bind es (Ev.bind (lqWithin_ev r s (by omega) (by omega) (fun y h => (ms y).2 ?_)) (Ev.now _))
  have := reads_append (b := d.drop n.toNat) ((mr y).1 h)
  rw [List.take_append_drop] at this
  exact this
end Go.Proofs.Ytedbgdnhkcllaaa.Pure
