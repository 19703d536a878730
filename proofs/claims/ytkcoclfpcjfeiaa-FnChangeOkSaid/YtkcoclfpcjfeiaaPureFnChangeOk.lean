/- FnChangeOk: on every drawn change the program's ChangeOk tells what the reference's tells; both halves of a change in form are in form; so is it with one more cell. -/
import Derived.Test.YtkcoclfpcjfeiaaPDraw
namespace Go.Proofs.Ytkcoclfpcjfeiaa.Pure
open Go.RowKit Go.Proofs.Ytkcoclfpcjfeiaa.QC Go.Proofs.YtkcoclfpcjfeiaaW.PrintWords Go.Proofs.YtkcoclfpcjfeiaaW.PrintLast Go.Proofs.Ytkcoclfpcjfeiaa.PDeed Go.Proofs.Ytkcoclfpcjfeiaa.PDraw

theorem DrawChangeOk_ev (l : List Int) (hl : ∀ x ∈ l, (Lit.int .u8 x).wf = true) : ∃ r : List S68 × Int, Ev (fun k => spec_DrawChangeOk.f k l) r ∧ r.1.length ≤ 10 := by
  obtain ⟨b, e0, hb, hl⟩ := open_ev l hl
  obtain ⟨c, ec, c0, c1, -⟩ := pick_ev b hb hl 4 0 (by omega) (by omega) (by omega)
  have c1 := c1 (by omega)
  obtain ⟨⟨d, p⟩, ed, d1, d2, d3⟩ := l71Deeds_ev b hb hl c (0 + 1) (by omega) (by omega) (by omega)
  dsimp only at d1 d2 d3
  obtain ⟨s, es, -⟩ := pick_ev b hb hl 4 p (by omega) (by omega) (by omega)
  unfold spec_DrawChangeOk.f
  by_cases h0 : s = 0
  · obtain ⟨x, ex, -⟩ := pick_ev b hb hl 7 (p + 1) (by omega) (by omega) (by omega)
    obtain ⟨y, ey, -⟩ := pick_ev b hb hl 5 (p + 1 + 1) (by omega) (by omega) (by omega)
    obtain ⟨z, ez, -⟩ := pick_ev b hb hl 5 (p + 1 + 1 + 1) (by omega) (by omega) (by omega)
    obtain ⟨u, eu, -⟩ := pick_ev b hb hl 9 (p + 1 + 1 + 1 + 1) (by omega) (by omega) (by omega)
    refine ⟨_, Ev.bind (Ev.congr (fun _ => e0) (Ev.now _)) (Ev.bind ec (Ev.bind ed (Ev.bind es (ev_pos h0 (Ev.bind ex (Ev.bind ey (Ev.bind ez (ev_pos ?_ (Ev.bind eu (Ev.now _)))))))))), ?_⟩
    · dsimp only; omega
    · simp; omega
  · obtain ⟨u, eu, -⟩ := pick_ev b hb hl 9 (p + 1) (by omega) (by omega) (by omega)
    by_cases h1 : s = 1
    · refine ⟨_, Ev.bind (Ev.congr (fun _ => e0) (Ev.now _)) (Ev.bind ec (Ev.bind ed (Ev.bind es (ev_neg h0 (ev_pos h1 (ev_pos ?_ (Ev.bind eu (Ev.now _)))))))), ?_⟩
      · dsimp only; omega
      · simp; omega
    · refine ⟨_, Ev.bind (Ev.congr (fun _ => e0) (Ev.now _)) (Ev.bind ec (Ev.bind ed (Ev.bind es (ev_neg h0 (ev_neg h1 (Ev.bind eu (Ev.now _))))))), ?_⟩
      simp; omega

theorem inB_true {x lo hi : Int} : inB x lo hi = true ↔ lo ≤ x ∧ x ≤ hi := by
  unfold inB
  rw [Bool.and_eq_true, decide_eq_true_iff, decide_eq_true_iff]
theorem dB_up {c : Int} {d : S68} (h : dB c d = true) : dB (c + 1) d = true := by
  have up : ∀ x : Int, inB x 0 (c - 1) = true → inB x 0 (c + 1 - 1) = true := by
    intro x hx
    rw [inB_true] at hx ⊢
    omega
  unfold dB deedB at h ⊢
  repeat' split
  all_goals simp_all
theorem okC_iff {l : List S68} {c : Int} : okC l c = true ↔ (0 ≤ c ∧ c ≤ 3) ∧ l.length ≤ 5 ∧ ∀ d ∈ l, dB c d = true := by
  unfold okC
  rw [Bool.and_eq_true, Bool.and_eq_true, inB_true, decide_eq_true_iff, List.all_eq_true, and_assoc]
theorem okC_take {l : List S68} {c : Int} (h : okC l c = true) (n : Nat) : okC (l.take n) c = true := by
  rw [okC_iff] at h ⊢
  exact ⟨h.1, by rw [List.length_take]; omega, fun d hd => h.2.2 d (List.mem_of_mem_take hd)⟩
theorem okC_drop {l : List S68} {c : Int} (h : okC l c = true) (n : Nat) : okC (l.drop n) c = true := by
  rw [okC_iff] at h ⊢
  exact ⟨h.1, by rw [List.length_drop]; omega, fun d hd => h.2.2 d (List.mem_of_mem_drop hd)⟩
theorem okC_up {l : List S68} {c : Int} (h : okC l c = true) (hc : ¬ c = 3) : okC l (c + 1) = true := by
  rw [okC_iff] at h ⊢
  exact ⟨by omega, h.2.1, fun d hd => dB_up (h.2.2 d hd)⟩

theorem FnChangeOk : laws_FnChangeOk.Pure := by
  intro l0 l1 _ _ w0 m1 _ _
  refine Ev.rounds (g := fun k => laws_FnChangeOk.f k l0 l1) ?_
  have J : ∀ v : Bool, Ev (fun k => laws_FnChangeOk.j0 k l0 l1 v) true := by
    intro v
    cases v with
    | true => exact Ev.step (fun k => by rw [laws_FnChangeOk.j0, if_pos rfl]) (Ev.now _)
    | false =>
      obtain ⟨⟨d, c⟩, e, hd⟩ := DrawChangeOk_ev l0 w0
      dsimp only at hd
      refine Ev.step (fun k => by rw [laws_FnChangeOk.j0, if_neg Bool.false_ne_true]) (Ev.bind e (Ev.bind (implOk_ev d c (by omega)) (Ev.bind (specOk_ev d c (by omega)) ?_)))
      refine ev_neg (by simp) ?_
      cases ho : okC d c with
      | false =>
        refine Ev.step (fun k => by rw [Bool.not_false, laws_FnChangeOk.j1, if_pos rfl]) ?_
        have := specOk_ev d c (by omega)
        rw [ho] at this
        exact Ev.bind this (Ev.now _)
      | true =>
        have hL := (okC_iff.1 ho)
        have ew : wrap64 ((d.length : Int) + 1) = (d.length : Int) + 1 := w64 (by omega) (by omega)
        have hm0 := Int.emod_nonneg (l1.length : Int) (show (d.length : Int) + 1 ≠ 0 by omega)
        have hm1 := Int.emod_lt_of_pos (l1.length : Int) (show 0 < (d.length : Int) + 1 by omega)
        refine Ev.step (fun k => by rw [Bool.not_true, laws_FnChangeOk.j1, if_neg Bool.false_ne_true, ew, if_neg (by omega), if_pos hm0, if_pos (show (l1.length : Int) % ((d.length : Int) + 1) ≤ (d.length : Int) by omega)]) ?_
        have e1 := implOk_ev (d.take ((l1.length : Int) % ((d.length : Int) + 1)).toNat) c (by rw [List.length_take]; omega)
        have e2 := implOk_ev (d.drop ((l1.length : Int) % ((d.length : Int) + 1)).toNat) c (by rw [List.length_drop]; omega)
        rw [okC_take ho] at e1
        rw [okC_drop ho] at e2
        refine Ev.bind e1 (ev_pos rfl (Ev.bind e2 (ev_pos rfl ?_)))
        by_cases h3 : c = 3
        · exact ev_pos h3 (Ev.now _)
        · have e3 := implOk_ev d (c + 1) (by omega)
          rw [okC_up ho h3] at e3
          refine ev_neg h3 ?_
          rw [w64 (by omega) (by omega)]
          exact Ev.bind e3 (Ev.now _)
  unfold laws_FnChangeOk.f
  by_cases h : (l0.length : Int) > 1048576
  · exact ev_pos h (J _)
  · exact ev_neg h (J _)
end Go.Proofs.Ytkcoclfpcjfeiaa.Pure
