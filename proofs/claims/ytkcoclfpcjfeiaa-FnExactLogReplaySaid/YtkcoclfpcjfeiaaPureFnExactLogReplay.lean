/- FnExactLogReplay: on every cells and changes the program's LogReplay tells what the reference's tells, in new memory; no condition. -/
import Derived.Test.YtkcoclfpcjfeiaaPInt
import Derived.Test.YtkcoclfpcjfeiaaWalkFnExactLogReplay
namespace Go.Proofs.Ytkcoclfpcjfeiaa.Pure
open Go.RowKit Go.Proofs.Ytkcoclfpcjfeiaa.QC Go.Proofs.YtkcoclfpcjfeiaaW.PrintWords Go.Proofs.YtkcoclfpcjfeiaaW.PrintLast Go.Proofs.Ytkcoclfpcjfeiaa.PEnt

theorem has_agree (c : List Int) (l : List S134) (hc : c.length ≤ 1048576) (hl : l.length ≤ 9223372036854775807) :
    ∃ b, Ev (fun k => spec_l13Has.f k c l) b ∧ Ev (fun k => impl_hasAll.f k c l) b := by
  have key : ∀ i, i ≤ l.length → ∃ b, Ev (fun k => spec_l13Has.l0 k c l (i : Int)) b ∧ Ev (fun k => impl_hasAll.l0 k c l (l.length : Int) (i : Int)) b := by
    refine down ?_ ?_
    · exact ⟨true, Ev.step (fun k => by rw [spec_l13Has.l0, if_neg (by omega)]) (Ev.now _), Ev.step (fun k => by rw [impl_hasAll.l0, if_neg (by omega)]) (Ev.now _)⟩
    · intro i hi ih
      obtain ⟨b, h1, h2⟩ := ih
      by_cases c1 : 0 ≤ l[i].f0 ∧ l[i].f0 < (c.length : Int)
      · have hs : spec_l6In.f l[i].f0 0 ((c.length : Int) - 1) = some true := by
          unfold spec_l6In.f
          rw [if_pos c1.1, decide_eq_true (by omega)]
        have hi' : impl_isPlace.f l[i].f0 (c.length : Int) = some true := by
          unfold impl_isPlace.f
          rw [if_pos c1.1, decide_eq_true c1.2]
        by_cases c2 : rd c l[i].f0 = l[i].f1
        · refine ⟨b, ?_, ?_⟩
          · refine Ev.step (fun k => ?_) h1
            rw [spec_l13Has.l0, if_pos (by omega), if_pos (by omega), rdQ l i hi, w64 (i := (c.length : Int) - 1) (by omega) (by omega), hs]
            simp only [Option.bind_some, if_true]
            rw [if_pos c1.1, if_pos c1.2, if_pos c2, w64 (by omega) (by omega)]
            rfl
          · refine Ev.step (fun k => ?_) h2
            rw [impl_hasAll.l0, if_pos (by omega), if_pos (by omega), if_pos (by omega), rdQ l i hi, hi']
            simp only [Option.bind_some, if_true]
            rw [if_pos c1.1, if_pos c1.2, if_pos c2, w64 (by omega) (by omega)]
            rfl
        · refine ⟨false, ?_, ?_⟩
          · refine Ev.step (fun k => ?_) (Ev.now false)
            rw [spec_l13Has.l0, if_pos (by omega), if_pos (by omega), rdQ l i hi, w64 (i := (c.length : Int) - 1) (by omega) (by omega), hs]
            simp only [Option.bind_some, if_true]
            rw [if_pos c1.1, if_pos c1.2, if_neg c2]
          · refine Ev.step (fun k => ?_) (Ev.now false)
            rw [impl_hasAll.l0, if_pos (by omega), if_pos (by omega), if_pos (by omega), rdQ l i hi, hi']
            simp only [Option.bind_some, if_true]
            rw [if_pos c1.1, if_pos c1.2, if_neg c2]
      · have hs : spec_l6In.f l[i].f0 0 ((c.length : Int) - 1) = some false := by
          unfold spec_l6In.f
          by_cases c2 : l[i].f0 ≥ 0
          · rw [if_pos c2, decide_eq_false (by omega)]
          · rw [if_neg c2]
        have hi' : impl_isPlace.f l[i].f0 (c.length : Int) = some false := by
          unfold impl_isPlace.f
          by_cases c2 : 0 ≤ l[i].f0
          · rw [if_pos c2, decide_eq_false (by omega)]
          · rw [if_neg c2]
        refine ⟨false, ?_, ?_⟩
        · refine Ev.step (fun k => ?_) (Ev.now false)
          rw [spec_l13Has.l0, if_pos (by omega), if_pos (by omega), rdQ l i hi, w64 (i := (c.length : Int) - 1) (by omega) (by omega), hs]
          simp
        · refine Ev.step (fun k => ?_) (Ev.now false)
          rw [impl_hasAll.l0, if_pos (by omega), if_pos (by omega), if_pos (by omega), rdQ l i hi, hi']
          simp
  exact key 0 (Nat.zero_le _)

theorem putL_foldl_len (l : List S134) : ∀ c : List Int, (l.foldl putL c).length = c.length := by
  induction l with
  | nil => exact fun _ => rfl
  | cons p l ih => exact fun c => (ih _).trans (putL_len c p)

theorem puts_ev (l : List S134) (hl : l.length ≤ 9223372036854775807) (c : List Int) (hc : c.length ≤ 1048576) : Ev (fun k => spec_l13Puts.f k c l) (l.foldl putL c) := by
  have key : ∀ i, i ≤ l.length → ∀ c : List Int, c.length ≤ 1048576 → Ev (fun k => spec_l13Puts.l0 k l c (i : Int)) ((l.drop i).foldl putL c) := by
    refine down ?_ ?_
    · intro c hc
      refine Ev.step (fun k => by rw [spec_l13Puts.l0, if_neg (by omega)]) ?_
      rw [List.drop_length]
      exact Ev.now _
    · intro i hi ih c hc
      rw [List.drop_eq_getElem_cons hi, List.foldl_cons]
      have h1 := ih (putL c l[i]) (by rw [putL_len]; exact hc)
      by_cases c1 : 0 ≤ l[i].f0 ∧ l[i].f0 < (c.length : Int)
      · have hs : spec_l6In.f l[i].f0 0 ((c.length : Int) - 1) = some true := by
          unfold spec_l6In.f
          rw [if_pos c1.1, decide_eq_true (by omega)]
        refine Ev.step (fun k => ?_) h1
        rw [spec_l13Puts.l0, if_pos (by omega), if_pos (by omega), rdQ l i hi, w64 (i := (c.length : Int) - 1) (by omega) (by omega), hs]
        simp only [Option.bind_some, if_true]
        rw [if_pos c1.1, if_pos c1.2, w64 (by omega) (by omega)]
        unfold putL
        rw [if_pos c1]
        rfl
      · have hs : spec_l6In.f l[i].f0 0 ((c.length : Int) - 1) = some false := by
          unfold spec_l6In.f
          by_cases c2 : l[i].f0 ≥ 0
          · rw [if_pos c2, decide_eq_false (by omega)]
          · rw [if_neg c2]
        refine Ev.step (fun k => ?_) h1
        rw [spec_l13Puts.l0, if_pos (by omega), if_pos (by omega), rdQ l i hi, w64 (i := (c.length : Int) - 1) (by omega) (by omega), hs]
        simp only [Option.bind_some]
        rw [if_neg (by simp), w64 (by omega) (by omega)]
        unfold putL
        rw [if_neg c1]
        rfl
  refine Ev.congr (fun k => ?_) (key 0 (Nat.zero_le _) c hc)
  unfold spec_l13Puts.f
  simp only [Option.bind_some, List.length_nil, List.nil_append, Nat.zero_add]
  rw [if_pos (by omega)]
  rfl

theorem replay_agree (X : List S91) (hX : X.length ≤ 1048576) (hm : ∀ x ∈ X, x.f3.length ≤ 1048576 ∧ x.f4.length ≤ 1048576) (c : List Int) (hc : c.length ≤ 1048576) :
    ∃ R b, R.length ≤ 1048576 ∧ Ev (fun k => spec_LogReplay.f k c X) (R, b) ∧ Ev (fun k => impl_LogReplay.f k c X) (R, b) := by
  have key : ∀ i, i ≤ X.length → ∀ c : List Int, c.length ≤ 1048576 → ∃ R b, R.length ≤ 1048576 ∧ Ev (fun k => spec_LogReplay.l0 k X c (i : Int)) (R, b) ∧ Ev (fun k => impl_LogReplay.l0 k c X (X.length : Int) (i : Int)) (R, b) := by
    refine down ?_ ?_
    · exact fun c hc => ⟨c, true, hc, Ev.step (fun k => by rw [spec_LogReplay.l0, if_neg (by omega)]) (Ev.now _), Ev.step (fun k => by rw [impl_LogReplay.l0, if_neg (by omega)]) (Ev.now _)⟩
    · intro i hi ih c hc
      have hx := hm X[i] (List.getElem_mem hi)
      obtain ⟨b, h1, h2⟩ := has_agree c X[i].f3 hc (by omega)
      have h3 := puts_ev X[i].f4 (by omega) c hc
      cases b with
      | false =>
        refine ⟨[], false, Nat.zero_le _, ?_, ?_⟩
        · refine Ev.step (fun k => by rw [spec_LogReplay.l0, if_pos (by omega), if_pos (by omega), rdF X i hi]) (Ev.bind h1 (ev_neg Bool.false_ne_true (Ev.now _)))
        · refine Ev.step (fun k => by rw [impl_LogReplay.l0, if_pos (by omega), if_pos (by omega), if_pos (by omega), rdF X i hi]) (Ev.bind h2 (ev_neg Bool.false_ne_true (Ev.now _)))
      | true =>
        obtain ⟨R, b, hR, g1, g2⟩ := ih (X[i].f4.foldl putL c) (by rw [putL_foldl_len]; exact hc)
        refine ⟨R, b, hR, ?_, ?_⟩
        · refine Ev.step (fun k => by rw [spec_LogReplay.l0, if_pos (by omega), if_pos (by omega), rdF X i hi]) (Ev.bind h1 (ev_pos rfl (Ev.bind h3 ?_)))
          rw [w64 (by omega) (by omega)]
          exact g1
        · refine Ev.step (fun k => by rw [impl_LogReplay.l0, if_pos (by omega), if_pos (by omega), if_pos (by omega), rdF X i hi]) (Ev.bind h2 (ev_pos rfl (Ev.bind (Ev.now (X[i].f4.foldl putL c)) ?_)))
          rw [w64 (by omega) (by omega)]
          exact g2
  obtain ⟨R, b, hR, h1, h2⟩ := key 0 (Nat.zero_le _) c hc
  refine ⟨R, b, hR, ?_, ?_⟩
  · refine Ev.congr (fun k => ?_) h1
    unfold spec_LogReplay.f
    simp only [Option.bind_some, List.length_nil, List.nil_append, Nat.zero_add]
    rw [if_pos (by omega)]
    rfl
  · refine Ev.congr (fun k => ?_) h2
    unfold impl_LogReplay.f slices_Clone_int_int.f
    rw [if_pos (by omega)]
    rfl

theorem cnt_le (X : List S91) (N : Nat) (hm : ∀ x ∈ X, x.f3.length ≤ N ∧ x.f4.length ≤ N) : cnt91 (X.map lens91) ≤ X.length * (4 + 4 * N) := by
  induction X with
  | nil => simp [cnt91]
  | cons x X ih =>
    have h1 := hm x List.mem_cons_self
    have h2 := ih (fun y hy => hm y (List.mem_cons_of_mem _ hy))
    have e : cnt91 ((x :: X).map lens91) = one91 (lens91 x) + cnt91 (X.map lens91) := by simp [cnt91]
    rw [e, List.length_cons, Nat.add_mul, Nat.one_mul]
    have e2 : one91 (lens91 x) = 1 + 1 + 1 + x.f3.length * 2 + x.f4.length * 2 + 1 := rfl
    omega

theorem FnExactLogReplay (l0 : List Int) (l1 : List S88) (hok0 : l0.length ≤ 9223372036854775807 ∧ ∀ a ∈ l0, (Lit.int .i64 a).wf = true) (hok : l1.length ≤ 9223372036854775807 ∧ ∀ a ∈ l1, ok88 a) : laws_FnExactLogReplay.Good l0 l1 := by
  unfold laws_FnExactLogReplay.Good
  by_cases c0 : 1048576 < l0.length
  · exact .inl ⟨0, c0⟩
  · refine .inr ?_
    obtain ⟨r, hr, hs⟩ := szEntryS_ev l1 hok.1 (ok_lens hok.2)
    rcases hs with hs | ⟨h0, hs⟩
    · obtain ⟨k, hk⟩ := Ev.rounds hr
      exact .inl ⟨k, r, by omega, hs, hk⟩
    · refine .inr ?_
      obtain ⟨hl, hm⟩ := small hs
      have hX : (l1.map toE).length ≤ 1048576 := by rw [List.length_map]; omega
      have hmX := toE_lens hm
      obtain ⟨R, b, hR, h1, h2⟩ := replay_agree (l1.map toE) hX hmX l0 (by omega)
      have hcnt := cnt_le (l1.map toE) 1048576 hmX
      have hcnt2 : cnt91 ((l1.map toE).map lens91) ≤ 4398046511104 + 4 * 1048576 := Nat.le_trans hcnt (Nat.le_trans (Nat.mul_le_mul_right _ hX) (by decide))
      have hk2 : laws_markEntryS.f (l1.map toE) (1 + (l0.length : Int)) = some (1 + (l0.length : Int) + (cnt91 ((l1.map toE).map lens91) : Int)) := by
        unfold laws_markEntryS.f
        rw [mkI_small _ _ (by omega) (by omega)]
      have e1 := toIntS_ev l0 (by omega)
      have e2 := toEntryS_ev l1 hl hm
      have e3 := eqIntS_refl R (by omega)
      have e4 := eqIntS_refl l0 (by omega)
      have e5 := eqEntryS_refl (l1.map toE) (by omega) (fun x hx => by have := hmX x hx; omega)
      have e6 := markIntS_ev l0 1 (by omega) (by omega) (by omega)
      have e7 := markIntS_ev R 1 hR (by omega) (by omega)
      have e8 := heldIntS_ev R.length 1 hR (by omega) (by omega)
      obtain ⟨K, hK⟩ := ev_and hr (ev_and e1 (ev_and e2 (ev_and h1 (ev_and h2 (ev_and e3 (ev_and e4 (ev_and e5 (ev_and e6 (ev_and e7 e8)))))))))
      obtain ⟨q1, q2, q3, q4, q5, q6, q7, q8, q9, q10, q11⟩ := hK K (Nat.le_refl _)
      exact ⟨K, r, l1.map toE, R, marks R.length 1, marks l0.length 1, b, _, _, _, by omega, h0, by omega, by omega, q1, q2, q3, q4, q5, q6, q7, q8, q9, hk2, q10, q11⟩
end Go.Proofs.Ytkcoclfpcjfeiaa.Pure
