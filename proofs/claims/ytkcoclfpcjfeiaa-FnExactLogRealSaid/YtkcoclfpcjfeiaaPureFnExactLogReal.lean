/- FnExactLogReal: on every list of changes the program's LogReal tells what the reference's tells; no condition. -/
import Derived.Test.YtkcoclfpcjfeiaaPEnt
import Derived.Test.YtkcoclfpcjfeiaaQAx9
namespace Go.Proofs.Ytkcoclfpcjfeiaa.Pure
open Go.RowKit Go.Proofs.Ytkcoclfpcjfeiaa.QA Go.Proofs.YtkcoclfpcjfeiaaW.PrintWords Go.Proofs.YtkcoclfpcjfeiaaW.PrintLast Go.Proofs.Ytkcoclfpcjfeiaa.PEnt

theorem ahead_eq (x y : S91) : spec_l13Ahead.f x.f0 x.f1 x.f2 x.f3 x.f4 x.f5 y.f0 y.f1 y.f2 y.f3 y.f4 y.f5 = impl_standsAhead.f x.f0 x.f1 x.f2 x.f3 x.f4 x.f5 y.f0 y.f1 y.f2 y.f3 y.f4 y.f5 := by
  unfold spec_l13Ahead.f impl_standsAhead.f
  by_cases c : x.f2 = y.f2
  · rw [if_pos c, if_neg (by omega), if_pos c]
  · by_cases d : x.f2 < y.f2
    · rw [if_pos d, if_neg c, decide_eq_true d]
    · rw [if_neg d, if_neg c, if_neg c, decide_eq_false d]

theorem ahead_some (x y : S91) : ∃ b, impl_standsAhead.f x.f0 x.f1 x.f2 x.f3 x.f4 x.f5 y.f0 y.f1 y.f2 y.f3 y.f4 y.f5 = some b := by
  unfold impl_standsAhead.f
  split
  · split <;> exact ⟨_, rfl⟩
  · exact ⟨_, rfl⟩

theorem real_agree (l : List S91) (hl : l.length ≤ 9223372036854775807) : ∃ r, Ev (fun k => spec_LogReal.f k l) r ∧ Ev (fun k => impl_LogReal.f k l) r := by
  have key : ∀ i, i ≤ l.length → ∃ r, Ev (fun k => spec_LogReal.l0 k l (i : Int)) r ∧ Ev (fun k => impl_LogReal.l0 k l l (l.length : Int) (i : Int)) r := by
    refine down ?_ ?_
    · exact ⟨true, Ev.step (fun k => by rw [spec_LogReal.l0, if_neg (by omega)]) (Ev.now _), Ev.step (fun k => by rw [impl_LogReal.l0, if_neg (by omega)]) (Ev.now _)⟩
    · intro i hi ih
      have inner : ∀ j, j ≤ i → ∃ r, Ev (fun k => spec_LogReal.l1 k l (i : Int) (j : Int)) r ∧
          Ev (fun k => impl_LogReal.l1 k l (i : Int) (j : Int) l (l.length : Int) (i : Int) l[i].f0 l[i].f1 l[i].f2 l[i].f3 l[i].f4 l[i].f5) r := by
        refine down ?_ ?_
        · obtain ⟨r, h1, h2⟩ := ih
          refine ⟨r, ?_, ?_⟩
          · refine Ev.step (fun k => by rw [spec_LogReal.l1, if_neg (by omega)]) ?_
            refine Ev.step (fun k => by rw [spec_LogReal.j2, if_neg (by simp)]) ?_
            rw [w64 (by omega) (by omega)]
            exact h1
          · refine Ev.step (fun k => by rw [impl_LogReal.l1, if_neg (by omega)]) ?_
            refine Ev.step (fun k => by rw [impl_LogReal.j2, if_neg (by simp)]) ?_
            rw [w64 (by omega) (by omega)]
            exact h2
        · intro j hj ih2
          by_cases c : (j : Int) < l[i].f5
          · obtain ⟨b, hb⟩ := ahead_some l[i] (l[j]'(by omega))
            have hb' := (ahead_eq l[i] (l[j]'(by omega))).trans hb
            obtain ⟨r, h1, h2⟩ := ih2
            have e1 : Ev (fun k => spec_LogReal.l1 k l (i : Int) (j : Int)) (if b = true then false else r) := by
              refine Ev.step (fun k => by rw [spec_LogReal.l1, if_pos (by omega), if_pos (by omega), if_pos (by omega), rdF l i hi, decide_eq_true c]) ?_
              refine Ev.step (fun k => by rw [spec_LogReal.j2, if_pos rfl, if_pos (by omega), if_pos (by omega), if_pos (by omega), if_pos (by omega), rdF l i hi, rdF l j (by omega), hb']) ?_
              simp only [Option.bind_some]
              cases b with
              | true => exact Ev.now _
              | false =>
                rw [w64 (by omega) (by omega)]
                exact h1
            have e2 : Ev (fun k => impl_LogReal.l1 k l (i : Int) (j : Int) l (l.length : Int) (i : Int) l[i].f0 l[i].f1 l[i].f2 l[i].f3 l[i].f4 l[i].f5) (if b = true then false else r) := by
              refine Ev.step (fun k => by rw [impl_LogReal.l1, if_pos (by omega), decide_eq_true c]) ?_
              refine Ev.step (fun k => by rw [impl_LogReal.j2, if_pos rfl, if_pos (by omega), if_pos (by omega), rdF l j (by omega), hb]) ?_
              simp only [Option.bind_some]
              cases b with
              | true => exact Ev.now _
              | false =>
                rw [w64 (by omega) (by omega)]
                exact h2
            exact ⟨_, e1, e2⟩
          · obtain ⟨r, h1, h2⟩ := ih
            refine ⟨r, ?_, ?_⟩
            · refine Ev.step (fun k => by rw [spec_LogReal.l1, if_pos (by omega), if_pos (by omega), if_pos (by omega), rdF l i hi, decide_eq_false c]) ?_
              refine Ev.step (fun k => by rw [spec_LogReal.j2, if_neg (by simp)]) ?_
              rw [w64 (by omega) (by omega)]
              exact h1
            · refine Ev.step (fun k => by rw [impl_LogReal.l1, if_pos (by omega), decide_eq_false c]) ?_
              refine Ev.step (fun k => by rw [impl_LogReal.j2, if_neg (by simp)]) ?_
              rw [w64 (by omega) (by omega)]
              exact h2
      obtain ⟨r, h1, h2⟩ := inner 0 (Nat.zero_le _)
      refine ⟨r, ?_, ?_⟩
      · exact Ev.step (fun k => by rw [spec_LogReal.l0, if_pos (by omega)]; rfl) h1
      · refine Ev.step (fun k => by rw [impl_LogReal.l0, if_pos (by omega), if_pos (by omega), if_pos (by omega), rdF l i hi]; rfl) h2
  obtain ⟨r, h1, h2⟩ := key 0 (Nat.zero_le _)
  exact ⟨r, h1, h2⟩

theorem FnExactLogReal (l : List S88) (hok : l.length ≤ 9223372036854775807 ∧ ∀ a ∈ l, ok88 a) : ∃ k, laws_FnExactLogReal.f k l = some true := by
  refine Ev.rounds (g := fun k => laws_FnExactLogReal.f k l) ?_
  unfold laws_FnExactLogReal.f
  obtain ⟨r, hr, hs⟩ := szEntryS_ev l hok.1 (ok_lens hok.2)
  refine Ev.bind hr ?_
  rcases hs with hs | ⟨h0, hs⟩
  · exact ev_pos hs (Ev.now _)
  · obtain ⟨hl, hm⟩ := small hs
    have hc := toEntryS_ev l hl hm
    have hlm : (l.map toE).length ≤ 9223372036854775807 := by rw [List.length_map]; omega
    obtain ⟨q, h1, h2⟩ := real_agree (l.map toE) hlm
    refine ev_neg (by omega) (Ev.bind hc (Ev.bind h1 (Ev.bind hc (Ev.bind h2 ?_))))
    refine ev_neg (by simp) (Ev.bind hc (Ev.bind (eqEntryS_refl _ hlm (fun x hx => by have := toE_lens hm x hx; omega)) ?_))
    exact ev_pos rfl (Ev.now _)
end Go.Proofs.Ytkcoclfpcjfeiaa.Pure
