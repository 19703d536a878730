/- FnExactLogTask: of every changes and task the program's LogTask tells what the reference's tells, in new memory whose rows lie apart; no condition. -/
import Derived.Test.YtoeepmcaabmjkaaPEnt
import Derived.Test.YtoeepmcaabmjkaaWalkFnExactLogTask
namespace Go.Proofs.Ytoeepmcaabmjkaa.Pure
open Go.RowKit Go.Proofs.Ytoeepmcaabmjkaa.QLT Go.Proofs.YtoeepmcaabmjkaaW.PrintWords Go.Proofs.YtoeepmcaabmjkaaW.PrintLast Go.Proofs.Ytoeepmcaabmjkaa.PEnt

/-- Two that come to an end come to it together. -/
theorem ev_and {P Q : Nat → Prop} (h : ∃ K, ∀ k, K ≤ k → P k) (g : ∃ K, ∀ k, K ≤ k → Q k) : ∃ K, ∀ k, K ≤ k → P k ∧ Q k := by
  obtain ⟨K, h⟩ := h
  obtain ⟨L, g⟩ := g
  exact ⟨max K L, fun k hk => ⟨h k (by omega), g k (by omega)⟩⟩
theorem copy_spec (x : S84) (h : x.f3.length ≤ 1048576 ∧ x.f4.length ≤ 1048576) : spec_l13Entry.f x.f0 x.f1 x.f2 x.f3 x.f4 x.f5 = some (x.f0, x.f1, x.f2, x.f3, x.f4, x.f5) := by
  unfold spec_l13Entry.f spec_l11Puts.f
  simp only [Option.bind_some, List.length_nil, Nat.zero_add, List.nil_append]
  rw [if_pos (by omega), Option.bind_some, if_pos (by omega), Option.bind_some]
theorem copy_impl (x : S84) (h : x.f3.length ≤ 1048576 ∧ x.f4.length ≤ 1048576) : impl_entryCopy.f x.f0 x.f1 x.f2 x.f3 x.f4 x.f5 = some (x.f0, x.f1, x.f2, x.f3, x.f4, x.f5) := by
  unfold impl_entryCopy.f impl_Put.f
  rw [if_pos (by omega), Option.bind_some, if_pos (by omega), Option.bind_some]

theorem task_agree (X : List S84) (a : Int) (hX : X.length ≤ 1048576) (hm : ∀ x ∈ X, x.f3.length ≤ 1048576 ∧ x.f4.length ≤ 1048576) :
    ∃ R, R.length ≤ 1048576 ∧ (∀ x ∈ R, x ∈ X) ∧ Ev (fun k => spec_LogTask.f k X a) R ∧ Ev (fun k => impl_LogTask.f k X a) R := by
  have key : ∀ i, i ≤ X.length → ∀ s : List S84, s.length ≤ i → (∀ x ∈ s, x ∈ X) → ∃ R, R.length ≤ 1048576 ∧ (∀ x ∈ R, x ∈ X) ∧ Ev (fun k => spec_LogTask.l0 k X a s (i : Int)) R ∧ Ev (fun k => impl_LogTask.l0 k a s X (X.length : Int) (i : Int)) R := by
    refine down ?_ ?_
    · exact fun s hs hx => ⟨s, by omega, hx, Ev.step (fun k => by rw [spec_LogTask.l0, if_neg (by omega)]) (Ev.now _), Ev.step (fun k => by rw [impl_LogTask.l0, if_neg (by omega)]) (Ev.now _)⟩
    · intro i hi ih s hs hx
      have hx' := hm X[i] (List.getElem_mem hi)
      by_cases c : X[i].f0 = a
      · obtain ⟨R, hR, hR2, h1, h2⟩ := ih (s ++ [X[i]]) (by rw [List.length_append]; simp; omega) (fun y hy => by
          rcases List.mem_append.1 hy with hy | hy
          · exact hx y hy
          · rw [List.mem_singleton] at hy; rw [hy]; exact List.getElem_mem hi)
        refine ⟨R, hR, hR2, ?_, ?_⟩
        · refine Ev.step (fun k => ?_) h1
          rw [spec_LogTask.l0, if_pos (by omega), if_pos (by omega), rdF X i hi, if_pos c, copy_spec X[i] hx', Option.bind_some, if_pos (by omega), w64 (by omega) (by omega)]
          rfl
        · refine Ev.step (fun k => ?_) h2
          rw [impl_LogTask.l0, if_pos (by omega), if_pos (by omega), if_pos (by omega), rdF X i hi, if_pos c, copy_impl X[i] hx', Option.bind_some, if_pos (by omega), w64 (by omega) (by omega)]
          rfl
      · obtain ⟨R, hR, hR2, h1, h2⟩ := ih s (by omega) hx
        refine ⟨R, hR, hR2, ?_, ?_⟩
        · refine Ev.step (fun k => ?_) h1
          rw [spec_LogTask.l0, if_pos (by omega), if_pos (by omega), rdF X i hi, if_neg c, w64 (by omega) (by omega)]
          rfl
        · refine Ev.step (fun k => ?_) h2
          rw [impl_LogTask.l0, if_pos (by omega), if_pos (by omega), if_pos (by omega), rdF X i hi, if_neg c, w64 (by omega) (by omega)]
          rfl
  obtain ⟨R, hR, hR2, h1, h2⟩ := key 0 (Nat.zero_le _) [] (Nat.zero_le _) (fun x hx => by cases hx)
  exact ⟨R, hR, hR2, h1, h2⟩

theorem cnt_le (X : List S84) (N : Nat) (hm : ∀ x ∈ X, x.f3.length ≤ N ∧ x.f4.length ≤ N) : cnt84 X ≤ X.length * (4 + 4 * N) := by
  induction X with
  | nil => simp [cnt84]
  | cons x X ih =>
    have h1 := hm x List.mem_cons_self
    have h2 := ih (fun y hy => hm y (List.mem_cons_of_mem _ hy))
    have e : cnt84 (x :: X) = (4 + x.f3.length * 2 + x.f4.length * 2) + cnt84 X := by simp [cnt84]
    rw [e, List.length_cons, Nat.add_mul, Nat.one_mul]
    omega
theorem cnt_small (X : List S84) (hX : X.length ≤ 1048576) (hm : ∀ x ∈ X, x.f3.length ≤ 1048576 ∧ x.f4.length ≤ 1048576) : cnt84 X ≤ 4398050705408 :=
  Nat.le_trans (cnt_le X 1048576 hm) (Nat.le_trans (Nat.mul_le_mul_right _ hX) (by decide))

theorem FnExactLogTask (l0 : List S82) (a1 : Int) (hok : l0.length ≤ 9223372036854775807 ∧ ∀ a ∈ l0, ok82 a) (_ : (Lit.int .i64 a1).wf = true) : laws_FnExactLogTask.Good l0 a1 := by
  unfold laws_FnExactLogTask.Good
  obtain ⟨r, hr, hs⟩ := szEntryS_ev l0 hok.1 (ok_lens hok.2)
  rcases hs with hs | ⟨h0, hs⟩
  · obtain ⟨k, hk⟩ := Ev.rounds hr
    exact .inl ⟨k, r, hs, hk⟩
  · refine .inr ?_
    obtain ⟨hl, hm⟩ := small hs
    have hX : (l0.map toE).length ≤ 1048576 := by rw [List.length_map]; omega
    have hmX := toE_lens hm
    obtain ⟨R, hR, hR2, h1, h2⟩ := task_agree (l0.map toE) a1 hX hmX
    have hmR : ∀ x ∈ R, x.f3.length ≤ 1048576 ∧ x.f4.length ≤ 1048576 := fun x hx => hmX x (hR2 x hx)
    have hcX := cnt_small (l0.map toE) hX hmX
    have hcR := cnt_small R hR hmR
    have hk2 : laws_markEntryS.f (l0.map toE) 1 = some (1 + (cnt84 (l0.map toE) : Int)) := by
      unfold laws_markEntryS.f
      rw [mkI_small _ _ (by omega) (by omega)]
    have e2 := toEntryS_ev l0 hl hm
    have e3 := eqEntryS_refl R (by omega) (fun x hx => by have := hmR x hx; omega)
    have e5 := eqEntryS_refl (l0.map toE) (by omega) (fun x hx => by have := hmX x hx; omega)
    obtain ⟨K, hK⟩ := ev_and hr (ev_and e2 (ev_and h1 (ev_and h2 (ev_and e3 e5))))
    obtain ⟨q1, q2, q3, q4, q5, q6⟩ := hK K (Nat.le_refl _)
    exact ⟨K, r, l0.map toE, R, _, _, h0, by omega, by omega, q1, q2, q3, q4, q5, q6, hk2, rfl, by omega⟩
end Go.Proofs.Ytoeepmcaabmjkaa.Pure
