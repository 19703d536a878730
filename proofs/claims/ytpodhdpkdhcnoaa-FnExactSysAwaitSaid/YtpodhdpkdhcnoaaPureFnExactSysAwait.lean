/- FnExactSysAwait: on every system the program's SysAwait tells what the reference's tells, in new memory; no condition. -/
import Derived.Test.YtpodhdpkdhcnoaaPSys
import Derived.Test.YtpodhdpkdhcnoaaWalkFnExactSysAwait
namespace Go.Proofs.Ytpodhdpkdhcnoaa.Pure
open Go.RowKit Go.Proofs.Ytpodhdpkdhcnoaa.QSC Go.Proofs.YtpodhdpkdhcnoaaW.PrintWords Go.Proofs.YtpodhdpkdhcnoaaW.PrintLast Go.Proofs.Ytpodhdpkdhcnoaa.PEnt

/-- The places from i on at which p holds. -/
def at_ {α : Type} (p : α → Bool) : Nat → List α → List Int
  | _, [] => []
  | i, x :: l => (if p x = true then [(i : Int)] else []) ++ at_ p (i + 1) l
theorem at_len {α : Type} (p : α → Bool) : ∀ (i : Nat) (l : List α), (at_ p i l).length ≤ l.length
  | _, [] => Nat.le_refl _
  | i, x :: l => by
    have := at_len p (i + 1) l
    rw [at_, List.length_append, List.length_cons]
    split <;> simp <;> omega
theorem agree (X : List S63) (Y : List S72) (n : Int) (Z : List S78) (_hX : X.length ≤ 1048576) (_hY : Y.length ≤ 1048576) :
    ∃ R : List Int, R.length ≤ 1048576 ∧ Ev (fun k => spec_SysAwait.f k X Y n Z) R ∧ Ev (fun k => impl_SysAwait.f k X Y n Z) R := by
  refine ⟨at_ (fun t => decide (t.f4 = 0) && (decide (t.f5 = 0) && decide (t.f11 > n))) 0 Y, Nat.le_trans (at_len _ 0 Y) (by assumption), ?_, ?_⟩
  · have key : ∀ i, i ≤ Y.length → ∀ out : List Int, out.length ≤ i → Ev (fun k => spec_SysAwait.l0 k out (i : Int) X Y n Z) (out ++ at_ (fun t => decide (t.f4 = 0) && (decide (t.f5 = 0) && decide (t.f11 > n))) i (Y.drop i)) := by
      refine down ?_ ?_
      · intro out ho
        refine Ev.step (fun k => by rw [spec_SysAwait.l0, if_neg (by omega)]) ?_
        rw [List.drop_length, at_, List.append_nil]
        exact Ev.now _
      · intro i hi ih out ho
        have hr := rdTi Y i hi
        have hw : wrap64 ((i : Int) + 1) = ((i + 1 : Nat) : Int) := by rw [w64 (by omega) (by omega)]; rfl
        rw [List.drop_eq_getElem_cons hi, at_, ← List.append_assoc]
        generalize Y[i] = q at hr
        by_cases c0 : q.f4 = 0
        case neg =>
          rw [if_neg (by simp [c0])]
          rw [List.append_nil]
          exact Ev.step (fun k => by rw [spec_SysAwait.l0, if_pos (by omega), if_pos (by omega), hr, if_neg c0, hw]) (ih out (by omega))
        by_cases c1 : q.f5 = 0
        case neg =>
          rw [if_neg (by simp [c0, c1])]
          rw [List.append_nil]
          exact Ev.step (fun k => by rw [spec_SysAwait.l0, if_pos (by omega), if_pos (by omega), hr, if_pos c0, if_neg c1, hw]) (ih out (by omega))
        by_cases c2 : q.f11 > n
        case neg =>
          rw [if_neg (by simp [c0, c1, c2])]
          rw [List.append_nil]
          exact Ev.step (fun k => by rw [spec_SysAwait.l0, if_pos (by omega), if_pos (by omega), hr, if_pos c0, if_pos c1, if_neg c2, hw]) (ih out (by omega))
        have hl := ih (out ++ [(i : Int)]) (by rw [List.length_append, List.length_singleton]; omega)
        rw [if_pos (by simp [c0, c1, c2])]
        exact Ev.step (fun k => by rw [spec_SysAwait.l0, if_pos (by omega), if_pos (by omega), hr, if_pos c0, if_pos c1, if_pos c2, if_pos (by omega), hw]) hl
    have := key 0 (Nat.zero_le _) [] (Nat.zero_le _)
    rw [List.nil_append, List.drop_zero] at this
    exact this
  · have key : ∀ i, i ≤ Y.length → ∀ out : List Int, out.length ≤ i → Ev (fun k => impl_SysAwait.l0 k out Y (Y.length : Int) (i : Int) X Y n Z) (out ++ at_ (fun t => decide (t.f4 = 0) && (decide (t.f5 = 0) && decide (t.f11 > n))) i (Y.drop i)) := by
      refine down ?_ ?_
      · intro out ho
        refine Ev.step (fun k => by rw [impl_SysAwait.l0, if_neg (by omega)]) ?_
        rw [List.drop_length, at_, List.append_nil]
        exact Ev.now _
      · intro i hi ih out ho
        have hr := rdTi Y i hi
        have hw : wrap64 ((i : Int) + 1) = ((i + 1 : Nat) : Int) := by rw [w64 (by omega) (by omega)]; rfl
        rw [List.drop_eq_getElem_cons hi, at_, ← List.append_assoc]
        generalize Y[i] = q at hr
        by_cases c0 : q.f4 = 0
        case neg =>
          rw [if_neg (by simp [c0])]
          rw [List.append_nil]
          exact Ev.step (fun k => by rw [impl_SysAwait.l0, if_pos (by omega), if_pos (by omega), if_pos (by omega), hr, if_neg c0, hw]) (ih out (by omega))
        by_cases c1 : q.f5 = 0
        case neg =>
          rw [if_neg (by simp [c0, c1])]
          rw [List.append_nil]
          exact Ev.step (fun k => by rw [impl_SysAwait.l0, if_pos (by omega), if_pos (by omega), if_pos (by omega), hr, if_pos c0, if_neg c1, hw]) (ih out (by omega))
        by_cases c2 : q.f11 > n
        case neg =>
          rw [if_neg (by simp [c0, c1, c2])]
          rw [List.append_nil]
          exact Ev.step (fun k => by rw [impl_SysAwait.l0, if_pos (by omega), if_pos (by omega), if_pos (by omega), hr, if_pos c0, if_pos c1, if_neg c2, hw]) (ih out (by omega))
        have hl := ih (out ++ [(i : Int)]) (by rw [List.length_append, List.length_singleton]; omega)
        rw [if_pos (by simp [c0, c1, c2])]
        exact Ev.step (fun k => by rw [impl_SysAwait.l0, if_pos (by omega), if_pos (by omega), if_pos (by omega), hr, if_pos c0, if_pos c1, if_pos c2, if_pos (by omega), hw]) hl
    have := key 0 (Nat.zero_le _) [] (Nat.zero_le _)
    rw [List.nil_append, List.drop_zero] at this
    exact this
theorem FnExactSysAwait (x : S26) (hok : ok26 x) : laws_FnExactSysAwait.Good x.f0 x.f1 x.f2 x.f3 := by
  unfold laws_FnExactSysAwait.Good
  have hz := szSys_cut x hok
  by_cases c : cut 1048576 (szSys x) < 0
  · obtain ⟨k, hk⟩ := Ev.rounds hz
    exact .inl ⟨k, _, by omega, hk⟩
  · refine .inr ?_
    obtain ⟨c1, c2⟩ := cut_neg c
    have hs : szSys x ≤ 1048576 := by omega
    have hs' := hs
    unfold szSys at hs'
    obtain ⟨t1, t2⟩ := smallT (l := x.f1) (by omega)
    obtain ⟨u1, u2⟩ := small (l := x.f3) (by omega)
    have hX : (x.f0.map toC).length ≤ 1048576 := by rw [List.length_map]; omega
    have hY : (x.f1.map toT).length ≤ 1048576 := by rw [List.length_map]; omega
    have hZ : (x.f3.map toE).length ≤ 1048576 := by rw [List.length_map]; omega
    have e0 := toSys_ev x hs
    have e1 := eqSys_refl _ _ x.f2 _ hX hY hZ (toT_lens t2) (toE_lens u2)
    obtain ⟨k2, hk0, hk2⟩ := markSys_ev _ _ x.f2 _ hX hY hZ (toT_lens t2) (toE_lens u2)
    obtain ⟨R, hR, h1, h2⟩ := agree (x.f0.map toC) (x.f1.map toT) x.f2 (x.f3.map toE) hX hY
    have e3 := eqIntS_refl R (by omega)
    have e7 := markIntS_ev R 1 hR (by omega) (by omega)
    have e8 := heldIntS_ev R.length 1 hR (by omega) (by omega)
    obtain ⟨K, hK⟩ := ev_and hz (ev_and e0 (ev_and h1 (ev_and h2 (ev_and e3 (ev_and e1 (ev_and e7 e8))))))
    obtain ⟨q1, q2, q3, q4, q5, q6, q7, q8⟩ := hK K (Nat.le_refl _)
    exact ⟨K, cut 1048576 (szSys x), x.f0.map toC, x.f1.map toT, x.f3.map toE, R, marks R.length 1, k2, _, by omega, hk0, by omega, q1, q2, q3, q4, q5, q6, hk2, q7, q8⟩
end Go.Proofs.Ytpodhdpkdhcnoaa.Pure
