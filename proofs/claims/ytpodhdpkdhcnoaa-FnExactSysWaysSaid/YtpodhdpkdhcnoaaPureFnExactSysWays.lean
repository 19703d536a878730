/- FnExactSysWays: on every system the program's SysWays tells what the reference's tells, in new memory; no condition. -/
import Derived.Test.YtpodhdpkdhcnoaaPSys
import Derived.Test.YtpodhdpkdhcnoaaWalkFnExactSysWays
namespace Go.Proofs.Ytpodhdpkdhcnoaa.Pure
open Go.RowKit Go.Proofs.Ytpodhdpkdhcnoaa.QSA Go.Proofs.YtpodhdpkdhcnoaaW.PrintWords Go.Proofs.YtpodhdpkdhcnoaaW.PrintLast Go.Proofs.Ytpodhdpkdhcnoaa.PEnt

theorem agree (X : List S63) (Y : List S72) (n : Int) (Z : List S78) (_hX : X.length ≤ 1048576) (hY : Y.length ≤ 1048576) :
    ∃ R : List Int, R.length ≤ 1048576 ∧ Ev (fun k => spec_SysWays.f k X Y n Z) R ∧ Ev (fun k => impl_SysWays.f k X Y n Z) R := by
  refine ⟨Y.map (fun c => c.f4), by rw [List.length_map]; exact hY, ?_, ?_⟩
  · have key : ∀ i, i ≤ Y.length → Ev (fun k => spec_SysWays.l0 k ((Y.take i).map fun c => c.f4) (i : Int) X Y n Z) (Y.map fun c => c.f4) := by
      refine down ?_ ?_
      · refine Ev.step (fun k => by rw [spec_SysWays.l0, if_neg (by omega)]) ?_
        rw [List.take_length]
        exact Ev.now _
      · intro i hi ih
        refine Ev.step (fun k => ?_) ih
        rw [spec_SysWays.l0, if_pos (by omega), if_pos (by omega), if_pos (by rw [List.length_map, List.length_take]; omega), rdTi Y i hi, w64 (by omega) (by omega), List.take_succ_eq_append_getElem hi, List.map_append]
        rfl
    exact key 0 (Nat.zero_le _)
  · have key : ∀ i, i ≤ Y.length → Ev (fun k => impl_SysWays.l0 k ((Y.take i).map fun c => c.f4) Y (Y.length : Int) (i : Int)) (Y.map fun c => c.f4) := by
      refine down ?_ ?_
      · refine Ev.step (fun k => by rw [impl_SysWays.l0, if_neg (by omega)]) ?_
        rw [List.take_length]
        exact Ev.now _
      · intro i hi ih
        refine Ev.step (fun k => ?_) ih
        rw [impl_SysWays.l0, if_pos (by omega), if_pos (by omega), if_pos (by omega), if_pos (by rw [List.length_map, List.length_take]; omega), rdTi Y i hi, w64 (by omega) (by omega), List.take_succ_eq_append_getElem hi, List.map_append]
        rfl
    exact key 0 (Nat.zero_le _)
theorem FnExactSysWays (x : S26) (hok : ok26 x) : laws_FnExactSysWays.Good x.f0 x.f1 x.f2 x.f3 := by
  unfold laws_FnExactSysWays.Good
  have hz := szSys_cut x hok
  by_cases c : cut 1048576 (szSys x) < 0
  · obtain ⟨k, hk⟩ := Ev.rounds hz
    exact .inl ⟨k, _, by omega, hk⟩
  · refine .inr ?_
    obtain ⟨c1, c2⟩ := cut_neg c
    have hs : szSys x ≤ 1048576 := by omega
    have hs' := hs
    unfold szSys at hs'
    obtain ⟨t1, t2⟩ := smallT (l := x.f1) (by omega)
    obtain ⟨u1, u2⟩ := small (l := x.f3) (by omega)
    have hX : (x.f0.map toC).length ≤ 1048576 := by rw [List.length_map]; omega
    have hY : (x.f1.map toT).length ≤ 1048576 := by rw [List.length_map]; omega
    have hZ : (x.f3.map toE).length ≤ 1048576 := by rw [List.length_map]; omega
    have e0 := toSys_ev x hs
    have e1 := eqSys_refl _ _ x.f2 _ hX hY hZ (toT_lens t2) (toE_lens u2)
    obtain ⟨k2, hk0, hk2⟩ := markSys_ev _ _ x.f2 _ hX hY hZ (toT_lens t2) (toE_lens u2)
    obtain ⟨R, hR, h1, h2⟩ := agree (x.f0.map toC) (x.f1.map toT) x.f2 (x.f3.map toE) hX hY
    have e3 := eqIntS_refl R (by omega)
    have e7 := markIntS_ev R 1 hR (by omega) (by omega)
    have e8 := heldIntS_ev R.length 1 hR (by omega) (by omega)
    obtain ⟨K, hK⟩ := ev_and hz (ev_and e0 (ev_and h1 (ev_and h2 (ev_and e3 (ev_and e1 (ev_and e7 e8))))))
    obtain ⟨q1, q2, q3, q4, q5, q6, q7, q8⟩ := hK K (Nat.le_refl _)
    exact ⟨K, cut 1048576 (szSys x), x.f0.map toC, x.f1.map toT, x.f3.map toE, R, marks R.length 1, k2, _, by omega, hk0, by omega, q1, q2, q3, q4, q5, q6, hk2, q7, q8⟩
end Go.Proofs.Ytpodhdpkdhcnoaa.Pure
