/- The row of FnExactSysAwait: for every input, without a condition, the call returns true and leaves its arguments as they were. -/
import Derived.Test.YtpodhdpkdhcnoaaRows
import Derived.Test.YtpodhdpkdhcnoaaWalkFnExactSysAwait
import Derived.Test.YtpodhdpkdhcnoaaPureFnExactSysAwait
import Derived.Test.YtpodhdpkdhcnoaaOpen
import Derived.WalkKit
import Derived.ProofKit
import Derived.OpenShut
import Derived.ShutString
import Derived.ChangeOld
import Derived.Below
import Derived.SizedLaws
namespace Go.Proofs.Ytpodhdpkdhcnoaa.fnExactSysAwait
open Go.ChangeShapes Go.WideShapes Go.ChangeAt Go.RowKit
open Go.ChangeMaps (open_string shut_string)
open Go.Proofs.Ytpodhdpkdhcnoaa.QSC Go.Proofs.Ytpodhdpkdhcnoaa.Open Go.Proofs.YtpodhdpkdhcnoaaW.PrintWords Go.Proofs.Ytpodhdpkdhcnoaa.PEnt
theorem own : ownKnob Try.prog.godebug = none := by kernel_rfl
theorem laidOut : laidOutB Try.prog = true := by kernel_rfl
theorem opens102 : Opens Try.prog 102 k102 ok102 := opens_imp (opens_struct (fun x : S102 => (x.f0, x.f1, x.f2)) (fun p => ⟨p.1, p.2.1, p.2.2⟩) (fun _ => rfl) Try.underlying102 (opensF_cons (opens_int Try.underlying3) rfl (by kernel_rfl) (opensF_cons (opens_int Try.underlying3) rfl (by kernel_rfl) (opensF_one (opens_int Try.underlying3) rfl (by kernel_rfl)) (by decide)) (by decide)) (by kernel_rfl)) (fun _ h => h)
theorem opens130 : Opens Try.prog 130 k130 ok130 := opens_imp (opens_struct (fun x : S130 => (x.f0, x.f1)) (fun p => ⟨p.1, p.2⟩) (fun _ => rfl) Try.underlying130 (opensF_cons (opens_int Try.underlying3) rfl (by kernel_rfl) (opensF_one (opens_int Try.underlying3) rfl (by kernel_rfl)) (by decide)) (by kernel_rfl)) (fun _ h => h)
theorem opens100 : Opens Try.prog 100 k100 ok100 := opens_imp (opens_struct (fun x : S100 => (x.f0, x.f1, x.f2, x.f3, x.f4, x.f5, x.f6, x.f7, x.f8, x.f9, x.f10, x.f11, x.f12)) (fun p => ⟨p.1, p.2.1, p.2.2.1, p.2.2.2.1, p.2.2.2.2.1, p.2.2.2.2.2.1, p.2.2.2.2.2.2.1, p.2.2.2.2.2.2.2.1, p.2.2.2.2.2.2.2.2.1, p.2.2.2.2.2.2.2.2.2.1, p.2.2.2.2.2.2.2.2.2.2.1, p.2.2.2.2.2.2.2.2.2.2.2.1, p.2.2.2.2.2.2.2.2.2.2.2.2⟩) (fun _ => rfl) Try.underlying100 (opensF_cons (opens_int Try.underlying3) rfl (by kernel_rfl) (opensF_cons (opens_int Try.underlying3) rfl (by kernel_rfl) (opensF_cons (opens_int Try.underlying3) rfl (by kernel_rfl) (opensF_cons (opens_slice Try.underlying28 (opens_int Try.underlying3) (by kernel_rfl)) rfl (by kernel_rfl) (opensF_cons (opens_int Try.underlying3) rfl (by kernel_rfl) (opensF_cons (opens_int Try.underlying3) rfl (by kernel_rfl) (opensF_cons (opens_int Try.underlying3) rfl (by kernel_rfl) (opensF_cons (opens_int Try.underlying3) rfl (by kernel_rfl) (opensF_cons (opens_slice Try.underlying28 (opens_int Try.underlying3) (by kernel_rfl)) rfl (by kernel_rfl) (opensF_cons (opens_slice Try.underlying74 opens130 (by kernel_rfl)) rfl (by kernel_rfl) (opensF_cons (opens_slice Try.underlying74 opens130 (by kernel_rfl)) rfl (by kernel_rfl) (opensF_cons (opens_int Try.underlying3) rfl (by kernel_rfl) (opensF_one (opens_int Try.underlying3) rfl (by kernel_rfl)) (by decide)) (by decide)) (by decide)) (by decide)) (by decide)) (by decide)) (by decide)) (by decide)) (by decide)) (by decide)) (by decide)) (by decide)) (by kernel_rfl)) (fun _ h => h)
theorem opens76 : Opens Try.prog 76 k76 ok76 := opens_imp (opens_struct (fun x : S76 => (x.f0, x.f1, x.f2, x.f3, x.f4, x.f5)) (fun p => ⟨p.1, p.2.1, p.2.2.1, p.2.2.2.1, p.2.2.2.2.1, p.2.2.2.2.2⟩) (fun _ => rfl) Try.underlying76 (opensF_cons (opens_int Try.underlying3) rfl (by kernel_rfl) (opensF_cons (opens_int Try.underlying3) rfl (by kernel_rfl) (opensF_cons (opens_int Try.underlying3) rfl (by kernel_rfl) (opensF_cons (opens_slice Try.underlying74 opens130 (by kernel_rfl)) rfl (by kernel_rfl) (opensF_cons (opens_slice Try.underlying74 opens130 (by kernel_rfl)) rfl (by kernel_rfl) (opensF_one (opens_int Try.underlying3) rfl (by kernel_rfl)) (by decide)) (by decide)) (by decide)) (by decide)) (by decide)) (by kernel_rfl)) (fun _ h => h)
theorem opens26 : Opens Try.prog 26 k26 ok26 := opens_imp (opens_struct (fun x : S26 => (x.f0, x.f1, x.f2, x.f3)) (fun p => ⟨p.1, p.2.1, p.2.2.1, p.2.2.2⟩) (fun _ => rfl) Try.underlying26 (opensF_cons (opens_slice Try.underlying22 opens102 (by kernel_rfl)) rfl (by kernel_rfl) (opensF_cons (opens_slice Try.underlying23 opens100 (by kernel_rfl)) rfl (by kernel_rfl) (opensF_cons (opens_int Try.underlying3) rfl (by kernel_rfl) (opensF_one (opens_slice Try.underlying24 opens76 (by kernel_rfl)) rfl (by kernel_rfl)) (by decide)) (by decide)) (by decide)) (by kernel_rfl)) (fun _ h => h)
set_option maxRecDepth 100000 in
theorem lifted (os : Os) (started : os.Started) (H : Type) (enc : TypeId × Value → H) :
    ReturnsInHanded {} Try.checked os 6 .any (Rows.fnExactSysAwaitSpec.pre6 enc Try.prog Try.f6 Rows.fnExactSysAwaitRow.domain false) (Rows.fnExactSysAwaitSpec.post enc Try.prog Try.f6 false true false false) := by
  refine returnsInHanded_of_change_sized (C := Try.checked) own started (by kernel_rfl) Try.func6
    (ChangeSpec.witness6 (enc := enc) (C := Try.checked) false ⟨#[], #[.agg #[.slice none 0 0, .slice none 0 0, .int .i64 0, .slice none 0 0]], []⟩ 8 (by kernel_rfl) (by kernel_rfl) (by kernel_rfl) (by kernel_rfl)) ?_
  intro W base args ds gs before hval0 hW hcnd hsz0 _
  have hsz : (DataW.weightsEach Try.prog (Try.f6.params.toList ++ Rows.fnExactSysAwaitSpec.plain.varTypes Try.prog) (ds ++ gs)).all (· ≤ reachBytes) = true := hsz0
  have hval : ∀ (j : Nat) t v, Try.f6.params[j]? = some t → args[j]? = some v → Value.okWide Try.prog W .any base t v := hval0
  have hW' := hW
  obtain ⟨p, q, hA0, hV, rfl, hfz, hnd⟩ := hW
  have hA : DataW.TrodAll enc Try.prog W 0 (fun _ => true) true Try.f6.params.toList args.toList ds p := hA0
  rw [Try.params6] at hA hval hsz
  obtain ⟨v0, vs0, d0, ds0, p0, q0, hargs, rfl, rfl, h0, r0⟩ := trodAll_cons hA
  obtain ⟨rfl, rfl, rfl⟩ := trodAll_nil r0
  obtain rfl : args = #[v0] := by cases args; simp_all
  obtain ⟨rfl, rfl⟩ := trodVars_none hV
  have k0 := h0
  have lt0 : ∀ x ∈ p0, x.block < W.heap.size := by obtain ⟨m, hm⟩ := k0; exact DataW.trod_lt m _ _ _ hm
  obtain ⟨cs0, rfl, sz0⟩ := okWide_struct Try.underlying26 (hval 0 26 v0 rfl rfl)
  obtain ⟨x0, hx0, ok0⟩ := struct_arg opens26 h0
  obtain ⟨A0_0, c0_0, A0_1, c0_1, A0_3, c0_3, hcs0, hc0_0, hr0_0, hc0_1, hr0_1, hc0_3, hr0_3⟩ := k26_open hx0
  obtain rfl : cs0 = #[.slice A0_0 x0.f0.length c0_0, .slice A0_1 x0.f1.length c0_1, .int .i64 x0.f2, .slice A0_3 x0.f3.length c0_3] := by cases cs0; simpa using hcs0
  have hk := Pure.FnExactSysAwait x0 ok0
  clear hA0 hval0 hsz0 hsz
  refine (laws_FnExactSysAwait.all A0_0 c0_0 x0.f0 A0_1 c0_1 x0.f1 x0.f2 A0_3 c0_3 x0.f3 W hr0_0 hc0_0 hr0_1 hc0_1 hr0_3 hc0_3 hk).mono fun e W' ⟨he, bel⟩ => ?_
  subst he
  exact ⟨_, rfl, _, _, _, [], _, [], hW', trodAll_mk1 (shut_bool Try.underlying4 _), (trodAll_cons_mk (Below.trod laidOut (by kernel_rfl) (of_decide_eq_true (by kernel_rfl)) k0 bel lt0) trodAll_mk0), rfl, bel.frame _, fun h => by cases h⟩
theorem over : Rows.fnExactSysAwaitRow.holds Try.pinned (OpenSpec.ofChange Rows.fnExactSysAwaitSpec) :=
  OpenClaim.holds_of_wide 6 Try.f6 rfl rfl rfl rfl rfl rfl rfl ⟨rfl, rfl, rfl, rfl, rfl⟩ rfl rfl rfl rfl rfl (by kernel_rfl) Try.func6 (by kernel_rfl)
    (of_decide_eq_true (by kernel_rfl)) (by unfold Func.isWrapper; first | (rw [if_pos (by decide +kernel)]; kernel_rfl) | (rw [if_neg (by decide +kernel)]; exact ⟨rfl, rfl⟩))
    (fun os started H enc _ => lifted os started H enc)
theorem proved : Rows.FnExactSysAwaitSaid := over
#print axioms proved
end Go.Proofs.Ytpodhdpkdhcnoaa.fnExactSysAwait
namespace Go.Proofs.Ytpodhdpkdhcnoaa
theorem fnExactSysAwait_holds : Rows.FnExactSysAwaitSaid := fnExactSysAwait.proved
end Go.Proofs.Ytpodhdpkdhcnoaa
