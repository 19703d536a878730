/- The row of FnExactSysNew: for every input, without a condition, the call returns true and leaves its arguments as they were. -/
import Derived.Laws.StructEq
import Derived.Test.YtoeepmcaabmjkaaKSN0
import Derived.Test.YtoeepmcaabmjkaaKSN1
import Derived.Test.YtoeepmcaabmjkaaKSN2
import Derived.Test.YtoeepmcaabmjkaaKSN3
import Derived.Test.YtoeepmcaabmjkaaKSN4
import Derived.Test.YtoeepmcaabmjkaaKSN5
import Derived.Test.YtoeepmcaabmjkaaKSN6
import Derived.Test.YtoeepmcaabmjkaaKSN7
import Derived.Test.YtoeepmcaabmjkaaKSN8
import Derived.Test.YtoeepmcaabmjkaaKSN9
import Derived.Test.YtoeepmcaabmjkaaRows
import Derived.WalkKit
import Derived.ProofKit
import Derived.OpenShut
import Derived.ShutString
import Derived.ChangeOld
import Derived.Below
import Derived.SizedLaws
namespace Go.Proofs.Ytoeepmcaabmjkaa.fnExactSysNew
open Go.ChangeShapes Go.WideShapes Go.ChangeAt Go.RowKit
open Go.ChangeMaps (open_string shut_string)
open Go.Proofs.Ytoeepmcaabmjkaa.QSN Go.Proofs.Ytoeepmcaabmjkaa.Open Go.Proofs.YtoeepmcaabmjkaaW.PrintWords Go.Proofs.Ytoeepmcaabmjkaa.PProg
theorem own : ownKnob Try.prog.godebug = none := by kernel_rfl
theorem laidOut : laidOutB Try.prog = true := by kernel_rfl
theorem opens169 : Opens Try.prog 169 k169 ok169 := opens_imp (opens_struct (fun x : S169 => (x.f0, x.f1, x.f2)) (fun p => ⟨p.1, p.2.1, p.2.2⟩) (fun _ => rfl) Try.underlying169 (opensF_cons (opens_int Try.underlying3) rfl (by kernel_rfl) (opensF_cons (opens_int Try.underlying3) rfl (by kernel_rfl) (opensF_one (opens_int Try.underlying3) rfl (by kernel_rfl)) (by decide)) (by decide)) (by kernel_rfl)) (fun _ h => h)
theorem opens141 : Opens Try.prog 141 k141 ok141 := opens_imp (opens_struct (fun x : S141 => (x.f0, x.f1, x.f2, x.f3)) (fun p => ⟨p.1, p.2.1, p.2.2.1, p.2.2.2⟩) (fun _ => rfl) Try.underlying141 (opensF_cons (opens_int Try.underlying3) rfl (by kernel_rfl) (opensF_cons (opens_slice Try.underlying139 opens169 (by kernel_rfl)) rfl (by kernel_rfl) (opensF_cons (opens_slice Try.underlying22 (opens_int Try.underlying3) (by kernel_rfl)) rfl (by kernel_rfl) (opensF_one (opens_int Try.underlying3) rfl (by kernel_rfl)) (by decide)) (by decide)) (by decide)) (by kernel_rfl)) (fun _ h => h)
theorem opens25 : Opens Try.prog 25 k25 ok25 := opens_imp (opens_struct (fun x : S25 => (x.f0, x.f1)) (fun p => ⟨p.1, p.2⟩) (fun _ => rfl) Try.underlying25 (opensF_cons (opens_slice Try.underlying22 (opens_int Try.underlying3) (by kernel_rfl)) rfl (by kernel_rfl) (opensF_one (opens_slice Try.underlying23 (opens_slice Try.underlying105 opens141 (by kernel_rfl)) (by kernel_rfl)) rfl (by kernel_rfl)) (by decide)) (by kernel_rfl)) (fun _ h => h)
set_option maxRecDepth 100000 in
theorem lifted (os : Os) (started : os.Started) (H : Type) (enc : TypeId × Value → H) :
    ReturnsInHanded {} Try.checked os 3 .any (Rows.fnExactSysNewSpec.pre6 enc Try.prog Try.f3 Rows.fnExactSysNewRow.domain false) (Rows.fnExactSysNewSpec.post enc Try.prog Try.f3 false true false false) := by
  refine returnsInHanded_of_change_sized (C := Try.checked) own started (by kernel_rfl) Try.func3
    (ChangeSpec.witness6 (enc := enc) (C := Try.checked) false ⟨#[], #[.agg #[.slice none 0 0, .slice none 0 0]], []⟩ 8 (by kernel_rfl) (by kernel_rfl) (by kernel_rfl) (by kernel_rfl)) ?_
  intro W base args ds gs before hval0 hW hcnd hsz0 _
  have hsz : (DataW.weightsEach Try.prog (Try.f3.params.toList ++ Rows.fnExactSysNewSpec.plain.varTypes Try.prog) (ds ++ gs)).all (· ≤ reachBytes) = true := hsz0
  have hval : ∀ (j : Nat) t v, Try.f3.params[j]? = some t → args[j]? = some v → Value.okWide Try.prog W .any base t v := hval0
  have hW' := hW
  obtain ⟨p, q, hA0, hV, rfl, hfz, hnd⟩ := hW
  have hA : DataW.TrodAll enc Try.prog W 0 (fun _ => true) true Try.f3.params.toList args.toList ds p := hA0
  rw [Try.params3] at hA hval hsz
  obtain ⟨v0, vs0, d0, ds0, p0, q0, hargs, rfl, rfl, h0, r0⟩ := trodAll_cons hA
  obtain ⟨rfl, rfl, rfl⟩ := trodAll_nil r0
  obtain rfl : args = #[v0] := by cases args; simp_all
  obtain ⟨rfl, rfl⟩ := trodVars_none hV
  have k0 := h0
  have lt0 : ∀ x ∈ p0, x.block < W.heap.size := by obtain ⟨m, hm⟩ := k0; exact DataW.trod_lt m _ _ _ hm
  obtain ⟨cs0, rfl, sz0⟩ := okWide_struct Try.underlying25 (hval 0 25 v0 rfl rfl)
  obtain ⟨x0, hx0, ok0⟩ := struct_arg opens25 h0
  obtain ⟨A0_0, c0_0, A0_1, c0_1, hcs0, hc0_0, hr0_0, hc0_1, hr0_1⟩ := k25_open hx0
  obtain rfl : cs0 = #[.slice A0_0 x0.f0.length c0_0, .slice A0_1 x0.f1.length c0_1] := by cases cs0; simpa using hcs0
  have hk := Pure.FnExactSysNew x0 ok0
  clear hA0 hval0 hsz0 hsz
  refine (laws_FnExactSysNew.all A0_0 c0_0 x0.f0 A0_1 c0_1 x0.f1 W hr0_0 hc0_0 hr0_1 hc0_1 hk).mono fun e W' ⟨he, bel⟩ => ?_
  subst he
  exact ⟨_, rfl, _, _, _, [], _, [], hW', trodAll_mk1 (shut_bool Try.underlying4 _), (trodAll_cons_mk (Below.trod laidOut (by kernel_rfl) (of_decide_eq_true (by kernel_rfl)) k0 bel lt0) trodAll_mk0), rfl, bel.frame _, fun h => by cases h⟩
theorem over : Rows.fnExactSysNewRow.holds Try.pinned (OpenSpec.ofChange Rows.fnExactSysNewSpec) :=
  OpenClaim.holds_of_wide 3 Try.f3 rfl rfl rfl rfl rfl rfl rfl ⟨rfl, rfl, rfl, rfl, rfl⟩ rfl rfl rfl rfl rfl (by kernel_rfl) Try.func3 (by kernel_rfl)
    (of_decide_eq_true (by kernel_rfl)) (by unfold Func.isWrapper; first | (rw [if_pos (by decide +kernel)]; kernel_rfl) | (rw [if_neg (by decide +kernel)]; exact ⟨rfl, rfl⟩))
    (fun os started H enc _ => lifted os started H enc)
theorem proved : Rows.FnExactSysNewSaid := over
#print axioms proved
end Go.Proofs.Ytoeepmcaabmjkaa.fnExactSysNew
namespace Go.Proofs.Ytoeepmcaabmjkaa
theorem fnExactSysNew_holds : Rows.FnExactSysNewSaid := fnExactSysNew.proved
end Go.Proofs.Ytoeepmcaabmjkaa
