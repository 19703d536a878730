/- What the laws' marking functions do to rows in known blocks: whole numbers are written over whole numbers alone (no condition). Written by wip/tools/genmark.py. -/
import Derived.Test.YtedbgdnhkcllaaaMark
import Derived.Test.YtedbgdnhkcllaaaProg
set_option linter.unusedSimpArgs false
set_option linter.unusedVariables false
namespace Go.Proofs.YtedbgdnhkcllaaaW.PrintWords
open Go.RowKit Go.Proofs.YtedbgdnhkcllaaaW.PrintLast Go.Proofs.YtedbgdnhkcllaaaW.PrintMore
set_option maxHeartbeats 2000000 in
set_option maxRecDepth 100000 in
theorem markDeedS_sh (Q : Nat → Prop) (A : Option Addr) (n : Nat) (c : Nat) (a1 : Int) (w : World) (hs : ShR 3 w Q A n) :
    Calls Try.prog 23 #[.slice A n c, .int .i64 a1] w fun e w' => e = .returned (.int .i64 (mkI (n * 3) a1)) ∧ IntsOnly Q w w' := by
  have HS := Aside0.mk hs
  have HI := Aside0.mk (IntsOnly.refl Q w)
  have HM := Aside0.mk hs.1
  clear hs
  have hu3 := Try.underlying3
  have hu41 := Try.underlying41
  go_enter Try.func23, Try.ntmps23
  go_wp2
  go_loopw [1, 5] (fun v1 v5 wr => ∃ (m x : Int), v1 = .int .i64 m ∧ v5 = .int .i64 x ∧ Aside0 (0 ≤ x ∧ x ≤ (n : Nat) ∧ m = mkI (x.toNat * 3) a1) ∧ Aside0 (IntsOnly Q w wr)) (fun _ v5 _ => n - (intOf v5).toNat)
  case atStart => exact ⟨a1, 0, rfl, rfl, ⟨by omega, by omega, by simp [mkI]⟩, HI⟩
  case round =>
    clear HI
    obtain ⟨m, x, rfl, rfl, HX, HI⟩ := hrel
    by_cases c0 : x < ((n : Nat) : Int)
    · have c0b : decide (x < ((n : Nat) : Int)) = true := decide_eq_true c0
      obtain ⟨g, rfl, hp, hc⟩ := HS.out.2 (by have := HX.out.1; omega)
      have HG := Aside0.mk hp
      have HC := Aside0.mk hc
      have HL := Aside0.mk (show x.toNat * 3 + 3 ≤ n * 3 by have := HX.out.1; omega)
      clear hp hc
      have p0 := eq_true HX.out.1
      have q0 := eq_true c0
      have HC0 := Aside0.mk c0
      clear c0
      obtain ⟨z0, hz0⟩ := HI.out.int _ (HC.out (x.toNat * 3) (by have := HL.out; omega)).1
      have hf0 : wr.frozen? ⟨g, x.toNat * 3, none⟩ = false := (HI.out.frozen _).trans ((HC.out (x.toNat * 3) (by have := HL.out; omega)).2)
      obtain ⟨z1, hz1⟩ := HI.out.int _ (HC.out (x.toNat * 3 + 1) (by have := HL.out; omega)).1
      have hf1 : wr.frozen? ⟨g, x.toNat * 3 + 1, none⟩ = false := (HI.out.frozen _).trans ((HC.out (x.toNat * 3 + 1) (by have := HL.out; omega)).2)
      obtain ⟨z2, hz2⟩ := HI.out.int _ (HC.out (x.toNat * 3 + 2) (by have := HL.out; omega)).1
      have hf2 : wr.frozen? ⟨g, x.toNat * 3 + 2, none⟩ = false := (HI.out.frozen _).trans ((HC.out (x.toNat * 3 + 2) (by have := HL.out; omega)).2)
      go_wp2
      go_roundw
      case rel =>
        have e1 : (wrap64 (x + 1)) = x + 1 := by have h1 := HX.out.1; have h2 := HC0.out; have h3 := HM.out; unfold wrap64; omega
        refine ⟨_, _, rfl, rfl, ⟨?_⟩, ⟨(by repeat (first | exact HI.out | refine IntsOnly.put ?_ HG.out (by first | exact (HC.out (x.toNat * 3) (by have := HL.out; omega)).1 | exact (HC.out (x.toNat * 3 + 1) (by have := HL.out; omega)).1 | exact (HC.out (x.toNat * 3 + 2) (by have := HL.out; omega)).1) _))⟩⟩
        rw [e1, show (x + 1).toNat = x.toNat + 1 by have := HX.out.1; omega]
        refine ⟨by have := HX.out.1; omega, by have := HC0.out; omega, ?_⟩
        rw [Nat.add_mul, mkI_add, ← HX.out.2.2]
        simp only [mkI]
      case measure =>
        have h1 := HX.out.1
        have h2 := HC0.out
        have h3 := HM.out
        have e1 : (wrap64 (x + 1)) = x + 1 := by unfold wrap64; omega
        rw [e1]
        simp [intOf]
        omega
    · have c0b : decide (x < ((n : Nat) : Int)) = false := decide_eq_false c0
      have q0 := eq_false c0
      have HE := Aside0.mk (show x.toNat = n by have := HX.out.1; have := HX.out.2.1; omega)
      clear c0
      go_wp2
      go_ret
      refine ⟨?_, HI.out⟩
      have := HX.out.2.2
      rw [HE.out] at this
      rw [this]
      rfl
set_option maxHeartbeats 2000000 in
set_option maxRecDepth 100000 in
theorem markIntS_sh (Q : Nat → Prop) (A : Option Addr) (n : Nat) (c : Nat) (a1 : Int) (w : World) (hs : ShR 1 w Q A n) :
    Calls Try.prog 22 #[.slice A n c, .int .i64 a1] w fun e w' => e = .returned (.int .i64 (mkI (n * 1) a1)) ∧ IntsOnly Q w w' := by
  have HS := Aside0.mk hs
  have HI := Aside0.mk (IntsOnly.refl Q w)
  have HM := Aside0.mk hs.1
  clear hs
  have hu3 := Try.underlying3
  go_enter Try.func22, Try.ntmps22
  go_wp2
  go_loopw [1, 5] (fun v1 v5 wr => ∃ (m x : Int), v1 = .int .i64 m ∧ v5 = .int .i64 x ∧ Aside0 (0 ≤ x ∧ x ≤ (n : Nat) ∧ m = mkI (x.toNat * 1) a1) ∧ Aside0 (IntsOnly Q w wr)) (fun _ v5 _ => n - (intOf v5).toNat)
  case atStart => exact ⟨a1, 0, rfl, rfl, ⟨by omega, by omega, by simp [mkI]⟩, HI⟩
  case round =>
    clear HI
    obtain ⟨m, x, rfl, rfl, HX, HI⟩ := hrel
    by_cases c0 : x < ((n : Nat) : Int)
    · have c0b : decide (x < ((n : Nat) : Int)) = true := decide_eq_true c0
      obtain ⟨g, rfl, hp, hc⟩ := HS.out.2 (by have := HX.out.1; omega)
      have HG := Aside0.mk hp
      have HC := Aside0.mk hc
      have HL := Aside0.mk (show x.toNat * 1 + 1 ≤ n * 1 by have := HX.out.1; omega)
      clear hp hc
      have p0 := eq_true HX.out.1
      have q0 := eq_true c0
      have HC0 := Aside0.mk c0
      clear c0
      obtain ⟨z0, hz0⟩ := HI.out.int _ (HC.out (x.toNat) (by have := HL.out; omega)).1
      have hf0 : wr.frozen? ⟨g, x.toNat, none⟩ = false := (HI.out.frozen _).trans ((HC.out (x.toNat) (by have := HL.out; omega)).2)
      go_wp2
      go_roundw
      case rel =>
        have e1 : (wrap64 (x + 1)) = x + 1 := by have h1 := HX.out.1; have h2 := HC0.out; have h3 := HM.out; unfold wrap64; omega
        refine ⟨_, _, rfl, rfl, ⟨?_⟩, ⟨(by repeat (first | exact HI.out | refine IntsOnly.put ?_ HG.out (by first | exact (HC.out (x.toNat) (by have := HL.out; omega)).1) _))⟩⟩
        rw [e1, show (x + 1).toNat = x.toNat + 1 by have := HX.out.1; omega]
        refine ⟨by have := HX.out.1; omega, by have := HC0.out; omega, ?_⟩
        rw [Nat.add_mul, mkI_add, ← HX.out.2.2]
        simp only [mkI]
      case measure =>
        have h1 := HX.out.1
        have h2 := HC0.out
        have h3 := HM.out
        have e1 : (wrap64 (x + 1)) = x + 1 := by unfold wrap64; omega
        rw [e1]
        simp [intOf]
        omega
    · have c0b : decide (x < ((n : Nat) : Int)) = false := decide_eq_false c0
      have q0 := eq_false c0
      have HE := Aside0.mk (show x.toNat = n by have := HX.out.1; have := HX.out.2.1; omega)
      clear c0
      go_wp2
      go_ret
      refine ⟨?_, HI.out⟩
      have := HX.out.2.2
      rw [HE.out] at this
      rw [this]
      rfl
end Go.Proofs.YtedbgdnhkcllaaaW.PrintWords
