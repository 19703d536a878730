/- What the laws' marking functions do to rows in known blocks: whole numbers are written over whole numbers alone (no condition). Written by wip/tools/genmark.py. -/
import Derived.Test.YtpodhdpkdhcnoaaMark
import Derived.Test.YtpodhdpkdhcnoaaProg
set_option linter.unusedSimpArgs false
set_option linter.unusedVariables false
namespace Go.Proofs.YtpodhdpkdhcnoaaW.PrintWords
open Go.RowKit Go.Proofs.YtpodhdpkdhcnoaaW.PrintLast Go.Proofs.YtpodhdpkdhcnoaaW.PrintMore
set_option maxHeartbeats 2000000 in
set_option maxRecDepth 100000 in
theorem markCellS_sh (Q : Nat → Prop) (A : Option Addr) (n : Nat) (c : Nat) (a1 : Int) (w : World) (hs : ShR 3 w Q A n) :
    Calls Try.prog 45 #[.slice A n c, .int .i64 a1] w fun e w' => e = .returned (.int .i64 (mkI (n * 3) a1)) ∧ IntsOnly Q w w' := by
  have HS := Aside0.mk hs
  have HI := Aside0.mk (IntsOnly.refl Q w)
  have HM := Aside0.mk hs.1
  clear hs
  have hu3 := Try.underlying3
  have hu63 := Try.underlying63
  go_enter Try.func45, Try.ntmps45
  go_wp2
  go_loopw [1, 5] (fun v1 v5 wr => ∃ (m x : Int), v1 = .int .i64 m ∧ v5 = .int .i64 x ∧ Aside0 (0 ≤ x ∧ x ≤ (n : Nat) ∧ m = mkI (x.toNat * 3) a1) ∧ Aside0 (IntsOnly Q w wr)) (fun _ v5 _ => n - (intOf v5).toNat)
  case atStart => exact ⟨a1, 0, rfl, rfl, ⟨by omega, by omega, by simp [mkI]⟩, HI⟩
  case round =>
    clear HI
    obtain ⟨m, x, rfl, rfl, HX, HI⟩ := hrel
    by_cases c0 : x < ((n : Nat) : Int)
    · have c0b : decide (x < ((n : Nat) : Int)) = true := decide_eq_true c0
      obtain ⟨g, rfl, hp, hc⟩ := HS.out.2 (by have := HX.out.1; omega)
      have HG := Aside0.mk hp
      have HC := Aside0.mk hc
      have HL := Aside0.mk (show x.toNat * 3 + 3 ≤ n * 3 by have := HX.out.1; omega)
      clear hp hc
      have p0 := eq_true HX.out.1
      have q0 := eq_true c0
      have HC0 := Aside0.mk c0
      clear c0
      obtain ⟨z0, hz0⟩ := HI.out.int _ (HC.out (x.toNat * 3) (by have := HL.out; omega)).1
      have hf0 : wr.frozen? ⟨g, x.toNat * 3, none⟩ = false := (HI.out.frozen _).trans ((HC.out (x.toNat * 3) (by have := HL.out; omega)).2)
      obtain ⟨z1, hz1⟩ := HI.out.int _ (HC.out (x.toNat * 3 + 1) (by have := HL.out; omega)).1
      have hf1 : wr.frozen? ⟨g, x.toNat * 3 + 1, none⟩ = false := (HI.out.frozen _).trans ((HC.out (x.toNat * 3 + 1) (by have := HL.out; omega)).2)
      obtain ⟨z2, hz2⟩ := HI.out.int _ (HC.out (x.toNat * 3 + 2) (by have := HL.out; omega)).1
      have hf2 : wr.frozen? ⟨g, x.toNat * 3 + 2, none⟩ = false := (HI.out.frozen _).trans ((HC.out (x.toNat * 3 + 2) (by have := HL.out; omega)).2)
      go_wp2
      go_roundw
      case rel =>
        have e1 : (wrap64 (x + 1)) = x + 1 := by have h1 := HX.out.1; have h2 := HC0.out; have h3 := HM.out; unfold wrap64; omega
        refine ⟨_, _, rfl, rfl, ⟨?_⟩, ⟨(by repeat (first | exact HI.out | refine IntsOnly.put ?_ HG.out (by first | exact (HC.out (x.toNat * 3) (by have := HL.out; omega)).1 | exact (HC.out (x.toNat * 3 + 1) (by have := HL.out; omega)).1 | exact (HC.out (x.toNat * 3 + 2) (by have := HL.out; omega)).1) _))⟩⟩
        rw [e1, show (x + 1).toNat = x.toNat + 1 by have := HX.out.1; omega]
        refine ⟨by have := HX.out.1; omega, by have := HC0.out; omega, ?_⟩
        rw [Nat.add_mul, mkI_add, ← HX.out.2.2]
        simp only [mkI]
      case measure =>
        have h1 := HX.out.1
        have h2 := HC0.out
        have h3 := HM.out
        have e1 : (wrap64 (x + 1)) = x + 1 := by unfold wrap64; omega
        rw [e1]
        simp [intOf]
        omega
    · have c0b : decide (x < ((n : Nat) : Int)) = false := decide_eq_false c0
      have q0 := eq_false c0
      have HE := Aside0.mk (show x.toNat = n by have := HX.out.1; have := HX.out.2.1; omega)
      clear c0
      go_wp2
      go_ret
      refine ⟨?_, HI.out⟩
      have := HX.out.2.2
      rw [HE.out] at this
      rw [this]
      rfl
set_option maxHeartbeats 2000000 in
set_option maxRecDepth 100000 in
theorem markPutS_sh (Q : Nat → Prop) (A : Option Addr) (n : Nat) (c : Nat) (a1 : Int) (w : World) (hs : ShR 2 w Q A n) :
    Calls Try.prog 52 #[.slice A n c, .int .i64 a1] w fun e w' => e = .returned (.int .i64 (mkI (n * 2) a1)) ∧ IntsOnly Q w w' := by
  have HS := Aside0.mk hs
  have HI := Aside0.mk (IntsOnly.refl Q w)
  have HM := Aside0.mk hs.1
  clear hs
  have hu3 := Try.underlying3
  have hu110 := Try.underlying110
  go_enter Try.func52, Try.ntmps52
  go_wp2
  go_loopw [1, 5] (fun v1 v5 wr => ∃ (m x : Int), v1 = .int .i64 m ∧ v5 = .int .i64 x ∧ Aside0 (0 ≤ x ∧ x ≤ (n : Nat) ∧ m = mkI (x.toNat * 2) a1) ∧ Aside0 (IntsOnly Q w wr)) (fun _ v5 _ => n - (intOf v5).toNat)
  case atStart => exact ⟨a1, 0, rfl, rfl, ⟨by omega, by omega, by simp [mkI]⟩, HI⟩
  case round =>
    clear HI
    obtain ⟨m, x, rfl, rfl, HX, HI⟩ := hrel
    by_cases c0 : x < ((n : Nat) : Int)
    · have c0b : decide (x < ((n : Nat) : Int)) = true := decide_eq_true c0
      obtain ⟨g, rfl, hp, hc⟩ := HS.out.2 (by have := HX.out.1; omega)
      have HG := Aside0.mk hp
      have HC := Aside0.mk hc
      have HL := Aside0.mk (show x.toNat * 2 + 2 ≤ n * 2 by have := HX.out.1; omega)
      clear hp hc
      have p0 := eq_true HX.out.1
      have q0 := eq_true c0
      have HC0 := Aside0.mk c0
      clear c0
      obtain ⟨z0, hz0⟩ := HI.out.int _ (HC.out (x.toNat * 2) (by have := HL.out; omega)).1
      have hf0 : wr.frozen? ⟨g, x.toNat * 2, none⟩ = false := (HI.out.frozen _).trans ((HC.out (x.toNat * 2) (by have := HL.out; omega)).2)
      obtain ⟨z1, hz1⟩ := HI.out.int _ (HC.out (x.toNat * 2 + 1) (by have := HL.out; omega)).1
      have hf1 : wr.frozen? ⟨g, x.toNat * 2 + 1, none⟩ = false := (HI.out.frozen _).trans ((HC.out (x.toNat * 2 + 1) (by have := HL.out; omega)).2)
      go_wp2
      go_roundw
      case rel =>
        have e1 : (wrap64 (x + 1)) = x + 1 := by have h1 := HX.out.1; have h2 := HC0.out; have h3 := HM.out; unfold wrap64; omega
        refine ⟨_, _, rfl, rfl, ⟨?_⟩, ⟨(by repeat (first | exact HI.out | refine IntsOnly.put ?_ HG.out (by first | exact (HC.out (x.toNat * 2) (by have := HL.out; omega)).1 | exact (HC.out (x.toNat * 2 + 1) (by have := HL.out; omega)).1) _))⟩⟩
        rw [e1, show (x + 1).toNat = x.toNat + 1 by have := HX.out.1; omega]
        refine ⟨by have := HX.out.1; omega, by have := HC0.out; omega, ?_⟩
        rw [Nat.add_mul, mkI_add, ← HX.out.2.2]
        simp only [mkI]
      case measure =>
        have h1 := HX.out.1
        have h2 := HC0.out
        have h3 := HM.out
        have e1 : (wrap64 (x + 1)) = x + 1 := by unfold wrap64; omega
        rw [e1]
        simp [intOf]
        omega
    · have c0b : decide (x < ((n : Nat) : Int)) = false := decide_eq_false c0
      have q0 := eq_false c0
      have HE := Aside0.mk (show x.toNat = n by have := HX.out.1; have := HX.out.2.1; omega)
      clear c0
      go_wp2
      go_ret
      refine ⟨?_, HI.out⟩
      have := HX.out.2.2
      rw [HE.out] at this
      rw [this]
      rfl
structure L78 where
  n3 : Nat
  n4 : Nat
def Sh78 (w : World) (Q : Nat → Prop) (A : Option Addr) (l : List L78) : Prop :=
  l.length ≤ 9223372036854775807 ∧ (0 < l.length → ∃ g, A = some ⟨g, 0, none⟩ ∧ Q g ∧ (∀ j, w.frozen? ⟨g, j, none⟩ = false) ∧ ∀ i q, l[i]? = some q → IsI (w.cell? ⟨g, i * 6, none⟩) ∧ IsI (w.cell? ⟨g, i * 6 + 1, none⟩) ∧ IsI (w.cell? ⟨g, i * 6 + 2, none⟩) ∧ (∃ (A : Option Addr) (c : Nat), w.cell? ⟨g, i * 6 + 3, none⟩ = some (.slice A q.n3 c) ∧ ShR 2 w Q A q.n3) ∧ (∃ (A : Option Addr) (c : Nat), w.cell? ⟨g, i * 6 + 4, none⟩ = some (.slice A q.n4 c) ∧ ShR 2 w Q A q.n4) ∧ IsI (w.cell? ⟨g, i * 6 + 5, none⟩))
theorem Sh78.step {w w' : World} {Q R : Nat → Prop} {A : Option Addr} {l : List L78} (h : Sh78 w Q A l) (hi : IntsOnly R w w') : Sh78 w' Q A l := by
  refine ⟨h.1, fun hn => ?_⟩
  obtain ⟨g, hA, hq, hf, hc⟩ := h.2 hn
  refine ⟨g, hA, hq, fun j => (hi.frozen _).trans (hf j), fun i q hiq => ?_⟩
  have hh := hc i q hiq
  obtain ⟨h0, h1, h2, ⟨A3, c3, h3, s3⟩, ⟨A4, c4, h4, s4⟩, h5⟩ := hh
  exact ⟨hi.int _ h0, hi.int _ h1, hi.int _ h2, ⟨A3, c3, hi.other _ _ h3 (by intro z; simp), s3.step hi⟩, ⟨A4, c4, hi.other _ _ h4 (by intro z; simp), s4.step hi⟩, hi.int _ h5⟩
def one78 (q : L78) : Nat := 1 + 1 + 1 + q.n3 * 2 + q.n4 * 2 + 1
def cnt78 (l : List L78) : Nat := (l.map one78).sum
theorem cnt78_take (l : List L78) (i : Nat) (q : L78) (h : l[i]? = some q) : cnt78 (l.take (i + 1)) = cnt78 (l.take i) + one78 q := by
  obtain ⟨hi, rfl⟩ := List.getElem?_eq_some_iff.1 h
  unfold cnt78
  rw [List.take_succ_eq_append_getElem hi, List.map_append, List.sum_append]
  simp
set_option maxHeartbeats 2000000 in
set_option maxRecDepth 100000 in
theorem markEntryS_sh (Q : Nat → Prop) (A : Option Addr) (l : List L78) (c : Nat) (a1 : Int) (w : World) (hs : Sh78 w Q A l) :
    Calls Try.prog 30 #[.slice A l.length c, .int .i64 a1] w fun e w' => e = .returned (.int .i64 (mkI (cnt78 l) a1)) ∧ IntsOnly Q w w' := by
  have HS := Aside0.mk hs
  have HI := Aside0.mk (IntsOnly.refl Q w)
  have HM := Aside0.mk hs.1
  clear hs
  have hu3 := Try.underlying3
  have hu78 := Try.underlying78
  go_enter Try.func30, Try.ntmps30
  go_wp2
  go_loopw [1, 5] (fun v1 v5 wr => ∃ (m x : Int), v1 = .int .i64 m ∧ v5 = .int .i64 x ∧ Aside0 (0 ≤ x ∧ x ≤ (l.length : Nat) ∧ m = mkI (cnt78 (l.take x.toNat)) a1) ∧ Aside0 (IntsOnly Q w wr)) (fun _ v5 _ => l.length - (intOf v5).toNat)
  case atStart => exact ⟨a1, 0, rfl, rfl, ⟨by omega, by omega, by simp [cnt78, mkI]⟩, HI⟩
  case round =>
    clear HI
    obtain ⟨m, x, rfl, rfl, HX, HI⟩ := hrel
    by_cases c0 : x < ((l.length : Nat) : Int)
    · have c0b : decide (x < ((l.length : Nat) : Int)) = true := decide_eq_true c0
      obtain ⟨g, rfl, hp, hfz, hc⟩ := HS.out.2 (by have := HX.out.1; omega)
      obtain ⟨q, hq⟩ : ∃ q, l[x.toNat]? = some q := ⟨_, List.getElem?_eq_getElem (by have := HX.out.1; omega)⟩
      have HH := Aside0.mk (hc x.toNat q hq)
      have HQ := Aside0.mk hq
      have HF := Aside0.mk hfz
      have HG := Aside0.mk hp
      clear hq hc hp hfz
      have p0 := eq_true HX.out.1
      have q0 := eq_true c0
      have HC0 := Aside0.mk c0
      clear c0
      obtain ⟨A3, c3, hA3_, hs3_⟩ := HH.out.2.2.2.1
      have hA3 := Aside0.mk hA3_
      have hs3 := Aside0.mk hs3_
      clear hA3_ hs3_
      obtain ⟨A4, c4, hA4_, hs4_⟩ := HH.out.2.2.2.2.1
      have hA4 := Aside0.mk hA4_
      have hs4 := Aside0.mk hs4_
      clear hA4_ hs4_
      obtain ⟨z0, hz0⟩ := HI.out.int _ (HH.out.1)
      have hf0 : wr.frozen? ⟨g, x.toNat * 6, none⟩ = false := (HI.out.frozen _).trans (HF.out _)
      obtain ⟨z1, hz1⟩ := HI.out.int _ (HH.out.2.1)
      have hf1 : wr.frozen? ⟨g, x.toNat * 6 + 1, none⟩ = false := (HI.out.frozen _).trans (HF.out _)
      obtain ⟨z2, hz2⟩ := HI.out.int _ (HH.out.2.2.1)
      have hf2 : wr.frozen? ⟨g, x.toNat * 6 + 2, none⟩ = false := (HI.out.frozen _).trans (HF.out _)
      have hz3 := HI.out.other _ _ hA3.out (by intro z; simp)
      go_wp2_with fail
      refine (markPutS_sh Q _ _ _ _ _ (hs3.out.step (by repeat (first | exact HI.out | refine IntsOnly.put ?_ HG.out (by first | exact HH.out.1 | exact HH.out.2.1 | exact HH.out.2.2.1) _)))).mono ?_
      rintro e w1 ⟨rfl, hi0_⟩
      have hi0 := Aside0.mk (show IntsOnly Q w _ from IntsOnly.trans (by repeat (first | exact HI.out | refine IntsOnly.put ?_ HG.out (by first | exact HH.out.1 | exact HH.out.2.1 | exact HH.out.2.2.1) _)) hi0_)
      clear hi0_
      clear hz0 hf0 z0
      clear hz1 hf1 z1
      clear hz2 hf2 z2
      clear hz3
      have hz4 := hi0.out.other _ _ hA4.out (by intro z; simp)
      go_wp2_with fail
      refine (markPutS_sh Q _ _ _ _ _ (hs4.out.step hi0.out)).mono ?_
      rintro e w2 ⟨rfl, hi1_⟩
      have hi1 := Aside0.mk (show IntsOnly Q w _ from IntsOnly.trans hi0.out hi1_)
      clear hi1_
      clear hz4
      obtain ⟨z5, hz5⟩ := hi1.out.int _ (HH.out.2.2.2.2.2)
      have hf5 : w2.frozen? ⟨g, x.toNat * 6 + 5, none⟩ = false := (hi1.out.frozen _).trans (HF.out _)
      go_wp2
      go_roundw
      case rel =>
        have e1 : (wrap64 (x + 1)) = x + 1 := by have h1 := HX.out.1; have h2 := HC0.out; have h3 := HM.out; unfold wrap64; omega
        refine ⟨_, _, rfl, rfl, ⟨?_⟩, ⟨(by repeat (first | exact hi1.out | refine IntsOnly.put ?_ HG.out (by first | exact HH.out.2.2.2.2.2) _))⟩⟩
        rw [e1, show (x + 1).toNat = x.toNat + 1 by have := HX.out.1; omega]
        refine ⟨by have := HX.out.1; omega, by have := HC0.out; omega, ?_⟩
        rw [cnt78_take l _ q HQ.out, mkI_add, ← HX.out.2.2]
        simp only [one78, mkI_add, mkI, Nat.mul_one]
      case measure =>
        have h1 := HX.out.1
        have h2 := HC0.out
        have h3 := HM.out
        have e1 : (wrap64 (x + 1)) = x + 1 := by unfold wrap64; omega
        rw [e1]
        simp [intOf]
        omega
    · have c0b : decide (x < ((l.length : Nat) : Int)) = false := decide_eq_false c0
      have q0 := eq_false c0
      have HE := Aside0.mk (show x.toNat = l.length by have := HX.out.1; have := HX.out.2.1; omega)
      clear c0
      go_wp2
      go_ret
      refine ⟨?_, HI.out⟩
      have := HX.out.2.2
      rw [HE.out, List.take_length] at this
      rw [this]
      rfl
set_option maxHeartbeats 2000000 in
set_option maxRecDepth 100000 in
theorem markIntS_sh (Q : Nat → Prop) (A : Option Addr) (n : Nat) (c : Nat) (a1 : Int) (w : World) (hs : ShR 1 w Q A n) :
    Calls Try.prog 17 #[.slice A n c, .int .i64 a1] w fun e w' => e = .returned (.int .i64 (mkI (n * 1) a1)) ∧ IntsOnly Q w w' := by
  have HS := Aside0.mk hs
  have HI := Aside0.mk (IntsOnly.refl Q w)
  have HM := Aside0.mk hs.1
  clear hs
  have hu3 := Try.underlying3
  go_enter Try.func17, Try.ntmps17
  go_wp2
  go_loopw [1, 5] (fun v1 v5 wr => ∃ (m x : Int), v1 = .int .i64 m ∧ v5 = .int .i64 x ∧ Aside0 (0 ≤ x ∧ x ≤ (n : Nat) ∧ m = mkI (x.toNat * 1) a1) ∧ Aside0 (IntsOnly Q w wr)) (fun _ v5 _ => n - (intOf v5).toNat)
  case atStart => exact ⟨a1, 0, rfl, rfl, ⟨by omega, by omega, by simp [mkI]⟩, HI⟩
  case round =>
    clear HI
    obtain ⟨m, x, rfl, rfl, HX, HI⟩ := hrel
    by_cases c0 : x < ((n : Nat) : Int)
    · have c0b : decide (x < ((n : Nat) : Int)) = true := decide_eq_true c0
      obtain ⟨g, rfl, hp, hc⟩ := HS.out.2 (by have := HX.out.1; omega)
      have HG := Aside0.mk hp
      have HC := Aside0.mk hc
      have HL := Aside0.mk (show x.toNat * 1 + 1 ≤ n * 1 by have := HX.out.1; omega)
      clear hp hc
      have p0 := eq_true HX.out.1
      have q0 := eq_true c0
      have HC0 := Aside0.mk c0
      clear c0
      obtain ⟨z0, hz0⟩ := HI.out.int _ (HC.out (x.toNat) (by have := HL.out; omega)).1
      have hf0 : wr.frozen? ⟨g, x.toNat, none⟩ = false := (HI.out.frozen _).trans ((HC.out (x.toNat) (by have := HL.out; omega)).2)
      go_wp2
      go_roundw
      case rel =>
        have e1 : (wrap64 (x + 1)) = x + 1 := by have h1 := HX.out.1; have h2 := HC0.out; have h3 := HM.out; unfold wrap64; omega
        refine ⟨_, _, rfl, rfl, ⟨?_⟩, ⟨(by repeat (first | exact HI.out | refine IntsOnly.put ?_ HG.out (by first | exact (HC.out (x.toNat) (by have := HL.out; omega)).1) _))⟩⟩
        rw [e1, show (x + 1).toNat = x.toNat + 1 by have := HX.out.1; omega]
        refine ⟨by have := HX.out.1; omega, by have := HC0.out; omega, ?_⟩
        rw [Nat.add_mul, mkI_add, ← HX.out.2.2]
        simp only [mkI]
      case measure =>
        have h1 := HX.out.1
        have h2 := HC0.out
        have h3 := HM.out
        have e1 : (wrap64 (x + 1)) = x + 1 := by unfold wrap64; omega
        rw [e1]
        simp [intOf]
        omega
    · have c0b : decide (x < ((n : Nat) : Int)) = false := decide_eq_false c0
      have q0 := eq_false c0
      have HE := Aside0.mk (show x.toNat = n by have := HX.out.1; have := HX.out.2.1; omega)
      clear c0
      go_wp2
      go_ret
      refine ⟨?_, HI.out⟩
      have := HX.out.2.2
      rw [HE.out] at this
      rw [this]
      rfl
structure L72 where
  n3 : Nat
  n8 : Nat
  n9 : Nat
  n10 : Nat
def Sh72 (w : World) (Q : Nat → Prop) (A : Option Addr) (l : List L72) : Prop :=
  l.length ≤ 9223372036854775807 ∧ (0 < l.length → ∃ g, A = some ⟨g, 0, none⟩ ∧ Q g ∧ (∀ j, w.frozen? ⟨g, j, none⟩ = false) ∧ ∀ i q, l[i]? = some q → IsI (w.cell? ⟨g, i * 13, none⟩) ∧ IsI (w.cell? ⟨g, i * 13 + 1, none⟩) ∧ IsI (w.cell? ⟨g, i * 13 + 2, none⟩) ∧ (∃ (A : Option Addr) (c : Nat), w.cell? ⟨g, i * 13 + 3, none⟩ = some (.slice A q.n3 c) ∧ ShR 1 w Q A q.n3) ∧ IsI (w.cell? ⟨g, i * 13 + 4, none⟩) ∧ IsI (w.cell? ⟨g, i * 13 + 5, none⟩) ∧ IsI (w.cell? ⟨g, i * 13 + 6, none⟩) ∧ IsI (w.cell? ⟨g, i * 13 + 7, none⟩) ∧ (∃ (A : Option Addr) (c : Nat), w.cell? ⟨g, i * 13 + 8, none⟩ = some (.slice A q.n8 c) ∧ ShR 1 w Q A q.n8) ∧ (∃ (A : Option Addr) (c : Nat), w.cell? ⟨g, i * 13 + 9, none⟩ = some (.slice A q.n9 c) ∧ ShR 2 w Q A q.n9) ∧ (∃ (A : Option Addr) (c : Nat), w.cell? ⟨g, i * 13 + 10, none⟩ = some (.slice A q.n10 c) ∧ ShR 2 w Q A q.n10) ∧ IsI (w.cell? ⟨g, i * 13 + 11, none⟩) ∧ IsI (w.cell? ⟨g, i * 13 + 12, none⟩))
theorem Sh72.step {w w' : World} {Q R : Nat → Prop} {A : Option Addr} {l : List L72} (h : Sh72 w Q A l) (hi : IntsOnly R w w') : Sh72 w' Q A l := by
  refine ⟨h.1, fun hn => ?_⟩
  obtain ⟨g, hA, hq, hf, hc⟩ := h.2 hn
  refine ⟨g, hA, hq, fun j => (hi.frozen _).trans (hf j), fun i q hiq => ?_⟩
  have hh := hc i q hiq
  obtain ⟨h0, h1, h2, ⟨A3, c3, h3, s3⟩, h4, h5, h6, h7, ⟨A8, c8, h8, s8⟩, ⟨A9, c9, h9, s9⟩, ⟨A10, c10, h10, s10⟩, h11, h12⟩ := hh
  exact ⟨hi.int _ h0, hi.int _ h1, hi.int _ h2, ⟨A3, c3, hi.other _ _ h3 (by intro z; simp), s3.step hi⟩, hi.int _ h4, hi.int _ h5, hi.int _ h6, hi.int _ h7, ⟨A8, c8, hi.other _ _ h8 (by intro z; simp), s8.step hi⟩, ⟨A9, c9, hi.other _ _ h9 (by intro z; simp), s9.step hi⟩, ⟨A10, c10, hi.other _ _ h10 (by intro z; simp), s10.step hi⟩, hi.int _ h11, hi.int _ h12⟩
def one72 (q : L72) : Nat := 1 + 1 + 1 + q.n3 * 1 + 1 + 1 + 1 + 1 + q.n8 * 1 + q.n9 * 2 + q.n10 * 2 + 1 + 1
def cnt72 (l : List L72) : Nat := (l.map one72).sum
theorem cnt72_take (l : List L72) (i : Nat) (q : L72) (h : l[i]? = some q) : cnt72 (l.take (i + 1)) = cnt72 (l.take i) + one72 q := by
  obtain ⟨hi, rfl⟩ := List.getElem?_eq_some_iff.1 h
  unfold cnt72
  rw [List.take_succ_eq_append_getElem hi, List.map_append, List.sum_append]
  simp
set_option maxHeartbeats 2000000 in
set_option maxRecDepth 100000 in
theorem markTaskS_sh (Q : Nat → Prop) (A : Option Addr) (l : List L72) (c : Nat) (a1 : Int) (w : World) (hs : Sh72 w Q A l) :
    Calls Try.prog 46 #[.slice A l.length c, .int .i64 a1] w fun e w' => e = .returned (.int .i64 (mkI (cnt72 l) a1)) ∧ IntsOnly Q w w' := by
  have HS := Aside0.mk hs
  have HI := Aside0.mk (IntsOnly.refl Q w)
  have HM := Aside0.mk hs.1
  clear hs
  have hu3 := Try.underlying3
  have hu72 := Try.underlying72
  go_enter Try.func46, Try.ntmps46
  go_wp2
  go_loopw [1, 5] (fun v1 v5 wr => ∃ (m x : Int), v1 = .int .i64 m ∧ v5 = .int .i64 x ∧ Aside0 (0 ≤ x ∧ x ≤ (l.length : Nat) ∧ m = mkI (cnt72 (l.take x.toNat)) a1) ∧ Aside0 (IntsOnly Q w wr)) (fun _ v5 _ => l.length - (intOf v5).toNat)
  case atStart => exact ⟨a1, 0, rfl, rfl, ⟨by omega, by omega, by simp [cnt72, mkI]⟩, HI⟩
  case round =>
    clear HI
    obtain ⟨m, x, rfl, rfl, HX, HI⟩ := hrel
    by_cases c0 : x < ((l.length : Nat) : Int)
    · have c0b : decide (x < ((l.length : Nat) : Int)) = true := decide_eq_true c0
      obtain ⟨g, rfl, hp, hfz, hc⟩ := HS.out.2 (by have := HX.out.1; omega)
      obtain ⟨q, hq⟩ : ∃ q, l[x.toNat]? = some q := ⟨_, List.getElem?_eq_getElem (by have := HX.out.1; omega)⟩
      have HH := Aside0.mk (hc x.toNat q hq)
      have HQ := Aside0.mk hq
      have HF := Aside0.mk hfz
      have HG := Aside0.mk hp
      clear hq hc hp hfz
      have p0 := eq_true HX.out.1
      have q0 := eq_true c0
      have HC0 := Aside0.mk c0
      clear c0
      obtain ⟨A3, c3, hA3_, hs3_⟩ := HH.out.2.2.2.1
      have hA3 := Aside0.mk hA3_
      have hs3 := Aside0.mk hs3_
      clear hA3_ hs3_
      obtain ⟨A8, c8, hA8_, hs8_⟩ := HH.out.2.2.2.2.2.2.2.2.1
      have hA8 := Aside0.mk hA8_
      have hs8 := Aside0.mk hs8_
      clear hA8_ hs8_
      obtain ⟨A9, c9, hA9_, hs9_⟩ := HH.out.2.2.2.2.2.2.2.2.2.1
      have hA9 := Aside0.mk hA9_
      have hs9 := Aside0.mk hs9_
      clear hA9_ hs9_
      obtain ⟨A10, c10, hA10_, hs10_⟩ := HH.out.2.2.2.2.2.2.2.2.2.2.1
      have hA10 := Aside0.mk hA10_
      have hs10 := Aside0.mk hs10_
      clear hA10_ hs10_
      obtain ⟨z0, hz0⟩ := HI.out.int _ (HH.out.1)
      have hf0 : wr.frozen? ⟨g, x.toNat * 13, none⟩ = false := (HI.out.frozen _).trans (HF.out _)
      obtain ⟨z1, hz1⟩ := HI.out.int _ (HH.out.2.1)
      have hf1 : wr.frozen? ⟨g, x.toNat * 13 + 1, none⟩ = false := (HI.out.frozen _).trans (HF.out _)
      obtain ⟨z2, hz2⟩ := HI.out.int _ (HH.out.2.2.1)
      have hf2 : wr.frozen? ⟨g, x.toNat * 13 + 2, none⟩ = false := (HI.out.frozen _).trans (HF.out _)
      have hz3 := HI.out.other _ _ hA3.out (by intro z; simp)
      go_wp2_with fail
      refine (markIntS_sh Q _ _ _ _ _ (hs3.out.step (by repeat (first | exact HI.out | refine IntsOnly.put ?_ HG.out (by first | exact HH.out.1 | exact HH.out.2.1 | exact HH.out.2.2.1) _)))).mono ?_
      rintro e w1 ⟨rfl, hi0_⟩
      have hi0 := Aside0.mk (show IntsOnly Q w _ from IntsOnly.trans (by repeat (first | exact HI.out | refine IntsOnly.put ?_ HG.out (by first | exact HH.out.1 | exact HH.out.2.1 | exact HH.out.2.2.1) _)) hi0_)
      clear hi0_
      clear hz0 hf0 z0
      clear hz1 hf1 z1
      clear hz2 hf2 z2
      clear hz3
      obtain ⟨z4, hz4⟩ := hi0.out.int _ (HH.out.2.2.2.2.1)
      have hf4 : w1.frozen? ⟨g, x.toNat * 13 + 4, none⟩ = false := (hi0.out.frozen _).trans (HF.out _)
      obtain ⟨z5, hz5⟩ := hi0.out.int _ (HH.out.2.2.2.2.2.1)
      have hf5 : w1.frozen? ⟨g, x.toNat * 13 + 5, none⟩ = false := (hi0.out.frozen _).trans (HF.out _)
      obtain ⟨z6, hz6⟩ := hi0.out.int _ (HH.out.2.2.2.2.2.2.1)
      have hf6 : w1.frozen? ⟨g, x.toNat * 13 + 6, none⟩ = false := (hi0.out.frozen _).trans (HF.out _)
      obtain ⟨z7, hz7⟩ := hi0.out.int _ (HH.out.2.2.2.2.2.2.2.1)
      have hf7 : w1.frozen? ⟨g, x.toNat * 13 + 7, none⟩ = false := (hi0.out.frozen _).trans (HF.out _)
      have hz8 := hi0.out.other _ _ hA8.out (by intro z; simp)
      go_wp2_with fail
      refine (markIntS_sh Q _ _ _ _ _ (hs8.out.step (by repeat (first | exact hi0.out | refine IntsOnly.put ?_ HG.out (by first | exact HH.out.2.2.2.2.1 | exact HH.out.2.2.2.2.2.1 | exact HH.out.2.2.2.2.2.2.1 | exact HH.out.2.2.2.2.2.2.2.1) _)))).mono ?_
      rintro e w2 ⟨rfl, hi1_⟩
      have hi1 := Aside0.mk (show IntsOnly Q w _ from IntsOnly.trans (by repeat (first | exact hi0.out | refine IntsOnly.put ?_ HG.out (by first | exact HH.out.2.2.2.2.1 | exact HH.out.2.2.2.2.2.1 | exact HH.out.2.2.2.2.2.2.1 | exact HH.out.2.2.2.2.2.2.2.1) _)) hi1_)
      clear hi1_
      clear hz4 hf4 z4
      clear hz5 hf5 z5
      clear hz6 hf6 z6
      clear hz7 hf7 z7
      clear hz8
      have hz9 := hi1.out.other _ _ hA9.out (by intro z; simp)
      go_wp2_with fail
      refine (markPutS_sh Q _ _ _ _ _ (hs9.out.step hi1.out)).mono ?_
      rintro e w3 ⟨rfl, hi2_⟩
      have hi2 := Aside0.mk (show IntsOnly Q w _ from IntsOnly.trans hi1.out hi2_)
      clear hi2_
      clear hz9
      have hz10 := hi2.out.other _ _ hA10.out (by intro z; simp)
      go_wp2_with fail
      refine (markPutS_sh Q _ _ _ _ _ (hs10.out.step hi2.out)).mono ?_
      rintro e w4 ⟨rfl, hi3_⟩
      have hi3 := Aside0.mk (show IntsOnly Q w _ from IntsOnly.trans hi2.out hi3_)
      clear hi3_
      clear hz10
      obtain ⟨z11, hz11⟩ := hi3.out.int _ (HH.out.2.2.2.2.2.2.2.2.2.2.2.1)
      have hf11 : w4.frozen? ⟨g, x.toNat * 13 + 11, none⟩ = false := (hi3.out.frozen _).trans (HF.out _)
      obtain ⟨z12, hz12⟩ := hi3.out.int _ (HH.out.2.2.2.2.2.2.2.2.2.2.2.2)
      have hf12 : w4.frozen? ⟨g, x.toNat * 13 + 12, none⟩ = false := (hi3.out.frozen _).trans (HF.out _)
      go_wp2
      go_roundw
      case rel =>
        have e1 : (wrap64 (x + 1)) = x + 1 := by have h1 := HX.out.1; have h2 := HC0.out; have h3 := HM.out; unfold wrap64; omega
        refine ⟨_, _, rfl, rfl, ⟨?_⟩, ⟨(by repeat (first | exact hi3.out | refine IntsOnly.put ?_ HG.out (by first | exact HH.out.2.2.2.2.2.2.2.2.2.2.2.1 | exact HH.out.2.2.2.2.2.2.2.2.2.2.2.2) _))⟩⟩
        rw [e1, show (x + 1).toNat = x.toNat + 1 by have := HX.out.1; omega]
        refine ⟨by have := HX.out.1; omega, by have := HC0.out; omega, ?_⟩
        rw [cnt72_take l _ q HQ.out, mkI_add, ← HX.out.2.2]
        simp only [one72, mkI_add, mkI, Nat.mul_one]
      case measure =>
        have h1 := HX.out.1
        have h2 := HC0.out
        have h3 := HM.out
        have e1 : (wrap64 (x + 1)) = x + 1 := by unfold wrap64; omega
        rw [e1]
        simp [intOf]
        omega
    · have c0b : decide (x < ((l.length : Nat) : Int)) = false := decide_eq_false c0
      have q0 := eq_false c0
      have HE := Aside0.mk (show x.toNat = l.length by have := HX.out.1; have := HX.out.2.1; omega)
      clear c0
      go_wp2
      go_ret
      refine ⟨?_, HI.out⟩
      have := HX.out.2.2
      rw [HE.out, List.take_length] at this
      rw [this]
      rfl
end Go.Proofs.YtpodhdpkdhcnoaaW.PrintWords
