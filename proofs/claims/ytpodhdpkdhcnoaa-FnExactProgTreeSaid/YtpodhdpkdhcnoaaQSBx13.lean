-- Written by a program of this session (wip/tools/myprint.py).
import Derived.Test.YtpodhdpkdhcnoaaQSBx0
import Derived.Test.YtpodhdpkdhcnoaaQSBx9
import Derived.Test.YtpodhdpkdhcnoaaQSBx11
import Derived.Test.YtpodhdpkdhcnoaaQSBx12
namespace Go.Proofs.Ytpodhdpkdhcnoaa.QSB
open Go.RowKit Go.Proofs.YtpodhdpkdhcnoaaW.PrintWords Go.Proofs.YtpodhdpkdhcnoaaW.PrintLast Go.Proofs.YtpodhdpkdhcnoaaW.PrintMore
attribute [local go_sem] max2_int min2_int max_two min_two max_three min_three max_four min_four   -- for this text's walks alone
set_option linter.unusedVariables false
set_option linter.unusedSimpArgs false

/-! ### impl_ProgOk: function 35 -/
def innerF (k : Nat) (cells body bodies : Int) : List S90 → Option Bool
  | [] => some true
  | a :: l => (impl_actOk.f k a.f0 a.f1 a.f2 a.f3 cells body bodies).bind fun b => if b = true then innerF k cells body bodies l else some false
def outerF (k : Nat) (cells bodies : Int) : Nat → List (List S90) → Option Bool
  | _, [] => some true
  | i, l :: ls => if l.length > 4 then some false else (innerF k cells (i : Int) bodies l).bind fun b => if b = true then outerF k cells bodies (i + 1) ls else some false
def impl_ProgOk.f (k : Nat) (l0_0 : List Int) (l0_1 : List (List (S90))) : Option Bool :=
  if l0_0.length > 3 then some false else (impl_allNums.f k l0_0).bind fun b => if b = true then (if l0_1.length < 1 ∨ 4 < l0_1.length then some false else (outerF k (l0_0.length : Int) (l0_1.length : Int) 0 l0_1).bind fun b => if b = true then (impl_treeOf.f k l0_0 l0_1 0).bind fun t => some (decide (t ≤ 7)) else some false) else some false
theorem innerF_mono (k : Nat) (c i n : Int) : ∀ l, LeO (innerF k c i n l) (innerF (k + 1) c i n l)
  | [] => LeO.refl _
  | a :: l => LeO.bind (impl_actOk.mono _ _ _ _ _ _ _ _) (fun _ => LeO.ite (innerF_mono k c i n l) (LeO.refl _))
theorem outerF_mono (k : Nat) (c n : Int) : ∀ i l, LeO (outerF k c n i l) (outerF (k + 1) c n i l)
  | _, [] => LeO.refl _
  | i, a :: l => LeO.ite (LeO.refl _) (LeO.bind (innerF_mono _ _ _ _ _) (fun _ => LeO.ite (outerF_mono k c n (i + 1) l) (LeO.refl _)))
theorem impl_ProgOk.mono : ∀ a0 a1 k, LeO (impl_ProgOk.f k a0 a1) (impl_ProgOk.f (k + 1) a0 a1) := by
  intro a0 a1 k
  unfold impl_ProgOk.f
  exact LeO.ite (LeO.refl _) (LeO.bind (impl_allNums.mono _ _) (fun _ => LeO.ite (LeO.ite (LeO.refl _) (LeO.bind (outerF_mono _ _ _ _ _) (fun _ => LeO.ite (LeO.bind (impl_treeOf.mono _ _ _ _) (fun _ => LeO.refl _)) (LeO.refl _)))) (LeO.refl _)))
theorem C_rows {w : World} {A : Option Addr} {n : Nat} {xs : List (List S90)} (h : Kd.C (Kd.slice 90 k90) w A n xs) (i : Nat) (hi : i < n) : ∃ ad A1 c1 l, A = some ad ∧ xs[i]? = some l ∧ w.cell? (ad.add i) = some (.slice A1 l.length c1) ∧ l.length ≤ c1 ∧ Kd.C k90 w A1 l.length l := by
  have hn := h.1
  obtain ⟨ad, c, e, _, hK, hc0⟩ := Kd.C_get h [] (i : Int) (by omega) (by omega)
  obtain ⟨A1, c1, rfl, l1, g1⟩ := hK
  have hx : xs[i]? = some (xs.getD (i : Int).toNat []) := by
    rw [List.getD_eq_getElem?_getD, Int.toNat_natCast, List.getElem?_eq_getElem (show i < xs.length by omega)]
    rfl
  refine ⟨ad, A1, c1, _, e, hx, ?_, l1, g1⟩
  have := hc0 0 _ rfl
  rw [show (Kd.slice 90 k90).sz = 1 from rfl, Nat.mul_one, Nat.add_zero, Int.toNat_natCast] at this
  exact this
set_option maxHeartbeats 8000000 in
set_option maxRecDepth 100000 in
theorem impl_ProgOk.calls (k : Nat) (A0_0 : Option Addr) (c0_0 : Nat) (l0_0 : List Int) (A0_1 : Option Addr) (c0_1 : Nat) (l0_1 : List (List (S90))) (r : Bool) (w : World) (hr0_0 : Kd.C (Kd.int .i64) w A0_0 l0_0.length l0_0) (hc0_0 : l0_0.length ≤ c0_0) (hr0_1 : Kd.C (Kd.slice 90 k90) w A0_1 l0_1.length l0_1) (hc0_1 : l0_1.length ≤ c0_1) (h : impl_ProgOk.f k l0_0 l0_1 = some r) :
    Calls Try.prog 35 #[.agg #[.slice A0_0 l0_0.length c0_0, .slice A0_1 l0_1.length c0_1]] w fun e w' => e = .returned (.bool r) ∧ Below w.heap.size w w' := by
  have hu1 := Try.underlying54
  have hu2 := Try.underlying90
  have hu3 := Try.underlying52
  have hu4 := Try.underlying87
  have HR0 := Aside0.mk hr0_0
  have HC0 := Aside0.mk hc0_0
  have HR1 := Aside0.mk hr0_1
  have HC1 := Aside0.mk hc0_1
  clear hr0_0 hc0_0 hr0_1 hc0_1
  have HM := Aside0.mk (show l0_1.length ≤ 9223372036854775807 from HR1.out.2.1)
  unfold impl_ProgOk.f at h
  obtain ⟨w1, hw1⟩ : ∃ w1, w1 = w.alloc (.cells #[.slice A0_0 l0_0.length c0_0, .slice A0_1 l0_1.length c0_1] 54) := ⟨_, rfl⟩
  have HBX := Aside0.mk (show w1.heap[w.heap.size]? = some (.cells #[.slice A0_0 l0_0.length c0_0, .slice A0_1 l0_1.length c0_1] 54 (0, 0)) by rw [hw1]; exact heap_alloc_new w _)
  have HB := Aside0.mk (show Below w.heap.size w w1 by rw [hw1]; exact below_alloc (Below.refl _ _) _)
  go_enter Try.func35, Try.ntmps35
  go_upto_region 1 with (fail)
  rw [← hw1]
  clear hw1
  have xb0 : w1.cell? ⟨w.heap.size, 0, none⟩ = some (.slice A0_0 l0_0.length c0_0) := (blk_cell HBX.out 0).trans rfl
  have xb1 : w1.cell? ⟨w.heap.size, 1, none⟩ = some (.slice A0_1 l0_1.length c0_1) := (blk_cell HBX.out 1).trans rfl
  by_cases q0 : l0_0.length > 3
  · rw [if_pos q0] at h
    obtain rfl : false = r := by simpa using h
    have d0 : decide ((l0_0.length : Int) > 3) = true := decide_eq_true (by omega)
    have d0' : decide ((3 : Int) < (l0_0.length : Int)) = true := d0
    have d0'' : decide (3 < l0_0.length) = true := decide_eq_true q0
    clear q0 h
    go_wp2
    go_ret
    exact ⟨rfl, HB.out⟩
  rw [if_neg q0] at h
  have d0 : decide ((l0_0.length : Int) > 3) = false := decide_eq_false (by omega)
  have d0' : decide ((3 : Int) < (l0_0.length : Int)) = false := d0
  have d0'' : decide (3 < l0_0.length) = false := decide_eq_false q0
  clear q0
  obtain ⟨b, hb, h⟩ := Option.bind_eq_some_iff.1 h
  have H1 := Aside0.mk hb
  clear hb
  cases b with
  | false =>
    obtain rfl : false = r := by simpa using h
    clear h
    go_wp2_with fail
    refine (impl_allNums.calls k A0_0 c0_0 l0_0 false _ (Kd.C_below HR0.out HB.out) HC0.out H1.out).mono ?_
    rintro e w2 ⟨rfl, hd⟩
    obtain ⟨nd, rfl⟩ := hd.out
    go_wp2
    go_ret
    exact ⟨rfl, pw_below_drewN HB.out _⟩
  | true =>
  rw [if_pos rfl] at h
  go_wp2_with fail
  refine (impl_allNums.calls k A0_0 c0_0 l0_0 true _ (Kd.C_below HR0.out HB.out) HC0.out H1.out).mono ?_
  rintro e w2 ⟨rfl, hd⟩
  clear H1
  have HB2 := Aside0.mk (show Below w.heap.size w w2 by obtain ⟨nd, rfl⟩ := hd.out; exact pw_below_drewN HB.out _)
  have HBX2 := Aside0.mk (show w2.heap[w.heap.size]? = some (.cells #[.slice A0_0 l0_0.length c0_0, .slice A0_1 l0_1.length c0_1] 54 (0, 0)) by obtain ⟨nd, rfl⟩ := hd.out; exact HBX.out)
  clear hd xb0 xb1 HB HBX
  have xb0 : w2.cell? ⟨w.heap.size, 0, none⟩ = some (.slice A0_0 l0_0.length c0_0) := (blk_cell HBX2.out 0).trans rfl
  have xb1 : w2.cell? ⟨w.heap.size, 1, none⟩ = some (.slice A0_1 l0_1.length c0_1) := (blk_cell HBX2.out 1).trans rfl
  by_cases q1 : l0_1.length < 1 ∨ 4 < l0_1.length
  · rw [if_pos q1] at h
    obtain rfl : false = r := by simpa using h
    clear h
    by_cases q2 : l0_1.length < 1
    · have d1 : decide ((l0_1.length : Int) < 1) = true := decide_eq_true (by omega)
      have d1' : decide (l0_1.length < 1) = true := decide_eq_true q2
      clear q1 q2
      go_wp2
      go_ret
      exact ⟨rfl, HB2.out⟩
    · have d1 : decide ((l0_1.length : Int) < 1) = false := decide_eq_false (by omega)
      have d1' : decide (l0_1.length < 1) = false := decide_eq_false q2
      have d2 : decide ((l0_1.length : Int) > 4) = true := decide_eq_true (by omega)
      have d2' : decide ((4 : Int) < (l0_1.length : Int)) = true := d2
      have d2'' : decide (4 < l0_1.length) = true := decide_eq_true (by omega)
      clear q1 q2
      go_wp2
      go_ret
      exact ⟨rfl, HB2.out⟩
  rw [if_neg q1] at h
  have d1 : decide ((l0_1.length : Int) < 1) = false := decide_eq_false (by omega)
  have d1' : decide (l0_1.length < 1) = false := decide_eq_false (by omega)
  have d2 : decide ((l0_1.length : Int) > 4) = false := decide_eq_false (by omega)
  have d2' : decide ((4 : Int) < (l0_1.length : Int)) = false := d2
  have d2'' : decide (4 < l0_1.length) = false := decide_eq_false (by omega)
  clear q1
  have H2 := Aside0.mk h
  clear h
  go_wp2
  go_loopw [30] (fun v30 wr => ∃ x : Int, v30 = .int .i64 x ∧ Aside0 (0 ≤ x ∧ x ≤ (l0_1.length : Nat)) ∧ Aside0 ((outerF k (l0_0.length : Int) (l0_1.length : Int) x.toNat (l0_1.drop x.toNat)).bind (fun b => if b = true then (impl_treeOf.f k l0_0 l0_1 0).bind fun t => some (decide (t ≤ 7)) else some false) = some r) ∧ Aside0 (Below w.heap.size w wr) ∧ Aside0 (wr.heap[w.heap.size]? = some (.cells #[.slice A0_0 l0_0.length c0_0, .slice A0_1 l0_1.length c0_1] 54 (0, 0)))) (fun v30 _ => l0_1.length - (intOf v30).toNat)
  case atStart => exact ⟨0, rfl, ⟨by omega, by omega⟩, H2, HB2, HBX2⟩
  case round =>
    clear HB2 HBX2 H2 xb0 xb1
    obtain ⟨x, rfl, HX, HH, HB, HBX⟩ := hrel
    obtain ⟨wo, rfl⟩ : ∃ wo, wo = wr := ⟨_, rfl⟩
    have xb0 : wo.cell? ⟨w.heap.size, 0, none⟩ = some (.slice A0_0 l0_0.length c0_0) := (blk_cell HBX.out 0).trans rfl
    have xb1 : wo.cell? ⟨w.heap.size, 1, none⟩ = some (.slice A0_1 l0_1.length c0_1) := (blk_cell HBX.out 1).trans rfl
    by_cases c0 : x < ((l0_1.length : Nat) : Int)
    · have c0b : decide (x < ((l0_1.length : Nat) : Int)) = true := decide_eq_true c0
      have hx0 := HX.out.1
      obtain ⟨ad, B1, c1, l, ea, hl, hxc, hlc, hlr⟩ := C_rows (Kd.C_below HR1.out HB.out) x.toNat (by omega)
      cases ea
      have HLC := Aside0.mk hlc
      have HLR := Aside0.mk hlr
      have HLM := Aside0.mk (show l.length ≤ 9223372036854775807 from hlr.2.1)
      clear hlc hlr
      have H := HH.out
      clear HH
      have hdrop : l0_1.drop x.toNat = l :: l0_1.drop (x.toNat + 1) := by
        obtain ⟨hlt, rfl⟩ := List.getElem?_eq_some_iff.1 hl
        exact List.drop_eq_getElem_cons hlt
      rw [hdrop, outerF] at H
      clear hdrop hl
      have HP := Aside0.mk c0
      have p0 := eq_true hx0
      have p1 := eq_true c0
      clear c0 hx0
      by_cases q2 : l.length > 4
      · rw [if_pos q2] at H
        obtain rfl : false = r := by simpa using H
        have m1 : decide ((l.length : Int) > 4) = true := decide_eq_true (by omega)
        have m2 : decide ((4 : Int) < (l.length : Int)) = true := m1
        have m3 : decide (4 < l.length) = true := decide_eq_true q2
        clear q2 H
        go_wp2
        go_ret
        exact ⟨rfl, HB.out⟩
      · rw [if_neg q2] at H
        have m1 : decide ((l.length : Int) > 4) = false := decide_eq_false (by omega)
        have m2 : decide ((4 : Int) < (l.length : Int)) = false := m1
        have m3 : decide (4 < l.length) = false := decide_eq_false q2
        clear q2
        have ex : ((x.toNat : Nat) : Int) = x := by have := HX.out.1; omega
        rw [ex] at H
        have EX := Aside0.mk ex
        clear ex
        obtain ⟨g, hg⟩ : ∃ g : Bool → Option Bool, g = fun b => ((if b = true then outerF k (l0_0.length : Int) (l0_1.length : Int) (x.toNat + 1) (l0_1.drop (x.toNat + 1)) else some false).bind (fun b => if b = true then (impl_treeOf.f k l0_0 l0_1 0).bind fun t => some (decide (t ≤ 7)) else some false)) := ⟨_, rfl⟩
        have HG := Aside0.mk hg
        have H2 := Aside0.mk (show (innerF k (l0_0.length : Int) x (l0_1.length : Int) (l.drop (0 : Int).toNat)).bind g = some r by rw [hg]; rw [Option.bind_assoc] at H; exact H)
        clear H hg
        go_wp2
        go_loopw [40] (fun v40 wi => ∃ y : Int, v40 = .int .i64 y ∧ Aside0 (0 ≤ y ∧ y ≤ (l.length : Nat)) ∧ Aside0 ((innerF k (l0_0.length : Int) x (l0_1.length : Int) (l.drop y.toNat)).bind g = some r) ∧ Aside0 (Below wo.heap.size wo wi) ∧ Aside0 (wi.heap[w.heap.size]? = some (.cells #[.slice A0_0 l0_0.length c0_0, .slice (some ad) l0_1.length c0_1] 54 (0, 0)))) (fun v40 _ => l.length - (intOf v40).toNat)
        case atStart => exact ⟨0, rfl, ⟨by omega, by omega⟩, H2, ⟨Below.refl _ _⟩, HBX⟩
        case round =>
          clear H2 xb0 xb1 HBX
          obtain ⟨y, rfl, HY, HI, HBi, HBX⟩ := hrel
          have xb0 : wr.cell? ⟨w.heap.size, 0, none⟩ = some (.slice A0_0 l0_0.length c0_0) := (blk_cell HBX.out 0).trans rfl
          have xb1 : wr.cell? ⟨w.heap.size, 1, none⟩ = some (.slice (some ad) l0_1.length c0_1) := (blk_cell HBX.out 1).trans rfl
          by_cases e0 : y < ((l.length : Nat) : Int)
          · have e0b : decide (y < ((l.length : Nat) : Int)) = true := decide_eq_true e0
            have hy0 := HY.out.1
            obtain ⟨ad2, D1, d1, D2, d2, ea2, hya, hyb, hyc, hyd, hle1, hre1, hle2, hre2⟩ := at_T90 (Kd.C_below HLR.out HBi.out) y hy0 e0
            cases ea2
            obtain ⟨a, ha⟩ : ∃ a, a = rd_T90 l y := ⟨_, rfl⟩
            rw [← ha] at hya hyb hyc hyd hle1 hre1 hle2 hre2
            have hdrop : l.drop y.toNat = a :: l.drop (y.toNat + 1) := by
              have hlt : y.toNat < l.length := by omega
              rw [List.drop_eq_getElem_cons hlt, ha]
              simp [rd_T90, List.getD, hlt]
            have H := HI.out
            clear HI ha
            rw [hdrop, innerF, Option.bind_assoc] at H
            clear hdrop
            obtain ⟨b, hb, H⟩ := Option.bind_eq_some_iff.1 H
            have HAC := Aside0.mk hb
            have HN := Aside0.mk H
            have HR1 := Aside0.mk hre1
            have HR2 := Aside0.mk hre2
            have HL1 := Aside0.mk hle1
            have HL2 := Aside0.mk hle2
            have HPy := Aside0.mk e0
            have p2 := eq_true hy0
            have p3 := eq_true e0
            clear hb H hre1 hre2 hle1 hle2 e0 hy0
            go_upto_region 13 with (fail)
            obtain ⟨wa, hwa⟩ : ∃ wa, wa = wr.alloc (.cells #[.int .i64 a.f0, .slice D1 a.f1.length d1, .slice D2 a.f2.length d2, .int .i64 a.f3] 90) := ⟨_, rfl⟩
            rw [← hwa]
            have HBA := Aside0.mk (show Below wr.heap.size wr wa by rw [hwa]; exact below_alloc (Below.refl _ _) _)
            have HA := Aside0.mk (show wa.heap[wr.heap.size]? = some (.cells #[.int .i64 a.f0, .slice D1 a.f1.length d1, .slice D2 a.f2.length d2, .int .i64 a.f3] 90 (0, 0)) by rw [hwa]; exact heap_alloc_new wr _)
            clear hwa
            have HBXA := Aside0.mk ((HBA.out.block _ (blk_lt HBX.out)).trans HBX.out)
            have HRA := Aside0.mk (Kd.C_below HR1.out HBA.out)
            have HRB := Aside0.mk (Kd.C_below HR2.out HBA.out)
            have HS := Aside0.mk (show ∀ w', Below wa.heap.size wa w' → (Below wa.heap.size wa w' ∧ w'.cell? ⟨w.heap.size, 0, none⟩ = some (.slice A0_0 l0_0.length c0_0) ∧ w'.cell? ⟨w.heap.size, 1, none⟩ = some (.slice (some ad) l0_1.length c0_1) ∧ w'.cell? ⟨wr.heap.size, 0, none⟩ = some (.int .i64 a.f0) ∧ w'.cell? ⟨wr.heap.size, 1, none⟩ = some (.slice D1 a.f1.length d1) ∧ w'.cell? ⟨wr.heap.size, 2, none⟩ = some (.slice D2 a.f2.length d2) ∧ w'.cell? ⟨wr.heap.size, 3, none⟩ = some (.int .i64 a.f3)) from fun w' hb => ⟨hb, (blk_cell ((hb.block _ (blk_lt HBXA.out)).trans HBXA.out) 0).trans rfl, (blk_cell ((hb.block _ (blk_lt HBXA.out)).trans HBXA.out) 1).trans rfl, (blk_cell ((hb.block _ (blk_lt HA.out)).trans HA.out) 0).trans rfl, (blk_cell ((hb.block _ (blk_lt HA.out)).trans HA.out) 1).trans rfl, (blk_cell ((hb.block _ (blk_lt HA.out)).trans HA.out) 2).trans rfl, (blk_cell ((hb.block _ (blk_lt HA.out)).trans HA.out) 3).trans rfl⟩)
            clear xb0 xb1 hya hyb hyc hyd
            go_cut [54] (fun v54 wc => v54 = .bool (!b) ∧ Aside0 (Below wa.heap.size wa wc))
            case first =>
              obtain ⟨sb, s0, s1, s2, s3, s4, s5⟩ := HS.out wa (Below.refl _ _)
              go_region_held3 (fun w' => Below wa.heap.size wa w' ∧ w'.cell? ⟨w.heap.size, 0, none⟩ = some (.slice A0_0 l0_0.length c0_0) ∧ w'.cell? ⟨w.heap.size, 1, none⟩ = some (.slice (some ad) l0_1.length c0_1) ∧ w'.cell? ⟨wr.heap.size, 0, none⟩ = some (.int .i64 a.f0) ∧ w'.cell? ⟨wr.heap.size, 1, none⟩ = some (.slice D1 a.f1.length d1) ∧ w'.cell? ⟨wr.heap.size, 2, none⟩ = some (.slice D2 a.f2.length d2) ∧ w'.cell? ⟨wr.heap.size, 3, none⟩ = some (.int .i64 a.f3)) (first | exact HS.out _ (below_drew (Below.refl _ _)) | exact HS.out _ (Below.refl _ _) | (refine HS.out _ ?_; first | exact below_step (And.left (by assumption)) (by assumption) | exact And.left (by assumption)) | go_keep) (first | (go_at_call 62; refine (impl_partOfAct.calls a.f0 D1 a.f1.length d1 D2 a.f2.length d2 a.f3 _).mono ?_; rintro e wq ⟨rfl, hq_⟩) | (go_at_call 61; refine (impl_actOk.calls k a.f0 D1 d1 a.f1 D2 d2 a.f2 a.f3 (l0_0.length : Int) x (l0_1.length : Int) b _ (by exact Kd.C_below HRA.out (And.left (by assumption))) HL1.out (by exact Kd.C_below HRB.out (And.left (by assumption))) HL2.out HAC.out).mono ?_; rintro e wz ⟨rfl, hz_⟩))
              go_wp2_with fail
              go_meet
              exact ⟨rfl, ⟨And.left (by assumption)⟩⟩
            case rest =>
              obtain ⟨rfl, HC_⟩ := hcut
              have HWC := Aside0.mk (show Below wo.heap.size wo wc from below_step (below_step HBi.out HBA.out) HC_.out)
              have HBXC := Aside0.mk ((HC_.out.block _ (blk_lt HBXA.out)).trans HBXA.out)
              clear HC_ HS HA HBA HBXA HRA HRB HR1 HR2 HL1 HL2 HAC HBi HBX
              cases b with
              | false =>
                have hr := HN.out
                rw [if_neg Bool.false_ne_true, Option.bind_some, HG.out] at hr
                obtain rfl : false = r := by simpa using hr
                clear hr HN
                go_wp2
                go_ret
                exact ⟨rfl, below_step HB.out HWC.out⟩
              | true =>
                have hr := HN.out
                rw [if_pos rfl] at hr
                have HN2 := Aside0.mk hr
                clear hr HN
                go_wp2
                go_roundw
                case rel =>
                  have e1 : (wrap64 (y + 1)) = y + 1 := by have h1 := HY.out.1; have h2 := HPy.out; have h3 := HLM.out; unfold wrap64; omega
                  refine ⟨_, rfl, ⟨?_⟩, ⟨?_⟩, HWC, HBXC⟩
                  · rw [e1]; exact ⟨by have := HY.out.1; omega, by have := HPy.out; omega⟩
                  · rw [e1, show (y + 1).toNat = y.toNat + 1 by have := HY.out.1; omega]
                    exact HN2.out
                case measure =>
                  have h1 := HY.out.1
                  have h2 := HPy.out
                  have h3 := HLM.out
                  have e1 : (wrap64 (y + 1)) = y + 1 := by unfold wrap64; omega
                  rw [e1]
                  simp [intOf]
                  omega
          · have e0b : decide (y < ((l.length : Nat) : Int)) = false := decide_eq_false e0
            have HE := Aside0.mk (show y.toNat = l.length by have := HY.out.1; have := HY.out.2; omega)
            have hr := HI.out
            rw [HE.out, List.drop_length, innerF, Option.bind_some, HG.out] at hr
            dsimp only at hr
            rw [if_pos rfl] at hr
            have HN2 := Aside0.mk hr
            clear hr HI e0
            go_wp2
            go_roundw
            case rel =>
              have e1 : (wrap64 (x + 1)) = x + 1 := by have h1 := HX.out.1; have h2 := HP.out; have h3 := HM.out; unfold wrap64; omega
              refine ⟨_, rfl, ⟨?_⟩, ⟨?_⟩, ⟨below_step HB.out HBi.out⟩, HBX⟩
              · rw [e1]; exact ⟨by have := HX.out.1; omega, by have := HP.out; omega⟩
              · rw [e1, show (x + 1).toNat = x.toNat + 1 by have := HX.out.1; omega]
                exact HN2.out
            case measure =>
              have h1 := HX.out.1
              have h2 := HP.out
              have h3 := HM.out
              have e1 : (wrap64 (x + 1)) = x + 1 := by unfold wrap64; omega
              rw [e1]
              simp [intOf]
              omega
    · have c0b : decide (x < ((l0_1.length : Nat) : Int)) = false := decide_eq_false c0
      have HE := Aside0.mk (show x.toNat = l0_1.length by have := HX.out.1; have := HX.out.2; omega)
      have hr := HH.out
      rw [HE.out, List.drop_length, outerF, Option.bind_some, if_pos rfl] at hr
      obtain ⟨t, ht, hr⟩ := Option.bind_eq_some_iff.1 hr
      obtain rfl : decide (t ≤ 7) = r := by simpa using hr
      have HT := Aside0.mk ht
      clear hr ht HH c0
      go_wp2_with fail
      refine (impl_treeOf.calls k _ _ l0_0 _ _ l0_1 0 t _ (by exact Kd.C_below HR0.out HB.out) HC0.out (by exact Kd.C_below HR1.out HB.out) HC1.out HT.out).mono ?_
      rintro e w5 ⟨rfl, hb5⟩
      have HB5 := Aside0.mk (below_step HB.out hb5)
      clear hb5
      by_cases q5 : t ≤ 7
      · have m1 : decide (t ≤ 7) = true := decide_eq_true q5
        have HQ := Aside0.mk m1
        clear q5
        go_wp2
        go_ret
        exact ⟨by rw [HQ.out]; rfl, HB5.out⟩
      · have m1 : decide (t ≤ 7) = false := decide_eq_false q5
        have HQ := Aside0.mk m1
        clear q5
        go_wp2
        go_ret
        exact ⟨by rw [HQ.out]; rfl, HB5.out⟩

end Go.Proofs.Ytpodhdpkdhcnoaa.QSB
