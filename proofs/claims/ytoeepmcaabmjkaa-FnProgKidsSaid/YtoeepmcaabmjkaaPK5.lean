/- Part 5 of what FnProgKids leans on: contracts of Go functions, and plain lemmas, each under its own premises. Put together by wip/tools/pack.py. -/
import Derived.Laws.BitsAllLaws
import Derived.SizedLaws
import Derived.ChangeSlices
import Derived.Test.YtoeepmcaabmjkaaPK0
import Derived.Test.YtoeepmcaabmjkaaPK1
import Derived.Test.YtoeepmcaabmjkaaPK2
import Derived.Test.YtoeepmcaabmjkaaPK3
import Derived.Test.YtoeepmcaabmjkaaPK4
namespace Go.Proofs.Ytoeepmcaabmjkaa.QPM
open Go.RowKit Go.Proofs.YtoeepmcaabmjkaaW.PrintWords Go.Proofs.YtoeepmcaabmjkaaW.PrintLast Go.Proofs.YtoeepmcaabmjkaaW.PrintMore
attribute [local go_sem] max2_int min2_int max_two min_two max_three min_three max_four min_four   -- for this text's walks alone
set_option linter.unusedVariables false
set_option linter.unusedSimpArgs false
def innerF (k : Nat) (cells body bodies : Int) : List S57 → Option Bool
  | [] => some true
  | a :: l => (impl_actOk.f k a.f0 a.f1 a.f2 a.f3 cells body bodies).bind fun b => if b = true then innerF k cells body bodies l else some false
def outerF (k : Nat) (cells bodies : Int) : Nat → List (List S57) → Option Bool
  | _, [] => some true
  | i, l :: ls => if l.length > 4 then some false else (innerF k cells (i : Int) bodies l).bind fun b => if b = true then outerF k cells bodies (i + 1) ls else some false
def impl_ProgOk.f (k : Nat) (l0_0 : List Int) (l0_1 : List (List (S57))) : Option Bool :=
  if l0_0.length > 3 then some false else (impl_allNums.f k l0_0).bind fun b => if b = true then (if l0_1.length < 1 ∨ 4 < l0_1.length then some false else (outerF k (l0_0.length : Int) (l0_1.length : Int) 0 l0_1).bind fun b => if b = true then (impl_treeOf.f k l0_0 l0_1 0).bind fun t => some (decide (t ≤ 7)) else some false) else some false
theorem C_rows {w : World} {A : Option Addr} {n : Nat} {xs : List (List S57)} (h : Kd.C (Kd.slice 57 k57) w A n xs) (i : Nat) (hi : i < n) : ∃ ad A1 c1 l, A = some ad ∧ xs[i]? = some l ∧ w.cell? (ad.add i) = some (.slice A1 l.length c1) ∧ l.length ≤ c1 ∧ Kd.C k57 w A1 l.length l := by
  have hn := h.1
  obtain ⟨ad, c, e, _, hK, hc0⟩ := Kd.C_get h [] (i : Int) (by omega) (by omega)
  obtain ⟨A1, c1, rfl, l1, g1⟩ := hK
  have hx : xs[i]? = some (xs.getD (i : Int).toNat []) := by
    rw [List.getD_eq_getElem?_getD, Int.toNat_natCast, List.getElem?_eq_getElem (show i < xs.length by omega)]
    rfl
  refine ⟨ad, A1, c1, _, e, hx, ?_, l1, g1⟩
  have := hc0 0 _ rfl
  rw [show (Kd.slice 57 k57).sz = 1 from rfl, Nat.mul_one, Nat.add_zero, Int.toNat_natCast] at this
  exact this
set_option maxHeartbeats 8000000 in
set_option maxRecDepth 100000 in
theorem impl_ProgOk.calls (k : Nat) (A0_0 : Option Addr) (c0_0 : Nat) (l0_0 : List Int) (A0_1 : Option Addr) (c0_1 : Nat) (l0_1 : List (List (S57))) (r : Bool) (w : World) (hr0_0 : Kd.C (Kd.int .i64) w A0_0 l0_0.length l0_0) (hc0_0 : l0_0.length ≤ c0_0) (hr0_1 : Kd.C (Kd.slice 57 k57) w A0_1 l0_1.length l0_1) (hc0_1 : l0_1.length ≤ c0_1) (h : impl_ProgOk.f k l0_0 l0_1 = some r) :
    Calls Try.prog 26 #[.agg #[.slice A0_0 l0_0.length c0_0, .slice A0_1 l0_1.length c0_1]] w fun e w' => e = .returned (.bool r) ∧ Below w.heap.size w w' := by
  have hu1 := Try.underlying36
  have hu2 := Try.underlying57
  have hu3 := Try.underlying34
  have hu4 := Try.underlying54
  have HR0 := Aside0.mk hr0_0
  have HC0 := Aside0.mk hc0_0
  have HR1 := Aside0.mk hr0_1
  have HC1 := Aside0.mk hc0_1
  clear hr0_0 hc0_0 hr0_1 hc0_1
  have HM := Aside0.mk (show l0_1.length ≤ 9223372036854775807 from HR1.out.2.1)
  unfold impl_ProgOk.f at h
  obtain ⟨w1, hw1⟩ : ∃ w1, w1 = w.alloc (.cells #[.slice A0_0 l0_0.length c0_0, .slice A0_1 l0_1.length c0_1] 36) := ⟨_, rfl⟩
  have HBX := Aside0.mk (show w1.heap[w.heap.size]? = some (.cells #[.slice A0_0 l0_0.length c0_0, .slice A0_1 l0_1.length c0_1] 36 (0, 0)) by rw [hw1]; exact heap_alloc_new w _)
  have HB := Aside0.mk (show Below w.heap.size w w1 by rw [hw1]; exact below_alloc (Below.refl _ _) _)
  go_enter Try.func26, Try.ntmps26
  go_upto_region 1 with (fail)
  rw [← hw1]
  clear hw1
  have xb0 : w1.cell? ⟨w.heap.size, 0, none⟩ = some (.slice A0_0 l0_0.length c0_0) := (blk_cell HBX.out 0).trans rfl
  have xb1 : w1.cell? ⟨w.heap.size, 1, none⟩ = some (.slice A0_1 l0_1.length c0_1) := (blk_cell HBX.out 1).trans rfl
  by_cases q0 : l0_0.length > 3
  · rw [if_pos q0] at h
    obtain rfl : false = r := by simpa using h
    have d0 : decide ((l0_0.length : Int) > 3) = true := decide_eq_true (by omega)
    have d0' : decide ((3 : Int) < (l0_0.length : Int)) = true := d0
    have d0'' : decide (3 < l0_0.length) = true := decide_eq_true q0
    clear q0 h
    go_wp2
    go_ret
    exact ⟨rfl, HB.out⟩
  rw [if_neg q0] at h
  have d0 : decide ((l0_0.length : Int) > 3) = false := decide_eq_false (by omega)
  have d0' : decide ((3 : Int) < (l0_0.length : Int)) = false := d0
  have d0'' : decide (3 < l0_0.length) = false := decide_eq_false q0
  clear q0
  obtain ⟨b, hb, h⟩ := Option.bind_eq_some_iff.1 h
  have H1 := Aside0.mk hb
  clear hb
  cases b with
  | false =>
    obtain rfl : false = r := by simpa using h
    clear h
    go_wp2_with fail
    refine (impl_allNums.calls k A0_0 c0_0 l0_0 false _ (Kd.C_below HR0.out HB.out) HC0.out H1.out).mono ?_
    rintro e w2 ⟨rfl, hd⟩
    obtain ⟨nd, rfl⟩ := hd.out
    go_wp2
    go_ret
    exact ⟨rfl, pw_below_drewN HB.out _⟩
  | true =>
  rw [if_pos rfl] at h
  go_wp2_with fail
  refine (impl_allNums.calls k A0_0 c0_0 l0_0 true _ (Kd.C_below HR0.out HB.out) HC0.out H1.out).mono ?_
  rintro e w2 ⟨rfl, hd⟩
  clear H1
  have HB2 := Aside0.mk (show Below w.heap.size w w2 by obtain ⟨nd, rfl⟩ := hd.out; exact pw_below_drewN HB.out _)
  have HBX2 := Aside0.mk (show w2.heap[w.heap.size]? = some (.cells #[.slice A0_0 l0_0.length c0_0, .slice A0_1 l0_1.length c0_1] 36 (0, 0)) by obtain ⟨nd, rfl⟩ := hd.out; exact HBX.out)
  clear hd xb0 xb1 HB HBX
  have xb0 : w2.cell? ⟨w.heap.size, 0, none⟩ = some (.slice A0_0 l0_0.length c0_0) := (blk_cell HBX2.out 0).trans rfl
  have xb1 : w2.cell? ⟨w.heap.size, 1, none⟩ = some (.slice A0_1 l0_1.length c0_1) := (blk_cell HBX2.out 1).trans rfl
  by_cases q1 : l0_1.length < 1 ∨ 4 < l0_1.length
  · rw [if_pos q1] at h
    obtain rfl : false = r := by simpa using h
    clear h
    by_cases q2 : l0_1.length < 1
    · have d1 : decide ((l0_1.length : Int) < 1) = true := decide_eq_true (by omega)
      have d1' : decide (l0_1.length < 1) = true := decide_eq_true q2
      clear q1 q2
      go_wp2
      go_ret
      exact ⟨rfl, HB2.out⟩
    · have d1 : decide ((l0_1.length : Int) < 1) = false := decide_eq_false (by omega)
      have d1' : decide (l0_1.length < 1) = false := decide_eq_false q2
      have d2 : decide ((l0_1.length : Int) > 4) = true := decide_eq_true (by omega)
      have d2' : decide ((4 : Int) < (l0_1.length : Int)) = true := d2
      have d2'' : decide (4 < l0_1.length) = true := decide_eq_true (by omega)
      clear q1 q2
      go_wp2
      go_ret
      exact ⟨rfl, HB2.out⟩
  rw [if_neg q1] at h
  have d1 : decide ((l0_1.length : Int) < 1) = false := decide_eq_false (by omega)
  have d1' : decide (l0_1.length < 1) = false := decide_eq_false (by omega)
  have d2 : decide ((l0_1.length : Int) > 4) = false := decide_eq_false (by omega)
  have d2' : decide ((4 : Int) < (l0_1.length : Int)) = false := d2
  have d2'' : decide (4 < l0_1.length) = false := decide_eq_false (by omega)
  clear q1
  have H2 := Aside0.mk h
  clear h
  go_wp2
  go_loopw [30] (fun v30 wr => ∃ x : Int, v30 = .int .i64 x ∧ Aside0 (0 ≤ x ∧ x ≤ (l0_1.length : Nat)) ∧ Aside0 ((outerF k (l0_0.length : Int) (l0_1.length : Int) x.toNat (l0_1.drop x.toNat)).bind (fun b => if b = true then (impl_treeOf.f k l0_0 l0_1 0).bind fun t => some (decide (t ≤ 7)) else some false) = some r) ∧ Aside0 (Below w.heap.size w wr) ∧ Aside0 (wr.heap[w.heap.size]? = some (.cells #[.slice A0_0 l0_0.length c0_0, .slice A0_1 l0_1.length c0_1] 36 (0, 0)))) (fun v30 _ => l0_1.length - (intOf v30).toNat)
  case atStart => exact ⟨0, rfl, ⟨by omega, by omega⟩, H2, HB2, HBX2⟩
  case round =>
    clear HB2 HBX2 H2 xb0 xb1
    obtain ⟨x, rfl, HX, HH, HB, HBX⟩ := hrel
    obtain ⟨wo, rfl⟩ : ∃ wo, wo = wr := ⟨_, rfl⟩
    have xb0 : wo.cell? ⟨w.heap.size, 0, none⟩ = some (.slice A0_0 l0_0.length c0_0) := (blk_cell HBX.out 0).trans rfl
    have xb1 : wo.cell? ⟨w.heap.size, 1, none⟩ = some (.slice A0_1 l0_1.length c0_1) := (blk_cell HBX.out 1).trans rfl
    by_cases c0 : x < ((l0_1.length : Nat) : Int)
    · have c0b : decide (x < ((l0_1.length : Nat) : Int)) = true := decide_eq_true c0
      have hx0 := HX.out.1
      obtain ⟨ad, B1, c1, l, ea, hl, hxc, hlc, hlr⟩ := C_rows (Kd.C_below HR1.out HB.out) x.toNat (by omega)
      cases ea
      have HLC := Aside0.mk hlc
      have HLR := Aside0.mk hlr
      have HLM := Aside0.mk (show l.length ≤ 9223372036854775807 from hlr.2.1)
      clear hlc hlr
      have H := HH.out
      clear HH
      have hdrop : l0_1.drop x.toNat = l :: l0_1.drop (x.toNat + 1) := by
        obtain ⟨hlt, rfl⟩ := List.getElem?_eq_some_iff.1 hl
        exact List.drop_eq_getElem_cons hlt
      rw [hdrop, outerF] at H
      clear hdrop hl
      have HP := Aside0.mk c0
      have p0 := eq_true hx0
      have p1 := eq_true c0
      clear c0 hx0
      by_cases q2 : l.length > 4
      · rw [if_pos q2] at H
        obtain rfl : false = r := by simpa using H
        have m1 : decide ((l.length : Int) > 4) = true := decide_eq_true (by omega)
        have m2 : decide ((4 : Int) < (l.length : Int)) = true := m1
        have m3 : decide (4 < l.length) = true := decide_eq_true q2
        clear q2 H
        go_wp2
        go_ret
        exact ⟨rfl, HB.out⟩
      · rw [if_neg q2] at H
        have m1 : decide ((l.length : Int) > 4) = false := decide_eq_false (by omega)
        have m2 : decide ((4 : Int) < (l.length : Int)) = false := m1
        have m3 : decide (4 < l.length) = false := decide_eq_false q2
        clear q2
        have ex : ((x.toNat : Nat) : Int) = x := by have := HX.out.1; omega
        rw [ex] at H
        have EX := Aside0.mk ex
        clear ex
        obtain ⟨g, hg⟩ : ∃ g : Bool → Option Bool, g = fun b => ((if b = true then outerF k (l0_0.length : Int) (l0_1.length : Int) (x.toNat + 1) (l0_1.drop (x.toNat + 1)) else some false).bind (fun b => if b = true then (impl_treeOf.f k l0_0 l0_1 0).bind fun t => some (decide (t ≤ 7)) else some false)) := ⟨_, rfl⟩
        have HG := Aside0.mk hg
        have H2 := Aside0.mk (show (innerF k (l0_0.length : Int) x (l0_1.length : Int) (l.drop (0 : Int).toNat)).bind g = some r by rw [hg]; rw [Option.bind_assoc] at H; exact H)
        clear H hg
        go_wp2
        go_loopw [40] (fun v40 wi => ∃ y : Int, v40 = .int .i64 y ∧ Aside0 (0 ≤ y ∧ y ≤ (l.length : Nat)) ∧ Aside0 ((innerF k (l0_0.length : Int) x (l0_1.length : Int) (l.drop y.toNat)).bind g = some r) ∧ Aside0 (Below wo.heap.size wo wi) ∧ Aside0 (wi.heap[w.heap.size]? = some (.cells #[.slice A0_0 l0_0.length c0_0, .slice (some ad) l0_1.length c0_1] 36 (0, 0)))) (fun v40 _ => l.length - (intOf v40).toNat)
        case atStart => exact ⟨0, rfl, ⟨by omega, by omega⟩, H2, ⟨Below.refl _ _⟩, HBX⟩
        case round =>
          clear H2 xb0 xb1 HBX
          obtain ⟨y, rfl, HY, HI, HBi, HBX⟩ := hrel
          have xb0 : wr.cell? ⟨w.heap.size, 0, none⟩ = some (.slice A0_0 l0_0.length c0_0) := (blk_cell HBX.out 0).trans rfl
          have xb1 : wr.cell? ⟨w.heap.size, 1, none⟩ = some (.slice (some ad) l0_1.length c0_1) := (blk_cell HBX.out 1).trans rfl
          by_cases e0 : y < ((l.length : Nat) : Int)
          · have e0b : decide (y < ((l.length : Nat) : Int)) = true := decide_eq_true e0
            have hy0 := HY.out.1
            obtain ⟨ad2, D1, d1, D2, d2, ea2, hya, hyb, hyc, hyd, hle1, hre1, hle2, hre2⟩ := at_T57 (Kd.C_below HLR.out HBi.out) y hy0 e0
            cases ea2
            obtain ⟨a, ha⟩ : ∃ a, a = rd_T57 l y := ⟨_, rfl⟩
            rw [← ha] at hya hyb hyc hyd hle1 hre1 hle2 hre2
            have hdrop : l.drop y.toNat = a :: l.drop (y.toNat + 1) := by
              have hlt : y.toNat < l.length := by omega
              rw [List.drop_eq_getElem_cons hlt, ha]
              simp [rd_T57, List.getD, hlt]
            have H := HI.out
            clear HI ha
            rw [hdrop, innerF, Option.bind_assoc] at H
            clear hdrop
            obtain ⟨b, hb, H⟩ := Option.bind_eq_some_iff.1 H
            have HAC := Aside0.mk hb
            have HN := Aside0.mk H
            have HR1 := Aside0.mk hre1
            have HR2 := Aside0.mk hre2
            have HL1 := Aside0.mk hle1
            have HL2 := Aside0.mk hle2
            have HPy := Aside0.mk e0
            have p2 := eq_true hy0
            have p3 := eq_true e0
            clear hb H hre1 hre2 hle1 hle2 e0 hy0
            go_upto_region 13 with (fail)
            obtain ⟨wa, hwa⟩ : ∃ wa, wa = wr.alloc (.cells #[.int .i64 a.f0, .slice D1 a.f1.length d1, .slice D2 a.f2.length d2, .int .i64 a.f3] 57) := ⟨_, rfl⟩
            rw [← hwa]
            have HBA := Aside0.mk (show Below wr.heap.size wr wa by rw [hwa]; exact below_alloc (Below.refl _ _) _)
            have HA := Aside0.mk (show wa.heap[wr.heap.size]? = some (.cells #[.int .i64 a.f0, .slice D1 a.f1.length d1, .slice D2 a.f2.length d2, .int .i64 a.f3] 57 (0, 0)) by rw [hwa]; exact heap_alloc_new wr _)
            clear hwa
            have HBXA := Aside0.mk ((HBA.out.block _ (blk_lt HBX.out)).trans HBX.out)
            have HRA := Aside0.mk (Kd.C_below HR1.out HBA.out)
            have HRB := Aside0.mk (Kd.C_below HR2.out HBA.out)
            have HS := Aside0.mk (show ∀ w', Below wa.heap.size wa w' → (Below wa.heap.size wa w' ∧ w'.cell? ⟨w.heap.size, 0, none⟩ = some (.slice A0_0 l0_0.length c0_0) ∧ w'.cell? ⟨w.heap.size, 1, none⟩ = some (.slice (some ad) l0_1.length c0_1) ∧ w'.cell? ⟨wr.heap.size, 0, none⟩ = some (.int .i64 a.f0) ∧ w'.cell? ⟨wr.heap.size, 1, none⟩ = some (.slice D1 a.f1.length d1) ∧ w'.cell? ⟨wr.heap.size, 2, none⟩ = some (.slice D2 a.f2.length d2) ∧ w'.cell? ⟨wr.heap.size, 3, none⟩ = some (.int .i64 a.f3)) from fun w' hb => ⟨hb, (blk_cell ((hb.block _ (blk_lt HBXA.out)).trans HBXA.out) 0).trans rfl, (blk_cell ((hb.block _ (blk_lt HBXA.out)).trans HBXA.out) 1).trans rfl, (blk_cell ((hb.block _ (blk_lt HA.out)).trans HA.out) 0).trans rfl, (blk_cell ((hb.block _ (blk_lt HA.out)).trans HA.out) 1).trans rfl, (blk_cell ((hb.block _ (blk_lt HA.out)).trans HA.out) 2).trans rfl, (blk_cell ((hb.block _ (blk_lt HA.out)).trans HA.out) 3).trans rfl⟩)
            clear xb0 xb1 hya hyb hyc hyd
            go_cut [54] (fun v54 wc => v54 = .bool (!b) ∧ Aside0 (Below wa.heap.size wa wc))
            case first =>
              obtain ⟨sb, s0, s1, s2, s3, s4, s5⟩ := HS.out wa (Below.refl _ _)
              go_region_held3 (fun w' => Below wa.heap.size wa w' ∧ w'.cell? ⟨w.heap.size, 0, none⟩ = some (.slice A0_0 l0_0.length c0_0) ∧ w'.cell? ⟨w.heap.size, 1, none⟩ = some (.slice (some ad) l0_1.length c0_1) ∧ w'.cell? ⟨wr.heap.size, 0, none⟩ = some (.int .i64 a.f0) ∧ w'.cell? ⟨wr.heap.size, 1, none⟩ = some (.slice D1 a.f1.length d1) ∧ w'.cell? ⟨wr.heap.size, 2, none⟩ = some (.slice D2 a.f2.length d2) ∧ w'.cell? ⟨wr.heap.size, 3, none⟩ = some (.int .i64 a.f3)) (first | exact HS.out _ (below_drew (Below.refl _ _)) | exact HS.out _ (Below.refl _ _) | (refine HS.out _ ?_; first | exact below_step (And.left (by assumption)) (by assumption) | exact And.left (by assumption)) | go_keep) (first | (go_at_call 62; refine (impl_partOfAct.calls a.f0 D1 a.f1.length d1 D2 a.f2.length d2 a.f3 _).mono ?_; rintro e wq ⟨rfl, hq_⟩) | (go_at_call 61; refine (impl_actOk.calls k a.f0 D1 d1 a.f1 D2 d2 a.f2 a.f3 (l0_0.length : Int) x (l0_1.length : Int) b _ (by exact Kd.C_below HRA.out (And.left (by assumption))) HL1.out (by exact Kd.C_below HRB.out (And.left (by assumption))) HL2.out HAC.out).mono ?_; rintro e wz ⟨rfl, hz_⟩))
              go_wp2_with fail
              go_meet
              exact ⟨rfl, ⟨And.left (by assumption)⟩⟩
            case rest =>
              obtain ⟨rfl, HC_⟩ := hcut
              have HWC := Aside0.mk (show Below wo.heap.size wo wc from below_step (below_step HBi.out HBA.out) HC_.out)
              have HBXC := Aside0.mk ((HC_.out.block _ (blk_lt HBXA.out)).trans HBXA.out)
              clear HC_ HS HA HBA HBXA HRA HRB HR1 HR2 HL1 HL2 HAC HBi HBX
              cases b with
              | false =>
                have hr := HN.out
                rw [if_neg Bool.false_ne_true, Option.bind_some, HG.out] at hr
                obtain rfl : false = r := by simpa using hr
                clear hr HN
                go_wp2
                go_ret
                exact ⟨rfl, below_step HB.out HWC.out⟩
              | true =>
                have hr := HN.out
                rw [if_pos rfl] at hr
                have HN2 := Aside0.mk hr
                clear hr HN
                go_wp2
                go_roundw
                case rel =>
                  have e1 : (wrap64 (y + 1)) = y + 1 := by have h1 := HY.out.1; have h2 := HPy.out; have h3 := HLM.out; unfold wrap64; omega
                  refine ⟨_, rfl, ⟨?_⟩, ⟨?_⟩, HWC, HBXC⟩
                  · rw [e1]; exact ⟨by have := HY.out.1; omega, by have := HPy.out; omega⟩
                  · rw [e1, show (y + 1).toNat = y.toNat + 1 by have := HY.out.1; omega]
                    exact HN2.out
                case measure =>
                  have h1 := HY.out.1
                  have h2 := HPy.out
                  have h3 := HLM.out
                  have e1 : (wrap64 (y + 1)) = y + 1 := by unfold wrap64; omega
                  rw [e1]
                  simp [intOf]
                  omega
          · have e0b : decide (y < ((l.length : Nat) : Int)) = false := decide_eq_false e0
            have HE := Aside0.mk (show y.toNat = l.length by have := HY.out.1; have := HY.out.2; omega)
            have hr := HI.out
            rw [HE.out, List.drop_length, innerF, Option.bind_some, HG.out] at hr
            dsimp only at hr
            rw [if_pos rfl] at hr
            have HN2 := Aside0.mk hr
            clear hr HI e0
            go_wp2
            go_roundw
            case rel =>
              have e1 : (wrap64 (x + 1)) = x + 1 := by have h1 := HX.out.1; have h2 := HP.out; have h3 := HM.out; unfold wrap64; omega
              refine ⟨_, rfl, ⟨?_⟩, ⟨?_⟩, ⟨below_step HB.out HBi.out⟩, HBX⟩
              · rw [e1]; exact ⟨by have := HX.out.1; omega, by have := HP.out; omega⟩
              · rw [e1, show (x + 1).toNat = x.toNat + 1 by have := HX.out.1; omega]
                exact HN2.out
            case measure =>
              have h1 := HX.out.1
              have h2 := HP.out
              have h3 := HM.out
              have e1 : (wrap64 (x + 1)) = x + 1 := by unfold wrap64; omega
              rw [e1]
              simp [intOf]
              omega
    · have c0b : decide (x < ((l0_1.length : Nat) : Int)) = false := decide_eq_false c0
      have HE := Aside0.mk (show x.toNat = l0_1.length by have := HX.out.1; have := HX.out.2; omega)
      have hr := HH.out
      rw [HE.out, List.drop_length, outerF, Option.bind_some, if_pos rfl] at hr
      obtain ⟨t, ht, hr⟩ := Option.bind_eq_some_iff.1 hr
      obtain rfl : decide (t ≤ 7) = r := by simpa using hr
      have HT := Aside0.mk ht
      clear hr ht HH c0
      go_wp2_with fail
      refine (impl_treeOf.calls k _ _ l0_0 _ _ l0_1 0 t _ (by exact Kd.C_below HR0.out HB.out) HC0.out (by exact Kd.C_below HR1.out HB.out) HC1.out HT.out).mono ?_
      rintro e w5 ⟨rfl, hb5⟩
      have HB5 := Aside0.mk (below_step HB.out hb5)
      clear hb5
      by_cases q5 : t ≤ 7
      · have m1 : decide (t ≤ 7) = true := decide_eq_true q5
        have HQ := Aside0.mk m1
        clear q5
        go_wp2
        go_ret
        exact ⟨by rw [HQ.out]; rfl, HB5.out⟩
      · have m1 : decide (t ≤ 7) = false := decide_eq_false q5
        have HQ := Aside0.mk m1
        clear q5
        go_wp2
        go_ret
        exact ⟨by rw [HQ.out]; rfl, HB5.out⟩
-- NOT PRINTED: function 5 (laws_FnProgMore)
def impl_ProgTree.f (k : Nat) (l0_0 : List Int) (l0_1 : List (List (S57))) (a1 : Int) : Option (Int) := (impl_ProgOk.f k l0_0 l0_1).bind fun t270 => (if t270 = true then ((impl_isPlace.f a1 (l0_1.length : Int)).bind fun t271 => (if t271 = true then ((impl_treeOf.f k l0_0 l0_1 a1).bind fun t272 => (some t272)) else (some (-1)))) else (some (-1)))
set_option maxHeartbeats 8000000 in
set_option maxRecDepth 100000 in
theorem impl_ProgTree.calls (k : Nat) (A0_0 : Option Addr) (c0_0 : Nat) (l0_0 : List Int) (A0_1 : Option Addr) (c0_1 : Nat) (l0_1 : List (List (S57))) (a1 : Int) (r : Int) (w : World) (hr0_0 : Kd.C (Kd.int .i64) w A0_0 l0_0.length l0_0) (hc0_0 : l0_0.length ≤ c0_0) (hr0_1 : Kd.C (Kd.slice 57 k57) w A0_1 l0_1.length l0_1) (hc0_1 : l0_1.length ≤ c0_1) (h : impl_ProgTree.f k l0_0 l0_1 a1 = some r) :
    Calls Try.prog 28 #[.agg #[.slice A0_0 l0_0.length c0_0, .slice A0_1 l0_1.length c0_1], .int .i64 a1] w fun e w' => e = .returned (.int .i64 r) ∧ Below w.heap.size w w' := by
  have hu36 := Try.underlying36
  have HR0_0 := Aside0.mk hr0_0
  have HC0_0 := Aside0.mk hc0_0
  clear hr0_0 hc0_0
  have HR0_1 := Aside0.mk hr0_1
  have HC0_1 := Aside0.mk hc0_1
  clear hr0_1 hc0_1
  have HB := Aside0.mk (Below.refl w.heap.size w)
  have H : ((impl_ProgOk.f k l0_0 l0_1).bind fun t270 => (if t270 = true then ((impl_isPlace.f a1 (l0_1.length : Int)).bind fun t271 => (if t271 = true then ((impl_treeOf.f k l0_0 l0_1 a1).bind fun t272 => (some t272)) else (some (-1)))) else (some (-1)))) = some r := h
  clear h
  replace H := Option.bind_eq_some_iff.mp H
  obtain ⟨t270, A30, H⟩ := H
  replace H : (if t270 = true then ((impl_isPlace.f a1 (l0_1.length : Int)).bind fun t271 => (if t271 = true then ((impl_treeOf.f k l0_0 l0_1 a1).bind fun t272 => (some t272)) else (some (-1)))) else (some (-1))) = some r := H
  have A3 := Aside0.mk A30
  clear A30
  by_cases c4 : t270 = true
  · subst c4
    have H1 : ((impl_isPlace.f a1 (l0_1.length : Int)).bind fun t271 => (if t271 = true then ((impl_treeOf.f k l0_0 l0_1 a1).bind fun t272 => (some t272)) else (some (-1)))) = some r := by rw [if_pos rfl] at H; exact H
    clear H
    have H := H1
    clear H1
    replace H := Option.bind_eq_some_iff.mp H
    obtain ⟨t271, A50, H⟩ := H
    replace H : (if t271 = true then ((impl_treeOf.f k l0_0 l0_1 a1).bind fun t272 => (some t272)) else (some (-1))) = some r := H
    have A5 := Aside0.mk A50
    clear A50
    by_cases c6 : t271 = true
    · subst c6
      have H1 : ((impl_treeOf.f k l0_0 l0_1 a1).bind fun t272 => (some t272)) = some r := by rw [if_pos rfl] at H; exact H
      clear H
      have H := H1
      clear H1
      replace H := Option.bind_eq_some_iff.mp H
      obtain ⟨t272, A70, H⟩ := H
      replace H : (some t272) = some r := H
      have A7 := Aside0.mk A70
      clear A70
      obtain rfl := Option.some.inj H
      go_enter Try.func28, Try.ntmps28
      go_wp2_with (first | ((with_reducible refine gate_dst (N := 2) rfl ?_); (try (refine gate_guard (by rfl) ?_; dsimp only)); refine box_event ?hg (N := 2) ?hd (cs := #[.slice A0_0 l0_0.length c0_0, .slice A0_1 l0_1.length c0_1]) (t := 36) ?hr ?_; (case hd => rfl); (case hg => rfl); (case hr => first | (go_simp; done) | (go_simp; rfl)); intro gb269 hg w8 hbox hb; have n0_ := Aside0.mk (below_step (by repeat (first | (with_reducible first | exact HB.out | apply below_alloc | apply pw_below_drewN | apply below_drew1) | exact HB.out)) hb); have n1_ := Aside0.mk (hbox); have n2_ := Aside0.mk ((by rw [hg]; exact (below_size (by repeat (first | (with_reducible first | exact HB.out | apply below_alloc | apply pw_below_drewN | apply below_drew1) | exact HB.out))) : w.heap.size ≤ gb269)); have n3_ := Aside0.mk ((by rw [hg]; exact (below_size (by repeat (first | (with_reducible first | exact HB.out | apply below_alloc | apply pw_below_drewN | apply below_drew1) | exact HB.out))) : w.heap.size ≤ gb269)); clear HB; have HB := n0_; have BK269 := n1_; have GW269 := n2_; have GE269 := n3_; clear n0_ n1_ n2_ n3_; clear hb hbox hg; have hcz9_0 : w8.cell? ⟨gb269, 0, none⟩ = some (.slice A0_0 l0_0.length c0_0) := (blk_cell BK269.out 0).trans rfl; have hcz9_1 : w8.cell? ⟨gb269, 1, none⟩ = some (.slice A0_1 l0_1.length c0_1) := (blk_cell BK269.out 1).trans rfl; have hfz9_0 := blk_frozen BK269.out 0; have hfz9_1 := blk_frozen BK269.out 1) | ((with_reducible refine gate_callee (f := 26) rfl ?_); refine goesL_ (some 6) rfl rfl Try.func26 (by kernel_rfl) rfl #[.agg #[.slice A0_0 l0_0.length c0_0, .slice A0_1 l0_1.length c0_1]] rfl (by (try simp only [List.map_toArray, List.map_cons, List.map_nil]); first | done | rfl | (simp only [List.length_drop, List.length_take]; rfl)) ?_; (with_reducible refine (impl_ProgOk.calls k _ _ l0_0 _ _ l0_1 true _ ?side1 ?side2 ?side3 ?side4 A3.out).mono ?_); (case side1 => repeat (first | exact (Kd.C_below HR0_0.out HB.out) | (with_reducible refine Kd.C_alloc ?_ _) | (with_reducible refine Kd.C_drewN ?_ _) | (with_reducible refine Kd.C_drew ?_))); (case side2 => exact HC0_0.out); (case side3 => repeat (first | exact (Kd.C_below HR0_1.out HB.out) | (with_reducible refine Kd.C_alloc ?_ _) | (with_reducible refine Kd.C_drewN ?_ _) | (with_reducible refine Kd.C_drew ?_))); (case side4 => exact HC0_1.out); rintro e w10 ⟨rfl, hb⟩; refine ⟨_, rfl, ?_⟩; have n0_ := Aside0.mk (blk_below (g := gb269) (o := .cells #[.slice A0_0 l0_0.length c0_0, .slice A0_1 l0_1.length c0_1] 36 (0, 0)) (by (with_reducible repeat (first | refine blk_drewN ?_ _ | refine blk_drew ?_ | refine blk_alloc ?_ _)); exact BK269.out) hb); have n1_ := Aside0.mk (below_step (by repeat (first | (with_reducible first | exact HB.out | apply below_alloc | apply pw_below_drewN | apply below_drew1 | refine below_set ?_ GE269.out) | exact HB.out)) hb); clear BK269; clear HB; have BK269 := n0_; have HB := n1_; clear n0_ n1_; (try clear hb); (try clear hb2); (try clear hk); (try clear hi); have hcz11_0 : w10.cell? ⟨gb269, 0, none⟩ = some (.slice A0_0 l0_0.length c0_0) := (blk_cell BK269.out 0).trans rfl; have hcz11_1 : w10.cell? ⟨gb269, 1, none⟩ = some (.slice A0_1 l0_1.length c0_1) := (blk_cell BK269.out 1).trans rfl; have hfz11_0 := blk_frozen BK269.out 0; have hfz11_1 := blk_frozen BK269.out 1) | (go_at_call 66; (with_reducible refine (impl_isPlace.calls a1 (l0_1.length : Int) true _ A5.out).mono ?_); rintro e w' ⟨rfl, ⟨nd, rfl⟩⟩) | ((with_reducible refine gate_callee (f := 63) rfl ?_); refine goesL_ (some 18) rfl rfl Try.func63 (by kernel_rfl) rfl #[.agg #[.slice A0_0 l0_0.length c0_0, .slice A0_1 l0_1.length c0_1], .int .i64 a1] rfl (by (try simp only [List.map_toArray, List.map_cons, List.map_nil]); first | done | rfl | (simp only [List.length_drop, List.length_take]; rfl)) ?_; (with_reducible refine (impl_treeOf.calls k _ _ l0_0 _ _ l0_1 a1 t272 _ ?side1 ?side2 ?side3 ?side4 A7.out).mono ?_); (case side1 => repeat (first | exact (Kd.C_below HR0_0.out (by repeat (first | (with_reducible first | exact HB.out | apply below_alloc | apply pw_below_drewN | apply below_drew1 | refine below_set ?_ GE269.out) | exact HB.out))) | (with_reducible refine Kd.C_alloc ?_ _) | (with_reducible refine Kd.C_drewN ?_ _) | (with_reducible refine Kd.C_drew ?_))); (case side2 => exact HC0_0.out); (case side3 => repeat (first | exact (Kd.C_below HR0_1.out (by repeat (first | (with_reducible first | exact HB.out | apply below_alloc | apply pw_below_drewN | apply below_drew1 | refine below_set ?_ GE269.out) | exact HB.out))) | (with_reducible refine Kd.C_alloc ?_ _) | (with_reducible refine Kd.C_drewN ?_ _) | (with_reducible refine Kd.C_drew ?_))); (case side4 => exact HC0_1.out); rintro e w12 ⟨rfl, hb⟩; refine ⟨_, rfl, ?_⟩; have n0_ := Aside0.mk (blk_below (g := gb269) (o := .cells #[.slice A0_0 l0_0.length c0_0, .slice A0_1 l0_1.length c0_1] 36 (0, 0)) (by (with_reducible repeat (first | refine blk_drewN ?_ _ | refine blk_drew ?_ | refine blk_alloc ?_ _)); exact BK269.out) hb); have n1_ := Aside0.mk (below_step (by repeat (first | (with_reducible first | exact HB.out | apply below_alloc | apply pw_below_drewN | apply below_drew1 | refine below_set ?_ GE269.out) | exact HB.out)) hb); clear BK269; clear HB; have BK269 := n0_; have HB := n1_; clear n0_ n1_; (try clear hb); (try clear hb2); (try clear hk); (try clear hi)))
      go_ret
      exact ⟨by first | rfl | (simp [errW_none, errW_some] <;> rfl) | (simp [*, errW_none, errW_some] <;> rfl), by repeat (first | (with_reducible first | exact HB.out | apply below_alloc | apply pw_below_drewN | apply below_drew1 | refine below_set ?_ GE269.out) | exact HB.out)⟩
    · replace c6 := Bool.eq_false_iff.mpr c6
      subst c6
      have H1 : (some (-1)) = some r := by rw [if_neg (show ¬ (false = true) by decide)] at H; exact H
      clear H
      have H := H1
      clear H1
      obtain rfl := Option.some.inj H
      go_enter Try.func28, Try.ntmps28
      go_wp2_with (first | ((with_reducible refine gate_dst (N := 2) rfl ?_); (try (refine gate_guard (by rfl) ?_; dsimp only)); refine box_event ?hg (N := 2) ?hd (cs := #[.slice A0_0 l0_0.length c0_0, .slice A0_1 l0_1.length c0_1]) (t := 36) ?hr ?_; (case hd => rfl); (case hg => rfl); (case hr => first | (go_simp; done) | (go_simp; rfl)); intro gb269 hg w13 hbox hb; have n0_ := Aside0.mk (below_step (by repeat (first | (with_reducible first | exact HB.out | apply below_alloc | apply pw_below_drewN | apply below_drew1) | exact HB.out)) hb); have n1_ := Aside0.mk (hbox); have n2_ := Aside0.mk ((by rw [hg]; exact (below_size (by repeat (first | (with_reducible first | exact HB.out | apply below_alloc | apply pw_below_drewN | apply below_drew1) | exact HB.out))) : w.heap.size ≤ gb269)); have n3_ := Aside0.mk ((by rw [hg]; exact (below_size (by repeat (first | (with_reducible first | exact HB.out | apply below_alloc | apply pw_below_drewN | apply below_drew1) | exact HB.out))) : w.heap.size ≤ gb269)); clear HB; have HB := n0_; have BK269 := n1_; have GW269 := n2_; have GE269 := n3_; clear n0_ n1_ n2_ n3_; clear hb hbox hg; have hcz14_0 : w13.cell? ⟨gb269, 0, none⟩ = some (.slice A0_0 l0_0.length c0_0) := (blk_cell BK269.out 0).trans rfl; have hcz14_1 : w13.cell? ⟨gb269, 1, none⟩ = some (.slice A0_1 l0_1.length c0_1) := (blk_cell BK269.out 1).trans rfl; have hfz14_0 := blk_frozen BK269.out 0; have hfz14_1 := blk_frozen BK269.out 1) | ((with_reducible refine gate_callee (f := 26) rfl ?_); refine goesL_ (some 6) rfl rfl Try.func26 (by kernel_rfl) rfl #[.agg #[.slice A0_0 l0_0.length c0_0, .slice A0_1 l0_1.length c0_1]] rfl (by (try simp only [List.map_toArray, List.map_cons, List.map_nil]); first | done | rfl | (simp only [List.length_drop, List.length_take]; rfl)) ?_; (with_reducible refine (impl_ProgOk.calls k _ _ l0_0 _ _ l0_1 true _ ?side1 ?side2 ?side3 ?side4 A3.out).mono ?_); (case side1 => repeat (first | exact (Kd.C_below HR0_0.out HB.out) | (with_reducible refine Kd.C_alloc ?_ _) | (with_reducible refine Kd.C_drewN ?_ _) | (with_reducible refine Kd.C_drew ?_))); (case side2 => exact HC0_0.out); (case side3 => repeat (first | exact (Kd.C_below HR0_1.out HB.out) | (with_reducible refine Kd.C_alloc ?_ _) | (with_reducible refine Kd.C_drewN ?_ _) | (with_reducible refine Kd.C_drew ?_))); (case side4 => exact HC0_1.out); rintro e w15 ⟨rfl, hb⟩; refine ⟨_, rfl, ?_⟩; have n0_ := Aside0.mk (blk_below (g := gb269) (o := .cells #[.slice A0_0 l0_0.length c0_0, .slice A0_1 l0_1.length c0_1] 36 (0, 0)) (by (with_reducible repeat (first | refine blk_drewN ?_ _ | refine blk_drew ?_ | refine blk_alloc ?_ _)); exact BK269.out) hb); have n1_ := Aside0.mk (below_step (by repeat (first | (with_reducible first | exact HB.out | apply below_alloc | apply pw_below_drewN | apply below_drew1 | refine below_set ?_ GE269.out) | exact HB.out)) hb); clear BK269; clear HB; have BK269 := n0_; have HB := n1_; clear n0_ n1_; (try clear hb); (try clear hb2); (try clear hk); (try clear hi); have hcz16_0 : w15.cell? ⟨gb269, 0, none⟩ = some (.slice A0_0 l0_0.length c0_0) := (blk_cell BK269.out 0).trans rfl; have hcz16_1 : w15.cell? ⟨gb269, 1, none⟩ = some (.slice A0_1 l0_1.length c0_1) := (blk_cell BK269.out 1).trans rfl; have hfz16_0 := blk_frozen BK269.out 0; have hfz16_1 := blk_frozen BK269.out 1) | (go_at_call 66; (with_reducible refine (impl_isPlace.calls a1 (l0_1.length : Int) false _ A5.out).mono ?_); rintro e w' ⟨rfl, ⟨nd, rfl⟩⟩))
      go_ret
      exact ⟨by first | rfl | (simp [errW_none, errW_some] <;> rfl) | (simp [*, errW_none, errW_some] <;> rfl), by repeat (first | (with_reducible first | exact HB.out | apply below_alloc | apply pw_below_drewN | apply below_drew1 | refine below_set ?_ GE269.out) | exact HB.out)⟩
  · replace c4 := Bool.eq_false_iff.mpr c4
    subst c4
    have H1 : (some (-1)) = some r := by rw [if_neg (show ¬ (false = true) by decide)] at H; exact H
    clear H
    have H := H1
    clear H1
    obtain rfl := Option.some.inj H
    go_enter Try.func28, Try.ntmps28
    go_wp2_with (first | ((with_reducible refine gate_dst (N := 2) rfl ?_); (try (refine gate_guard (by rfl) ?_; dsimp only)); refine box_event ?hg (N := 2) ?hd (cs := #[.slice A0_0 l0_0.length c0_0, .slice A0_1 l0_1.length c0_1]) (t := 36) ?hr ?_; (case hd => rfl); (case hg => rfl); (case hr => first | (go_simp; done) | (go_simp; rfl)); intro gb269 hg w17 hbox hb; have n0_ := Aside0.mk (below_step (by repeat (first | (with_reducible first | exact HB.out | apply below_alloc | apply pw_below_drewN | apply below_drew1) | exact HB.out)) hb); have n1_ := Aside0.mk (hbox); have n2_ := Aside0.mk ((by rw [hg]; exact (below_size (by repeat (first | (with_reducible first | exact HB.out | apply below_alloc | apply pw_below_drewN | apply below_drew1) | exact HB.out))) : w.heap.size ≤ gb269)); have n3_ := Aside0.mk ((by rw [hg]; exact (below_size (by repeat (first | (with_reducible first | exact HB.out | apply below_alloc | apply pw_below_drewN | apply below_drew1) | exact HB.out))) : w.heap.size ≤ gb269)); clear HB; have HB := n0_; have BK269 := n1_; have GW269 := n2_; have GE269 := n3_; clear n0_ n1_ n2_ n3_; clear hb hbox hg; have hcz18_0 : w17.cell? ⟨gb269, 0, none⟩ = some (.slice A0_0 l0_0.length c0_0) := (blk_cell BK269.out 0).trans rfl; have hcz18_1 : w17.cell? ⟨gb269, 1, none⟩ = some (.slice A0_1 l0_1.length c0_1) := (blk_cell BK269.out 1).trans rfl; have hfz18_0 := blk_frozen BK269.out 0; have hfz18_1 := blk_frozen BK269.out 1) | ((with_reducible refine gate_callee (f := 26) rfl ?_); refine goesL_ (some 6) rfl rfl Try.func26 (by kernel_rfl) rfl #[.agg #[.slice A0_0 l0_0.length c0_0, .slice A0_1 l0_1.length c0_1]] rfl (by (try simp only [List.map_toArray, List.map_cons, List.map_nil]); first | done | rfl | (simp only [List.length_drop, List.length_take]; rfl)) ?_; (with_reducible refine (impl_ProgOk.calls k _ _ l0_0 _ _ l0_1 false _ ?side1 ?side2 ?side3 ?side4 A3.out).mono ?_); (case side1 => repeat (first | exact (Kd.C_below HR0_0.out HB.out) | (with_reducible refine Kd.C_alloc ?_ _) | (with_reducible refine Kd.C_drewN ?_ _) | (with_reducible refine Kd.C_drew ?_))); (case side2 => exact HC0_0.out); (case side3 => repeat (first | exact (Kd.C_below HR0_1.out HB.out) | (with_reducible refine Kd.C_alloc ?_ _) | (with_reducible refine Kd.C_drewN ?_ _) | (with_reducible refine Kd.C_drew ?_))); (case side4 => exact HC0_1.out); rintro e w19 ⟨rfl, hb⟩; refine ⟨_, rfl, ?_⟩; have n0_ := Aside0.mk (blk_below (g := gb269) (o := .cells #[.slice A0_0 l0_0.length c0_0, .slice A0_1 l0_1.length c0_1] 36 (0, 0)) (by (with_reducible repeat (first | refine blk_drewN ?_ _ | refine blk_drew ?_ | refine blk_alloc ?_ _)); exact BK269.out) hb); have n1_ := Aside0.mk (below_step (by repeat (first | (with_reducible first | exact HB.out | apply below_alloc | apply pw_below_drewN | apply below_drew1 | refine below_set ?_ GE269.out) | exact HB.out)) hb); clear BK269; clear HB; have BK269 := n0_; have HB := n1_; clear n0_ n1_; (try clear hb); (try clear hb2); (try clear hk); (try clear hi)))
    go_ret
    exact ⟨by first | rfl | (simp [errW_none, errW_some] <;> rfl) | (simp [*, errW_none, errW_some] <;> rfl), by repeat (first | (with_reducible first | exact HB.out | apply below_alloc | apply pw_below_drewN | apply below_drew1 | refine below_set ?_ GE269.out) | exact HB.out)⟩
end Go.Proofs.Ytoeepmcaabmjkaa.QPM
namespace Go.Proofs.Ytoeepmcaabmjkaa.QPM
open Go.RowKit Go.Proofs.YtoeepmcaabmjkaaW.PrintWords Go.Proofs.YtoeepmcaabmjkaaW.PrintLast Go.Proofs.YtoeepmcaabmjkaaW.PrintMore
attribute [local go_sem] max2_int min2_int max_two min_two max_three min_three max_four min_four   -- for this text's walks alone
set_option linter.unusedVariables false
set_option linter.unusedSimpArgs false
mutual
def laws_FnProgKids.j0 : Nat → Bool → Bool → List Int → List (List (S57)) → Option (Bool)
  | 0, _, _, _, _ => none
  | k + 1, x4, x23, x280000, x280001 => if x23 = true then ((spec_ProgOk.f k x280000 x280001).bind fun t282 => (some (x4 == t282))) else (laws_FnProgKids.l0 k 0 x280000 x280001)
def laws_FnProgKids.l0 : Nat → Int → List Int → List (List (S57)) → Option (Bool)
  | 0, _, _, _ => none
  | k + 1, x5, x280000, x280001 => if x5 < (x280001.length : Int) then (laws_FnProgKids.l1 k x5 0 x280000 x280001) else (some true)
def laws_FnProgKids.l1 : Nat → Int → Int → List Int → List (List (S57)) → Option (Bool)
  | 0, _, _, _, _ => none
  | k + 1, x5, x6, x280000, x280001 => if 0 ≤ x5 then (if x5 < (x280001.length : Int) then (if x6 < ((rd_L6 x280001 x5).length : Int) then (if 0 ≤ x6 then (laws_FnProgKids.l2 k x5 x6 ((rd_T57 (rd_L6 x280001 x5) x6).f2) 0 x280000 x280001) else (none)) else (laws_FnProgKids.l0 k (wrap64 (x5 + 1)) x280000 x280001)) else (none)) else (none)
def laws_FnProgKids.l2 : Nat → Int → Int → List Int → Int → List Int → List (List (S57)) → Option (Bool)
  | 0, _, _, _, _, _, _ => none
  | k + 1, x5, x6, x7, x8, x280000, x280001 => if x8 < (x7.length : Int) then (if 0 ≤ x8 then (if (rd x7 x8) ≤ x5 then (some false) else ((impl_ProgTree.f k x280000 x280001 (rd x7 x8)).bind fun t288 => ((impl_ProgTree.f k x280000 x280001 x5).bind fun t289 => (if t288 ≥ t289 then (some false) else (laws_FnProgKids.l2 k x5 x6 x7 (wrap64 (x8 + 1)) x280000 x280001))))) else (none)) else (laws_FnProgKids.l1 k x5 (wrap64 (x6 + 1)) x280000 x280001)
end
def laws_FnProgKids.f (k : Nat) (l0 : List Int) : Option (Bool) := if (l0.length : Int) > 1048576 then (some true) else ((spec_DrawProgOk.f k l0).bind fun bt273 => ((impl_ProgOk.f k bt273.1 bt273.2).bind fun t280 => ((spec_ProgOk.f k bt273.1 bt273.2).bind fun t281 => (if (t280 != t281) = true then (laws_FnProgKids.j0 k t280 true bt273.1 bt273.2) else (laws_FnProgKids.j0 k t280 (!t280) bt273.1 bt273.2)))))
def laws_FnProgKids.T17 : Bool × List (List Nat × List Nat) := (true, [([], []), ([], []), ([0, 1], [0, 1]), ([2], [2]), ([], []), ([3, 4], [3, 4]), ([5], [5]), ([6], [6]), ([6], [6]), ([6], [6]), ([8, 9, 6], [6, 8, 9]), ([10, 6], [6, 10]), ([7, 11, 6, 6], [6, 7, 11]), ([6], [6]), ([6], [6]), ([13, 14, 12, 6], [6, 13, 14]), ([12, 15, 6], [6, 12, 15]), ([6, 16], [6, 16])])
def laws_FnProgKids.B17 : List Nat := [0, 0, 3, 7, 0, 31, 63, 127, 127, 127, 895, 1919, 4095, 127, 127, 32767, 65535, 131071]
theorem laws_FnProgKids.tab17 : rtab .any (opsOf Try.f6 17) = laws_FnProgKids.T17 := by kernel_rfl
theorem laws_FnProgKids.bits17 : waitsOk laws_FnProgKids.T17.2 laws_FnProgKids.B17 = true := by kernel_rfl
set_option maxHeartbeats 8000000 in
set_option maxRecDepth 100000 in
theorem laws_FnProgKids.calls (k : Nat) (A0 : Option Addr) (c0 : Nat) (l0 : List Int) (r : Bool) (w : World) (hr0 : Kd.C (Kd.int .u8) w A0 l0.length l0) (hc0 : l0.length ≤ c0) (h : laws_FnProgKids.f k l0 = some r) :
    Calls Try.prog 6 #[.slice A0 l0.length c0] w fun e w' => e = .returned (.bool r) ∧ Below w.heap.size w w' := by
  have hu36 := Try.underlying36
  have HR0 := Aside0.mk hr0
  have HC0 := Aside0.mk hc0
  clear hr0 hc0
  have HB := Aside0.mk (Below.refl w.heap.size w)
  have H : (if (l0.length : Int) > 1048576 then (some true) else ((spec_DrawProgOk.f k l0).bind fun bt273 => ((impl_ProgOk.f k bt273.1 bt273.2).bind fun t280 => ((spec_ProgOk.f k bt273.1 bt273.2).bind fun t281 => (if (t280 != t281) = true then (laws_FnProgKids.j0 k t280 true bt273.1 bt273.2) else (laws_FnProgKids.j0 k t280 (!t280) bt273.1 bt273.2)))))) = some r := h
  clear h
  by_cases c2 : (l0.length : Int) > 1048576
  · rw [if_pos c2] at H
    have c2b0 : decide (1048576 < (l0.length : Int)) = true := decide_eq_true c2
    have c2b1 : decide (1048576 < l0.length) = true := decide_eq_true (by omega)
    clear c2
    obtain rfl := Option.some.inj H
    go_enter Try.func6, Try.ntmps6
    go_wp2
    go_ret
    exact ⟨by first | rfl | (simp [errW_none, errW_some] <;> rfl) | (simp [*, errW_none, errW_some] <;> rfl), by repeat (first | (with_reducible first | exact HB.out | apply below_alloc | apply pw_below_drewN | apply below_drew1) | exact HB.out)⟩
  · rw [if_neg c2] at H
    have c2b0 : decide (1048576 < (l0.length : Int)) = false := decide_eq_false c2
    have c2b1 : decide (1048576 < l0.length) = false := decide_eq_false (by omega)
    clear c2
    replace H := Option.bind_eq_some_iff.mp H
    obtain ⟨⟨t273, t276⟩, A30, H⟩ := H
    replace H : ((impl_ProgOk.f k t273 t276).bind fun t280 => ((spec_ProgOk.f k t273 t276).bind fun t281 => (if (t280 != t281) = true then (laws_FnProgKids.j0 k t280 true t273 t276) else (laws_FnProgKids.j0 k t280 (!t280) t273 t276)))) = some r := H
    have A3 := Aside0.mk A30
    clear A30
    replace H := Option.bind_eq_some_iff.mp H
    obtain ⟨t280, A40, H⟩ := H
    replace H : ((spec_ProgOk.f k t273 t276).bind fun t281 => (if (t280 != t281) = true then (laws_FnProgKids.j0 k t280 true t273 t276) else (laws_FnProgKids.j0 k t280 (!t280) t273 t276))) = some r := H
    have A4 := Aside0.mk A40
    clear A40
    have HC5 := Aside0.mk H
    clear H
    go_enter Try.func6, Try.ntmps6
    go_upto_region 5 with (first | ((with_reducible refine gate_callee (f := 25) rfl ?_); refine goesL_ (some 13) rfl rfl Try.func25 (by kernel_rfl) rfl #[.slice A0 l0.length c0] rfl (by (try simp only [List.map_toArray, List.map_cons, List.map_nil]); first | done | rfl | (simp only [List.length_drop, List.length_take]; rfl)) ?_; (with_reducible refine (spec_DrawProgOk.calls k _ _ l0 t273 t276 _ ?side1 ?side2 A3.out).mono ?_); (case side1 => repeat (first | exact HR0.out | (with_reducible refine Kd.C_alloc ?_ _) | (with_reducible refine Kd.C_drewN ?_ _) | (with_reducible refine Kd.C_drew ?_))); (case side2 => exact HC0.out); rintro e w6 ⟨v274, v277, rfl, ho0, ho1, hb⟩; refine ⟨_, rfl, ?_⟩; have n0_ := Aside0.mk (Kd.R_lower ho0 (below_size (by repeat (first | (with_reducible first | exact HB.out | apply below_alloc | apply pw_below_drewN | apply below_drew1) | exact HB.out)))); have n1_ := Aside0.mk (Kd.R_lower ho1 (below_size (by repeat (first | (with_reducible first | exact HB.out | apply below_alloc | apply pw_below_drewN | apply below_drew1) | exact HB.out)))); have n2_ := Aside0.mk (below_step (by repeat (first | (with_reducible first | exact HB.out | apply below_alloc | apply pw_below_drewN | apply below_drew1) | exact HB.out)) hb); clear HB; have HO275 := n0_; have HO278 := n1_; have HB := n2_; clear n0_ n1_ n2_; (try clear hb); (try clear hb2); (try clear hk); (try clear hi); (try clear ho0); (try clear ho1)) | ((with_reducible refine gate_dst (N := 3) rfl ?_); refine box_event ?hg (N := 3) ?hd (cs := #[.slice none 0 0, .slice none 0 0]) (t := 36) ?hr ?_; (case hd => rfl); (case hg => rfl); (case hr => first | (go_simp; done) | (go_simp; rfl)); intro gb279 hg w7 hbox hb; have n0_ := Aside0.mk (Kd.R_below (by (with_reducible repeat (first | apply Kd.R_alloc | apply Kd.R_drewN | apply Kd.R_drew)); exact HO275.out) hb); have n1_ := Aside0.mk (Kd.R_below (by (with_reducible repeat (first | apply Kd.R_alloc | apply Kd.R_drewN | apply Kd.R_drew)); exact HO278.out) hb); have n2_ := Aside0.mk (below_step (by repeat (first | (with_reducible first | exact HB.out | apply below_alloc | apply pw_below_drewN | apply below_drew1) | exact HB.out)) hb); have n3_ := Aside0.mk (hbox); have n4_ := Aside0.mk ((by rw [hg]; exact (below_size (by repeat (first | (with_reducible first | exact HB.out | apply below_alloc | apply pw_below_drewN | apply below_drew1) | exact HB.out))) : w.heap.size ≤ gb279)); have n5_ := Aside0.mk ((by rw [hg]; exact (below_size (by repeat (first | (with_reducible first | exact HB.out | apply below_alloc | apply pw_below_drewN | apply below_drew1) | exact HB.out))) : w.heap.size ≤ gb279)); clear HO275; clear HO278; clear HB; have HO275 := n0_; have HO278 := n1_; have HB := n2_; have BK279 := n3_; have GW279 := n4_; have GE279 := n5_; clear n0_ n1_ n2_ n3_ n4_ n5_; clear hb hbox hg; obtain ⟨Ao8, co8, eo8⟩ := Kd.R_slice HO275.out; subst eo8; have hcz9_0 : w7.cell? ⟨gb279, 0, none⟩ = some (.slice none 0 0) := (blk_cell BK279.out 0).trans rfl; have hcz9_1 : w7.cell? ⟨gb279, 1, none⟩ = some (.slice none 0 0) := (blk_cell BK279.out 1).trans rfl; have hfz9_0 := blk_frozen BK279.out 0; have hfz9_1 := blk_frozen BK279.out 1; obtain ⟨Ao10, co10, eo10⟩ := Kd.R_slice HO278.out; subst eo10) | ((with_reducible refine gate_callee (f := 26) rfl ?_); refine goesL_ (some 15) rfl rfl Try.func26 (by kernel_rfl) rfl #[.agg #[.slice Ao8 t273.length co8, .slice Ao10 t276.length co10]] rfl (by (try simp only [List.map_toArray, List.map_cons, List.map_nil]); first | done | rfl | (simp only [List.length_drop, List.length_take]; rfl)) ?_; (with_reducible refine (impl_ProgOk.calls k _ _ t273 _ _ t276 t280 _ ?side1 ?side2 ?side3 ?side4 A4.out).mono ?_); (case side1 => refine (Kd.R_reads' (e := 3) (base := w.heap.size) (ok := fun k_ => True) (n := t273.length) (c := co8) ?_).2.2; exact (by (with_reducible repeat (first | apply Kd.R_alloc | apply Kd.R_drewN | apply Kd.R_drew)); exact (Kd.R_mono (Kd.R_far (p := ⟨gb279, 1, none⟩) (Kd.R_far (p := ⟨gb279, 0, none⟩) (Kd.R_types HO275.out BK279.out (by decide)) (fun _ hk => hk.2) (.slice Ao8 t273.length co8)) (fun _ hk => hk.2) (.slice Ao10 t276.length co10)) (fun _ h_ => h_.1)))); (case side2 => exact (Kd.R_reads' HO275.out).2.1); (case side3 => refine (Kd.R_reads' (e := 54) (base := w.heap.size) (ok := fun k_ => some k_ ≠ (.slice Ao8 t273.length co8 : Value).ownBlock) (n := t276.length) (c := co10) ?_).2.2; exact (by (with_reducible repeat (first | apply Kd.R_alloc | apply Kd.R_drewN | apply Kd.R_drew)); exact (Kd.R_mono (Kd.R_far (p := ⟨gb279, 1, none⟩) (Kd.R_far (p := ⟨gb279, 0, none⟩) (Kd.R_types HO278.out BK279.out (by decide)) (fun _ hk => hk.2) (.slice Ao8 t273.length co8)) (fun _ hk => hk.2) (.slice Ao10 t276.length co10)) (fun _ h_ => h_.1)))); (case side4 => exact (Kd.R_reads' HO278.out).2.1); rintro e w11 ⟨rfl, hb⟩; refine ⟨_, rfl, ?_⟩; have n0_ := Aside0.mk (Kd.R_below (by (with_reducible repeat (first | apply Kd.R_alloc | apply Kd.R_drewN | apply Kd.R_drew)); exact (Kd.R_mono (Kd.R_far (p := ⟨gb279, 1, none⟩) (Kd.R_far (p := ⟨gb279, 0, none⟩) (Kd.R_types HO275.out BK279.out (by decide)) (fun _ hk => hk.2) (.slice Ao8 t273.length co8)) (fun _ hk => hk.2) (.slice Ao10 t276.length co10)) (fun _ h_ => h_.1))) hb); have n1_ := Aside0.mk (Kd.R_below (by (with_reducible repeat (first | apply Kd.R_alloc | apply Kd.R_drewN | apply Kd.R_drew)); exact (Kd.R_mono (Kd.R_far (p := ⟨gb279, 1, none⟩) (Kd.R_far (p := ⟨gb279, 0, none⟩) (Kd.R_types HO278.out BK279.out (by decide)) (fun _ hk => hk.2) (.slice Ao8 t273.length co8)) (fun _ hk => hk.2) (.slice Ao10 t276.length co10)) (fun _ h_ => h_.1))) hb); have n2_ := Aside0.mk (blk_below (g := gb279) (o := .cells #[.slice Ao8 t273.length co8, .slice Ao10 t276.length co10] 36 (0, 0)) (by (with_reducible repeat (first | refine blk_drewN ?_ _ | refine blk_drew ?_ | refine blk_alloc ?_ _)); refine blk_put (cs := #[.slice Ao8 t273.length co8, .slice none 0 0]) ?_ 1 _ rfl; (with_reducible repeat (first | refine blk_drewN ?_ _ | refine blk_drew ?_ | refine blk_alloc ?_ _)); refine blk_put (cs := #[.slice none 0 0, .slice none 0 0]) ?_ 0 _ rfl; (with_reducible repeat (first | refine blk_drewN ?_ _ | refine blk_drew ?_ | refine blk_alloc ?_ _)); exact BK279.out) hb); have n3_ := Aside0.mk (below_step (by repeat (first | (with_reducible first | exact HB.out | apply below_alloc | apply pw_below_drewN | apply below_drew1 | refine below_set ?_ GE279.out) | exact HB.out)) hb); clear HO275; clear HO278; clear BK279; clear HB; have HO275 := n0_; have HO278 := n1_; have BK279 := n2_; have HB := n3_; clear n0_ n1_ n2_ n3_; (try clear hb); (try clear hb2); (try clear hk); (try clear hi)))
    (try simp only [Act.put, List.setIfInBounds_toArray, List.set_cons_zero, List.set_cons_succ])
    go_cut [23] (fun v23 wc => ∃ (kq : Nat) (x23_4 : Bool), v23 = .bool x23_4 ∧ Aside0 (laws_FnProgKids.j0 kq t280 x23_4 t273 t276 = some r) ∧ Aside0 (kq ≤ k) ∧ Aside0 (Kd.R (Kd.int .i64) 3 wc w.heap.size (fun _ => True) (.slice Ao8 t273.length co8) t273) ∧ Aside0 (Kd.R (Kd.slice 57 k57) 54 wc w.heap.size (fun k_ => some k_ ≠ ((.slice Ao8 t273.length co8) : Value).ownBlock) (.slice Ao10 t276.length co10) t276) ∧ Aside0 (wc.heap[gb279]? = some (.cells #[(.slice Ao8 t273.length co8), (.slice Ao10 t276.length co10)] 36 (0, 0))) ∧ Aside0 (Below w.heap.size w wc))
    case first =>
      have H := HC5.out
      clear HC5
      replace H := Option.bind_eq_some_iff.mp H
      obtain ⟨t281, A120, H⟩ := H
      replace H : (if (t280 != t281) = true then (laws_FnProgKids.j0 k t280 true t273 t276) else (laws_FnProgKids.j0 k t280 (!t280) t273 t276)) = some r := H
      have A12 := Aside0.mk A120
      clear A120
      by_cases c13 : (t280 != t281) = true
      · rw [if_pos c13] at H
        have c13b0 : (t280 != t281) = true := c13
        (try (have c13b1 : decide (t280 = t281) = false := by simpa using c13))
        (try (have c13b2 : (t280 == t281) = false := by simpa using c13))
        (try (have c13b3 : ¬ (t280 = t281) := by simpa using c13))
        clear c13
        (first | rw [c13b0] | (simp only [i64_w, i32_w]; rw [c13b0]) | skip)
        have H' := Aside0.mk H
        clear H
        have hcz14_0 : w11.cell? ⟨gb279, 0, none⟩ = some (.slice Ao8 t273.length co8) := (blk_cell BK279.out 0).trans rfl
        have hcz14_1 : w11.cell? ⟨gb279, 1, none⟩ = some (.slice Ao10 t276.length co10) := (blk_cell BK279.out 1).trans rfl
        have hfz14_0 := blk_frozen BK279.out 0
        have hfz14_1 := blk_frozen BK279.out 1
        go_wp2_with (first | ((with_reducible refine gate_callee (f := 27) rfl ?_); refine goesL_ (some 18) rfl rfl Try.func27 (by kernel_rfl) rfl #[.agg #[.slice Ao8 t273.length co8, .slice Ao10 t276.length co10]] rfl (by (try simp only [List.map_toArray, List.map_cons, List.map_nil]); first | done | rfl | (simp only [List.length_drop, List.length_take]; rfl)) ?_; (with_reducible refine (spec_ProgOk.calls k _ _ t273 _ _ t276 t281 _ ?side1 ?side2 ?side3 ?side4 A12.out).mono ?_); (case side1 => repeat (first | exact (Kd.R_reads' HO275.out).2.2 | (with_reducible refine Kd.C_alloc ?_ _) | (with_reducible refine Kd.C_drewN ?_ _) | (with_reducible refine Kd.C_drew ?_))); (case side2 => exact (Kd.R_reads' HO275.out).2.1); (case side3 => repeat (first | exact (Kd.R_reads' HO278.out).2.2 | (with_reducible refine Kd.C_alloc ?_ _) | (with_reducible refine Kd.C_drewN ?_ _) | (with_reducible refine Kd.C_drew ?_))); (case side4 => exact (Kd.R_reads' HO278.out).2.1); rintro e w15 ⟨rfl, hb⟩; refine ⟨_, rfl, ?_⟩; have n0_ := Aside0.mk (Kd.R_below (by (with_reducible repeat (first | apply Kd.R_alloc | apply Kd.R_drewN | apply Kd.R_drew)); exact HO275.out) hb); have n1_ := Aside0.mk (Kd.R_below (by (with_reducible repeat (first | apply Kd.R_alloc | apply Kd.R_drewN | apply Kd.R_drew)); exact HO278.out) hb); have n2_ := Aside0.mk (blk_below (g := gb279) (o := .cells #[.slice Ao8 t273.length co8, .slice Ao10 t276.length co10] 36 (0, 0)) (by (with_reducible repeat (first | refine blk_drewN ?_ _ | refine blk_drew ?_ | refine blk_alloc ?_ _)); exact BK279.out) hb); have n3_ := Aside0.mk (below_step (by repeat (first | (with_reducible first | exact HB.out | apply below_alloc | apply pw_below_drewN | apply below_drew1 | refine below_set ?_ GE279.out) | exact HB.out)) hb); clear HO275; clear HO278; clear BK279; clear HB; have HO275 := n0_; have HO278 := n1_; have BK279 := n2_; have HB := n3_; clear n0_ n1_ n2_ n3_; (try clear hb); (try clear hb2); (try clear hk); (try clear hi)))
        go_meet
        case rel => exact ⟨_, (true), (by first | rfl | (simp; done) | (simp [*]; done)), H', ⟨by first | omega | exact Nat.le_refl _⟩, ⟨by (with_reducible repeat (first | apply Kd.R_alloc | apply Kd.R_drewN | apply Kd.R_drew)); exact HO275.out⟩, ⟨by (with_reducible repeat (first | apply Kd.R_alloc | apply Kd.R_drewN | apply Kd.R_drew)); exact HO278.out⟩, ⟨by (with_reducible repeat (first | refine blk_drewN ?_ _ | refine blk_drew ?_ | refine blk_alloc ?_ _)); exact BK279.out⟩, ⟨by repeat (first | (with_reducible first | exact HB.out | apply below_alloc | apply pw_below_drewN | apply below_drew1 | refine below_set ?_ GE279.out) | exact HB.out)⟩⟩
      · rw [if_neg c13] at H
        have c13b0 : (t280 != t281) = false := by simpa using c13
        (try (have c13b1 : decide (t280 = t281) = true := by simpa using c13))
        (try (have c13b2 : (t280 == t281) = true := by simpa using c13))
        clear c13
        (first | rw [c13b0] | (simp only [i64_w, i32_w]; rw [c13b0]) | skip)
        have H' := Aside0.mk H
        clear H
        have hcz16_0 : w11.cell? ⟨gb279, 0, none⟩ = some (.slice Ao8 t273.length co8) := (blk_cell BK279.out 0).trans rfl
        have hcz16_1 : w11.cell? ⟨gb279, 1, none⟩ = some (.slice Ao10 t276.length co10) := (blk_cell BK279.out 1).trans rfl
        have hfz16_0 := blk_frozen BK279.out 0
        have hfz16_1 := blk_frozen BK279.out 1
        go_wp2_with (first | ((with_reducible refine gate_callee (f := 27) rfl ?_); refine goesL_ (some 18) rfl rfl Try.func27 (by kernel_rfl) rfl #[.agg #[.slice Ao8 t273.length co8, .slice Ao10 t276.length co10]] rfl (by (try simp only [List.map_toArray, List.map_cons, List.map_nil]); first | done | rfl | (simp only [List.length_drop, List.length_take]; rfl)) ?_; (with_reducible refine (spec_ProgOk.calls k _ _ t273 _ _ t276 t281 _ ?side1 ?side2 ?side3 ?side4 A12.out).mono ?_); (case side1 => repeat (first | exact (Kd.R_reads' HO275.out).2.2 | (with_reducible refine Kd.C_alloc ?_ _) | (with_reducible refine Kd.C_drewN ?_ _) | (with_reducible refine Kd.C_drew ?_))); (case side2 => exact (Kd.R_reads' HO275.out).2.1); (case side3 => repeat (first | exact (Kd.R_reads' HO278.out).2.2 | (with_reducible refine Kd.C_alloc ?_ _) | (with_reducible refine Kd.C_drewN ?_ _) | (with_reducible refine Kd.C_drew ?_))); (case side4 => exact (Kd.R_reads' HO278.out).2.1); rintro e w17 ⟨rfl, hb⟩; refine ⟨_, rfl, ?_⟩; have n0_ := Aside0.mk (Kd.R_below (by (with_reducible repeat (first | apply Kd.R_alloc | apply Kd.R_drewN | apply Kd.R_drew)); exact HO275.out) hb); have n1_ := Aside0.mk (Kd.R_below (by (with_reducible repeat (first | apply Kd.R_alloc | apply Kd.R_drewN | apply Kd.R_drew)); exact HO278.out) hb); have n2_ := Aside0.mk (blk_below (g := gb279) (o := .cells #[.slice Ao8 t273.length co8, .slice Ao10 t276.length co10] 36 (0, 0)) (by (with_reducible repeat (first | refine blk_drewN ?_ _ | refine blk_drew ?_ | refine blk_alloc ?_ _)); exact BK279.out) hb); have n3_ := Aside0.mk (below_step (by repeat (first | (with_reducible first | exact HB.out | apply below_alloc | apply pw_below_drewN | apply below_drew1 | refine below_set ?_ GE279.out) | exact HB.out)) hb); clear HO275; clear HO278; clear BK279; clear HB; have HO275 := n0_; have HO278 := n1_; have BK279 := n2_; have HB := n3_; clear n0_ n1_ n2_ n3_; (try clear hb); (try clear hb2); (try clear hk); (try clear hi)))
        go_meet
        case rel => exact ⟨_, (!t280), (by first | rfl | (simp; done) | (simp [*]; done)), H', ⟨by first | omega | exact Nat.le_refl _⟩, ⟨by (with_reducible repeat (first | apply Kd.R_alloc | apply Kd.R_drewN | apply Kd.R_drew)); exact HO275.out⟩, ⟨by (with_reducible repeat (first | apply Kd.R_alloc | apply Kd.R_drewN | apply Kd.R_drew)); exact HO278.out⟩, ⟨by (with_reducible repeat (first | refine blk_drewN ?_ _ | refine blk_drew ?_ | refine blk_alloc ?_ _)); exact BK279.out⟩, ⟨by repeat (first | (with_reducible first | exact HB.out | apply below_alloc | apply pw_below_drewN | apply below_drew1 | refine below_set ?_ GE279.out) | exact HB.out)⟩⟩
    case rest =>
      clear HC5
      try clear c1
      try clear c2
      try clear c2b0
      try clear c2b1
      try clear p2
      try clear c6
      try clear c13
      try clear c13b0
      try clear c13b1
      try clear c13b2
      try clear hcz14_0
      try clear hcz14_1
      try clear hcz16_0
      try clear hcz16_1
      try clear hcz9_0
      try clear hcz9_1
      try clear hfz14_0
      try clear hfz14_1
      try clear hfz16_0
      try clear hfz16_1
      try clear hfz9_0
      try clear hfz9_1
      obtain ⟨kq, x23_4, rfl, HA, HJ4, HO_280000, HO_280001, BK279, HB⟩ := hcut
      cases kq with
      | zero => exact absurd HA.out (by simp [laws_FnProgKids.j0])
      | succ kj4 =>
        have H := HA.out
        clear HA
        simp only [laws_FnProgKids.j0] at H
        by_cases c18 : x23_4 = true
        · subst c18
          have H1 : ((spec_ProgOk.f kj4 t273 t276).bind fun t282 => (some (t280 == t282))) = some r := by rw [if_pos rfl] at H; exact H
          clear H
          have H := H1
          clear H1
          replace H := Option.bind_eq_some_iff.mp H
          obtain ⟨t282, A190, H⟩ := H
          replace H : (some (t280 == t282)) = some r := H
          have A19 := Aside0.mk A190
          clear A190
          obtain rfl := Option.some.inj H
          have hcz20_0 : wc.cell? ⟨gb279, 0, none⟩ = some (.slice Ao8 t273.length co8) := (blk_cell BK279.out 0).trans rfl
          have hcz20_1 : wc.cell? ⟨gb279, 1, none⟩ = some (.slice Ao10 t276.length co10) := (blk_cell BK279.out 1).trans rfl
          have hfz20_0 := blk_frozen BK279.out 0
          have hfz20_1 := blk_frozen BK279.out 1
          go_wp2_with (first | ((with_reducible refine gate_callee (f := 27) rfl ?_); refine goesL_ (some 26) rfl rfl Try.func27 (by kernel_rfl) rfl #[.agg #[.slice Ao8 t273.length co8, .slice Ao10 t276.length co10]] rfl (by (try simp only [List.map_toArray, List.map_cons, List.map_nil]); first | done | rfl | (simp only [List.length_drop, List.length_take]; rfl)) ?_; (with_reducible refine (spec_ProgOk.calls kj4 _ _ t273 _ _ t276 t282 _ ?side1 ?side2 ?side3 ?side4 A19.out).mono ?_); (case side1 => repeat (first | exact (Kd.R_reads' HO_280000.out).2.2 | (with_reducible refine Kd.C_alloc ?_ _) | (with_reducible refine Kd.C_drewN ?_ _) | (with_reducible refine Kd.C_drew ?_))); (case side2 => exact (Kd.R_reads' HO_280000.out).2.1); (case side3 => repeat (first | exact (Kd.R_reads' HO_280001.out).2.2 | (with_reducible refine Kd.C_alloc ?_ _) | (with_reducible refine Kd.C_drewN ?_ _) | (with_reducible refine Kd.C_drew ?_))); (case side4 => exact (Kd.R_reads' HO_280001.out).2.1); rintro e w21 ⟨rfl, hb⟩; refine ⟨_, rfl, ?_⟩; have n0_ := Aside0.mk (Kd.R_below (by (with_reducible repeat (first | apply Kd.R_alloc | apply Kd.R_drewN | apply Kd.R_drew)); exact HO_280000.out) hb); have n1_ := Aside0.mk (Kd.R_below (by (with_reducible repeat (first | apply Kd.R_alloc | apply Kd.R_drewN | apply Kd.R_drew)); exact HO_280001.out) hb); have n2_ := Aside0.mk (blk_below (g := gb279) (o := .cells #[.slice Ao8 t273.length co8, .slice Ao10 t276.length co10] 36 (0, 0)) (by (with_reducible repeat (first | refine blk_drewN ?_ _ | refine blk_drew ?_ | refine blk_alloc ?_ _)); exact BK279.out) hb); have n3_ := Aside0.mk (below_step (by repeat (first | (with_reducible first | exact HB.out | apply below_alloc | apply pw_below_drewN | apply below_drew1 | refine below_set ?_ GE279.out) | exact HB.out)) hb); clear HO_280000; clear HO_280001; clear BK279; clear HB; have HO_280000 := n0_; have HO_280001 := n1_; have BK279 := n2_; have HB := n3_; clear n0_ n1_ n2_ n3_; (try clear hb); (try clear hb2); (try clear hk); (try clear hi)))
          go_ret
          exact ⟨by first | rfl | (simp [errW_none, errW_some] <;> rfl) | (simp [*, errW_none, errW_some] <;> rfl), by repeat (first | (with_reducible first | exact HB.out | apply below_alloc | apply pw_below_drewN | apply below_drew1 | refine below_set ?_ GE279.out) | exact HB.out)⟩
        · replace c18 := Bool.eq_false_iff.mpr c18
          subst c18
          have H1 : (laws_FnProgKids.l0 kj4 0 t273 t276) = some r := by rw [if_neg (show ¬ (false = true) by decide)] at H; exact H
          clear H
          have H := H1
          clear H1
          have H' := Aside0.mk H
          clear H
          go_wp2
          go_loopg [5] kj4 (fun kq v5 w' => ∃ (x5_2 : Int), v5 = .int .i64 x5_2 ∧ Aside0 (laws_FnProgKids.l0 kq x5_2 t273 t276 = some r) ∧ Aside0 (kq ≤ kj4) ∧ Aside0 (Kd.R (Kd.int .i64) 3 w' w.heap.size (fun _ => True) (.slice Ao8 t273.length co8) t273) ∧ Aside0 (Kd.R (Kd.slice 57 k57) 54 w' w.heap.size (fun k_ => some k_ ≠ ((.slice Ao8 t273.length co8) : Value).ownBlock) (.slice Ao10 t276.length co10) t276) ∧ Aside0 (w'.heap[gb279]? = some (.cells #[(.slice Ao8 t273.length co8), (.slice Ao10 t276.length co10)] 36 (0, 0))) ∧ Aside0 (Below w.heap.size w w'))
          case atStart => exact ⟨(0), (by first | rfl | (simp; done) | (simp [*]; done)), H', ⟨Nat.le_refl _⟩, ⟨by (with_reducible repeat (first | apply Kd.R_alloc | apply Kd.R_drewN | apply Kd.R_drew)); exact HO_280000.out⟩, ⟨by (with_reducible repeat (first | apply Kd.R_alloc | apply Kd.R_drewN | apply Kd.R_drew)); exact HO_280001.out⟩, ⟨by (with_reducible repeat (first | refine blk_drewN ?_ _ | refine blk_drew ?_ | refine blk_alloc ?_ _)); exact BK279.out⟩, ⟨by repeat (first | (with_reducible first | exact HB.out | apply below_alloc | apply pw_below_drewN | apply below_drew1 | refine below_set ?_ GE279.out) | exact HB.out)⟩⟩
          case round =>
            clear H'
            try clear c1
            try clear c2
            try clear c2b0
            try clear c2b1
            try clear p2
            try clear c6
            try clear c13
            try clear c13b0
            try clear c13b1
            try clear c13b2
            try clear c18
            try clear hcz14_0
            try clear hcz14_1
            try clear hcz16_0
            try clear hcz16_1
            try clear hcz20_0
            try clear hcz20_1
            try clear hcz9_0
            try clear hcz9_1
            try clear hfz14_0
            try clear hfz14_1
            try clear hfz16_0
            try clear hfz16_1
            try clear hfz20_0
            try clear hfz20_1
            try clear hfz9_0
            try clear hfz9_1
            try clear p2
            obtain ⟨x5_2, rfl, HA, HK2, HO_280000, HO_280001, BK279, HB⟩ := hrel
            cases gk with
            | zero => exact absurd HA.out (by simp [laws_FnProgKids.l0])
            | succ k2 =>
              have H := HA.out
              clear HA
              simp only [laws_FnProgKids.l0] at H
              by_cases c22 : x5_2 < (t276.length : Int)
              · rw [if_pos c22] at H
                have c22b0 : decide (x5_2 < (t276.length : Int)) = true := decide_eq_true c22
                clear c22
                have H' := Aside0.mk H
                clear H
                have hcz23_0 : wr.cell? ⟨gb279, 0, none⟩ = some (.slice Ao8 t273.length co8) := (blk_cell BK279.out 0).trans rfl
                have hcz23_1 : wr.cell? ⟨gb279, 1, none⟩ = some (.slice Ao10 t276.length co10) := (blk_cell BK279.out 1).trans rfl
                have hfz23_0 := blk_frozen BK279.out 0
                have hfz23_1 := blk_frozen BK279.out 1
                go_wp2
                go_loopg [6] k2 (fun kq v6 w' => ∃ (x6_3 : Int), v6 = .int .i64 x6_3 ∧ Aside0 (laws_FnProgKids.l1 kq x5_2 x6_3 t273 t276 = some r) ∧ Aside0 (kq ≤ k2) ∧ Aside0 (Kd.R (Kd.int .i64) 3 w' w.heap.size (fun _ => True) (.slice Ao8 t273.length co8) t273) ∧ Aside0 (Kd.R (Kd.slice 57 k57) 54 w' w.heap.size (fun k_ => some k_ ≠ ((.slice Ao8 t273.length co8) : Value).ownBlock) (.slice Ao10 t276.length co10) t276) ∧ Aside0 (w'.heap[gb279]? = some (.cells #[(.slice Ao8 t273.length co8), (.slice Ao10 t276.length co10)] 36 (0, 0))) ∧ Aside0 (Below w.heap.size w w'))
                case atStart => exact ⟨(0), (by first | rfl | (simp; done) | (simp [*]; done)), H', ⟨Nat.le_refl _⟩, ⟨by (with_reducible repeat (first | apply Kd.R_alloc | apply Kd.R_drewN | apply Kd.R_drew)); exact HO_280000.out⟩, ⟨by (with_reducible repeat (first | apply Kd.R_alloc | apply Kd.R_drewN | apply Kd.R_drew)); exact HO_280001.out⟩, ⟨by (with_reducible repeat (first | refine blk_drewN ?_ _ | refine blk_drew ?_ | refine blk_alloc ?_ _)); exact BK279.out⟩, ⟨by repeat (first | (with_reducible first | exact HB.out | apply below_alloc | apply pw_below_drewN | apply below_drew1 | refine below_set ?_ GE279.out) | exact HB.out)⟩⟩
                case round =>
                  clear H'
                  try clear c1
                  try clear c2
                  try clear c2b0
                  try clear c2b1
                  try clear p2
                  try clear c6
                  try clear c13
                  try clear c13b0
                  try clear c13b1
                  try clear c13b2
                  try clear c18
                  try clear c22
                  try clear c22b0
                  try clear hcz14_0
                  try clear hcz14_1
                  try clear hcz16_0
                  try clear hcz16_1
                  try clear hcz20_0
                  try clear hcz20_1
                  try clear hcz23_0
                  try clear hcz23_1
                  try clear hcz9_0
                  try clear hcz9_1
                  try clear hfz14_0
                  try clear hfz14_1
                  try clear hfz16_0
                  try clear hfz16_1
                  try clear hfz20_0
                  try clear hfz20_1
                  try clear hfz23_0
                  try clear hfz23_1
                  try clear hfz9_0
                  try clear hfz9_1
                  try clear p2
                  obtain ⟨x6_3, rfl, HA, HK3, HO_280000, HO_280001, BK279, HB⟩ := hrel
                  cases gk with
                  | zero => exact absurd HA.out (by simp [laws_FnProgKids.l1])
                  | succ k3 =>
                    have H := HA.out
                    clear HA
                    simp only [laws_FnProgKids.l1] at H
                    by_cases c24 : 0 ≤ x5_2
                    · rw [if_pos c24] at H
                      have c24b0 : decide (0 ≤ x5_2) = true := decide_eq_true c24
                      clear c24
                      by_cases c25 : x5_2 < (t276.length : Int)
                      · rw [if_pos c25] at H
                        have c25b0 : decide (x5_2 < (t276.length : Int)) = true := decide_eq_true c25
                        clear c25
                        by_cases c26 : x6_3 < ((rd_L6 t276 x5_2).length : Int)
                        · rw [if_pos c26] at H
                          have c26b0 : decide (x6_3 < ((rd_L6 t276 x5_2).length : Int)) = true := decide_eq_true c26
                          clear c26
                          by_cases c27 : 0 ≤ x6_3
                          · rw [if_pos c27] at H
                            have c27b0 : decide (0 ≤ x6_3) = true := decide_eq_true c27
                            clear c27
                            have H' := Aside0.mk H
                            clear H
                            have hcz28_0 : wr.cell? ⟨gb279, 0, none⟩ = some (.slice Ao8 t273.length co8) := (blk_cell BK279.out 0).trans rfl
                            have hcz28_1 : wr.cell? ⟨gb279, 1, none⟩ = some (.slice Ao10 t276.length co10) := (blk_cell BK279.out 1).trans rfl
                            have hfz28_0 := blk_frozen BK279.out 0
                            have hfz28_1 := blk_frozen BK279.out 1
                            have p283 : 0 ≤ (x5_2 : Int) := of_decide_eq_true (by first | (with_reducible assumption) | assumption)
                            have q283 : x5_2 < (t276.length : Int) := of_decide_eq_true (by first | (with_reducible assumption) | assumption)
                            obtain ⟨ad283, A283_0, c283_0, e283, hx283_0, hl283_0, hi283_0⟩ := at_L6 (Kd.R_reads' HO_280001.out).2.2 x5_2 p283 q283
                            cases e283
                            obtain ⟨ce283, hce283, hMe283, hcc283⟩ := Kd.R_get HO_280001.out [] x5_2 p283 (by first | exact q283 | exact of_decide_eq_true (by first | (with_reducible assumption) | assumption) | (have e_ := (Kd.R_reads' HO_280001.out).1; omega))
                            obtain ⟨ve283_0, rfl, ge283_0⟩ := hMe283
                            have hv283_0 := hcc283 0 _ rfl
                            rw [Nat.add_zero, show ((Kd.slice 57 k57)).sz = 1 from rfl, Nat.mul_one] at hv283_0
                            replace hv283_0 := Option.some.inj (hv283_0.symm.trans hx283_0)
                            rw [hv283_0] at ge283_0
                            have HL283_0 := Aside0.mk (show Kd.R k57 57 _ _ _ _ (rd_L6 t276 x5_2) from ge283_0)
                            clear hv283_0 ge283_0
                            clear hcc283 hce283
                            have HR283_0 := Aside0.mk hi283_0
                            have HC283_0 := Aside0.mk hl283_0
                            clear hi283_0 hl283_0
                            replace p283 := eq_true p283
                            replace q283 := eq_true q283
                            have p284 : 0 ≤ (x5_2 : Int) := of_decide_eq_true (by first | (with_reducible assumption) | assumption)
                            have q284 : x5_2 < (t276.length : Int) := of_decide_eq_true (by first | (with_reducible assumption) | assumption)
                            obtain ⟨ad284, A284_0, c284_0, e284, hx284_0, hl284_0, hi284_0⟩ := at_L6 (Kd.R_reads' HO_280001.out).2.2 x5_2 p284 q284
                            obtain rfl : ad283 = ad284 := (by injection e284)
                            obtain ⟨ce284, hce284, hMe284, hcc284⟩ := Kd.R_get HO_280001.out [] x5_2 p284 (by first | exact q284 | exact of_decide_eq_true (by first | (with_reducible assumption) | assumption) | (have e_ := (Kd.R_reads' HO_280001.out).1; omega))
                            obtain ⟨ve284_0, rfl, ge284_0⟩ := hMe284
                            have hv284_0 := hcc284 0 _ rfl
                            rw [Nat.add_zero, show ((Kd.slice 57 k57)).sz = 1 from rfl, Nat.mul_one] at hv284_0
                            replace hv284_0 := Option.some.inj (hv284_0.symm.trans hx284_0)
                            rw [hv284_0] at ge284_0
                            have HL284_0 := Aside0.mk (show Kd.R k57 57 _ _ _ _ (rd_L6 t276 x5_2) from ge284_0)
                            clear hv284_0 ge284_0
                            clear hcc284 hce284
                            have HR284_0 := Aside0.mk hi284_0
                            have HC284_0 := Aside0.mk hl284_0
                            clear hi284_0 hl284_0
                            replace p284 := eq_true p284
                            replace q284 := eq_true q284
                            have ea_ := Option.some.inj (hx283_0.symm.trans hx284_0)
                            injection ea_ with ea_ en_ ec_
                            subst ea_
                            subst ec_
                            clear en_
                            have p285 : 0 ≤ (x6_3 : Int) := of_decide_eq_true (by first | (with_reducible assumption) | assumption)
                            have q285 : x6_3 < ((rd_L6 t276 x5_2).length : Int) := of_decide_eq_true (by first | (with_reducible assumption) | assumption)
                            obtain ⟨ad285, A285_1, c285_1, A285_2, c285_2, e285, hx285_0, hx285_1, hx285_2, hx285_3, hl285_1, hi285_1, hl285_2, hi285_2⟩ := at_T57 (by repeat (first | (with_reducible exact HR284_0.out) | (with_reducible refine Kd.C_alloc ?_ _) | (with_reducible refine Kd.C_drewN ?_ _) | (with_reducible refine Kd.C_drew ?_) | exact HR284_0.out)) x6_3 p285 q285
                            cases e285
                            obtain ⟨ce285, hce285, hMe285, hcc285⟩ := Kd.R_get HL284_0.out z57 x6_3 p285 (by first | exact q285 | exact of_decide_eq_true (by first | (with_reducible assumption) | assumption) | (have e_ := (Kd.R_reads' HL284_0.out).1; omega))
                            obtain ⟨ve285_1, ve285_2, rfl, ge285_1, ge285_2⟩ := k57_openM hMe285
                            have hv285_1 := hcc285 1 _ rfl
                            rw [add_field _ _ 1 (by omega)] at hv285_1
                            replace hv285_1 := Option.some.inj (hv285_1.symm.trans hx285_1)
                            rw [hv285_1] at ge285_1
                            have HL285_1 := Aside0.mk (show Kd.R k122 122 _ _ _ _ ((rd_T57 (rd_L6 t276 x5_2) x6_3).f1) from ge285_1)
                            clear hv285_1 ge285_1
                            have hv285_2 := hcc285 2 _ rfl
                            rw [add_field _ _ 2 (by omega)] at hv285_2
                            replace hv285_2 := Option.some.inj (hv285_2.symm.trans hx285_2)
                            rw [hv285_2] at ge285_2
                            have HL285_2 := Aside0.mk (show Kd.R (Kd.int .i64) 3 _ _ _ _ ((rd_T57 (rd_L6 t276 x5_2) x6_3).f2) from ge285_2)
                            clear hv285_2 ge285_2
                            clear hcc285 hce285
                            have HR285_1 := Aside0.mk hi285_1
                            have HC285_1 := Aside0.mk hl285_1
                            clear hi285_1 hl285_1
                            have HR285_2 := Aside0.mk hi285_2
                            have HC285_2 := Aside0.mk hl285_2
                            clear hi285_2 hl285_2
                            replace p285 := eq_true p285
                            replace q285 := eq_true q285
                            go_wp2
                            go_loopg [8] k3 (fun kq v8 w' => ∃ (x8_4 : Int), v8 = .int .i64 x8_4 ∧ Aside0 (laws_FnProgKids.l2 kq x5_2 x6_3 ((rd_T57 (rd_L6 t276 x5_2) x6_3).f2) x8_4 t273 t276 = some r) ∧ Aside0 (kq ≤ k3) ∧ Aside0 (Kd.R (Kd.int .i64) 3 w' w.heap.size (fun _ => True) (.slice Ao8 t273.length co8) t273) ∧ Aside0 (Kd.R (Kd.slice 57 k57) 54 w' w.heap.size (fun k_ => some k_ ≠ ((.slice Ao8 t273.length co8) : Value).ownBlock) (.slice (some ad283) t276.length co10) t276) ∧ Aside0 (w'.heap[gb279]? = some (.cells #[(.slice Ao8 t273.length co8), (.slice (some ad283) t276.length co10)] 36 (0, 0))) ∧ Aside0 (Kd.C k57 w' (some ad285) (rd_L6 t276 x5_2).length (rd_L6 t276 x5_2)) ∧ Aside0 (Kd.C k57 w' (some ad285) (rd_L6 t276 x5_2).length (rd_L6 t276 x5_2)) ∧ Aside0 (Kd.C k122 w' A285_1 ((rd_T57 (rd_L6 t276 x5_2) x6_3).f1).length ((rd_T57 (rd_L6 t276 x5_2) x6_3).f1)) ∧ Aside0 (Kd.C (Kd.int .i64) w' A285_2 ((rd_T57 (rd_L6 t276 x5_2) x6_3).f2).length ((rd_T57 (rd_L6 t276 x5_2) x6_3).f2)) ∧ Aside0 (Below w.heap.size w w'))
                            case atStart => exact ⟨(0), (by first | rfl | (simp; done) | (simp [*]; done)), H', ⟨Nat.le_refl _⟩, ⟨by (with_reducible repeat (first | apply Kd.R_alloc | apply Kd.R_drewN | apply Kd.R_drew)); exact HO_280000.out⟩, ⟨by (with_reducible repeat (first | apply Kd.R_alloc | apply Kd.R_drewN | apply Kd.R_drew)); exact HO_280001.out⟩, ⟨by (with_reducible repeat (first | refine blk_drewN ?_ _ | refine blk_drew ?_ | refine blk_alloc ?_ _)); exact BK279.out⟩, ⟨by repeat (first | (with_reducible exact HR283_0.out) | (with_reducible refine Kd.C_alloc ?_ _) | (with_reducible refine Kd.C_drewN ?_ _) | (with_reducible refine Kd.C_drew ?_) | exact HR283_0.out)⟩, ⟨by repeat (first | (with_reducible exact HR284_0.out) | (with_reducible refine Kd.C_alloc ?_ _) | (with_reducible refine Kd.C_drewN ?_ _) | (with_reducible refine Kd.C_drew ?_) | exact HR284_0.out)⟩, ⟨by repeat (first | (with_reducible exact HR285_1.out) | (with_reducible refine Kd.C_alloc ?_ _) | (with_reducible refine Kd.C_drewN ?_ _) | (with_reducible refine Kd.C_drew ?_) | exact HR285_1.out)⟩, ⟨by repeat (first | (with_reducible exact HR285_2.out) | (with_reducible refine Kd.C_alloc ?_ _) | (with_reducible refine Kd.C_drewN ?_ _) | (with_reducible refine Kd.C_drew ?_) | exact HR285_2.out)⟩, ⟨by repeat (first | (with_reducible first | exact HB.out | apply below_alloc | apply pw_below_drewN | apply below_drew1 | refine below_set ?_ GE279.out) | exact HB.out)⟩⟩
                            case round =>
                              clear H'
                              try clear c1
                              try clear c2
                              try clear c2b0
                              try clear c2b1
                              try clear p2
                              try clear q2
                              try clear hx2
                              try clear c6
                              try clear c13
                              try clear c13b0
                              try clear c13b1
                              try clear c13b2
                              try clear c18
                              try clear c22
                              try clear c22b0
                              try clear c24
                              try clear c24b0
                              try clear c25
                              try clear c25b0
                              try clear c26
                              try clear c26b0
                              try clear c27
                              try clear c27b0
                              try clear c28
                              try clear p28
                              try clear q28
                              try clear hx28
                              try clear hcz14_0
                              try clear hcz14_1
                              try clear hcz16_0
                              try clear hcz16_1
                              try clear hcz20_0
                              try clear hcz20_1
                              try clear hcz23_0
                              try clear hcz23_1
                              try clear hcz28_0
                              try clear hcz28_1
                              try clear hcz9_0
                              try clear hcz9_1
                              try clear hfz14_0
                              try clear hfz14_1
                              try clear hfz16_0
                              try clear hfz16_1
                              try clear hfz20_0
                              try clear hfz20_1
                              try clear hfz23_0
                              try clear hfz23_1
                              try clear hfz28_0
                              try clear hfz28_1
                              try clear hfz9_0
                              try clear hfz9_1
                              try clear hx283_0
                              try clear hx284_0
                              try clear hx285_0
                              try clear hx285_1
                              try clear hx285_2
                              try clear hx285_3
                              try clear p2
                              try clear p283
                              try clear p284
                              try clear p285
                              try clear q283
                              try clear q284
                              try clear q285
                              obtain ⟨x8_4, rfl, HA, HK4, HO_280000, HO_280001, BK279, HR283_0, HR284_0, HR285_1, HR285_2, HB⟩ := hrel
                              cases gk with
                              | zero => exact absurd HA.out (by simp [laws_FnProgKids.l2])
                              | succ k4 =>
                                have H := HA.out
                                clear HA
                                simp only [laws_FnProgKids.l2] at H
                                by_cases c29 : x8_4 < (((rd_T57 (rd_L6 t276 x5_2) x6_3).f2).length : Int)
                                · rw [if_pos c29] at H
                                  have c29b0 : decide (x8_4 < (((rd_T57 (rd_L6 t276 x5_2) x6_3).f2).length : Int)) = true := decide_eq_true c29
                                  clear c29
                                  by_cases c30 : 0 ≤ x8_4
                                  · rw [if_pos c30] at H
                                    have c30b0 : decide (0 ≤ x8_4) = true := decide_eq_true c30
                                    clear c30
                                    by_cases c31 : (rd ((rd_T57 (rd_L6 t276 x5_2) x6_3).f2) x8_4) ≤ x5_2
                                    · rw [if_pos c31] at H
                                      have c31b0 : decide ((rd ((rd_T57 (rd_L6 t276 x5_2) x6_3).f2) x8_4) ≤ x5_2) = true := decide_eq_true c31
                                      clear c31
                                      obtain rfl := Option.some.inj H
                                      try go_wp2
                                      have n0_ := Aside0.mk (Kd.R_drew HO_280000.out)
                                      have n1_ := Aside0.mk (Kd.R_drew HO_280001.out)
                                      have n2_ := Aside0.mk (blk_drew BK279.out)
                                      have n3_ := Aside0.mk (Kd.C_drew HR283_0.out)
                                      have n4_ := Aside0.mk (Kd.C_drew HR284_0.out)
                                      have n5_ := Aside0.mk (Kd.C_drew HR285_1.out)
                                      have n6_ := Aside0.mk (Kd.C_drew HR285_2.out)
                                      have n7_ := Aside0.mk (below_drew1 HB.out)
                                      clear HO_280000
                                      clear HO_280001
                                      clear BK279
                                      clear HR283_0
                                      clear HR284_0
                                      clear HR285_1
                                      clear HR285_2
                                      clear HB
                                      have HO_280000 := n0_
                                      have HO_280001 := n1_
                                      have BK279 := n2_
                                      have HR283_0 := n3_
                                      have HR284_0 := n4_
                                      have HR285_1 := n5_
                                      have HR285_2 := n6_
                                      have HB := n7_
                                      clear n0_ n1_ n2_ n3_ n4_ n5_ n6_ n7_
                                      have p286 : 0 ≤ (x8_4 : Int) := of_decide_eq_true (by first | (with_reducible assumption) | assumption)
                                      have q286 : x8_4 < (((rd_T57 (rd_L6 t276 x5_2) x6_3).f2).length : Int) := of_decide_eq_true (by first | (with_reducible assumption) | assumption)
                                      obtain ⟨ad286, e286, hx286_0⟩ := Kd.at_int HR285_2.out x8_4 p286 q286
                                      have hw286_0 := hx286_0
                                      cases e286
                                      replace p286 := eq_true p286
                                      replace q286 := eq_true q286
                                      refine start_ (n := 18) (S := fun w' => w'.cell? (ad286.add (x8_4).toNat) = some (.int .i64 (rd ((rd_T57 (rd_L6 t276 x5_2) x6_3).f2) x8_4))) (ds := []) #[false, false, false, false, false, false, false, false, false, false, false, false, false, false, false, false, false, false] (by kernel_rfl) rfl rfl ((by obtain ⟨_, e_, h_⟩ := Kd.at_int HR285_2.out x8_4 (of_eq_true p286) (of_eq_true q286); cases e_; exact h_)) (fun hHeld => ?_); refine with_tabW laws_FnProgKids.tab17 laws_FnProgKids.bits17 (fun HT_ HW_ => ?_)
                                      generalize wr.drew = w32 at HO_280000 HO_280001 BK279 HR283_0 HR284_0 HR285_1 HR285_2 HB hx286_0 hHeld ⊢
                                      refine pure_ (i := 0) (N := some 60) (v := ?_) (a' := ?_) #[true, false, false, false, false, false, false, false, false, false, false, false, false, false, false, false, false, false] rfl rfl (any_of HT_.out (by kernel_rfl)) (fun _ _ _ h => h) (Or.inl ⟨by rfl, ?_⟩) ?_ ?_
                                      rotate_left
                                      · intro w'
                                        go_simp
                                        with_reducible rfl
                                      rotate_left
                                      · simp only [Act.put, List.setIfInBounds_toArray, List.set_cons_zero, List.set_cons_succ, i64_w, i32_w]
                                        rfl
                                      refine pure_ (i := 1) (N := some 61) (v := ?_) (a' := ?_) #[true, true, false, false, false, false, false, false, false, false, false, false, false, false, false, false, false, false] rfl rfl (any_of HT_.out (by kernel_rfl)) (fun _ _ _ h => h) (Or.inl ⟨by rfl, ?_⟩) ?_ ?_
                                      rotate_left
                                      · intro w'
                                        go_simp
                                        with_reducible rfl
                                      rotate_left
                                      · simp only [Act.put, List.setIfInBounds_toArray, List.set_cons_zero, List.set_cons_succ, i64_w, i32_w]
                                        rfl
                                      refine pure_ (i := 2) (N := some 62) (v := ?_) (a' := ?_) #[true, true, true, false, false, false, false, false, false, false, false, false, false, false, false, false, false, false] rfl rfl (any_of HT_.out (by kernel_rfl)) (fun _ _ _ h => h) (Or.inl ⟨by rfl, ?_⟩) ?_ ?_
                                      rotate_left
                                      · intro w'
                                        go_simp
                                        with_reducible rfl
                                      rotate_left
                                      · simp only [Act.put, List.setIfInBounds_toArray, List.set_cons_zero, List.set_cons_succ, i64_w, i32_w]
                                        rfl
                                      refine pure_ (i := 4) (N := some 64) (v := ?_) (a' := ?_) #[true, true, true, false, true, false, false, false, false, false, false, false, false, false, false, false, false, false] rfl rfl (any_of HT_.out (by kernel_rfl)) (fun _ _ _ h => h) (Or.inl ⟨by rfl, ?_⟩) ?_ ?_
                                      rotate_left
                                      · intro w'
                                        go_simp
                                        with_reducible rfl
                                      rotate_left
                                      · simp only [Act.put, List.setIfInBounds_toArray, List.set_cons_zero, List.set_cons_succ, i64_w, i32_w]
                                        rfl
                                      refine take_ (i := 3) (N := some 63) (v := ?_) (a' := ?_) #[true, true, true, true, true, false, false, false, false, false, false, false, false, false, false, false, false, false] rfl rfl (take_ofW HT_.out HW_.out (by kernel_rfl)) (fun _ _ _ h => h) (Or.inl ⟨by rfl, ?_⟩) hHeld ?_ ?_
                                      rotate_left
                                      · intro w' s0
                                        go_simp
                                        with_reducible rfl
                                      rotate_left
                                      · simp only [Act.put, List.setIfInBounds_toArray, List.set_cons_zero, List.set_cons_succ, i64_w, i32_w]
                                        rfl
                                      refine pure_ (i := 5) (N := some 65) (v := ?_) (a' := ?_) #[true, true, true, true, true, true, false, false, false, false, false, false, false, false, false, false, false, false] rfl rfl (any_of HT_.out (by kernel_rfl)) (fun _ _ _ h => h) (Or.inl ⟨by rfl, ?_⟩) ?_ ?_
                                      rotate_left
                                      · intro w'
                                        go_simp
                                        with_reducible rfl
                                      rotate_left
                                      · simp only [Act.put, List.setIfInBounds_toArray, List.set_cons_zero, List.set_cons_succ, i64_w, i32_w]
                                        rfl
                                      refine pure_ (i := 6) (N := some 66) (v := ?_) (a' := ?_) #[true, true, true, true, true, true, true, false, false, false, false, false, false, false, false, false, false, false] rfl rfl (any_of HT_.out (by kernel_rfl)) (fun _ _ _ h => h) (Or.inl ⟨by rfl, ?_⟩) ?_ ?_
                                      rotate_left
                                      · intro w'
                                        go_simp
                                        with_reducible rfl
                                      rotate_left
                                      · simp only [Act.put, List.setIfInBounds_toArray, List.set_cons_zero, List.set_cons_succ, i64_w, i32_w]
                                        rfl
                                      refine pure_ (i := 7) (N := some 67) (v := undef) (a' := ?_) #[true, true, true, true, true, true, true, true, false, false, false, false, false, false, false, false, false, false] rfl rfl (any_of HT_.out (by kernel_rfl)) (fun _ _ _ h => h) (Or.inr ⟨by rfl, rfl⟩) ?_ ?_
                                      rotate_left
                                      · simp only [Act.put, List.setIfInBounds_toArray, List.set_cons_zero, List.set_cons_succ, i64_w, i32_w]
                                        rfl
                                      refine pure_ (i := 8) (N := some 68) (v := undef) (a' := ?_) #[true, true, true, true, true, true, true, true, true, false, false, false, false, false, false, false, false, false] rfl rfl (any_of HT_.out (by kernel_rfl)) (fun _ _ _ h => h) (Or.inr ⟨by rfl, rfl⟩) ?_ ?_
                                      rotate_left
                                      · simp only [Act.put, List.setIfInBounds_toArray, List.set_cons_zero, List.set_cons_succ, i64_w, i32_w]
                                        rfl
                                      refine pure_ (i := 9) (N := some 69) (v := undef) (a' := ?_) #[true, true, true, true, true, true, true, true, true, true, false, false, false, false, false, false, false, false] rfl rfl (any_of HT_.out (by kernel_rfl)) (fun _ _ _ h => h) (Or.inr ⟨by rfl, rfl⟩) ?_ ?_
                                      rotate_left
                                      · simp only [Act.put, List.setIfInBounds_toArray, List.set_cons_zero, List.set_cons_succ, i64_w, i32_w]
                                        rfl
                                      refine pure_ (i := 10) (N := some 70) (v := undef) (a' := ?_) #[true, true, true, true, true, true, true, true, true, true, true, false, false, false, false, false, false, false] rfl rfl (any_of HT_.out (by kernel_rfl)) (fun _ _ _ h => h) (Or.inr ⟨by rfl, rfl⟩) ?_ ?_
                                      rotate_left
                                      · simp only [Act.put, List.setIfInBounds_toArray, List.set_cons_zero, List.set_cons_succ, i64_w, i32_w]
                                        rfl
                                      refine pure_ (i := 11) (N := some 71) (v := undef) (a' := ?_) #[true, true, true, true, true, true, true, true, true, true, true, true, false, false, false, false, false, false] rfl rfl (any_of HT_.out (by kernel_rfl)) (fun _ _ _ h => h) (Or.inr ⟨by rfl, rfl⟩) ?_ ?_
                                      rotate_left
                                      · simp only [Act.put, List.setIfInBounds_toArray, List.set_cons_zero, List.set_cons_succ, i64_w, i32_w]
                                        rfl
                                      refine pure_ (i := 12) (N := some 72) (v := undef) (a' := ?_) #[true, true, true, true, true, true, true, true, true, true, true, true, true, false, false, false, false, false] rfl rfl (any_of HT_.out (by kernel_rfl)) (fun _ _ _ h => h) (Or.inr ⟨by rfl, rfl⟩) ?_ ?_
                                      rotate_left
                                      · simp only [Act.put, List.setIfInBounds_toArray, List.set_cons_zero, List.set_cons_succ, i64_w, i32_w]
                                        rfl
                                      refine pure_ (i := 13) (N := some 73) (v := undef) (a' := ?_) #[true, true, true, true, true, true, true, true, true, true, true, true, true, true, false, false, false, false] rfl rfl (any_of HT_.out (by kernel_rfl)) (fun _ _ _ h => h) (Or.inr ⟨by rfl, rfl⟩) ?_ ?_
                                      rotate_left
                                      · simp only [Act.put, List.setIfInBounds_toArray, List.set_cons_zero, List.set_cons_succ, i64_w, i32_w]
                                        rfl
                                      refine pure_ (i := 14) (N := some 74) (v := undef) (a' := ?_) #[true, true, true, true, true, true, true, true, true, true, true, true, true, true, true, false, false, false] rfl rfl (any_of HT_.out (by kernel_rfl)) (fun _ _ _ h => h) (Or.inr ⟨by rfl, rfl⟩) ?_ ?_
                                      rotate_left
                                      · simp only [Act.put, List.setIfInBounds_toArray, List.set_cons_zero, List.set_cons_succ, i64_w, i32_w]
                                        rfl
                                      refine pure_ (i := 15) (N := some 75) (v := undef) (a' := ?_) #[true, true, true, true, true, true, true, true, true, true, true, true, true, true, true, true, false, false] rfl rfl (any_of HT_.out (by kernel_rfl)) (fun _ _ _ h => h) (Or.inr ⟨by rfl, rfl⟩) ?_ ?_
                                      rotate_left
                                      · simp only [Act.put, List.setIfInBounds_toArray, List.set_cons_zero, List.set_cons_succ, i64_w, i32_w]
                                        rfl
                                      refine pure_ (i := 16) (N := some 76) (v := undef) (a' := ?_) #[true, true, true, true, true, true, true, true, true, true, true, true, true, true, true, true, true, false] rfl rfl (any_of HT_.out (by kernel_rfl)) (fun _ _ _ h => h) (Or.inr ⟨by rfl, rfl⟩) ?_ ?_
                                      rotate_left
                                      · simp only [Act.put, List.setIfInBounds_toArray, List.set_cons_zero, List.set_cons_succ, i64_w, i32_w]
                                        rfl
                                      refine pure_ (i := 17) (N := some 77) (v := ?_) (a' := ?_) #[true, true, true, true, true, true, true, true, true, true, true, true, true, true, true, true, true, true] rfl rfl (any_of HT_.out (by kernel_rfl)) (fun _ _ _ h => h) (Or.inl ⟨by rfl, ?_⟩) ?_ ?_
                                      rotate_left
                                      · intro w'
                                        go_simp
                                        with_reducible rfl
                                      rotate_left
                                      · simp only [Act.put, List.setIfInBounds_toArray, List.set_cons_zero, List.set_cons_succ, i64_w, i32_w]
                                        rfl
                                      refine done_ (done_of HT_.out (by kernel_rfl)) ?_
                                      try go_wp2
                                      go_ret
                                      exact ⟨by first | rfl | (simp [errW_none, errW_some] <;> rfl) | (simp [*, errW_none, errW_some] <;> rfl), by repeat (first | (with_reducible first | exact HB.out | apply below_alloc | apply pw_below_drewN | apply below_drew1 | refine below_set ?_ GE279.out) | exact HB.out)⟩
                                    · rw [if_neg c31] at H
                                      have c31b0 : decide ((rd ((rd_T57 (rd_L6 t276 x5_2) x6_3).f2) x8_4) ≤ x5_2) = false := decide_eq_false c31
                                      clear c31
                                      replace H := Option.bind_eq_some_iff.mp H
                                      obtain ⟨t288, A330, H⟩ := H
                                      replace H : ((impl_ProgTree.f k4 t273 t276 x5_2).bind fun t289 => (if t288 ≥ t289 then (some false) else (laws_FnProgKids.l2 k4 x5_2 x6_3 ((rd_T57 (rd_L6 t276 x5_2) x6_3).f2) (wrap64 (x8_4 + 1)) t273 t276))) = some r := H
                                      have A33 := Aside0.mk A330
                                      clear A330
                                      replace H := Option.bind_eq_some_iff.mp H
                                      obtain ⟨t289, A340, H⟩ := H
                                      replace H : (if t288 ≥ t289 then (some false) else (laws_FnProgKids.l2 k4 x5_2 x6_3 ((rd_T57 (rd_L6 t276 x5_2) x6_3).f2) (wrap64 (x8_4 + 1)) t273 t276)) = some r := H
                                      have A34 := Aside0.mk A340
                                      clear A340
                                      by_cases c35 : t288 ≥ t289
                                      · rw [if_pos c35] at H
                                        have c35b0 : decide (t289 ≤ t288) = true := decide_eq_true c35
                                        clear c35
                                        obtain rfl := Option.some.inj H
                                        try go_wp2
                                        have n0_ := Aside0.mk (Kd.R_drew HO_280000.out)
                                        have n1_ := Aside0.mk (Kd.R_drew HO_280001.out)
                                        have n2_ := Aside0.mk (blk_drew BK279.out)
                                        have n3_ := Aside0.mk (Kd.C_drew HR283_0.out)
                                        have n4_ := Aside0.mk (Kd.C_drew HR284_0.out)
                                        have n5_ := Aside0.mk (Kd.C_drew HR285_1.out)
                                        have n6_ := Aside0.mk (Kd.C_drew HR285_2.out)
                                        have n7_ := Aside0.mk (below_drew1 HB.out)
                                        clear HO_280000
                                        clear HO_280001
                                        clear BK279
                                        clear HR283_0
                                        clear HR284_0
                                        clear HR285_1
                                        clear HR285_2
                                        clear HB
                                        have HO_280000 := n0_
                                        have HO_280001 := n1_
                                        have BK279 := n2_
                                        have HR283_0 := n3_
                                        have HR284_0 := n4_
                                        have HR285_1 := n5_
                                        have HR285_2 := n6_
                                        have HB := n7_
                                        clear n0_ n1_ n2_ n3_ n4_ n5_ n6_ n7_
                                        have p286 : 0 ≤ (x8_4 : Int) := of_decide_eq_true (by first | (with_reducible assumption) | assumption)
                                        have q286 : x8_4 < (((rd_T57 (rd_L6 t276 x5_2) x6_3).f2).length : Int) := of_decide_eq_true (by first | (with_reducible assumption) | assumption)
                                        obtain ⟨ad286, e286, hx286_0⟩ := Kd.at_int HR285_2.out x8_4 p286 q286
                                        have hw286_0 := hx286_0
                                        cases e286
                                        replace p286 := eq_true p286
                                        replace q286 := eq_true q286
                                        have p287 : 0 ≤ (x8_4 : Int) := of_decide_eq_true (by first | (with_reducible assumption) | assumption)
                                        have q287 : x8_4 < (((rd_T57 (rd_L6 t276 x5_2) x6_3).f2).length : Int) := of_decide_eq_true (by first | (with_reducible assumption) | assumption)
                                        obtain ⟨ad287, e287, hx287_0⟩ := Kd.at_int HR285_2.out x8_4 p287 q287
                                        have hw287_0 := hx287_0
                                        obtain rfl : ad286 = ad287 := (by injection e287)
                                        replace p287 := eq_true p287
                                        replace q287 := eq_true q287
                                        refine start_ (n := 18) (S := fun w' => w'.cell? ⟨gb279, 0, none⟩ = some (.slice Ao8 t273.length co8) ∧ w'.cell? ⟨gb279, 1, none⟩ = some (.slice (some ad283) t276.length co10) ∧ w'.cell? (ad286.add (x8_4).toNat) = some (.int .i64 (rd ((rd_T57 (rd_L6 t276 x5_2) x6_3).f2) x8_4)) ∧ w'.cell? (ad286.add (x8_4).toNat) = some (.int .i64 (rd ((rd_T57 (rd_L6 t276 x5_2) x6_3).f2) x8_4))) (ds := []) #[false, false, false, false, false, false, false, false, false, false, false, false, false, false, false, false, false, false] (by kernel_rfl) rfl rfl ⟨(blk_cell BK279.out 0).trans rfl, (blk_cell BK279.out 1).trans rfl, (by obtain ⟨_, e_, h_⟩ := Kd.at_int HR285_2.out x8_4 (of_eq_true p286) (of_eq_true q286); cases e_; exact h_), (by obtain ⟨_, e_, h_⟩ := Kd.at_int HR285_2.out x8_4 (of_eq_true p287) (of_eq_true q287); cases e_; exact h_)⟩ (fun hHeld => ?_); refine with_tabW laws_FnProgKids.tab17 laws_FnProgKids.bits17 (fun HT_ HW_ => ?_)
                                        generalize wr.drew = w36 at HO_280000 HO_280001 BK279 HR283_0 HR284_0 HR285_1 HR285_2 HB hx286_0 hx287_0 hHeld ⊢
                                        refine pure_ (i := 0) (N := some 60) (v := ?_) (a' := ?_) #[true, false, false, false, false, false, false, false, false, false, false, false, false, false, false, false, false, false] rfl rfl (any_of HT_.out (by kernel_rfl)) (fun _ _ _ h => h) (Or.inl ⟨by rfl, ?_⟩) ?_ ?_
                                        rotate_left
                                        · intro w'
                                          go_simp
                                          with_reducible rfl
                                        rotate_left
                                        · simp only [Act.put, List.setIfInBounds_toArray, List.set_cons_zero, List.set_cons_succ, i64_w, i32_w]
                                          rfl
                                        refine pure_ (i := 1) (N := some 61) (v := ?_) (a' := ?_) #[true, true, false, false, false, false, false, false, false, false, false, false, false, false, false, false, false, false] rfl rfl (any_of HT_.out (by kernel_rfl)) (fun _ _ _ h => h) (Or.inl ⟨by rfl, ?_⟩) ?_ ?_
                                        rotate_left
                                        · intro w'
                                          go_simp
                                          with_reducible rfl
                                        rotate_left
                                        · simp only [Act.put, List.setIfInBounds_toArray, List.set_cons_zero, List.set_cons_succ, i64_w, i32_w]
                                          rfl
                                        refine pure_ (i := 2) (N := some 62) (v := ?_) (a' := ?_) #[true, true, true, false, false, false, false, false, false, false, false, false, false, false, false, false, false, false] rfl rfl (any_of HT_.out (by kernel_rfl)) (fun _ _ _ h => h) (Or.inl ⟨by rfl, ?_⟩) ?_ ?_
                                        rotate_left
                                        · intro w'
                                          go_simp
                                          with_reducible rfl
                                        rotate_left
                                        · simp only [Act.put, List.setIfInBounds_toArray, List.set_cons_zero, List.set_cons_succ, i64_w, i32_w]
                                          rfl
                                        refine pure_ (i := 4) (N := some 64) (v := ?_) (a' := ?_) #[true, true, true, false, true, false, false, false, false, false, false, false, false, false, false, false, false, false] rfl rfl (any_of HT_.out (by kernel_rfl)) (fun _ _ _ h => h) (Or.inl ⟨by rfl, ?_⟩) ?_ ?_
                                        rotate_left
                                        · intro w'
                                          go_simp
                                          with_reducible rfl
                                        rotate_left
                                        · simp only [Act.put, List.setIfInBounds_toArray, List.set_cons_zero, List.set_cons_succ, i64_w, i32_w]
                                          rfl
                                        refine take_ (i := 3) (N := some 63) (v := ?_) (a' := ?_) #[true, true, true, true, true, false, false, false, false, false, false, false, false, false, false, false, false, false] rfl rfl (take_ofW HT_.out HW_.out (by kernel_rfl)) (fun _ _ _ h => h) (Or.inl ⟨by rfl, ?_⟩) hHeld ?_ ?_
                                        rotate_left
                                        · rintro w' ⟨s0, s1, s2, s3⟩
                                          go_simp
                                          with_reducible rfl
                                        rotate_left
                                        · simp only [Act.put, List.setIfInBounds_toArray, List.set_cons_zero, List.set_cons_succ, i64_w, i32_w]
                                          rfl
                                        refine pure_ (i := 5) (N := some 65) (v := ?_) (a' := ?_) #[true, true, true, true, true, true, false, false, false, false, false, false, false, false, false, false, false, false] rfl rfl (any_of HT_.out (by kernel_rfl)) (fun _ _ _ h => h) (Or.inl ⟨by rfl, ?_⟩) ?_ ?_
                                        rotate_left
                                        · intro w'
                                          go_simp
                                          with_reducible rfl
                                        rotate_left
                                        · simp only [Act.put, List.setIfInBounds_toArray, List.set_cons_zero, List.set_cons_succ, i64_w, i32_w]
                                          rfl
                                        refine pure_ (i := 6) (N := some 66) (v := ?_) (a' := ?_) #[true, true, true, true, true, true, true, false, false, false, false, false, false, false, false, false, false, false] rfl rfl (any_of HT_.out (by kernel_rfl)) (fun _ _ _ h => h) (Or.inl ⟨by rfl, ?_⟩) ?_ ?_
                                        rotate_left
                                        · intro w'
                                          go_simp
                                          with_reducible rfl
                                        rotate_left
                                        · simp only [Act.put, List.setIfInBounds_toArray, List.set_cons_zero, List.set_cons_succ, i64_w, i32_w]
                                          rfl
                                        refine pure_ (i := 8) (N := some 68) (v := ?_) (a' := ?_) #[true, true, true, true, true, true, true, false, true, false, false, false, false, false, false, false, false, false] rfl rfl (any_of HT_.out (by kernel_rfl)) (fun _ _ _ h => h) (Or.inl ⟨by rfl, ?_⟩) ?_ ?_
                                        rotate_left
                                        · intro w'
                                          go_simp
                                          with_reducible rfl
                                        rotate_left
                                        · simp only [Act.put, List.setIfInBounds_toArray, List.set_cons_zero, List.set_cons_succ, i64_w, i32_w]
                                          rfl
                                        refine pure_ (i := 9) (N := some 69) (v := ?_) (a' := ?_) #[true, true, true, true, true, true, true, false, true, true, false, false, false, false, false, false, false, false] rfl rfl (any_of HT_.out (by kernel_rfl)) (fun _ _ _ h => h) (Or.inl ⟨by rfl, ?_⟩) ?_ ?_
                                        rotate_left
                                        · intro w'
                                          go_simp
                                          with_reducible rfl
                                        rotate_left
                                        · simp only [Act.put, List.setIfInBounds_toArray, List.set_cons_zero, List.set_cons_succ, i64_w, i32_w]
                                          rfl
                                        refine pure_ (i := 10) (N := some 70) (v := ?_) (a' := ?_) #[true, true, true, true, true, true, true, false, true, true, true, false, false, false, false, false, false, false] rfl rfl (any_of HT_.out (by kernel_rfl)) (fun _ _ _ h => h) (Or.inl ⟨by rfl, ?_⟩) ?_ ?_
                                        rotate_left
                                        · intro w'
                                          go_simp
                                          with_reducible rfl
                                        rotate_left
                                        · simp only [Act.put, List.setIfInBounds_toArray, List.set_cons_zero, List.set_cons_succ, i64_w, i32_w]
                                          rfl
                                        refine pure_ (i := 14) (N := some 74) (v := ?_) (a' := ?_) #[true, true, true, true, true, true, true, false, true, true, true, false, false, false, true, false, false, false] rfl rfl (any_of HT_.out (by kernel_rfl)) (fun _ _ _ h => h) (Or.inl ⟨by rfl, ?_⟩) ?_ ?_
                                        rotate_left
                                        · intro w'
                                          go_simp
                                          with_reducible rfl
                                        rotate_left
                                        · simp only [Act.put, List.setIfInBounds_toArray, List.set_cons_zero, List.set_cons_succ, i64_w, i32_w]
                                          rfl
                                        refine take_ (i := 7) (N := some 67) (v := ?_) (a' := ?_) #[true, true, true, true, true, true, true, true, true, true, true, false, false, false, true, false, false, false] rfl rfl (take_ofW HT_.out HW_.out (by kernel_rfl)) (fun _ _ _ h => h) (Or.inl ⟨by rfl, ?_⟩) hHeld ?_ ?_
                                        rotate_left
                                        · rintro w' ⟨s0, s1, s2, s3⟩
                                          go_simp
                                          with_reducible rfl
                                        rotate_left
                                        · simp only [Act.put, List.setIfInBounds_toArray, List.set_cons_zero, List.set_cons_succ, i64_w, i32_w]
                                          rfl
                                        refine take_ (i := 11) (N := some 71) (v := ?_) (a' := ?_) #[true, true, true, true, true, true, true, true, true, true, true, true, false, false, true, false, false, false] rfl rfl (take_ofW HT_.out HW_.out (by kernel_rfl)) (fun _ _ _ h => h) (Or.inl ⟨by rfl, ?_⟩) hHeld ?_ ?_
                                        rotate_left
                                        · rintro w' ⟨s0, s1, s2, s3⟩
                                          go_simp
                                          with_reducible rfl
                                        rotate_left
                                        · simp only [Act.put, List.setIfInBounds_toArray, List.set_cons_zero, List.set_cons_succ, i64_w, i32_w]
                                          rfl
                                        refine take_ (i := 13) (N := some 73) (v := ?_) (a' := ?_) #[true, true, true, true, true, true, true, true, true, true, true, true, false, true, true, false, false, false] rfl rfl (take_ofW HT_.out HW_.out (by kernel_rfl)) (fun _ _ _ h => h) (Or.inl ⟨by rfl, ?_⟩) hHeld ?_ ?_
                                        rotate_left
                                        · rintro w' ⟨s0, s1, s2, s3⟩
                                          go_simp
                                          with_reducible rfl
                                        rotate_left
                                        · simp only [Act.put, List.setIfInBounds_toArray, List.set_cons_zero, List.set_cons_succ, i64_w, i32_w]
                                          rfl
                                        refine one_ (i := 12) (N := some 72) #[true, true, true, true, true, true, true, true, true, true, true, true, true, true, true, false, false, false] rfl rfl (one_of HT_.out (by kernel_rfl)) (by decide) (fun K hK => ?_)
                                        refine goes_ Try.func28 (by kernel_rfl) rfl #[.agg #[.slice Ao8 t273.length co8, .slice (some ad283) t276.length co10], .int .i64 (rd ((rd_T57 (rd_L6 t276 x5_2) x6_3).f2) x8_4)] (by rfl) rfl rfl (by (try simp only [List.map_toArray, List.map_cons, List.map_nil]); first | done | rfl | (simp only [List.length_drop, List.length_take]; rfl)) ?_
                                        with_reducible refine (impl_ProgTree.calls k4 _ _ t273 _ _ t276 (rd ((rd_T57 (rd_L6 t276 x5_2) x6_3).f2) x8_4) t288 _ ?side1 ?side2 ?side3 ?side4 A33.out).mono ?_
                                        (case side1 => repeat (first | exact (Kd.R_reads' HO_280000.out).2.2 | (with_reducible refine Kd.C_alloc ?_ _) | (with_reducible refine Kd.C_drewN ?_ _) | (with_reducible refine Kd.C_drew ?_)))
                                        (case side2 => exact (Kd.R_reads' HO_280000.out).2.1)
                                        (case side3 => repeat (first | exact (Kd.R_reads' HO_280001.out).2.2 | (with_reducible refine Kd.C_alloc ?_ _) | (with_reducible refine Kd.C_drewN ?_ _) | (with_reducible refine Kd.C_drew ?_)))
                                        (case side4 => exact (Kd.R_reads' HO_280001.out).2.1)
                                        rintro e w37 ⟨rfl, hb⟩
                                        refine ⟨_, rfl, ?_⟩
                                        have n0_ := Aside0.mk (Kd.R_below (by (with_reducible repeat (first | apply Kd.R_alloc | apply Kd.R_drewN | apply Kd.R_drew)); exact HO_280000.out) hb)
                                        have n1_ := Aside0.mk (Kd.R_below (by (with_reducible repeat (first | apply Kd.R_alloc | apply Kd.R_drewN | apply Kd.R_drew)); exact HO_280001.out) hb)
                                        have n2_ := Aside0.mk (blk_below (g := gb279) (o := .cells #[.slice Ao8 t273.length co8, .slice (some ad283) t276.length co10] 36 (0, 0)) (by (with_reducible repeat (first | refine blk_drewN ?_ _ | refine blk_drew ?_ | refine blk_alloc ?_ _)); exact BK279.out) hb)
                                        have n3_ := Aside0.mk (Kd.C_below (by repeat (first | (with_reducible exact HR283_0.out) | (with_reducible refine Kd.C_alloc ?_ _) | (with_reducible refine Kd.C_drewN ?_ _) | (with_reducible refine Kd.C_drew ?_) | exact HR283_0.out)) hb)
                                        have n4_ := Aside0.mk (Kd.C_below (by repeat (first | (with_reducible exact HR284_0.out) | (with_reducible refine Kd.C_alloc ?_ _) | (with_reducible refine Kd.C_drewN ?_ _) | (with_reducible refine Kd.C_drew ?_) | exact HR284_0.out)) hb)
                                        have n5_ := Aside0.mk (Kd.C_below (by repeat (first | (with_reducible exact HR285_1.out) | (with_reducible refine Kd.C_alloc ?_ _) | (with_reducible refine Kd.C_drewN ?_ _) | (with_reducible refine Kd.C_drew ?_) | exact HR285_1.out)) hb)
                                        have n6_ := Aside0.mk (Kd.C_below (by repeat (first | (with_reducible exact HR285_2.out) | (with_reducible refine Kd.C_alloc ?_ _) | (with_reducible refine Kd.C_drewN ?_ _) | (with_reducible refine Kd.C_drew ?_) | exact HR285_2.out)) hb)
                                        have n7_ := Aside0.mk (below_step (by repeat (first | (with_reducible first | exact HB.out | apply below_alloc | apply pw_below_drewN | apply below_drew1 | refine below_set ?_ GE279.out) | exact HB.out)) hb)
                                        clear HO_280000
                                        clear HO_280001
                                        clear BK279
                                        clear HR283_0
                                        clear HR284_0
                                        clear HR285_1
                                        clear HR285_2
                                        clear HB
                                        have HO_280000 := n0_
                                        have HO_280001 := n1_
                                        have BK279 := n2_
                                        have HR283_0 := n3_
                                        have HR284_0 := n4_
                                        have HR285_1 := n5_
                                        have HR285_2 := n6_
                                        have HB := n7_
                                        clear n0_ n1_ n2_ n3_ n4_ n5_ n6_ n7_
                                        (try clear hb)
                                        (try clear hb2)
                                        (try clear hk)
                                        (try clear hi)
                                        refine hK.out _ _ ⟨(blk_cell BK279.out 0).trans rfl, (blk_cell BK279.out 1).trans rfl, (by obtain ⟨_, e_, h_⟩ := Kd.at_int HR285_2.out x8_4 (of_eq_true p286) (of_eq_true q286); cases e_; exact h_), (by obtain ⟨_, e_, h_⟩ := Kd.at_int HR285_2.out x8_4 (of_eq_true p287) (of_eq_true q287); cases e_; exact h_)⟩ (fun hHeld => ?_)
                                        clear hK K
                                        refine norm_ (a' := ?_) ?_ ?_
                                        rotate_left
                                        · show Act.put _ (some 72) _ = _
                                          simp only [Act.put, List.setIfInBounds_toArray, List.set_cons_zero, List.set_cons_succ, i64_w, i32_w]
                                          rfl
                                        refine one_ (i := 15) (N := some 75) #[true, true, true, true, true, true, true, true, true, true, true, true, true, true, true, true, false, false] rfl rfl (one_of HT_.out (by kernel_rfl)) (by decide) (fun K hK => ?_)
                                        refine goes_ Try.func28 (by kernel_rfl) rfl #[.agg #[.slice Ao8 t273.length co8, .slice (some ad283) t276.length co10], .int .i64 x5_2] (by rfl) rfl rfl (by (try simp only [List.map_toArray, List.map_cons, List.map_nil]); first | done | rfl | (simp only [List.length_drop, List.length_take]; rfl)) ?_
                                        with_reducible refine (impl_ProgTree.calls k4 _ _ t273 _ _ t276 x5_2 t289 _ ?side1 ?side2 ?side3 ?side4 A34.out).mono ?_
                                        (case side1 => repeat (first | exact (Kd.R_reads' HO_280000.out).2.2 | (with_reducible refine Kd.C_alloc ?_ _) | (with_reducible refine Kd.C_drewN ?_ _) | (with_reducible refine Kd.C_drew ?_)))
                                        (case side2 => exact (Kd.R_reads' HO_280000.out).2.1)
                                        (case side3 => repeat (first | exact (Kd.R_reads' HO_280001.out).2.2 | (with_reducible refine Kd.C_alloc ?_ _) | (with_reducible refine Kd.C_drewN ?_ _) | (with_reducible refine Kd.C_drew ?_)))
                                        (case side4 => exact (Kd.R_reads' HO_280001.out).2.1)
                                        rintro e w38 ⟨rfl, hb⟩
                                        refine ⟨_, rfl, ?_⟩
                                        have n0_ := Aside0.mk (Kd.R_below (by (with_reducible repeat (first | apply Kd.R_alloc | apply Kd.R_drewN | apply Kd.R_drew)); exact HO_280000.out) hb)
                                        have n1_ := Aside0.mk (Kd.R_below (by (with_reducible repeat (first | apply Kd.R_alloc | apply Kd.R_drewN | apply Kd.R_drew)); exact HO_280001.out) hb)
                                        have n2_ := Aside0.mk (blk_below (g := gb279) (o := .cells #[.slice Ao8 t273.length co8, .slice (some ad283) t276.length co10] 36 (0, 0)) (by (with_reducible repeat (first | refine blk_drewN ?_ _ | refine blk_drew ?_ | refine blk_alloc ?_ _)); exact BK279.out) hb)
                                        have n3_ := Aside0.mk (Kd.C_below (by repeat (first | (with_reducible exact HR283_0.out) | (with_reducible refine Kd.C_alloc ?_ _) | (with_reducible refine Kd.C_drewN ?_ _) | (with_reducible refine Kd.C_drew ?_) | exact HR283_0.out)) hb)
                                        have n4_ := Aside0.mk (Kd.C_below (by repeat (first | (with_reducible exact HR284_0.out) | (with_reducible refine Kd.C_alloc ?_ _) | (with_reducible refine Kd.C_drewN ?_ _) | (with_reducible refine Kd.C_drew ?_) | exact HR284_0.out)) hb)
                                        have n5_ := Aside0.mk (Kd.C_below (by repeat (first | (with_reducible exact HR285_1.out) | (with_reducible refine Kd.C_alloc ?_ _) | (with_reducible refine Kd.C_drewN ?_ _) | (with_reducible refine Kd.C_drew ?_) | exact HR285_1.out)) hb)
                                        have n6_ := Aside0.mk (Kd.C_below (by repeat (first | (with_reducible exact HR285_2.out) | (with_reducible refine Kd.C_alloc ?_ _) | (with_reducible refine Kd.C_drewN ?_ _) | (with_reducible refine Kd.C_drew ?_) | exact HR285_2.out)) hb)
                                        have n7_ := Aside0.mk (below_step (by repeat (first | (with_reducible first | exact HB.out | apply below_alloc | apply pw_below_drewN | apply below_drew1 | refine below_set ?_ GE279.out) | exact HB.out)) hb)
                                        clear HO_280000
                                        clear HO_280001
                                        clear BK279
                                        clear HR283_0
                                        clear HR284_0
                                        clear HR285_1
                                        clear HR285_2
                                        clear HB
                                        have HO_280000 := n0_
                                        have HO_280001 := n1_
                                        have BK279 := n2_
                                        have HR283_0 := n3_
                                        have HR284_0 := n4_
                                        have HR285_1 := n5_
                                        have HR285_2 := n6_
                                        have HB := n7_
                                        clear n0_ n1_ n2_ n3_ n4_ n5_ n6_ n7_
                                        (try clear hb)
                                        (try clear hb2)
                                        (try clear hk)
                                        (try clear hi)
                                        refine hK.out _ _ ⟨(blk_cell BK279.out 0).trans rfl, (blk_cell BK279.out 1).trans rfl, (by obtain ⟨_, e_, h_⟩ := Kd.at_int HR285_2.out x8_4 (of_eq_true p286) (of_eq_true q286); cases e_; exact h_), (by obtain ⟨_, e_, h_⟩ := Kd.at_int HR285_2.out x8_4 (of_eq_true p287) (of_eq_true q287); cases e_; exact h_)⟩ (fun hHeld => ?_)
                                        clear hK K
                                        refine norm_ (a' := ?_) ?_ ?_
                                        rotate_left
                                        · show Act.put _ (some 75) _ = _
                                          simp only [Act.put, List.setIfInBounds_toArray, List.set_cons_zero, List.set_cons_succ, i64_w, i32_w]
                                          rfl
                                        refine pure_ (i := 16) (N := some 76) (v := ?_) (a' := ?_) #[true, true, true, true, true, true, true, true, true, true, true, true, true, true, true, true, true, false] rfl rfl (any_of HT_.out (by kernel_rfl)) (fun _ _ _ h => h) (Or.inl ⟨by rfl, ?_⟩) ?_ ?_
                                        rotate_left
                                        · intro w'
                                          go_simp
                                          with_reducible rfl
                                        rotate_left
                                        · simp only [Act.put, List.setIfInBounds_toArray, List.set_cons_zero, List.set_cons_succ, i64_w, i32_w]
                                          rfl
                                        refine pure_ (i := 17) (N := some 77) (v := ?_) (a' := ?_) #[true, true, true, true, true, true, true, true, true, true, true, true, true, true, true, true, true, true] rfl rfl (any_of HT_.out (by kernel_rfl)) (fun _ _ _ h => h) (Or.inl ⟨by rfl, ?_⟩) ?_ ?_
                                        rotate_left
                                        · intro w'
                                          go_simp
                                          with_reducible rfl
                                        rotate_left
                                        · simp only [Act.put, List.setIfInBounds_toArray, List.set_cons_zero, List.set_cons_succ, i64_w, i32_w]
                                          rfl
                                        refine done_ (done_of HT_.out (by kernel_rfl)) ?_
                                        try go_wp2
                                        go_ret
                                        exact ⟨by first | rfl | (simp [errW_none, errW_some] <;> rfl) | (simp [*, errW_none, errW_some] <;> rfl), by repeat (first | (with_reducible first | exact HB.out | apply below_alloc | apply pw_below_drewN | apply below_drew1 | refine below_set ?_ GE279.out) | exact HB.out)⟩
                                      · rw [if_neg c35] at H
                                        have c35b0 : decide (t289 ≤ t288) = false := decide_eq_false c35
                                        clear c35
                                        have H' := Aside0.mk H
                                        clear H
                                        try go_wp2
                                        have n0_ := Aside0.mk (Kd.R_drew HO_280000.out)
                                        have n1_ := Aside0.mk (Kd.R_drew HO_280001.out)
                                        have n2_ := Aside0.mk (blk_drew BK279.out)
                                        have n3_ := Aside0.mk (Kd.C_drew HR283_0.out)
                                        have n4_ := Aside0.mk (Kd.C_drew HR284_0.out)
                                        have n5_ := Aside0.mk (Kd.C_drew HR285_1.out)
                                        have n6_ := Aside0.mk (Kd.C_drew HR285_2.out)
                                        have n7_ := Aside0.mk (below_drew1 HB.out)
                                        clear HO_280000
                                        clear HO_280001
                                        clear BK279
                                        clear HR283_0
                                        clear HR284_0
                                        clear HR285_1
                                        clear HR285_2
                                        clear HB
                                        have HO_280000 := n0_
                                        have HO_280001 := n1_
                                        have BK279 := n2_
                                        have HR283_0 := n3_
                                        have HR284_0 := n4_
                                        have HR285_1 := n5_
                                        have HR285_2 := n6_
                                        have HB := n7_
                                        clear n0_ n1_ n2_ n3_ n4_ n5_ n6_ n7_
                                        have p286 : 0 ≤ (x8_4 : Int) := of_decide_eq_true (by first | (with_reducible assumption) | assumption)
                                        have q286 : x8_4 < (((rd_T57 (rd_L6 t276 x5_2) x6_3).f2).length : Int) := of_decide_eq_true (by first | (with_reducible assumption) | assumption)
                                        obtain ⟨ad286, e286, hx286_0⟩ := Kd.at_int HR285_2.out x8_4 p286 q286
                                        have hw286_0 := hx286_0
                                        cases e286
                                        replace p286 := eq_true p286
                                        replace q286 := eq_true q286
                                        have p287 : 0 ≤ (x8_4 : Int) := of_decide_eq_true (by first | (with_reducible assumption) | assumption)
                                        have q287 : x8_4 < (((rd_T57 (rd_L6 t276 x5_2) x6_3).f2).length : Int) := of_decide_eq_true (by first | (with_reducible assumption) | assumption)
                                        obtain ⟨ad287, e287, hx287_0⟩ := Kd.at_int HR285_2.out x8_4 p287 q287
                                        have hw287_0 := hx287_0
                                        obtain rfl : ad286 = ad287 := (by injection e287)
                                        replace p287 := eq_true p287
                                        replace q287 := eq_true q287
                                        refine start_ (n := 18) (S := fun w' => w'.cell? ⟨gb279, 0, none⟩ = some (.slice Ao8 t273.length co8) ∧ w'.cell? ⟨gb279, 1, none⟩ = some (.slice (some ad283) t276.length co10) ∧ w'.cell? (ad286.add (x8_4).toNat) = some (.int .i64 (rd ((rd_T57 (rd_L6 t276 x5_2) x6_3).f2) x8_4)) ∧ w'.cell? (ad286.add (x8_4).toNat) = some (.int .i64 (rd ((rd_T57 (rd_L6 t276 x5_2) x6_3).f2) x8_4))) (ds := []) #[false, false, false, false, false, false, false, false, false, false, false, false, false, false, false, false, false, false] (by kernel_rfl) rfl rfl ⟨(blk_cell BK279.out 0).trans rfl, (blk_cell BK279.out 1).trans rfl, (by obtain ⟨_, e_, h_⟩ := Kd.at_int HR285_2.out x8_4 (of_eq_true p286) (of_eq_true q286); cases e_; exact h_), (by obtain ⟨_, e_, h_⟩ := Kd.at_int HR285_2.out x8_4 (of_eq_true p287) (of_eq_true q287); cases e_; exact h_)⟩ (fun hHeld => ?_); refine with_tabW laws_FnProgKids.tab17 laws_FnProgKids.bits17 (fun HT_ HW_ => ?_)
                                        generalize wr.drew = w39 at HO_280000 HO_280001 BK279 HR283_0 HR284_0 HR285_1 HR285_2 HB hx286_0 hx287_0 hHeld ⊢
                                        refine pure_ (i := 0) (N := some 60) (v := ?_) (a' := ?_) #[true, false, false, false, false, false, false, false, false, false, false, false, false, false, false, false, false, false] rfl rfl (any_of HT_.out (by kernel_rfl)) (fun _ _ _ h => h) (Or.inl ⟨by rfl, ?_⟩) ?_ ?_
                                        rotate_left
                                        · intro w'
                                          go_simp
                                          with_reducible rfl
                                        rotate_left
                                        · simp only [Act.put, List.setIfInBounds_toArray, List.set_cons_zero, List.set_cons_succ, i64_w, i32_w]
                                          rfl
                                        refine pure_ (i := 1) (N := some 61) (v := ?_) (a' := ?_) #[true, true, false, false, false, false, false, false, false, false, false, false, false, false, false, false, false, false] rfl rfl (any_of HT_.out (by kernel_rfl)) (fun _ _ _ h => h) (Or.inl ⟨by rfl, ?_⟩) ?_ ?_
                                        rotate_left
                                        · intro w'
                                          go_simp
                                          with_reducible rfl
                                        rotate_left
                                        · simp only [Act.put, List.setIfInBounds_toArray, List.set_cons_zero, List.set_cons_succ, i64_w, i32_w]
                                          rfl
                                        refine pure_ (i := 2) (N := some 62) (v := ?_) (a' := ?_) #[true, true, true, false, false, false, false, false, false, false, false, false, false, false, false, false, false, false] rfl rfl (any_of HT_.out (by kernel_rfl)) (fun _ _ _ h => h) (Or.inl ⟨by rfl, ?_⟩) ?_ ?_
                                        rotate_left
                                        · intro w'
                                          go_simp
                                          with_reducible rfl
                                        rotate_left
                                        · simp only [Act.put, List.setIfInBounds_toArray, List.set_cons_zero, List.set_cons_succ, i64_w, i32_w]
                                          rfl
                                        refine pure_ (i := 4) (N := some 64) (v := ?_) (a' := ?_) #[true, true, true, false, true, false, false, false, false, false, false, false, false, false, false, false, false, false] rfl rfl (any_of HT_.out (by kernel_rfl)) (fun _ _ _ h => h) (Or.inl ⟨by rfl, ?_⟩) ?_ ?_
                                        rotate_left
                                        · intro w'
                                          go_simp
                                          with_reducible rfl
                                        rotate_left
                                        · simp only [Act.put, List.setIfInBounds_toArray, List.set_cons_zero, List.set_cons_succ, i64_w, i32_w]
                                          rfl
                                        refine take_ (i := 3) (N := some 63) (v := ?_) (a' := ?_) #[true, true, true, true, true, false, false, false, false, false, false, false, false, false, false, false, false, false] rfl rfl (take_ofW HT_.out HW_.out (by kernel_rfl)) (fun _ _ _ h => h) (Or.inl ⟨by rfl, ?_⟩) hHeld ?_ ?_
                                        rotate_left
                                        · rintro w' ⟨s0, s1, s2, s3⟩
                                          go_simp
                                          with_reducible rfl
                                        rotate_left
                                        · simp only [Act.put, List.setIfInBounds_toArray, List.set_cons_zero, List.set_cons_succ, i64_w, i32_w]
                                          rfl
                                        refine pure_ (i := 5) (N := some 65) (v := ?_) (a' := ?_) #[true, true, true, true, true, true, false, false, false, false, false, false, false, false, false, false, false, false] rfl rfl (any_of HT_.out (by kernel_rfl)) (fun _ _ _ h => h) (Or.inl ⟨by rfl, ?_⟩) ?_ ?_
                                        rotate_left
                                        · intro w'
                                          go_simp
                                          with_reducible rfl
                                        rotate_left
                                        · simp only [Act.put, List.setIfInBounds_toArray, List.set_cons_zero, List.set_cons_succ, i64_w, i32_w]
                                          rfl
                                        refine pure_ (i := 6) (N := some 66) (v := ?_) (a' := ?_) #[true, true, true, true, true, true, true, false, false, false, false, false, false, false, false, false, false, false] rfl rfl (any_of HT_.out (by kernel_rfl)) (fun _ _ _ h => h) (Or.inl ⟨by rfl, ?_⟩) ?_ ?_
                                        rotate_left
                                        · intro w'
                                          go_simp
                                          with_reducible rfl
                                        rotate_left
                                        · simp only [Act.put, List.setIfInBounds_toArray, List.set_cons_zero, List.set_cons_succ, i64_w, i32_w]
                                          rfl
                                        refine pure_ (i := 8) (N := some 68) (v := ?_) (a' := ?_) #[true, true, true, true, true, true, true, false, true, false, false, false, false, false, false, false, false, false] rfl rfl (any_of HT_.out (by kernel_rfl)) (fun _ _ _ h => h) (Or.inl ⟨by rfl, ?_⟩) ?_ ?_
                                        rotate_left
                                        · intro w'
                                          go_simp
                                          with_reducible rfl
                                        rotate_left
                                        · simp only [Act.put, List.setIfInBounds_toArray, List.set_cons_zero, List.set_cons_succ, i64_w, i32_w]
                                          rfl
                                        refine pure_ (i := 9) (N := some 69) (v := ?_) (a' := ?_) #[true, true, true, true, true, true, true, false, true, true, false, false, false, false, false, false, false, false] rfl rfl (any_of HT_.out (by kernel_rfl)) (fun _ _ _ h => h) (Or.inl ⟨by rfl, ?_⟩) ?_ ?_
                                        rotate_left
                                        · intro w'
                                          go_simp
                                          with_reducible rfl
                                        rotate_left
                                        · simp only [Act.put, List.setIfInBounds_toArray, List.set_cons_zero, List.set_cons_succ, i64_w, i32_w]
                                          rfl
                                        refine pure_ (i := 10) (N := some 70) (v := ?_) (a' := ?_) #[true, true, true, true, true, true, true, false, true, true, true, false, false, false, false, false, false, false] rfl rfl (any_of HT_.out (by kernel_rfl)) (fun _ _ _ h => h) (Or.inl ⟨by rfl, ?_⟩) ?_ ?_
                                        rotate_left
                                        · intro w'
                                          go_simp
                                          with_reducible rfl
                                        rotate_left
                                        · simp only [Act.put, List.setIfInBounds_toArray, List.set_cons_zero, List.set_cons_succ, i64_w, i32_w]
                                          rfl
                                        refine pure_ (i := 14) (N := some 74) (v := ?_) (a' := ?_) #[true, true, true, true, true, true, true, false, true, true, true, false, false, false, true, false, false, false] rfl rfl (any_of HT_.out (by kernel_rfl)) (fun _ _ _ h => h) (Or.inl ⟨by rfl, ?_⟩) ?_ ?_
                                        rotate_left
                                        · intro w'
                                          go_simp
                                          with_reducible rfl
                                        rotate_left
                                        · simp only [Act.put, List.setIfInBounds_toArray, List.set_cons_zero, List.set_cons_succ, i64_w, i32_w]
                                          rfl
                                        refine take_ (i := 7) (N := some 67) (v := ?_) (a' := ?_) #[true, true, true, true, true, true, true, true, true, true, true, false, false, false, true, false, false, false] rfl rfl (take_ofW HT_.out HW_.out (by kernel_rfl)) (fun _ _ _ h => h) (Or.inl ⟨by rfl, ?_⟩) hHeld ?_ ?_
                                        rotate_left
                                        · rintro w' ⟨s0, s1, s2, s3⟩
                                          go_simp
                                          with_reducible rfl
                                        rotate_left
                                        · simp only [Act.put, List.setIfInBounds_toArray, List.set_cons_zero, List.set_cons_succ, i64_w, i32_w]
                                          rfl
                                        refine take_ (i := 11) (N := some 71) (v := ?_) (a' := ?_) #[true, true, true, true, true, true, true, true, true, true, true, true, false, false, true, false, false, false] rfl rfl (take_ofW HT_.out HW_.out (by kernel_rfl)) (fun _ _ _ h => h) (Or.inl ⟨by rfl, ?_⟩) hHeld ?_ ?_
                                        rotate_left
                                        · rintro w' ⟨s0, s1, s2, s3⟩
                                          go_simp
                                          with_reducible rfl
                                        rotate_left
                                        · simp only [Act.put, List.setIfInBounds_toArray, List.set_cons_zero, List.set_cons_succ, i64_w, i32_w]
                                          rfl
                                        refine take_ (i := 13) (N := some 73) (v := ?_) (a' := ?_) #[true, true, true, true, true, true, true, true, true, true, true, true, false, true, true, false, false, false] rfl rfl (take_ofW HT_.out HW_.out (by kernel_rfl)) (fun _ _ _ h => h) (Or.inl ⟨by rfl, ?_⟩) hHeld ?_ ?_
                                        rotate_left
                                        · rintro w' ⟨s0, s1, s2, s3⟩
                                          go_simp
                                          with_reducible rfl
                                        rotate_left
                                        · simp only [Act.put, List.setIfInBounds_toArray, List.set_cons_zero, List.set_cons_succ, i64_w, i32_w]
                                          rfl
                                        refine one_ (i := 12) (N := some 72) #[true, true, true, true, true, true, true, true, true, true, true, true, true, true, true, false, false, false] rfl rfl (one_of HT_.out (by kernel_rfl)) (by decide) (fun K hK => ?_)
                                        refine goes_ Try.func28 (by kernel_rfl) rfl #[.agg #[.slice Ao8 t273.length co8, .slice (some ad283) t276.length co10], .int .i64 (rd ((rd_T57 (rd_L6 t276 x5_2) x6_3).f2) x8_4)] (by rfl) rfl rfl (by (try simp only [List.map_toArray, List.map_cons, List.map_nil]); first | done | rfl | (simp only [List.length_drop, List.length_take]; rfl)) ?_
                                        with_reducible refine (impl_ProgTree.calls k4 _ _ t273 _ _ t276 (rd ((rd_T57 (rd_L6 t276 x5_2) x6_3).f2) x8_4) t288 _ ?side1 ?side2 ?side3 ?side4 A33.out).mono ?_
                                        (case side1 => repeat (first | exact (Kd.R_reads' HO_280000.out).2.2 | (with_reducible refine Kd.C_alloc ?_ _) | (with_reducible refine Kd.C_drewN ?_ _) | (with_reducible refine Kd.C_drew ?_)))
                                        (case side2 => exact (Kd.R_reads' HO_280000.out).2.1)
                                        (case side3 => repeat (first | exact (Kd.R_reads' HO_280001.out).2.2 | (with_reducible refine Kd.C_alloc ?_ _) | (with_reducible refine Kd.C_drewN ?_ _) | (with_reducible refine Kd.C_drew ?_)))
                                        (case side4 => exact (Kd.R_reads' HO_280001.out).2.1)
                                        rintro e w40 ⟨rfl, hb⟩
                                        refine ⟨_, rfl, ?_⟩
                                        have n0_ := Aside0.mk (Kd.R_below (by (with_reducible repeat (first | apply Kd.R_alloc | apply Kd.R_drewN | apply Kd.R_drew)); exact HO_280000.out) hb)
                                        have n1_ := Aside0.mk (Kd.R_below (by (with_reducible repeat (first | apply Kd.R_alloc | apply Kd.R_drewN | apply Kd.R_drew)); exact HO_280001.out) hb)
                                        have n2_ := Aside0.mk (blk_below (g := gb279) (o := .cells #[.slice Ao8 t273.length co8, .slice (some ad283) t276.length co10] 36 (0, 0)) (by (with_reducible repeat (first | refine blk_drewN ?_ _ | refine blk_drew ?_ | refine blk_alloc ?_ _)); exact BK279.out) hb)
                                        have n3_ := Aside0.mk (Kd.C_below (by repeat (first | (with_reducible exact HR283_0.out) | (with_reducible refine Kd.C_alloc ?_ _) | (with_reducible refine Kd.C_drewN ?_ _) | (with_reducible refine Kd.C_drew ?_) | exact HR283_0.out)) hb)
                                        have n4_ := Aside0.mk (Kd.C_below (by repeat (first | (with_reducible exact HR284_0.out) | (with_reducible refine Kd.C_alloc ?_ _) | (with_reducible refine Kd.C_drewN ?_ _) | (with_reducible refine Kd.C_drew ?_) | exact HR284_0.out)) hb)
                                        have n5_ := Aside0.mk (Kd.C_below (by repeat (first | (with_reducible exact HR285_1.out) | (with_reducible refine Kd.C_alloc ?_ _) | (with_reducible refine Kd.C_drewN ?_ _) | (with_reducible refine Kd.C_drew ?_) | exact HR285_1.out)) hb)
                                        have n6_ := Aside0.mk (Kd.C_below (by repeat (first | (with_reducible exact HR285_2.out) | (with_reducible refine Kd.C_alloc ?_ _) | (with_reducible refine Kd.C_drewN ?_ _) | (with_reducible refine Kd.C_drew ?_) | exact HR285_2.out)) hb)
                                        have n7_ := Aside0.mk (below_step (by repeat (first | (with_reducible first | exact HB.out | apply below_alloc | apply pw_below_drewN | apply below_drew1 | refine below_set ?_ GE279.out) | exact HB.out)) hb)
                                        clear HO_280000
                                        clear HO_280001
                                        clear BK279
                                        clear HR283_0
                                        clear HR284_0
                                        clear HR285_1
                                        clear HR285_2
                                        clear HB
                                        have HO_280000 := n0_
                                        have HO_280001 := n1_
                                        have BK279 := n2_
                                        have HR283_0 := n3_
                                        have HR284_0 := n4_
                                        have HR285_1 := n5_
                                        have HR285_2 := n6_
                                        have HB := n7_
                                        clear n0_ n1_ n2_ n3_ n4_ n5_ n6_ n7_
                                        (try clear hb)
                                        (try clear hb2)
                                        (try clear hk)
                                        (try clear hi)
                                        refine hK.out _ _ ⟨(blk_cell BK279.out 0).trans rfl, (blk_cell BK279.out 1).trans rfl, (by obtain ⟨_, e_, h_⟩ := Kd.at_int HR285_2.out x8_4 (of_eq_true p286) (of_eq_true q286); cases e_; exact h_), (by obtain ⟨_, e_, h_⟩ := Kd.at_int HR285_2.out x8_4 (of_eq_true p287) (of_eq_true q287); cases e_; exact h_)⟩ (fun hHeld => ?_)
                                        clear hK K
                                        refine norm_ (a' := ?_) ?_ ?_
                                        rotate_left
                                        · show Act.put _ (some 72) _ = _
                                          simp only [Act.put, List.setIfInBounds_toArray, List.set_cons_zero, List.set_cons_succ, i64_w, i32_w]
                                          rfl
                                        refine one_ (i := 15) (N := some 75) #[true, true, true, true, true, true, true, true, true, true, true, true, true, true, true, true, false, false] rfl rfl (one_of HT_.out (by kernel_rfl)) (by decide) (fun K hK => ?_)
                                        refine goes_ Try.func28 (by kernel_rfl) rfl #[.agg #[.slice Ao8 t273.length co8, .slice (some ad283) t276.length co10], .int .i64 x5_2] (by rfl) rfl rfl (by (try simp only [List.map_toArray, List.map_cons, List.map_nil]); first | done | rfl | (simp only [List.length_drop, List.length_take]; rfl)) ?_
                                        with_reducible refine (impl_ProgTree.calls k4 _ _ t273 _ _ t276 x5_2 t289 _ ?side1 ?side2 ?side3 ?side4 A34.out).mono ?_
                                        (case side1 => repeat (first | exact (Kd.R_reads' HO_280000.out).2.2 | (with_reducible refine Kd.C_alloc ?_ _) | (with_reducible refine Kd.C_drewN ?_ _) | (with_reducible refine Kd.C_drew ?_)))
                                        (case side2 => exact (Kd.R_reads' HO_280000.out).2.1)
                                        (case side3 => repeat (first | exact (Kd.R_reads' HO_280001.out).2.2 | (with_reducible refine Kd.C_alloc ?_ _) | (with_reducible refine Kd.C_drewN ?_ _) | (with_reducible refine Kd.C_drew ?_)))
                                        (case side4 => exact (Kd.R_reads' HO_280001.out).2.1)
                                        rintro e w41 ⟨rfl, hb⟩
                                        refine ⟨_, rfl, ?_⟩
                                        have n0_ := Aside0.mk (Kd.R_below (by (with_reducible repeat (first | apply Kd.R_alloc | apply Kd.R_drewN | apply Kd.R_drew)); exact HO_280000.out) hb)
                                        have n1_ := Aside0.mk (Kd.R_below (by (with_reducible repeat (first | apply Kd.R_alloc | apply Kd.R_drewN | apply Kd.R_drew)); exact HO_280001.out) hb)
                                        have n2_ := Aside0.mk (blk_below (g := gb279) (o := .cells #[.slice Ao8 t273.length co8, .slice (some ad283) t276.length co10] 36 (0, 0)) (by (with_reducible repeat (first | refine blk_drewN ?_ _ | refine blk_drew ?_ | refine blk_alloc ?_ _)); exact BK279.out) hb)
                                        have n3_ := Aside0.mk (Kd.C_below (by repeat (first | (with_reducible exact HR283_0.out) | (with_reducible refine Kd.C_alloc ?_ _) | (with_reducible refine Kd.C_drewN ?_ _) | (with_reducible refine Kd.C_drew ?_) | exact HR283_0.out)) hb)
                                        have n4_ := Aside0.mk (Kd.C_below (by repeat (first | (with_reducible exact HR284_0.out) | (with_reducible refine Kd.C_alloc ?_ _) | (with_reducible refine Kd.C_drewN ?_ _) | (with_reducible refine Kd.C_drew ?_) | exact HR284_0.out)) hb)
                                        have n5_ := Aside0.mk (Kd.C_below (by repeat (first | (with_reducible exact HR285_1.out) | (with_reducible refine Kd.C_alloc ?_ _) | (with_reducible refine Kd.C_drewN ?_ _) | (with_reducible refine Kd.C_drew ?_) | exact HR285_1.out)) hb)
                                        have n6_ := Aside0.mk (Kd.C_below (by repeat (first | (with_reducible exact HR285_2.out) | (with_reducible refine Kd.C_alloc ?_ _) | (with_reducible refine Kd.C_drewN ?_ _) | (with_reducible refine Kd.C_drew ?_) | exact HR285_2.out)) hb)
                                        have n7_ := Aside0.mk (below_step (by repeat (first | (with_reducible first | exact HB.out | apply below_alloc | apply pw_below_drewN | apply below_drew1 | refine below_set ?_ GE279.out) | exact HB.out)) hb)
                                        clear HO_280000
                                        clear HO_280001
                                        clear BK279
                                        clear HR283_0
                                        clear HR284_0
                                        clear HR285_1
                                        clear HR285_2
                                        clear HB
                                        have HO_280000 := n0_
                                        have HO_280001 := n1_
                                        have BK279 := n2_
                                        have HR283_0 := n3_
                                        have HR284_0 := n4_
                                        have HR285_1 := n5_
                                        have HR285_2 := n6_
                                        have HB := n7_
                                        clear n0_ n1_ n2_ n3_ n4_ n5_ n6_ n7_
                                        (try clear hb)
                                        (try clear hb2)
                                        (try clear hk)
                                        (try clear hi)
                                        refine hK.out _ _ ⟨(blk_cell BK279.out 0).trans rfl, (blk_cell BK279.out 1).trans rfl, (by obtain ⟨_, e_, h_⟩ := Kd.at_int HR285_2.out x8_4 (of_eq_true p286) (of_eq_true q286); cases e_; exact h_), (by obtain ⟨_, e_, h_⟩ := Kd.at_int HR285_2.out x8_4 (of_eq_true p287) (of_eq_true q287); cases e_; exact h_)⟩ (fun hHeld => ?_)
                                        clear hK K
                                        refine norm_ (a' := ?_) ?_ ?_
                                        rotate_left
                                        · show Act.put _ (some 75) _ = _
                                          simp only [Act.put, List.setIfInBounds_toArray, List.set_cons_zero, List.set_cons_succ, i64_w, i32_w]
                                          rfl
                                        refine pure_ (i := 16) (N := some 76) (v := ?_) (a' := ?_) #[true, true, true, true, true, true, true, true, true, true, true, true, true, true, true, true, true, false] rfl rfl (any_of HT_.out (by kernel_rfl)) (fun _ _ _ h => h) (Or.inl ⟨by rfl, ?_⟩) ?_ ?_
                                        rotate_left
                                        · intro w'
                                          go_simp
                                          with_reducible rfl
                                        rotate_left
                                        · simp only [Act.put, List.setIfInBounds_toArray, List.set_cons_zero, List.set_cons_succ, i64_w, i32_w]
                                          rfl
                                        refine pure_ (i := 17) (N := some 77) (v := ?_) (a' := ?_) #[true, true, true, true, true, true, true, true, true, true, true, true, true, true, true, true, true, true] rfl rfl (any_of HT_.out (by kernel_rfl)) (fun _ _ _ h => h) (Or.inl ⟨by rfl, ?_⟩) ?_ ?_
                                        rotate_left
                                        · intro w'
                                          go_simp
                                          with_reducible rfl
                                        rotate_left
                                        · simp only [Act.put, List.setIfInBounds_toArray, List.set_cons_zero, List.set_cons_succ, i64_w, i32_w]
                                          rfl
                                        refine done_ (done_of HT_.out (by kernel_rfl)) ?_
                                        try go_wp2
                                        go_roundg k4
                                        case measure => have := HJ4.out; have := HK2.out; have := HK3.out; have := HK4.out; omega
                                        case rel => exact ⟨(wrap64 (x8_4 + 1)), (by first | rfl | (simp; done) | (simp [*]; done)), H', ⟨by have := HJ4.out; have := HK2.out; have := HK3.out; have := HK4.out; omega⟩, ⟨by (with_reducible repeat (first | apply Kd.R_alloc | apply Kd.R_drewN | apply Kd.R_drew)); exact HO_280000.out⟩, ⟨by (with_reducible repeat (first | apply Kd.R_alloc | apply Kd.R_drewN | apply Kd.R_drew)); exact HO_280001.out⟩, ⟨by (with_reducible repeat (first | refine blk_drewN ?_ _ | refine blk_drew ?_ | refine blk_alloc ?_ _)); exact BK279.out⟩, ⟨by repeat (first | (with_reducible exact HR283_0.out) | (with_reducible refine Kd.C_alloc ?_ _) | (with_reducible refine Kd.C_drewN ?_ _) | (with_reducible refine Kd.C_drew ?_) | exact HR283_0.out)⟩, ⟨by repeat (first | (with_reducible exact HR284_0.out) | (with_reducible refine Kd.C_alloc ?_ _) | (with_reducible refine Kd.C_drewN ?_ _) | (with_reducible refine Kd.C_drew ?_) | exact HR284_0.out)⟩, ⟨by repeat (first | (with_reducible exact HR285_1.out) | (with_reducible refine Kd.C_alloc ?_ _) | (with_reducible refine Kd.C_drewN ?_ _) | (with_reducible refine Kd.C_drew ?_) | exact HR285_1.out)⟩, ⟨by repeat (first | (with_reducible exact HR285_2.out) | (with_reducible refine Kd.C_alloc ?_ _) | (with_reducible refine Kd.C_drewN ?_ _) | (with_reducible refine Kd.C_drew ?_) | exact HR285_2.out)⟩, ⟨by repeat (first | (with_reducible first | exact HB.out | apply below_alloc | apply pw_below_drewN | apply below_drew1 | refine below_set ?_ GE279.out) | exact HB.out)⟩⟩
                                  · rw [if_neg c30] at H
                                    exact absurd H (by simp)
                                · rw [if_neg c29] at H
                                  have c29b0 : decide (x8_4 < (((rd_T57 (rd_L6 t276 x5_2) x6_3).f2).length : Int)) = false := decide_eq_false c29
                                  clear c29
                                  have H' := Aside0.mk H
                                  clear H
                                  go_wp2
                                  go_roundg k4
                                  case measure => have := HJ4.out; have := HK2.out; have := HK3.out; have := HK4.out; omega
                                  case rel => exact ⟨(wrap64 (x6_3 + 1)), (by first | rfl | (simp; done) | (simp [*]; done)), H', ⟨by have := HJ4.out; have := HK2.out; have := HK3.out; have := HK4.out; omega⟩, ⟨by (with_reducible repeat (first | apply Kd.R_alloc | apply Kd.R_drewN | apply Kd.R_drew)); exact HO_280000.out⟩, ⟨by (with_reducible repeat (first | apply Kd.R_alloc | apply Kd.R_drewN | apply Kd.R_drew)); exact HO_280001.out⟩, ⟨by (with_reducible repeat (first | refine blk_drewN ?_ _ | refine blk_drew ?_ | refine blk_alloc ?_ _)); exact BK279.out⟩, ⟨by repeat (first | (with_reducible first | exact HB.out | apply below_alloc | apply pw_below_drewN | apply below_drew1 | refine below_set ?_ GE279.out) | exact HB.out)⟩⟩
                          · rw [if_neg c27] at H
                            exact absurd H (by simp)
                        · rw [if_neg c26] at H
                          have c26b0 : decide (x6_3 < ((rd_L6 t276 x5_2).length : Int)) = false := decide_eq_false c26
                          clear c26
                          have H' := Aside0.mk H
                          clear H
                          have hcz42_0 : wr.cell? ⟨gb279, 0, none⟩ = some (.slice Ao8 t273.length co8) := (blk_cell BK279.out 0).trans rfl
                          have hcz42_1 : wr.cell? ⟨gb279, 1, none⟩ = some (.slice Ao10 t276.length co10) := (blk_cell BK279.out 1).trans rfl
                          have hfz42_0 := blk_frozen BK279.out 0
                          have hfz42_1 := blk_frozen BK279.out 1
                          have p283 : 0 ≤ (x5_2 : Int) := of_decide_eq_true (by first | (with_reducible assumption) | assumption)
                          have q283 : x5_2 < (t276.length : Int) := of_decide_eq_true (by first | (with_reducible assumption) | assumption)
                          obtain ⟨ad283, A283_0, c283_0, e283, hx283_0, hl283_0, hi283_0⟩ := at_L6 (Kd.R_reads' HO_280001.out).2.2 x5_2 p283 q283
                          cases e283
                          obtain ⟨ce283, hce283, hMe283, hcc283⟩ := Kd.R_get HO_280001.out [] x5_2 p283 (by first | exact q283 | exact of_decide_eq_true (by first | (with_reducible assumption) | assumption) | (have e_ := (Kd.R_reads' HO_280001.out).1; omega))
                          obtain ⟨ve283_0, rfl, ge283_0⟩ := hMe283
                          have hv283_0 := hcc283 0 _ rfl
                          rw [Nat.add_zero, show ((Kd.slice 57 k57)).sz = 1 from rfl, Nat.mul_one] at hv283_0
                          replace hv283_0 := Option.some.inj (hv283_0.symm.trans hx283_0)
                          rw [hv283_0] at ge283_0
                          have HL283_0 := Aside0.mk (show Kd.R k57 57 _ _ _ _ (rd_L6 t276 x5_2) from ge283_0)
                          clear hv283_0 ge283_0
                          clear hcc283 hce283
                          have HR283_0 := Aside0.mk hi283_0
                          have HC283_0 := Aside0.mk hl283_0
                          clear hi283_0 hl283_0
                          replace p283 := eq_true p283
                          replace q283 := eq_true q283
                          go_wp2
                          go_roundg k3
                          case measure => have := HJ4.out; have := HK2.out; have := HK3.out; omega
                          case rel => exact ⟨(wrap64 (x5_2 + 1)), (by first | rfl | (simp; done) | (simp [*]; done)), H', ⟨by have := HJ4.out; have := HK2.out; have := HK3.out; omega⟩, ⟨by (with_reducible repeat (first | apply Kd.R_alloc | apply Kd.R_drewN | apply Kd.R_drew)); exact HO_280000.out⟩, ⟨by (with_reducible repeat (first | apply Kd.R_alloc | apply Kd.R_drewN | apply Kd.R_drew)); exact HO_280001.out⟩, ⟨by (with_reducible repeat (first | refine blk_drewN ?_ _ | refine blk_drew ?_ | refine blk_alloc ?_ _)); exact BK279.out⟩, ⟨by repeat (first | (with_reducible first | exact HB.out | apply below_alloc | apply pw_below_drewN | apply below_drew1 | refine below_set ?_ GE279.out) | exact HB.out)⟩⟩
                      · rw [if_neg c25] at H
                        exact absurd H (by simp)
                    · rw [if_neg c24] at H
                      exact absurd H (by simp)
              · rw [if_neg c22] at H
                have c22b0 : decide (x5_2 < (t276.length : Int)) = false := decide_eq_false c22
                clear c22
                obtain rfl := Option.some.inj H
                have hcz43_0 : wr.cell? ⟨gb279, 0, none⟩ = some (.slice Ao8 t273.length co8) := (blk_cell BK279.out 0).trans rfl
                have hcz43_1 : wr.cell? ⟨gb279, 1, none⟩ = some (.slice Ao10 t276.length co10) := (blk_cell BK279.out 1).trans rfl
                have hfz43_0 := blk_frozen BK279.out 0
                have hfz43_1 := blk_frozen BK279.out 1
                go_wp2
                go_ret
                exact ⟨by first | rfl | (simp [errW_none, errW_some] <;> rfl) | (simp [*, errW_none, errW_some] <;> rfl), by repeat (first | (with_reducible first | exact HB.out | apply below_alloc | apply pw_below_drewN | apply below_drew1 | refine below_set ?_ GE279.out) | exact HB.out)⟩
/-- THE ONE PURE STATEMENT of laws_FnProgKids: yours. -/
def laws_FnProgKids.Pure : Prop := ∀ (l0 : List Int), l0.length ≤ maxLen → l0.length * 1 ≤ 140737488351232 → (∀ x ∈ l0, (Lit.int .u8 x).wf = true) → ∃ k, laws_FnProgKids.f k l0 = some true
theorem laws_FnProgKids.walk (P : laws_FnProgKids.Pure) (a0 : Option Addr) (len0 cap0 : Nat) (z0 : List Int) (w : World) (w0 : (a0 = none ∧ len0 = 0 ∧ cap0 = 0 ∧ z0 = []) ∨ ∃ x, a0 = some x ∧ len0 ≤ cap0 ∧ cap0 ≤ maxLen ∧ z0.length = cap0 ∧ (∀ i, i < z0.length → w.cell? (x.add i) = some (.int .u8 (z0.getD i 0))) ∧ ∀ n ∈ z0, (Lit.int .u8 n).wf = true) (y0 : len0 * 1 ≤ 140737488351232) :
    Calls Try.prog 6 #[.slice a0 len0 cap0] w fun e w' => e = .returned (.bool true) ∧ Below w.heap.size w w' := by
  obtain ⟨l0, rfl, hr0, hm0, hw0, hc0⟩ := ReadsInt.ofRowC w0
  obtain ⟨k, h⟩ := P l0 hm0 y0 hw0
  refine (laws_FnProgKids.calls k _ _ l0 true w (Kd.C_of_reads (d := (0 : Int)) (h1 := fun _ => rfl) hr0) hc0 h).mono ?_
  rintro e w' ⟨rfl, hd⟩
  exact ⟨rfl, hd⟩
end Go.Proofs.Ytoeepmcaabmjkaa.QPM
namespace Go.Proofs.Ytoeepmcaabmjkaa.PProg
open Go.RowKit Go.Proofs.Ytoeepmcaabmjkaa.QPM Go.Proofs.YtoeepmcaabmjkaaW.PrintWords Go.Proofs.YtoeepmcaabmjkaaW.PrintLast
theorem w64 {i : Int} (h0 : -9223372036854775808 ≤ i) (h1 : i ≤ 9223372036854775807) : wrap64 i = i := by
  unfold wrap64
  omega
theorem down {P : Nat → Prop} {n : Nat} (he : P n) (hs : ∀ i, i < n → P (i + 1) → P i) : ∀ i, i ≤ n → P i := by
  intro i hi
  obtain ⟨d, hd⟩ : ∃ d, n = i + d := ⟨n - i, by omega⟩
  induction d generalizing i with
  | zero =>
    have : i = n := by omega
    rw [this]
    exact he
  | succ d ih => exact hs i (by omega) (ih (i + 1) (by omega) (by omega))
theorem ev_pos {α : Type} {c : Prop} [Decidable c] {f g : Nat → Option α} {r : α} (hc : c) (h : Ev f r) : Ev (fun n => if c then f n else g n) r := by
  simp only [if_pos hc]
  exact h
theorem ev_neg {α : Type} {c : Prop} [Decidable c] {f g : Nat → Option α} {r : α} (hc : ¬ c) (h : Ev g r) : Ev (fun n => if c then f n else g n) r := by
  simp only [if_neg hc]
  exact h
theorem rdI (l : List Int) (i : Nat) (hi : i < l.length) : rd l (i : Int) = l[i] := by
  simp [rd, List.getD, hi]
theorem rdAi (l : List S57) (i : Nat) (hi : i < l.length) : rd_T57 l (i : Int) = l[i] := by
  simp [rd_T57, List.getD, hi]
theorem rdBi (l : List (List S57)) (i : Nat) (hi : i < l.length) : rd_L6 l (i : Int) = l[i] := by
  simp [rd_L6, List.getD, hi]
end Go.Proofs.Ytoeepmcaabmjkaa.PProg
namespace Go.Proofs.Ytoeepmcaabmjkaa.PTree
open Go.RowKit Go.Proofs.Ytoeepmcaabmjkaa.QPM Go.Proofs.YtoeepmcaabmjkaaW.PrintWords Go.Proofs.YtoeepmcaabmjkaaW.PrintLast Go.Proofs.Ytoeepmcaabmjkaa.PProg
theorem rdD (l : List S122) (i : Nat) (hi : i < l.length) : rd_T122 l (i : Int) = l[i] := by
  simp [rd_T122, List.getD, hi]
def inB (x lo hi : Int) : Bool := decide (lo ≤ x) && decide (x ≤ hi)
theorem l6In_eq (x lo hi : Int) : spec_l6In.f x lo hi = some (inB x lo hi) := by
  unfold spec_l6In.f inB
  by_cases h : x ≥ lo
  · rw [if_pos h, decide_eq_true h, Bool.true_and]
  · rw [if_neg h, decide_eq_false h, Bool.false_and]
theorem isPlace_eq (x n : Int) : impl_isPlace.f x n = some (inB x 0 (n - 1)) := by
  unfold impl_isPlace.f inB
  by_cases h : 0 ≤ x
  · rw [if_pos h, decide_eq_true h, Bool.true_and]
    congr 1
    exact decide_eq_decide.2 (by omega)
  · rw [if_neg h, decide_eq_false h, Bool.false_and]
theorem isReg_eq (x : Int) : impl_isReg.f x = some (inB x 0 2) := by
  unfold impl_isReg.f
  rw [isPlace_eq]
  rfl
theorem isNum_eq (x : Int) : impl_isNum.f x = some (inB x 0 99) := by
  unfold impl_isNum.f
  rw [isPlace_eq]
  rfl
/-- Is a deed in form, if there are so many cells? -/
def deedB (k a b cells : Int) : Bool :=
  if k = 1 then inB a 0 2 && inB b 0 (cells - 1) else if k = 2 then inB a 0 (cells - 1) && inB b 0 2 else if k = 3 then inB a 0 2 && inB b 0 99
  else if k = 4 then inB a 0 2 && inB b 0 2 else if k = 5 then inB a 0 2 && (b == 0) else false
theorem some_and (p q : Bool) : (if p = true then some q else some false) = some (p && q) := by cases p <;> rfl
theorem l1Deed_eq (k a b c : Int) (h0 : 0 ≤ c) (h1 : c ≤ 3) : spec_l1Deed.f k a b c = some (deedB k a b c) := by
  unfold spec_l1Deed.f deedB
  simp only [l6In_eq, Option.bind_some, some_and, w64 (show -9223372036854775808 ≤ c - 1 by omega) (show c - 1 ≤ 9223372036854775807 by omega)]
  repeat' (first | rfl | split)
theorem deedOk_eq (k a b c : Int) : ((impl_partOfDeed.f k a b).bind fun t => impl_deedOk.f t c) = some (deedB k a b c) := by
  unfold impl_partOfDeed.f impl_deedOk.f deedB
  simp only [Option.bind_some, isReg_eq, isPlace_eq, isNum_eq, some_and]
  by_cases h1 : k = 1
  · subst h1; simp
  by_cases h2 : k = 2
  · subst h2; simp
  by_cases h3 : k = 3
  · subst h3; simp
  by_cases h4 : k = 4
  · subst h4; simp
  by_cases h5 : k = 5
  · subst h5
    by_cases h6 : b = 0
    · subst h6; simp
    · simp [h6]
  · simp [h1, h2, h3, h4, h5]
def dB (cells : Int) (d : S122) : Bool := deedB d.f0 d.f1 d.f2 cells
/-- Are deeds those of a change, if there are so many cells? -/
def okC (l : List S122) (cells : Int) : Bool := (inB cells 0 3 && decide (l.length ≤ 5)) && l.all (dB cells)
theorem implOk_ev (l : List S122) (cells : Int) (hl : l.length ≤ 9223372036854775806) : Ev (fun k => impl_ChangeOk.f k l cells) (okC l cells) := by
  have key : ∀ i, i ≤ l.length → Ev (fun k => impl_ChangeOk.l0 k cells l (l.length : Int) (i : Int)) ((l.drop i).all (dB cells)) := by
    refine down ?_ ?_
    · refine Ev.step (fun k => by rw [impl_ChangeOk.l0, if_neg (by omega)]) ?_
      rw [List.drop_length, List.all_nil]
      exact Ev.now _
    · intro i hi ih
      rw [List.drop_eq_getElem_cons hi, List.all_cons]
      have hd : ∀ (f : Bool → Option Bool), ((impl_partOfDeed.f l[i].f0 l[i].f1 l[i].f2).bind fun t => (impl_deedOk.f t cells).bind f) = f (dB cells l[i]) := by
        intro f
        have := deedOk_eq l[i].f0 l[i].f1 l[i].f2 cells
        unfold dB
        have e : ((impl_partOfDeed.f l[i].f0 l[i].f1 l[i].f2).bind fun t => (impl_deedOk.f t cells).bind f) = (((impl_partOfDeed.f l[i].f0 l[i].f1 l[i].f2).bind fun t => impl_deedOk.f t cells).bind f) := by rw [Option.bind_assoc]
        rw [e, this]
        rfl
      cases hb : dB cells l[i] with
      | true =>
        rw [Bool.true_and]
        refine Ev.step (fun k => ?_) ih
        rw [impl_ChangeOk.l0, if_pos (by omega), if_pos (by omega), if_pos (by omega), rdD l i hi, hd, hb, if_pos rfl, w64 (by omega) (by omega)]
        rfl
      | false =>
        rw [Bool.false_and]
        refine Ev.step (fun k => ?_) (Ev.now false)
        rw [impl_ChangeOk.l0, if_pos (by omega), if_pos (by omega), if_pos (by omega), rdD l i hi, hd, hb, if_neg Bool.false_ne_true]
  have k0 := key 0 (Nat.zero_le _)
  unfold impl_ChangeOk.f okC inB
  by_cases h0 : cells < 0
  · refine ev_pos h0 ?_
    rw [decide_eq_false (p := 0 ≤ cells) (by omega)]
    simp only [Bool.false_and]
    exact Ev.step (fun k => by rw [impl_ChangeOk.j0, if_pos rfl]) (Ev.now _)
  · refine ev_neg h0 ?_
    by_cases h1 : cells > 3
    · refine ev_pos h1 ?_
      rw [decide_eq_false (p := cells ≤ 3) (by omega)]
      simp only [Bool.and_false, Bool.false_and]
      exact Ev.step (fun k => by rw [impl_ChangeOk.j0, if_pos rfl]) (Ev.now _)
    · refine ev_neg h1 ?_
      rw [decide_eq_true (p := 0 ≤ cells) (by omega), decide_eq_true (p := cells ≤ 3) (by omega)]
      simp only [Bool.true_and]
      by_cases h2 : l.length ≤ 5
      · rw [decide_eq_true h2, Bool.true_and, decide_eq_false (p := (l.length : Int) > 5) (by omega)]
        exact Ev.step (fun k => by rw [impl_ChangeOk.j0, if_neg Bool.false_ne_true]; rfl) k0
      · rw [decide_eq_false h2, Bool.false_and, decide_eq_true (p := (l.length : Int) > 5) (by omega)]
        exact Ev.step (fun k => by rw [impl_ChangeOk.j0, if_pos rfl]) (Ev.now _)
theorem ev_eq {α : Type} {f : Nat → Option α} {r : α} (h : ∀ k, f k = some r) : Ev f r := Ev.congr (fun k => h k) (Ev.now r)
/-- Is an act of the body in form? -/
def actB (cells body bodies : Int) (a : S57) : Bool :=
  if a.f0 = 1 ∧ a.f2.length = 0 ∧ a.f3 = 0 then okC a.f1 cells
  else if a.f0 = 2 ∧ a.f1.length = 0 ∧ a.f3 = 0 then kidsOk a.f2 body bodies
  else if a.f0 = 3 ∧ a.f1.length = 0 ∧ a.f2.length = 0 ∧ a.f3 = 0 then true
  else if a.f0 = 4 ∧ a.f1.length = 0 ∧ a.f2.length = 0 then inB a.f3 0 2
  else false
theorem implAct_ev (cells body bodies : Int) (a : S57) (h1 : a.f1.length ≤ 1048576) : Ev (fun k => impl_actOk.f k a.f0 a.f1 a.f2 a.f3 cells body bodies) (actB cells body bodies a) := by
  unfold impl_actOk.f actB
  by_cases c1 : a.f0 = 1 ∧ a.f2.length = 0 ∧ a.f3 = 0
  · rw [if_pos c1]
    exact ev_pos c1 (implOk_ev _ _ (by omega))
  rw [if_neg c1]
  refine ev_neg c1 (ev_eq fun _ => ?_)
  by_cases c2 : a.f0 = 2 ∧ a.f1.length = 0 ∧ a.f3 = 0
  · rw [if_pos c2, if_pos c2]
  rw [if_neg c2, if_neg c2]
  by_cases c3 : a.f0 = 3 ∧ a.f1.length = 0 ∧ a.f2.length = 0 ∧ a.f3 = 0
  · rw [if_pos c3, if_pos c3]
  rw [if_neg c3, if_neg c3]
  by_cases c4 : a.f0 = 4 ∧ a.f1.length = 0 ∧ a.f2.length = 0
  · rw [if_pos c4, if_pos c4, isReg_eq]
  rw [if_neg c4, if_neg c4]
theorem specKids_ev (l : List Int) (body bodies : Int) (hl : l.length ≤ 1048576) (hb0 : 0 ≤ body) (hb1 : body ≤ 1048576) (hn0 : 0 ≤ bodies) (hn1 : bodies ≤ 1048576) : Ev (fun k => spec_l1Kids.f k l body bodies) (kidsOk l body bodies) := by
  have one : ∀ x : Int, inB x (body + 1) (bodies - 1) = kidOk body bodies x := by
    intro x
    unfold inB kidOk
    rw [Bool.eq_iff_iff]
    simp
    omega
  have key : ∀ i, i ≤ l.length → Ev (fun k => spec_l1Kids.l0 k l body bodies (i : Int)) ((l.drop i).all (kidOk body bodies) && (decide (1 ≤ l.length) && decide (l.length ≤ 2))) := by
    refine down ?_ ?_
    · rw [List.drop_length, List.all_nil, Bool.true_and]
      refine Ev.step (fun k => ?_) (Ev.now _)
      rw [spec_l1Kids.l0, if_neg (by omega), l6In_eq, Option.bind_some]
      unfold inB
      congr 1
      rw [Bool.eq_iff_iff]
      simp
      omega
    · intro i hi ih
      rw [List.drop_eq_getElem_cons hi, List.all_cons]
      cases hb : kidOk body bodies l[i] with
      | true =>
        rw [Bool.true_and]
        refine Ev.step (fun k => ?_) ih
        rw [spec_l1Kids.l0, if_pos (by omega), if_pos (by omega), rdI l i hi, w64 (i := body + 1) (by omega) (by omega), w64 (i := bodies - 1) (by omega) (by omega), l6In_eq, one, hb, Option.bind_some, if_pos rfl, w64 (by omega) (by omega)]
        rfl
      | false =>
        rw [Bool.false_and, Bool.false_and]
        refine Ev.step (fun k => ?_) (Ev.now false)
        rw [spec_l1Kids.l0, if_pos (by omega), if_pos (by omega), rdI l i hi, w64 (i := body + 1) (by omega) (by omega), w64 (i := bodies - 1) (by omega) (by omega), l6In_eq, one, hb, Option.bind_some, if_neg Bool.false_ne_true]
  have := key 0 (Nat.zero_le _)
  rw [List.drop_zero] at this
  exact this
theorem specDeeds_ev (l0 : List Int) (l1 : List (List S57)) (k0 : Int) (l : List S122) (l2 : List Int) (r : Int) (hl : l.length ≤ 1048576) (hc : l0.length ≤ 3) : Ev (fun k => spec_l1Act.l0 k 0 l0 l1 k0 l l2 r) (okC l (l0.length : Int)) := by
  have key : ∀ i, i ≤ l.length → Ev (fun k => spec_l1Act.l0 k (i : Int) l0 l1 k0 l l2 r) ((l.drop i).all (dB (l0.length : Int)) && decide (l.length ≤ 5)) := by
    refine down ?_ ?_
    · rw [List.drop_length, List.all_nil, Bool.true_and]
      refine Ev.step (fun k => ?_) (Ev.now _)
      rw [spec_l1Act.l0, if_neg (by omega)]
      congr 1
      exact decide_eq_decide.2 (by omega)
    · intro i hi ih
      rw [List.drop_eq_getElem_cons hi, List.all_cons]
      cases hb : dB (l0.length : Int) l[i] with
      | true =>
        rw [Bool.true_and]
        refine Ev.step (fun k => ?_) ih
        unfold dB at hb
        rw [spec_l1Act.l0, if_pos (by omega), if_pos (by omega), rdD l i hi, l1Deed_eq _ _ _ _ (by omega) (by omega), hb, Option.bind_some, if_pos rfl, w64 (by omega) (by omega)]
        rfl
      | false =>
        rw [Bool.false_and, Bool.false_and]
        refine Ev.step (fun k => ?_) (Ev.now false)
        unfold dB at hb
        rw [spec_l1Act.l0, if_pos (by omega), if_pos (by omega), rdD l i hi, l1Deed_eq _ _ _ _ (by omega) (by omega), hb, Option.bind_some, if_neg Bool.false_ne_true]
  have := key 0 (Nat.zero_le _)
  rw [List.drop_zero] at this
  have e : okC l (l0.length : Int) = (l.all (dB (l0.length : Int)) && decide (l.length ≤ 5)) := by
    unfold okC inB
    rw [decide_eq_true (p := 0 ≤ (l0.length : Int)) (by omega), decide_eq_true (p := (l0.length : Int) ≤ 3) (by omega), Bool.true_and, Bool.true_and, Bool.and_comm]
  rw [e]
  exact this
theorem specAct_ev (l0 : List Int) (l1 : List (List S57)) (body : Int) (a : S57) (hc : l0.length ≤ 3) (hn : l1.length ≤ 4) (hb0 : 0 ≤ body) (hb1 : body ≤ 4) (h1 : a.f1.length ≤ 1048576) (h2 : a.f2.length ≤ 1048576) :
    Ev (fun k => spec_l1Act.f k l0 l1 body a.f0 a.f1 a.f2 a.f3) (actB (l0.length : Int) body (l1.length : Int) a) := by
  obtain ⟨k0, d, m, r⟩ := a
  dsimp only at h1 h2 ⊢
  have bad : ∀ f : Nat → Option Bool, (∀ k, f k = spec_l1Act.j0 k body true l0 l1 k0 d m r) → Ev f false := fun f hf => Ev.congr hf (Ev.step (fun k => by rw [spec_l1Act.j0, if_pos rfl]) (Ev.now false))
  have good : ∀ (f : Nat → Option Bool) (z : Bool), (∀ k, f k = spec_l1Act.j0 k body false l0 l1 k0 d m r) → Ev (fun k => if k0 = 1 then (spec_l1Act.l0 k 0 l0 l1 k0 d m r) else (if k0 = 2 then ((spec_l1Kids.f k m body (l1.length : Int)).bind fun t125 => (some t125)) else (if k0 = 3 then (some true) else (if k0 = 4 then ((spec_l6In.f r 0 2).bind fun t126 => (some t126)) else (some false))))) z → Ev f z :=
    fun f z hf hz => Ev.congr hf (Ev.step (fun k => by rw [spec_l1Act.j0, if_neg Bool.false_ne_true]) hz)
  have e1 : ∀ l : List S122, ((l.length : Int) > 0) = (¬ l.length = 0) := fun l => propext (by omega)
  have e2 : ∀ l : List Int, ((l.length : Int) > 0) = (¬ l.length = 0) := fun l => propext (by omega)
  by_cases k1 : k0 = 1
  · subst k1
    by_cases c : m.length = 0
    · by_cases c' : r = 0
      · refine good _ _ (fun k => by unfold spec_l1Act.f; simp [c, c']) ?_
        have e : actB (l0.length : Int) body (l1.length : Int) ⟨1, d, m, r⟩ = okC d (l0.length : Int) := if_pos ⟨rfl, c, c'⟩
        rw [e]
        exact ev_pos rfl (specDeeds_ev _ _ _ _ _ _ h1 hc)
      · have : actB (l0.length : Int) body (l1.length : Int) ⟨1, d, m, r⟩ = false := by unfold actB; simp [c']
        rw [this]
        exact bad _ (fun k => by unfold spec_l1Act.f; simp [c, bne_iff_ne.2 c'])
    · have : actB (l0.length : Int) body (l1.length : Int) ⟨1, d, m, r⟩ = false := by unfold actB; simp; intro h; rw [h] at c; exact absurd rfl c
      rw [this]
      exact bad _ (fun k => by unfold spec_l1Act.f; simp only [e2, c]; simp)
  by_cases k2 : k0 = 2
  · subst k2
    by_cases c : d.length = 0
    · by_cases c' : r = 0
      · refine good _ _ (fun k => by unfold spec_l1Act.f; simp [c, c']) ?_
        have e : actB (l0.length : Int) body (l1.length : Int) ⟨2, d, m, r⟩ = kidsOk m body (l1.length : Int) := (if_neg (by dsimp only; omega)).trans (if_pos ⟨rfl, c, c'⟩)
        rw [e]
        exact ev_neg (by omega) (ev_pos rfl (Ev.bind (specKids_ev _ _ _ h2 hb0 (by omega) (by omega) (by omega)) (Ev.now _)))
      · have : actB (l0.length : Int) body (l1.length : Int) ⟨2, d, m, r⟩ = false := by unfold actB; simp [c']
        rw [this]
        exact bad _ (fun k => by unfold spec_l1Act.f; simp [c, bne_iff_ne.2 c'])
    · have : actB (l0.length : Int) body (l1.length : Int) ⟨2, d, m, r⟩ = false := by unfold actB; simp; intro h; rw [h] at c; exact absurd rfl c
      rw [this]
      exact bad _ (fun k => by unfold spec_l1Act.f; simp only [e1, c]; simp)
  by_cases cd : d.length = 0
  · by_cases cm : m.length = 0
    · by_cases k4 : k0 = 4
      · subst k4
        refine good _ _ (fun k => by unfold spec_l1Act.f; simp [cd, cm]) ?_
        have e : actB (l0.length : Int) body (l1.length : Int) ⟨4, d, m, r⟩ = inB r 0 2 := (if_neg (by dsimp only; omega)).trans ((if_neg (by dsimp only; omega)).trans ((if_neg (by dsimp only; omega)).trans (if_pos ⟨rfl, cd, cm⟩)))
        rw [e]
        exact ev_neg (by omega) (ev_neg (by omega) (ev_neg (by omega) (ev_pos rfl (ev_eq fun _ => by rw [l6In_eq]; rfl))))
      · by_cases c' : r = 0
        · refine good _ _ (fun k => by unfold spec_l1Act.f; simp [cd, cm, c', k1, k2, k4]) ?_
          refine ev_neg k1 (ev_neg k2 (ev_eq fun _ => ?_))
          by_cases k3 : k0 = 3
          · have e : actB (l0.length : Int) body (l1.length : Int) ⟨k0, d, m, r⟩ = true := (if_neg (by dsimp only; omega)).trans ((if_neg (by dsimp only; omega)).trans (if_pos ⟨k3, cd, cm, c'⟩))
            rw [e, if_pos k3]
          · have e : actB (l0.length : Int) body (l1.length : Int) ⟨k0, d, m, r⟩ = false := (if_neg (by dsimp only; omega)).trans ((if_neg (by dsimp only; omega)).trans ((if_neg (by dsimp only; omega)).trans (if_neg (by dsimp only; omega))))
            rw [e, if_neg k3, if_neg k4]
        · have : actB (l0.length : Int) body (l1.length : Int) ⟨k0, d, m, r⟩ = false := by
            unfold actB
            dsimp only
            rw [if_neg (by omega), if_neg (by omega), if_neg (by omega), if_neg (by omega)]
          rw [this]
          exact bad _ (fun k => by unfold spec_l1Act.f; simp [cd, cm, bne_iff_ne.2 c', k1, k2, k4])
    · have : actB (l0.length : Int) body (l1.length : Int) ⟨k0, d, m, r⟩ = false := by
        unfold actB
        dsimp only
        rw [if_neg (by omega), if_neg (by omega), if_neg (by omega), if_neg (by omega)]
      rw [this]
      exact bad _ (fun k => by unfold spec_l1Act.f; simp only [e2, cd, cm, k1, k2]; simp)
  · have : actB (l0.length : Int) body (l1.length : Int) ⟨k0, d, m, r⟩ = false := by
      unfold actB
      dsimp only
      rw [if_neg (by omega), if_neg (by omega), if_neg (by omega), if_neg (by omega)]
    rw [this]
    exact bad _ (fun k => by unfold spec_l1Act.f; simp only [e1, cd, k1]; simp)
/-- Are a body's acts in form? Are those of all bodies from the i-th on? -/
def bodyB (cells bodies : Int) (i : Nat) (l : List S57) : Bool := decide (l.length ≤ 4) && l.all (actB cells (i : Int) bodies)
def restB (cells bodies : Int) : Nat → List (List S57) → Bool
  | _, [] => true
  | i, l :: ls => bodyB cells bodies i l && restB cells bodies (i + 1) ls
def formB (l0 : List Int) (l1 : List (List S57)) : Bool :=
  (decide (l0.length ≤ 3) && decide (1 ≤ l1.length ∧ l1.length ≤ 4)) && (l0.all (fun x => inB x 0 99) && restB (l0.length : Int) (l1.length : Int) 0 l1)
def Small (l0 : List Int) (l1 : List (List S57)) : Prop := l0.length ≤ 1048576 ∧ l1.length ≤ 1048576 ∧ ∀ b ∈ l1, b.length ≤ 1048576 ∧ ∀ x ∈ b, x.f1.length ≤ 1048576 ∧ x.f2.length ≤ 1048576
theorem inner_ev (cells body bodies : Int) : ∀ l : List S57, (∀ x ∈ l, x.f1.length ≤ 1048576) → Ev (fun k => innerF k cells body bodies l) (l.all (actB cells body bodies))
  | [], _ => Ev.now true
  | a :: l, h => by
    simp only [innerF, List.all_cons]
    refine Ev.bind (implAct_ev cells body bodies a (h a List.mem_cons_self)) ?_
    cases actB cells body bodies a with
    | true =>
      rw [Bool.true_and]
      exact ev_pos rfl (inner_ev cells body bodies l (fun x hx => h x (List.mem_cons_of_mem _ hx)))
    | false => exact ev_neg Bool.false_ne_true (Ev.now _)
theorem outer_ev (cells bodies : Int) : ∀ (ls : List (List S57)) (i : Nat), (∀ b ∈ ls, ∀ x ∈ b, x.f1.length ≤ 1048576) → Ev (fun k => outerF k cells bodies i ls) (restB cells bodies i ls)
  | [], _, _ => Ev.now true
  | l :: ls, i, h => by
    simp only [outerF, restB, bodyB]
    by_cases c : l.length > 4
    · rw [decide_eq_false (by omega), Bool.false_and, Bool.false_and]
      exact ev_pos c (Ev.now _)
    · rw [decide_eq_true (by omega), Bool.true_and]
      refine ev_neg c (Ev.bind (inner_ev cells (i : Int) bodies l (h l List.mem_cons_self)) ?_)
      cases l.all (actB cells (i : Int) bodies) with
      | true =>
        rw [Bool.true_and]
        exact ev_pos rfl (outer_ev cells bodies ls (i + 1) (fun b hb => h b (List.mem_cons_of_mem _ hb)))
      | false => exact ev_neg Bool.false_ne_true (Ev.now _)
theorem allNums_ev (l : List Int) (hl : l.length ≤ 1048576) : Ev (fun k => impl_allNums.f k l) (l.all (fun x => inB x 0 99)) := by
  have key : ∀ i, i ≤ l.length → Ev (fun k => impl_allNums.l0 k l (l.length : Int) (i : Int)) ((l.drop i).all (fun x => inB x 0 99)) := by
    refine down ?_ ?_
    · rw [List.drop_length, List.all_nil]
      exact Ev.step (fun k => by rw [impl_allNums.l0, if_neg (by omega)]) (Ev.now _)
    · intro i hi ih
      rw [List.drop_eq_getElem_cons hi, List.all_cons]
      cases hb : inB l[i] 0 99 with
      | true =>
        rw [Bool.true_and]
        refine Ev.step (fun k => ?_) ih
        rw [impl_allNums.l0, if_pos (by omega), if_pos (by omega), if_pos (by omega), rdI l i hi, isNum_eq, hb, Option.bind_some, if_pos rfl, w64 (by omega) (by omega)]
        rfl
      | false =>
        rw [Bool.false_and]
        refine Ev.step (fun k => ?_) (Ev.now false)
        rw [impl_allNums.l0, if_pos (by omega), if_pos (by omega), if_pos (by omega), rdI l i hi, isNum_eq, hb, Option.bind_some, if_neg Bool.false_ne_true]
  have := key 0 (Nat.zero_le _)
  rw [List.drop_zero] at this
  exact this
theorem specForm_ev (l0 : List Int) (l1 : List (List S57)) (h : Small l0 l1) : Ev (fun k => spec_l1Form.f k l0 l1) (formB l0 l1) := by
  unfold spec_l1Form.f formB
  have bad : Ev (fun k => spec_l1Form.j0 k true l0 l1) false := Ev.step (fun k => by rw [spec_l1Form.j0, if_pos rfl]) (Ev.now false)
  by_cases c : l0.length ≤ 3
  · refine ev_neg (by omega) ?_
    rw [decide_eq_true c, Bool.true_and]
    simp only [l6In_eq, Option.bind_some]
    by_cases d : 1 ≤ l1.length ∧ l1.length ≤ 4
    · have e : inB (l1.length : Int) 1 4 = true := by unfold inB; rw [decide_eq_true (by omega), decide_eq_true (by omega)]; rfl
      rw [e, decide_eq_true d, Bool.true_and]
      refine Ev.step (fun k => by rw [Bool.not_true, spec_l1Form.j0, if_neg Bool.false_ne_true]) ?_
      have acts : ∀ i, (hi : i < l1.length) → l1[i].length ≤ 4 → ∀ R, Ev (fun k => spec_l1Form.l1 k ((i + 1 : Nat) : Int) l0 l1) R → ∀ j, j ≤ l1[i].length → Ev (fun k => spec_l1Form.l2 k (i : Int) (j : Int) l0 l1) ((l1[i].drop j).all (actB (l0.length : Int) (i : Int) (l1.length : Int)) && R) := by
        intro i hi hl R hR
        refine down ?_ ?_
        · rw [List.drop_length, List.all_nil, Bool.true_and]
          refine Ev.step (fun k => ?_) hR
          rw [spec_l1Form.l2, if_pos (by omega), if_pos (by omega), rdBi l1 i hi, if_neg (by omega), w64 (by omega) (by omega)]
          rfl
        · intro j hj ih
          rw [List.drop_eq_getElem_cons hj, List.all_cons]
          have sm := (h.2.2 l1[i] (List.getElem_mem hi)).2 l1[i][j] (List.getElem_mem hj)
          have ha := specAct_ev l0 l1 (i : Int) l1[i][j] c d.2 (by omega) (by omega) sm.1 sm.2
          refine Ev.step (fun k => by rw [spec_l1Form.l2, if_pos (by omega), if_pos (by omega), rdBi l1 i hi, if_pos (by omega), if_pos (by omega), rdAi _ j hj]) (Ev.bind ha ?_)
          cases actB (l0.length : Int) (i : Int) (l1.length : Int) l1[i][j] with
          | true =>
            rw [Bool.true_and]
            refine ev_pos rfl (Ev.congr (fun k => ?_) ih)
            rw [w64 (by omega) (by omega)]
            rfl
          | false =>
            rw [Bool.false_and, Bool.false_and]
            exact ev_neg Bool.false_ne_true (Ev.now _)
      have bods : ∀ i, i ≤ l1.length → Ev (fun k => spec_l1Form.l1 k (i : Int) l0 l1) (restB (l0.length : Int) (l1.length : Int) i (l1.drop i)) := by
        refine down ?_ ?_
        · have e : restB (l0.length : Int) (l1.length : Int) l1.length [] = true := by simp [restB]
          rw [List.drop_length, e]
          exact Ev.step (fun k => by rw [spec_l1Form.l1, if_neg (by omega)]) (Ev.now _)
        · intro i hi ih
          rw [List.drop_eq_getElem_cons hi]
          unfold restB bodyB
          by_cases q : l1[i].length ≤ 4
          · rw [decide_eq_true q, Bool.true_and]
            have := acts i hi q _ ih 0 (Nat.zero_le _)
            rw [List.drop_zero] at this
            refine Ev.step (fun k => ?_) this
            rw [spec_l1Form.l1, if_pos (by omega), if_pos (by omega), rdBi l1 i hi, if_neg (by omega)]
            rfl
          · rw [decide_eq_false q, Bool.false_and, Bool.false_and]
            refine Ev.step (fun k => ?_) (Ev.now false)
            rw [spec_l1Form.l1, if_pos (by omega), if_pos (by omega), rdBi l1 i hi, if_pos (by omega)]
      have key : ∀ i, i ≤ l0.length → Ev (fun k => spec_l1Form.l0 k (i : Int) l0 l1) ((l0.drop i).all (fun x => inB x 0 99) && restB (l0.length : Int) (l1.length : Int) 0 l1) := by
        refine down ?_ ?_
        · rw [List.drop_length, List.all_nil, Bool.true_and]
          have := bods 0 (Nat.zero_le _)
          rw [List.drop_zero] at this
          refine Ev.step (fun k => ?_) this
          rw [spec_l1Form.l0, if_neg (by omega)]
          rfl
        · intro i hi ih
          rw [List.drop_eq_getElem_cons hi, List.all_cons]
          cases hb : inB l0[i] 0 99 with
          | true =>
            rw [Bool.true_and]
            refine Ev.step (fun k => ?_) ih
            rw [spec_l1Form.l0, if_pos (by omega), if_pos (by omega), rdI l0 i hi, l6In_eq, hb, Option.bind_some, if_pos rfl, w64 (by omega) (by omega)]
            rfl
          | false =>
            rw [Bool.false_and, Bool.false_and]
            refine Ev.step (fun k => ?_) (Ev.now false)
            rw [spec_l1Form.l0, if_pos (by omega), if_pos (by omega), rdI l0 i hi, l6In_eq, hb, Option.bind_some, if_neg Bool.false_ne_true]
      have := key 0 (Nat.zero_le _)
      rw [List.drop_zero] at this
      exact this
    · have e : inB (l1.length : Int) 1 4 = false := by
        unfold inB
        rw [← Bool.not_eq_true, Bool.and_eq_true, decide_eq_true_iff, decide_eq_true_iff]
        omega
      rw [e, decide_eq_false d, Bool.false_and]
      exact bad
  · rw [decide_eq_false c, Bool.false_and, Bool.false_and]
    exact ev_pos (by omega) bad
/-- A body's kids, if all is in form: they stand behind it. -/
theorem rest_at {cells bodies : Int} : ∀ {ls : List (List S57)} {i : Nat}, restB cells bodies i ls = true → ∀ j (hj : j < ls.length), bodyB cells bodies (i + j) ls[j] = true
  | [], _, _, j, hj => absurd hj (by simp)
  | l :: ls, i, h, j, hj => by
    unfold restB at h
    rw [Bool.and_eq_true] at h
    match j, hj with
    | 0, _ => exact h.1
    | j + 1, hj =>
      have := rest_at h.2 j (by simp at hj; omega)
      rw [show i + 1 + j = i + (j + 1) by omega] at this
      exact this
theorem kids_behind {cells body bodies : Int} {a : S57} (h : actB cells body bodies a = true) : a.f2.length ≤ 2 ∧ ∀ x ∈ a.f2, body < x ∧ x < bodies := by
  unfold actB at h
  have z : a.f2.length = 0 → a.f2.length ≤ 2 ∧ ∀ x ∈ a.f2, body < x ∧ x < bodies := fun e => ⟨by omega, fun x hx => by rw [List.length_eq_zero_iff.1 e] at hx; cases hx⟩
  split at h
  · rename_i c; exact z c.2.1
  · split at h
    · unfold kidsOk at h
      rw [Bool.and_eq_true, List.all_eq_true, Bool.and_eq_true, decide_eq_true_iff, decide_eq_true_iff] at h
      refine ⟨h.2.2, fun x hx => ?_⟩
      have := h.1 x hx
      unfold kidOk at this
      simp at this
      omega
    · split at h
      · rename_i c; exact z c.2.2.1
      · split at h
        · rename_i c; exact z c.2.2
        · cases h
structure Form (l1 : List (List S57)) : Prop where
  few : 1 ≤ l1.length ∧ l1.length ≤ 4
  acts : ∀ b (hb : b < l1.length), l1[b].length ≤ 4
  kids : ∀ b (hb : b < l1.length), ∀ a ∈ l1[b], a.f2.length ≤ 2 ∧ ∀ x ∈ a.f2, (b : Int) < x ∧ x < (l1.length : Int)
theorem form_of {l0 : List Int} {l1 : List (List S57)} (h : formB l0 l1 = true) : Form l1 := by
  unfold formB at h
  rw [Bool.and_eq_true, Bool.and_eq_true, Bool.and_eq_true, decide_eq_true_iff, decide_eq_true_iff] at h
  have r := fun b hb => rest_at h.2.2 b hb
  refine ⟨h.1.2, fun b hb => ?_, fun b hb a ha => ?_⟩
  · have := r b hb
    unfold bodyB at this
    rw [Bool.and_eq_true, decide_eq_true_iff] at this
    exact this.1
  · have := r b hb
    unfold bodyB at this
    rw [Bool.and_eq_true, List.all_eq_true] at this
    have := kids_behind (this.2 a ha)
    rw [Nat.zero_add] at this
    exact this
/-- The tree of a body: both tell the same. -/
theorem tree_ev {l0 : List Int} {l1 : List (List S57)} (h : Form l1) : ∀ (d b : Nat), b < l1.length → l1.length ≤ b + d → ∃ T : Int, Ev (fun k => spec_l1Tree.f k l0 l1 (b : Int)) T ∧ Ev (fun k => impl_treeOf.f k l0 l1 (b : Int)) T
  | 0, b, hb, hd => absurd hb (by omega)
  | d + 1, b, hb, hd => by
    have hl := h.acts b hb
    have kid : ∀ x : Int, (b : Int) < x → x < (l1.length : Int) → ∃ T : Int, Ev (fun k => spec_l1Tree.f k l0 l1 x) T ∧ Ev (fun k => impl_treeOf.f k l0 l1 x) T := by
      intro x h0 h1
      have := tree_ev (l0 := l0) h d x.toNat (by omega) (by omega)
      rw [Int.toNat_of_nonneg (by omega)] at this
      exact this
    have acts : ∀ i, i ≤ l1[b].length → ∀ s : Int, ∃ T : Int, Ev (fun k => spec_l1Tree.l0 k (b : Int) s (i : Int) l0 l1) T ∧ Ev (fun k => impl_treeOf.l0 k s l1[b] (l1[b].length : Int) (i : Int) l0 l1) T := by
      refine down ?_ ?_
      · intro s
        refine ⟨s, Ev.step (fun k => ?_) (Ev.now _), Ev.step (fun k => ?_) (Ev.now _)⟩
        · rw [spec_l1Tree.l0, if_pos (by omega), if_pos (by omega), rdBi l1 b hb, if_neg (by omega)]
        · rw [impl_treeOf.l0, if_neg (by omega)]
      · intro i hi ih s
        obtain ⟨hk, hx⟩ := h.kids b hb l1[b][i] (List.getElem_mem hi)
        have inner : ∀ j, j ≤ l1[b][i].f2.length → ∀ s : Int, ∃ T : Int, Ev (fun k => spec_l1Tree.l1 k (b : Int) s (i : Int) l1[b][i].f2 (j : Int) l0 l1) T ∧ Ev (fun k => impl_treeOf.l1 k s l1[b] (l1[b].length : Int) (i : Int) l1[b][i].f2 (l1[b][i].f2.length : Int) (j : Int) l0 l1) T := by
          refine down ?_ ?_
          · intro s
            obtain ⟨T, t1, t2⟩ := ih s
            refine ⟨T, Ev.step (fun k => ?_) t1, Ev.step (fun k => ?_) t2⟩
            · rw [spec_l1Tree.l1, if_neg (by omega), w64 (by omega) (by omega)]
              rfl
            · rw [impl_treeOf.l1, if_neg (by omega), w64 (by omega) (by omega)]
              rfl
          · intro j hj ih2 s
            obtain ⟨q0, q1⟩ := hx _ (List.getElem_mem hj)
            obtain ⟨t, u1, u2⟩ := kid _ q0 q1
            obtain ⟨T, t1, t2⟩ := ih2 (wrap64 (s + t))
            refine ⟨T, Ev.step (fun k => by rw [spec_l1Tree.l1, if_pos (by omega), if_pos (by omega), rdI _ j hj]) (Ev.bind u1 (Ev.congr (fun k => ?_) t1)), Ev.step (fun k => by rw [impl_treeOf.l1, if_pos (by omega), if_pos (by omega), if_pos (by omega), rdI _ j hj]) (Ev.bind u2 (Ev.congr (fun k => ?_) t2))⟩
            · rw [w64 (i := (j : Int) + 1) (by omega) (by omega)]
              rfl
            · rw [w64 (i := (j : Int) + 1) (by omega) (by omega)]
              rfl
        obtain ⟨T, t1, t2⟩ := inner 0 (Nat.zero_le _) s
        refine ⟨T, Ev.step (fun k => ?_) t1, Ev.step (fun k => ?_) t2⟩
        · rw [spec_l1Tree.l0, if_pos (by omega), if_pos (by omega), rdBi l1 b hb, if_pos (by omega), if_pos (by omega), rdAi _ i hi]
          rfl
        · rw [impl_treeOf.l0, if_pos (by omega), if_pos (by omega), if_pos (by omega), rdAi _ i hi]
          rfl
    obtain ⟨T, t1, t2⟩ := acts 0 (Nat.zero_le _) 1
    refine ⟨T, Ev.step (fun k => ?_) t1, Ev.step (fun k => ?_) t2⟩
    · rw [spec_l1Tree.f]
      rfl
    · rw [impl_treeOf.f, if_pos (by omega), if_pos (by omega), rdBi l1 b hb]
      rfl
/-- Is a program one? Both tell the same; if it is one, it is in form. -/
theorem ok_ev (l0 : List Int) (l1 : List (List S57)) (h : Small l0 l1) : ∃ R : Bool, Ev (fun k => spec_ProgOk.f k l0 l1) R ∧ Ev (fun k => impl_ProgOk.f k l0 l1) R ∧ (R = true → formB l0 l1 = true) := by
  have sf := specForm_ev l0 l1 h
  cases hf : formB l0 l1 with
  | true =>
    rw [hf] at sf
    have fm := form_of hf
    obtain ⟨T, t1, t2⟩ := tree_ev (l0 := l0) fm 4 0 (by have := fm.few; omega) (by have := fm.few; omega)
    refine ⟨decide (T ≤ 7), ?_, ?_, fun _ => rfl⟩
    · unfold spec_ProgOk.f
      exact Ev.bind sf (ev_pos rfl (Ev.bind t1 (Ev.now _)))
    · unfold formB at hf
      rw [Bool.and_eq_true, Bool.and_eq_true, Bool.and_eq_true, decide_eq_true_iff, decide_eq_true_iff] at hf
      obtain ⟨⟨h3, h4⟩, h5, h6⟩ := hf
      have an := allNums_ev l0 h.1
      have ou := outer_ev (l0.length : Int) (l1.length : Int) l1 0 (fun b hb x hx => ((h.2.2 b hb).2 x hx).1)
      rw [h5] at an
      rw [h6] at ou
      unfold impl_ProgOk.f
      exact ev_neg (by omega) (Ev.bind an (ev_pos rfl (ev_neg (by omega) (Ev.bind ou (ev_pos rfl (Ev.bind t2 (Ev.now _)))))))
  | false =>
    rw [hf] at sf
    refine ⟨false, ?_, ?_, fun q => by cases q⟩
    · unfold spec_ProgOk.f
      exact Ev.bind sf (ev_neg Bool.false_ne_true (Ev.now _))
    · have an := allNums_ev l0 h.1
      have ou := outer_ev (l0.length : Int) (l1.length : Int) l1 0 (fun b hb x hx => ((h.2.2 b hb).2 x hx).1)
      unfold impl_ProgOk.f
      by_cases c : l0.length > 3
      · exact ev_pos c (Ev.now _)
      refine ev_neg c (Ev.bind an ?_)
      cases h5 : l0.all (fun x => inB x 0 99) with
      | false => exact ev_neg Bool.false_ne_true (Ev.now _)
      | true =>
        refine ev_pos rfl ?_
        by_cases c2 : l1.length < 1 ∨ 4 < l1.length
        · exact ev_pos c2 (Ev.now _)
        refine ev_neg c2 (Ev.bind ou ?_)
        cases h6 : restB (l0.length : Int) (l1.length : Int) 0 l1 with
        | false => exact ev_neg Bool.false_ne_true (Ev.now _)
        | true =>
          exfalso
          unfold formB at hf
          rw [h5, h6, decide_eq_true (show l0.length ≤ 3 by omega), decide_eq_true (show 1 ≤ l1.length ∧ l1.length ≤ 4 by omega)] at hf
          cases hf
end Go.Proofs.Ytoeepmcaabmjkaa.PTree
namespace Go.Proofs.Ytoeepmcaabmjkaa.PTau
open Go.RowKit Go.Proofs.Ytoeepmcaabmjkaa.QPM Go.Proofs.YtoeepmcaabmjkaaW.PrintWords Go.Proofs.YtoeepmcaabmjkaaW.PrintLast Go.Proofs.Ytoeepmcaabmjkaa.PProg Go.Proofs.Ytoeepmcaabmjkaa.PTree
theorem Ev_det {α : Type} {f : Nat → Option α} {a b : α} (h1 : Ev f a) (h2 : Ev f b) : a = b := by
  obtain ⟨n, h1⟩ := h1
  obtain ⟨m, h2⟩ := h2
  have e1 := h1 (max n m) (by omega)
  have e2 := h2 (max n m) (by omega)
  rw [e1] at e2
  injection e2
def tr (l1 : List (List S57)) : Nat → Int → Int
  | 0, _ => 0
  | d + 1, b => 1 + ((l1.getD b.toNat []).map (fun a => (a.f2.map (tr l1 d)).sum)).sum
theorem sum_nn {α : Type} {f : α → Int} : ∀ {l : List α}, (∀ x ∈ l, 0 ≤ f x) → 0 ≤ (l.map f).sum
  | [], _ => by simp
  | x :: l, h => by
    have h1 := h x (List.mem_cons_self)
    have h2 := sum_nn (l := l) (fun y hy => h y (List.mem_cons_of_mem _ hy))
    rw [List.map_cons, List.sum_cons]
    omega
theorem sum_le {α : Type} {f : α → Int} {c : Int} (hc : 0 ≤ c) : ∀ {l : List α}, (∀ x ∈ l, f x ≤ c) → (l.map f).sum ≤ l.length * c
  | [], _ => by simp
  | x :: l, h => by
    have h1 := h x (List.mem_cons_self)
    have h2 := sum_le hc (l := l) (fun y hy => h y (List.mem_cons_of_mem _ hy))
    rw [List.map_cons, List.sum_cons, List.length_cons]
    have : ((l.length + 1 : Nat) : Int) * c = l.length * c + c := by rw [Int.natCast_add, Int.add_mul]; simp
    omega
theorem sum_at {α : Type} {f : α → Int} : ∀ {l : List α}, (∀ x ∈ l, 0 ≤ f x) → ∀ x ∈ l, f x ≤ (l.map f).sum
  | y :: l, h, x, hx => by
    have h0 := sum_nn (f := f) (l := l) (fun z hz => h z (List.mem_cons_of_mem _ hz))
    have h3 := h y (List.mem_cons_self)
    rw [List.map_cons, List.sum_cons]
    rcases List.mem_cons.1 hx with rfl | hx
    · omega
    · have h1 := sum_at (f := f) (fun z hz => h z (List.mem_cons_of_mem _ hz)) x hx
      omega
theorem tr_nn (l1 : List (List S57)) : ∀ d b, 0 ≤ tr l1 d b
  | 0, _ => by simp [tr]
  | d + 1, b => by
    have : 0 ≤ ((l1.getD b.toNat []).map (fun a => (a.f2.map (tr l1 d)).sum)).sum := sum_nn (fun a _ => sum_nn (fun x _ => tr_nn l1 d x))
    rw [tr]
    omega
theorem getD_at {α : Type} {l : List α} {z : α} {i : Nat} (h : i < l.length) : l.getD i z = l[i] := by
  rw [List.getD_eq_getElem?_getD, List.getElem?_eq_getElem h]
  rfl
/-- A body is few tasks. -/
theorem tr_le {l1 : List (List S57)} (h : PTree.Form l1) : ∀ (d : Nat) (b : Int), 0 ≤ b → b < l1.length → tr l1 d b ≤ 9 ^ d
  | 0, _, _, _ => by simp [tr]
  | d + 1, b, h0, h1 => by
    have hb : b.toNat < l1.length := by omega
    have hp : (0 : Int) ≤ 9 ^ d := Int.pow_nonneg (by decide)
    have hl := h.acts b.toNat hb
    have k1 : ((l1[b.toNat]).map (fun a => (a.f2.map (tr l1 d)).sum)).sum ≤ (l1[b.toNat]).length * (2 * 9 ^ d) := by
      refine sum_le (by omega) (fun a ha => ?_)
      obtain ⟨g1, g2⟩ := h.kids b.toNat hb a ha
      have := sum_le (f := tr l1 d) hp (l := a.f2) (fun x hx => tr_le h d x (by have := (g2 x hx).1; omega) (g2 x hx).2)
      have k2 : (a.f2.length : Int) * 9 ^ d ≤ 2 * 9 ^ d := Int.mul_le_mul_of_nonneg_right (by omega) hp
      omega
    have k3 : ((l1[b.toNat]).length : Int) * (2 * 9 ^ d) ≤ 4 * (2 * 9 ^ d) := Int.mul_le_mul_of_nonneg_right (by omega) (by omega)
    have hq : (0 : Int) < 9 ^ d := Int.pow_pos (by decide)
    rw [tr, getD_at hb, Int.pow_succ]
    omega
/-- The tree of a body, as a number: both tell it. -/
theorem tau_ev {l0 : List Int} {l1 : List (List S57)} (h : PTree.Form l1) : ∀ (d b : Nat), d ≤ 4 → b < l1.length → l1.length ≤ b + d → Ev (fun k => spec_l1Tree.f k l0 l1 (b : Int)) (tr l1 d b) ∧ Ev (fun k => impl_treeOf.f k l0 l1 (b : Int)) (tr l1 d b)
  | 0, b, _, hb, hd => absurd hb (by omega)
  | d + 1, b, h4, hb, hd => by
    have hl := h.acts b hb
    have kid : ∀ x : Int, (b : Int) < x → x < (l1.length : Int) → Ev (fun k => spec_l1Tree.f k l0 l1 x) (tr l1 d x) ∧ Ev (fun k => impl_treeOf.f k l0 l1 x) (tr l1 d x) := by
      intro x h0 h1
      have := tau_ev (l0 := l0) h d x.toNat (by omega) (by omega) (by omega)
      rw [Int.toNat_of_nonneg (by omega)] at this
      exact this
    have gnn : ∀ a : S57, 0 ≤ (a.f2.map (tr l1 d)).sum := fun a => sum_nn (fun x _ => tr_nn l1 d x)
    have acts : ∀ i, i ≤ l1[b].length → ∀ s : Int, 0 ≤ s → s + ((l1[b].drop i).map (fun a => (a.f2.map (tr l1 d)).sum)).sum ≤ 1000000 →
        Ev (fun k => spec_l1Tree.l0 k (b : Int) s (i : Int) l0 l1) (s + ((l1[b].drop i).map (fun a => (a.f2.map (tr l1 d)).sum)).sum) ∧ Ev (fun k => impl_treeOf.l0 k s l1[b] (l1[b].length : Int) (i : Int) l0 l1) (s + ((l1[b].drop i).map (fun a => (a.f2.map (tr l1 d)).sum)).sum) := by
      refine down ?_ ?_
      · intro s _ _
        rw [List.drop_length, List.map_nil, List.sum_nil, Int.add_zero]
        refine ⟨Ev.step (fun k => ?_) (Ev.now _), Ev.step (fun k => ?_) (Ev.now _)⟩
        · rw [spec_l1Tree.l0, if_pos (by omega), if_pos (by omega), rdBi l1 b hb, if_neg (by omega)]
        · rw [impl_treeOf.l0, if_neg (by omega)]
      · intro i hi ih s s0 s1
        obtain ⟨hk, hx⟩ := h.kids b hb l1[b][i] (List.getElem_mem hi)
        rw [List.drop_eq_getElem_cons hi, List.map_cons, List.sum_cons] at s1 ⊢
        have rn : 0 ≤ ((l1[b].drop (i + 1)).map (fun a => (a.f2.map (tr l1 d)).sum)).sum := sum_nn (fun a _ => gnn a)
        have inner : ∀ j, j ≤ l1[b][i].f2.length → ∀ s : Int, 0 ≤ s → s + ((l1[b][i].f2.drop j).map (tr l1 d)).sum + ((l1[b].drop (i + 1)).map (fun a => (a.f2.map (tr l1 d)).sum)).sum ≤ 1000000 →
            Ev (fun k => spec_l1Tree.l1 k (b : Int) s (i : Int) l1[b][i].f2 (j : Int) l0 l1) (s + ((l1[b][i].f2.drop j).map (tr l1 d)).sum + ((l1[b].drop (i + 1)).map (fun a => (a.f2.map (tr l1 d)).sum)).sum) ∧
            Ev (fun k => impl_treeOf.l1 k s l1[b] (l1[b].length : Int) (i : Int) l1[b][i].f2 (l1[b][i].f2.length : Int) (j : Int) l0 l1) (s + ((l1[b][i].f2.drop j).map (tr l1 d)).sum + ((l1[b].drop (i + 1)).map (fun a => (a.f2.map (tr l1 d)).sum)).sum) := by
          refine down ?_ ?_
          · intro s s0 s1
            rw [List.drop_length, List.map_nil, List.sum_nil, Int.add_zero] at s1 ⊢
            obtain ⟨t1, t2⟩ := ih s s0 s1
            refine ⟨Ev.step (fun k => ?_) t1, Ev.step (fun k => ?_) t2⟩
            · rw [spec_l1Tree.l1, if_neg (by omega), w64 (by omega) (by omega)]
              rfl
            · rw [impl_treeOf.l1, if_neg (by omega), w64 (by omega) (by omega)]
              rfl
          · intro j hj ih2 s s0 s1
            rw [List.drop_eq_getElem_cons hj, List.map_cons, List.sum_cons] at s1 ⊢
            have kn : 0 ≤ ((l1[b][i].f2.drop (j + 1)).map (tr l1 d)).sum := sum_nn (fun x _ => tr_nn l1 d x)
            have tn := tr_nn l1 d (l1[b][i].f2[j])
            obtain ⟨q0, q1⟩ := hx _ (List.getElem_mem hj)
            obtain ⟨u1, u2⟩ := kid _ q0 q1
            have ew : wrap64 (s + tr l1 d l1[b][i].f2[j]) = s + tr l1 d l1[b][i].f2[j] := w64 (by omega) (by omega)
            obtain ⟨t1, t2⟩ := ih2 (s + tr l1 d l1[b][i].f2[j]) (by omega) (by omega)
            rw [show s + (tr l1 d l1[b][i].f2[j] + ((l1[b][i].f2.drop (j + 1)).map (tr l1 d)).sum) = s + tr l1 d l1[b][i].f2[j] + ((l1[b][i].f2.drop (j + 1)).map (tr l1 d)).sum by omega]
            refine ⟨Ev.step (fun k => by rw [spec_l1Tree.l1, if_pos (by omega), if_pos (by omega), rdI _ j hj]) (Ev.bind u1 (Ev.congr (fun k => ?_) t1)), Ev.step (fun k => by rw [impl_treeOf.l1, if_pos (by omega), if_pos (by omega), if_pos (by omega), rdI _ j hj]) (Ev.bind u2 (Ev.congr (fun k => ?_) t2))⟩
            · rw [w64 (i := (j : Int) + 1) (by omega) (by omega), ew]
              rfl
            · rw [w64 (i := (j : Int) + 1) (by omega) (by omega), ew]
              rfl
        obtain ⟨t1, t2⟩ := inner 0 (Nat.zero_le _) s s0 (by rw [List.drop_zero]; omega)
        rw [List.drop_zero, Int.add_assoc] at t1 t2
        refine ⟨Ev.step (fun k => ?_) t1, Ev.step (fun k => ?_) t2⟩
        · rw [spec_l1Tree.l0, if_pos (by omega), if_pos (by omega), rdBi l1 b hb, if_pos (by omega), if_pos (by omega), rdAi _ i hi]
          rfl
        · rw [impl_treeOf.l0, if_pos (by omega), if_pos (by omega), if_pos (by omega), rdAi _ i hi]
          rfl
    have bd := tr_le h (d + 1) (b : Int) (by omega) (by omega)
    have p9 : (9 : Int) ^ (d + 1) ≤ 6561 := by
      have : d = 0 ∨ d = 1 ∨ d = 2 ∨ d = 3 := by omega
      rcases this with rfl | rfl | rfl | rfl <;> decide
    have et : tr l1 (d + 1) (b : Int) = 1 + ((l1[b].drop 0).map (fun a => (a.f2.map (tr l1 d)).sum)).sum := by
      rw [tr, Int.toNat_natCast, getD_at hb, List.drop_zero]
    rw [et] at bd ⊢
    obtain ⟨t1, t2⟩ := acts 0 (Nat.zero_le _) 1 (by decide) (by omega)
    refine ⟨Ev.step (fun k => ?_) t1, Ev.step (fun k => ?_) t2⟩
    · rw [spec_l1Tree.f]
      rfl
    · rw [impl_treeOf.f, if_pos (by omega), if_pos (by omega), rdBi l1 b hb]
      rfl
/-- How many tasks body b may be. -/
def tau (l1 : List (List S57)) (b : Int) : Int := tr l1 4 b
theorem tau_at {l0 : List Int} {l1 : List (List S57)} (h : PTree.Form l1) (b : Int) (h0 : 0 ≤ b) (h1 : b < l1.length) : Ev (fun k => spec_l1Tree.f k l0 l1 b) (tau l1 b) ∧ Ev (fun k => impl_treeOf.f k l0 l1 b) (tau l1 b) := by
  have := tau_ev (l0 := l0) h 4 b.toNat (Nat.le_refl _) (by omega) (by have := h.few; omega)
  rw [Int.toNat_of_nonneg h0] at this
  exact this
theorem tau_kid {l1 : List (List S57)} (h : PTree.Form l1) (x : Int) (h0 : 1 ≤ x) (h1 : x < l1.length) : tr l1 3 x = tau l1 x := by
  have k1 := (tau_ev (l0 := []) h 3 x.toNat (by omega) (by omega) (by have := h.few; omega)).1
  rw [Int.toNat_of_nonneg (by omega)] at k1
  exact Ev_det k1 (tau_at (l0 := []) h x (by omega) h1).1
theorem tau_nn (l1 : List (List S57)) (b : Int) : 0 ≤ tau l1 b := tr_nn l1 4 b
/-- One, and what it begins. -/
theorem tau_eq {l1 : List (List S57)} (h : PTree.Form l1) (b : Nat) (hb : b < l1.length) : tau l1 b = 1 + (l1[b].map (fun a => (a.f2.map (tau l1)).sum)).sum := by
  have e : l1[b].map (fun a => (a.f2.map (tr l1 3)).sum) = l1[b].map (fun a => (a.f2.map (tau l1)).sum) := by
    refine List.map_congr_left (fun a ha => ?_)
    obtain ⟨_, g2⟩ := h.kids b hb a ha
    rw [List.map_congr_left (fun x hx => tau_kid h x (by have := (g2 x hx).1; omega) (g2 x hx).2)]
  show tr l1 4 (b : Int) = _
  rw [tr, Int.toNat_natCast, getD_at hb, e]
theorem tau_lt {l1 : List (List S57)} (h : PTree.Form l1) (b : Nat) (hb : b < l1.length) {a : S57} (ha : a ∈ l1[b]) {x : Int} (hx : x ∈ a.f2) : tau l1 x < tau l1 b := by
  rw [tau_eq h b hb]
  have h1 := sum_at (f := tau l1) (fun y _ => tau_nn l1 y) x hx
  have h2 := sum_at (f := fun a : S57 => (a.f2.map (tau l1)).sum) (l := l1[b]) (fun a _ => sum_nn (fun y _ => tau_nn l1 y)) a ha
  have h3 : (a.f2.map (tau l1)).sum ≤ (l1[b].map (fun a => (a.f2.map (tau l1)).sum)).sum := h2
  omega
/-- Is a program one? Both tell the same; one is in form, and its first body is few tasks. -/
theorem ok_tau (l0 : List Int) (l1 : List (List S57)) (h : Small l0 l1) : ∃ R : Bool, Ev (fun k => spec_ProgOk.f k l0 l1) R ∧ Ev (fun k => impl_ProgOk.f k l0 l1) R ∧ (R = true → formB l0 l1 = true ∧ PTree.Form l1 ∧ tau l1 0 ≤ 7) := by
  obtain ⟨R, r1, r2, r3⟩ := ok_ev l0 l1 h
  refine ⟨R, r1, r2, fun hR => ⟨r3 hR, form_of (r3 hR), ?_⟩⟩
  have fm := form_of (r3 hR)
  have sf := specForm_ev l0 l1 h
  rw [r3 hR] at sf
  have t0 := (tau_at (l0 := l0) fm 0 (by decide) (by have := fm.few; omega)).1
  have r4 : Ev (fun k => spec_ProgOk.f k l0 l1) (decide (tau l1 0 ≤ 7)) := by
    unfold spec_ProgOk.f
    exact Ev.bind sf (ev_pos rfl (Ev.bind t0 (Ev.now _)))
  have := Ev_det r1 r4
  rw [hR] at this
  exact of_decide_eq_true this.symm
end Go.Proofs.Ytoeepmcaabmjkaa.PTau
namespace Go.Proofs.Ytoeepmcaabmjkaa.PDraw
open Go.RowKit Go.Proofs.Ytoeepmcaabmjkaa.QPM Go.Proofs.YtoeepmcaabmjkaaW.PrintWords Go.Proofs.YtoeepmcaabmjkaaW.PrintLast Go.Proofs.Ytoeepmcaabmjkaa.PProg
theorem i64_xor (a b : Int) (h1 : 0 ≤ a) (h2 : a < 9223372036854775808) (h3 : 0 ≤ b) (h4 : b < 9223372036854775808) : 0 ≤ Go.bits .xor .i64 a b := by
  obtain ⟨A, rfl⟩ := Int.eq_ofNat_of_zero_le h1
  obtain ⟨B, rfl⟩ := Int.eq_ofNat_of_zero_le h3
  have hx : A ^^^ B < 2 ^ 63 := Nat.xor_lt_two_pow (by omega) (by omega)
  show (0 : Int) ≤ IntKind.i64.wrap ((BitVec.ofInt 64 (A : Int) ^^^ BitVec.ofInt 64 (B : Int)).toNat : Int)
  rw [BitVec.toNat_xor, ofInt_u64 A (by omega), ofInt_u64 B (by omega)]
  simp [IntKind.wrap, IntKind.bits, IntKind.signed]
  omega
theorem tmod_in {a n : Int} (ha : 0 ≤ a) (hn : 1 ≤ n) : 0 ≤ Int.tmod a n ∧ Int.tmod a n < n :=
  ⟨Int.tmod_nonneg n ha, Int.tmod_lt_of_pos a (by omega)⟩
def Bytes (b : List Int) : Prop := ∀ x ∈ b, 0 ≤ x ∧ x ≤ 255
theorem rd_byte {b : List Int} (hb : Bytes b) (i : Int) : 0 ≤ rd b i ∧ rd b i ≤ 255 := by
  unfold rd
  rw [List.getD_eq_getElem?_getD]
  cases h : b[i.toNat]? with
  | none => simp
  | some x => exact hb x (List.mem_of_getElem? h)
theorem pick_ev (b : List Int) (hb : Bytes b) (hl : b.length ≤ 2000) (n p : Int) (hp : 0 ≤ p) (hp' : p ≤ 1000000) (hn : n ≤ 1000000000) :
    ∃ r, Ev (fun k => spec_l6Rd_pick.f k b p n) (r, p + 1) ∧ 0 ≤ r ∧ (1 ≤ n → r < n) ∧ (n < 1 → r = 0) := by
  have e1 : wrap64 (p + 1) = p + 1 := w64 (by omega) (by omega)
  have e0 : wrap64 (p + 1 - 1) = p := by rw [show p + 1 - 1 = p by omega]; exact w64 (by omega) (by omega)
  by_cases h1 : n < 1
  · refine ⟨0, ?_, by omega, by omega, fun _ => rfl⟩
    unfold spec_l6Rd_pick.f
    refine ev_pos h1 (Ev.step (fun k => ?_) (Ev.now _))
    rw [spec_l6Rd_pick.j0, if_pos rfl, e1]
  · by_cases h2 : b.length = 0
    · refine ⟨0, ?_, by omega, by omega, fun _ => rfl⟩
      unfold spec_l6Rd_pick.f
      refine ev_neg h1 (Ev.step (fun k => ?_) (Ev.now _))
      rw [spec_l6Rd_pick.j0, if_pos (by simp [h2]), e1]
    · have hne : ((b.length : Int) == 0) = false := by simp; intro h; exact h2 (by simp [h])
      by_cases h3 : p < (b.length : Int)
      · have hr := rd_byte hb p
        have hw : wrap64 (rd b p) = rd b p := w64 (by omega) (by omega)
        refine ⟨Int.tmod (rd b p) n, ?_, (tmod_in hr.1 (by omega)).1, fun _ => (tmod_in hr.1 (by omega)).2, by omega⟩
        unfold spec_l6Rd_pick.f
        refine ev_neg h1 (Ev.step (fun k => ?_) (Ev.now _))
        rw [spec_l6Rd_pick.j0, hne, if_neg Bool.false_ne_true, e1, e0, if_pos h3, if_pos hp, if_neg (by omega), hw]
      · have hL : 1 ≤ (b.length : Int) := by omega
        have m1 := tmod_in (a := p) hp hL
        have e7 : wrap64 (p * 7) = p * 7 := w64 (by omega) (by omega)
        have e73 : wrap64 (p * 7 + 3) = p * 7 + 3 := w64 (by omega) (by omega)
        have m2 := tmod_in (a := p * 7 + 3) (by omega) hL
        have r1 := rd_byte hb (Int.tmod p (b.length : Int))
        have r2 := rd_byte hb (Int.tmod (p * 7 + 3) (b.length : Int))
        generalize hA : rd b (Int.tmod p (b.length : Int)) = A at r1
        generalize hB : rd b (Int.tmod (p * 7 + 3) (b.length : Int)) = B at r2
        have q1 : 0 ≤ Int.tdiv p (b.length : Int) := Int.tdiv_nonneg hp (by omega)
        have q2 : Int.tdiv p (b.length : Int) ≤ p := by
          rw [Int.tdiv_eq_ediv_of_nonneg hp]
          exact Int.ediv_le_self _ hp
        generalize hQ : Int.tdiv p (b.length : Int) = Q at q1 q2
        have eX : wrap64 ((wrap64 ((wrap64 ((wrap64 ((wrap64 A) * 131)) + (wrap64 ((wrap64 B) * 1117)))) + (wrap64 (p * 29)))) + (wrap64 ((wrap64 Q) * 53))) = A * 131 + B * 1117 + p * 29 + Q * 53 := by
          rw [w64 (i := A) (by omega) (by omega), w64 (i := B) (by omega) (by omega), w64 (i := Q) (by omega) (by omega), w64 (i := A * 131) (by omega) (by omega),
            w64 (i := B * 1117) (by omega) (by omega), w64 (i := A * 131 + B * 1117) (by omega) (by omega), w64 (i := p * 29) (by omega) (by omega), w64 (i := A * 131 + B * 1117 + p * 29) (by omega) (by omega),
            w64 (i := Q * 53) (by omega) (by omega), w64 (by omega) (by omega)]
        have t1 : 0 ≤ Int.tdiv (A * 131 + B * 1117 + p * 29 + Q * 53) 64 := Int.tdiv_nonneg (by omega) (by omega)
        have t2 : Int.tdiv (A * 131 + B * 1117 + p * 29 + Q * 53) 64 ≤ A * 131 + B * 1117 + p * 29 + Q * 53 := by
          rw [Int.tdiv_eq_ediv_of_nonneg (by omega)]
          exact Int.ediv_le_self _ (by omega)
        generalize hT : Int.tdiv (A * 131 + B * 1117 + p * 29 + Q * 53) 64 = T at t1 t2
        have hx := i64_xor (A * 131 + B * 1117 + p * 29 + Q * 53) T (by omega) (by omega) t1 (by omega)
        generalize hX : Go.bits .xor .i64 (A * 131 + B * 1117 + p * 29 + Q * 53) T = X at hx
        refine ⟨Int.tmod X n, ?_, (tmod_in hx (by omega)).1, fun _ => (tmod_in hx (by omega)).2, by omega⟩
        unfold spec_l6Rd_pick.f
        refine ev_neg h1 (Ev.step (fun k => ?_) (Ev.now _))
        rw [spec_l6Rd_pick.j0, hne, if_neg Bool.false_ne_true, e1, e0, if_neg h3, if_neg (by omega), if_pos m1.1, if_pos m1.2, e7, e73, if_pos m2.1, if_pos m2.2, if_neg (by omega), hA, hB, hQ, eX, hT,
          w64 (i := T) (by omega) (by omega), hX]
theorem open_ev (l : List Int) (hl : ∀ x ∈ l, (Lit.int .u8 x).wf = true) : ∃ b, spec_l6Open.f l = some (b, 0) ∧ Bytes b ∧ b.length ≤ 2000 := by
  have hb : Bytes l := by
    intro x hx
    have := hl x hx
    simp [Lit.wf, IntKind.min, IntKind.max, IntKind.bits, IntKind.signed] at this
    omega
  unfold spec_l6Open.f
  by_cases h : (l.length : Int) > 2000
  · rw [if_pos h, if_pos (by omega)]
    exact ⟨_, rfl, fun x hx => hb x (List.mem_of_mem_take hx), by rw [List.length_take]; omega⟩
  · rw [if_neg h]
    exact ⟨l, rfl, hb, by omega⟩
/-- A drawn deed: whatever it is, drawing it takes at most three picks. -/
theorem l71Deed_ev (b : List Int) (hb : Bytes b) (hl : b.length ≤ 2000) (n p : Int) (hp : 0 ≤ p) (hp' : p ≤ 100000) (hn : n ≤ 1000000000) :
    ∃ r : Int × Int × Int × Int, Ev (fun k => spec_l71Deed.f k b p n) r ∧ p ≤ r.2.2.2 ∧ r.2.2.2 ≤ p + 3 := by
  unfold spec_l71Deed.f
  by_cases h : n = 0
  · obtain ⟨a, ea, -⟩ := pick_ev b hb hl 3 p hp (by omega) (by omega)
    obtain ⟨c, ec, -⟩ := pick_ev b hb hl 5 (p + 1) (by omega) (by omega) (by omega)
    exact ⟨(3, a, c, p + 1 + 1), ev_pos h (Ev.bind ea (Ev.bind ec (Ev.now _))), by dsimp only; omega, by dsimp only; omega⟩
  · obtain ⟨a, ea, a0, a1, -⟩ := pick_ev b hb hl 10 p hp (by omega) (by omega)
    have J1 : ∀ v : Bool, ∃ r : Int × Int × Int × Int, Ev (fun k => spec_l71Deed.j1 k n a v b (p + 1)) r ∧ p ≤ r.2.2.2 ∧ r.2.2.2 ≤ p + 3 := by
      intro v
      cases v with
      | true =>
        obtain ⟨c, ec, -⟩ := pick_ev b hb hl n (p + 1) (by omega) (by omega) (by omega)
        obtain ⟨d, ed, -⟩ := pick_ev b hb hl 3 (p + 1 + 1) (by omega) (by omega) (by omega)
        exact ⟨(2, c, d, p + 1 + 1 + 1), Ev.step (fun k => by rw [spec_l71Deed.j1, if_pos rfl]) (by exact Ev.bind ec (Ev.bind ed (Ev.now _))), by dsimp only; omega, by dsimp only; omega⟩
      | false =>
        obtain ⟨c, ec, -⟩ := pick_ev b hb hl 3 (p + 1) (by omega) (by omega) (by omega)
        obtain ⟨d, ed, -⟩ := pick_ev b hb hl 8 (p + 1 + 1) (by omega) (by omega) (by omega)
        obtain ⟨f, ef, -⟩ := pick_ev b hb hl 3 (p + 1 + 1) (by omega) (by omega) (by omega)
        by_cases h7 : a = 7
        · exact ⟨(3, c, d, p + 1 + 1 + 1), Ev.step (fun k => by rw [spec_l71Deed.j1, if_neg Bool.false_ne_true, if_pos h7]) (by exact Ev.bind ec (Ev.bind ed (Ev.now _))), by dsimp only; omega, by dsimp only; omega⟩
        · by_cases h8 : a = 8
          · exact ⟨(4, c, f, p + 1 + 1 + 1), Ev.step (fun k => by rw [spec_l71Deed.j1, if_neg Bool.false_ne_true, if_neg h7, if_pos h8]) (by exact Ev.bind ec (Ev.bind ef (Ev.now _))), by dsimp only; omega, by dsimp only; omega⟩
          · exact ⟨(5, c, 0, p + 1 + 1), Ev.step (fun k => by rw [spec_l71Deed.j1, if_neg Bool.false_ne_true, if_neg h7, if_neg h8]) (by exact Ev.bind ec (Ev.now _)), by dsimp only; omega, by dsimp only; omega⟩
    have J0 : ∀ v : Bool, ∃ r : Int × Int × Int × Int, Ev (fun k => spec_l71Deed.j0 k n a v b (p + 1)) r ∧ p ≤ r.2.2.2 ∧ r.2.2.2 ≤ p + 3 := by
      intro v
      cases v with
      | true =>
        obtain ⟨c, ec, -⟩ := pick_ev b hb hl 3 (p + 1) (by omega) (by omega) (by omega)
        obtain ⟨d, ed, -⟩ := pick_ev b hb hl n (p + 1 + 1) (by omega) (by omega) (by omega)
        exact ⟨(1, c, d, p + 1 + 1 + 1), Ev.step (fun k => by rw [spec_l71Deed.j0, if_pos rfl]) (by exact Ev.bind ec (Ev.bind ed (Ev.now _))), by dsimp only; omega, by dsimp only; omega⟩
      | false =>
        by_cases h4 : a = 4
        · obtain ⟨r, er, h⟩ := J1 (a == 4)
          exact ⟨r, Ev.step (fun k => by rw [spec_l71Deed.j0, if_neg Bool.false_ne_true, if_pos h4]) er, h⟩
        · by_cases h5 : a = 5
          · obtain ⟨r, er, h⟩ := J1 (a == 5)
            exact ⟨r, Ev.step (fun k => by rw [spec_l71Deed.j0, if_neg Bool.false_ne_true, if_neg h4, if_pos h5]) er, h⟩
          · obtain ⟨r, er, h⟩ := J1 (a == 6)
            exact ⟨r, Ev.step (fun k => by rw [spec_l71Deed.j0, if_neg Bool.false_ne_true, if_neg h4, if_neg h5]) er, h⟩
    by_cases h0 : a = 0
    · obtain ⟨r, er, hr⟩ := J0 (a == 0)
      exact ⟨r, ev_neg h (Ev.bind ea (ev_pos h0 er)), hr⟩
    · by_cases h1 : a = 1
      · obtain ⟨r, er, hr⟩ := J0 (a == 1)
        exact ⟨r, ev_neg h (Ev.bind ea (ev_neg h0 (ev_pos h1 er))), hr⟩
      · by_cases h2 : a = 2
        · obtain ⟨r, er, hr⟩ := J0 (a == 2)
          exact ⟨r, ev_neg h (Ev.bind ea (ev_neg h0 (ev_neg h1 (ev_pos h2 er)))), hr⟩
        · obtain ⟨r, er, hr⟩ := J0 (a == 3)
          exact ⟨r, ev_neg h (Ev.bind ea (ev_neg h0 (ev_neg h1 (ev_neg h2 er)))), hr⟩
/-- Drawn deeds: at most five, with at most 22 picks. -/
theorem l71Deeds_ev (b : List Int) (hb : Bytes b) (hl : b.length ≤ 2000) (n p : Int) (hp : 0 ≤ p) (hp' : p ≤ 10000) (hn : n ≤ 1000000000) :
    ∃ r : List S122 × Int, Ev (fun k => spec_l71Deeds.f k b p n) r ∧ r.1.length ≤ 5 ∧ p ≤ r.2 ∧ r.2 ≤ p + 22 := by
  have L0 : ∀ (m : Nat) (d : List S122) (q : Int), p ≤ q → q + 3 * m ≤ 20000 → d.length + m ≤ 5 → m ≤ 5 →
      ∃ r : List S122 × Int, Ev (fun k => spec_l71Deeds.l0 k n d (m : Int) b q) r ∧ r.1.length ≤ 5 ∧ p ≤ r.2 ∧ r.2 ≤ q + 3 * m := by
    intro m
    induction m with
    | zero =>
      intro d q h1 h2 h3 h4
      exact ⟨(d, q), Ev.step (fun k => by rw [spec_l71Deeds.l0, if_neg (by omega)]) (Ev.now _), by dsimp only; omega, by dsimp only; omega, by dsimp only; omega⟩
    | succ m ih =>
      intro d q h1 h2 h3 h4
      obtain ⟨t, et, t1, t2⟩ := l71Deed_ev b hb hl n q (by omega) (by omega) hn
      obtain ⟨r, er, k1, k2, k3⟩ := ih (d ++ [⟨t.1, t.2.1, t.2.2.1⟩]) t.2.2.2 (by omega) (by omega) (by rw [List.length_append]; simp; omega) (by omega)
      refine ⟨r, Ev.step (fun k => by rw [spec_l71Deeds.l0, if_pos (by omega)]) ?_, k1, k2, by omega⟩
      refine Ev.bind et (ev_pos (by omega) ?_)
      rw [w64 (by omega) (by omega), show ((m + 1 : Nat) : Int) - 1 = (m : Int) by omega]
      exact er
  have J0 : ∀ (v : Bool) (q : Int), p ≤ q → q ≤ p + 1 → ∃ r : List S122 × Int, Ev (fun k => spec_l71Deeds.j0 k n v b q) r ∧ r.1.length ≤ 5 ∧ p ≤ r.2 ∧ r.2 ≤ p + 22 := by
    intro v q h1 h2
    cases v with
    | true =>
      obtain ⟨c, ec, -⟩ := pick_ev b hb hl n q (by omega) (by omega) (by omega)
      obtain ⟨d, ed, -⟩ := pick_ev b hb hl 4 (q + 1) (by omega) (by omega) (by omega)
      exact ⟨_, Ev.step (fun k => by rw [spec_l71Deeds.j0, if_pos rfl]) (by exact Ev.bind ec (Ev.bind ed (Ev.now _))), by simp, by dsimp only; omega, by dsimp only; omega⟩
    | false =>
      obtain ⟨c, ec, c0, c1, -⟩ := pick_ev b hb hl 5 q (by omega) (by omega) (by omega)
      have c1 := c1 (by omega)
      obtain ⟨r, er, r1, r2, r3⟩ := L0 (1 + c).toNat [] (q + 1) (by omega) (by omega) (by simp; omega) (by omega)
      rw [show (((1 + c).toNat : Nat) : Int) = 1 + c by omega] at er
      refine ⟨r, Ev.step (fun k => by rw [spec_l71Deeds.j0, if_neg Bool.false_ne_true]) ?_, r1, r2, by omega⟩
      refine Ev.bind ec ?_
      rw [w64 (by omega) (by omega)]
      exact er
  unfold spec_l71Deeds.f
  by_cases h : n > 0
  · obtain ⟨a, ea, -⟩ := pick_ev b hb hl 3 p hp (by omega) (by omega)
    obtain ⟨r, er, h1⟩ := J0 (a == 0) (p + 1) (by omega) (by omega)
    exact ⟨r, ev_pos h (Ev.bind ea er), h1⟩
  · obtain ⟨r, er, h1⟩ := J0 false p (by omega) (by omega)
    exact ⟨r, ev_neg h er, h1⟩
end Go.Proofs.Ytoeepmcaabmjkaa.PDraw
namespace Go.Proofs.Ytoeepmcaabmjkaa.PProgD
open Go.RowKit Go.Proofs.Ytoeepmcaabmjkaa.QPM Go.Proofs.YtoeepmcaabmjkaaW.PrintWords Go.Proofs.YtoeepmcaabmjkaaW.PrintLast Go.Proofs.Ytoeepmcaabmjkaa.PProg Go.Proofs.Ytoeepmcaabmjkaa.PDraw Go.Proofs.Ytoeepmcaabmjkaa.PTree
def Few (x : S57) : Prop := x.f1.length ≤ 5 ∧ x.f2.length ≤ 2
/-- A drawn body: at most three acts. -/
theorem l71Body_ev (b : List Int) (hb : Bytes b) (hl : b.length ≤ 2000) (i n c p : Int) (hi : 0 ≤ i) (hi' : i ≤ 100) (hn : 0 ≤ n) (hn' : n ≤ 100) (hc : c ≤ 100) (hp : 0 ≤ p) (hp' : p ≤ 9000) :
    ∃ r : List S57 × Int, Ev (fun k => spec_l71Body.f k b p i n c) r ∧ r.1.length ≤ 3 ∧ (∀ x ∈ r.1, Few x) ∧ p ≤ r.2 ∧ r.2 ≤ p + 76 := by
  have ei : wrap64 (i + 1) = i + 1 := w64 (by omega) (by omega)
  have en : wrap64 (wrap64 (n - i) - 1) = n - i - 1 := by rw [w64 (show -9223372036854775808 ≤ n - i by omega) (by omega)]; exact w64 (by omega) (by omega)
  have L0 : ∀ (m : Nat) (d : List S57) (q : Int), p ≤ q → q + 25 * m ≤ p + 200 → d.length + m ≤ 3 → (∀ x ∈ d, Few x) →
      ∃ r : List S57 × Int, Ev (fun k => spec_l71Body.l0 k i n c d (m : Int) b q) r ∧ r.1.length ≤ 3 ∧ (∀ x ∈ r.1, Few x) ∧ p ≤ r.2 ∧ r.2 ≤ q + 25 * m := by
    intro m
    induction m with
    | zero =>
      intro d q h1 h2 h3 h4
      exact ⟨(d, q), Ev.step (fun k => by rw [spec_l71Body.l0, if_neg (by omega)]) (Ev.now _), by dsimp only; omega, h4, by dsimp only; omega, by dsimp only; omega⟩
    | succ m ih =>
      intro d q h1 h2 h3 h4
      have em : wrap64 (((m + 1 : Nat) : Int) - 1) = (m : Int) := by rw [w64 (by omega) (by omega)]; omega
      have ON : ∀ q', q ≤ q' → q' ≤ q + 25 → ∃ r : List S57 × Int, Ev (fun k => spec_l71Body.l0 k i n c d (wrap64 (((m + 1 : Nat) : Int) - 1)) b q') r ∧ r.1.length ≤ 3 ∧ (∀ x ∈ r.1, Few x) ∧ p ≤ r.2 ∧ r.2 ≤ q + 25 * ((m + 1 : Nat) : Int) := by
        intro q' g1 g2
        obtain ⟨r, er, k1, k2, k3, k4⟩ := ih d q' (by omega) (by omega) (by omega) h4
        rw [em]
        exact ⟨r, er, k1, k2, k3, by omega⟩
      have GO : ∀ (x : S57) (q' : Int), Few x → q ≤ q' → q' ≤ q + 25 → ∃ r : List S57 × Int, Ev (fun k => if d.length < 2199023255552 then spec_l71Body.l0 k i n c (d ++ [x]) (wrap64 (((m + 1 : Nat) : Int) - 1)) b q' else none) r ∧ r.1.length ≤ 3 ∧ (∀ x ∈ r.1, Few x) ∧ p ≤ r.2 ∧ r.2 ≤ q + 25 * ((m + 1 : Nat) : Int) := by
        intro x q' hx g1 g2
        obtain ⟨r, er, k1, k2, k3, k4⟩ := ih (d ++ [x]) q' (by omega) (by omega) (by rw [List.length_append]; simp; omega) (fun y hy => by
          rcases List.mem_append.1 hy with hy | hy
          · exact h4 y hy
          · rw [List.mem_singleton.1 hy]; exact hx)
        rw [em]
        exact ⟨r, ev_pos (by omega) er, k1, k2, k3, by omega⟩
      have J1 : ∀ v : Bool, ∃ r : List S57 × Int, Ev (fun k => spec_l71Body.j1 k i n c d ((m + 1 : Nat) : Int) v b (q + 1)) r ∧ r.1.length ≤ 3 ∧ (∀ x ∈ r.1, Few x) ∧ p ≤ r.2 ∧ r.2 ≤ q + 25 * ((m + 1 : Nat) : Int) := by
        intro v
        cases v with
        | true =>
          by_cases hlt : wrap64 (i + 1) < n
          · obtain ⟨x, ex, -⟩ := pick_ev b hb hl (wrap64 (wrap64 (n - i) - 1)) (q + 1) (by omega) (by omega) (by rw [en]; omega)
            obtain ⟨y, ey, -⟩ := pick_ev b hb hl 3 (q + 1 + 1) (by omega) (by omega) (by omega)
            by_cases hy : y > 0
            · obtain ⟨z, ez, -⟩ := pick_ev b hb hl (wrap64 (wrap64 (n - i) - 1)) (q + 1 + 1 + 1) (by omega) (by omega) (by rw [en]; omega)
              obtain ⟨r, er, hr⟩ := GO ⟨2, [], [wrap64 (wrap64 (i + 1) + x)] ++ [wrap64 (wrap64 (i + 1) + z)], 0⟩ (q + 1 + 1 + 1 + 1) ⟨by simp, by simp⟩ (by omega) (by omega)
              exact ⟨r, Ev.step (fun k => by rw [spec_l71Body.j1, if_pos rfl]) (by exact ev_pos hlt (Ev.bind ex (Ev.bind (Ev.now _) (Ev.bind ey (ev_pos hy (Ev.bind ez (ev_pos (by simp) er))))))), hr⟩
            · obtain ⟨r, er, hr⟩ := GO ⟨2, [], [wrap64 (wrap64 (i + 1) + x)], 0⟩ (q + 1 + 1 + 1) ⟨by simp, by simp⟩ (by omega) (by omega)
              exact ⟨r, Ev.step (fun k => by rw [spec_l71Body.j1, if_pos rfl]) (by exact ev_pos hlt (Ev.bind ex (Ev.bind (Ev.now _) (Ev.bind ey (ev_neg hy er))))), hr⟩
          · obtain ⟨r, er, hr⟩ := ON (q + 1) (by omega) (by omega)
            exact ⟨r, Ev.step (fun k => by rw [spec_l71Body.j1, if_pos rfl]) (by exact ev_neg hlt er), hr⟩
        | false =>
          obtain ⟨t, et, t1, t2, t3⟩ := l71Deeds_ev b hb hl c (q + 1) (by omega) (by omega) (by omega)
          obtain ⟨r, er, hr⟩ := GO ⟨1, t.1, [], 0⟩ t.2 ⟨t1, by simp⟩ (by omega) (by omega)
          exact ⟨r, Ev.step (fun k => by rw [spec_l71Body.j1, if_neg Bool.false_ne_true]) (by exact Ev.bind et er), hr⟩
      obtain ⟨a, ea, -⟩ := pick_ev b hb hl 12 q (by omega) (by omega) (by omega)
      have ST : ∀ {r : List S57 × Int} {g : Nat → Option (List S57 × Int)}, (∀ k, spec_l71Body.l0 (k + 1) i n c d ((m + 1 : Nat) : Int) b q = g k) → Ev g r → Ev (fun k => spec_l71Body.l0 k i n c d ((m + 1 : Nat) : Int) b q) r := fun h1 h2 => Ev.step h1 h2
      by_cases h0 : a = 0
      · obtain ⟨f, ef, -⟩ := pick_ev b hb hl 2 (q + 1) (by omega) (by omega) (by omega)
        by_cases hf : f = 0
        · obtain ⟨r, er, hr⟩ := GO ⟨3, [], [], 0⟩ (q + 1 + 1) ⟨by simp, by simp⟩ (by omega) (by omega)
          exact ⟨r, ST (fun k => by rw [spec_l71Body.l0, if_pos (by omega)]) (by exact Ev.bind ea (ev_pos h0 (Ev.bind ef (ev_pos hf er)))), hr⟩
        · obtain ⟨r, er, hr⟩ := ON (q + 1 + 1) (by omega) (by omega)
          exact ⟨r, ST (fun k => by rw [spec_l71Body.l0, if_pos (by omega)]) (by exact Ev.bind ea (ev_pos h0 (Ev.bind ef (ev_neg hf er)))), hr⟩
      · by_cases h1 : a = 1
        · obtain ⟨f, ef, -⟩ := pick_ev b hb hl 3 (q + 1) (by omega) (by omega) (by omega)
          obtain ⟨r, er, hr⟩ := GO ⟨4, [], [], f⟩ (q + 1 + 1) ⟨by simp, by simp⟩ (by omega) (by omega)
          exact ⟨r, ST (fun k => by rw [spec_l71Body.l0, if_pos (by omega)]) (by exact Ev.bind ea (ev_neg h0 (ev_pos h1 (Ev.bind ef er)))), hr⟩
        · by_cases h2 : a = 2
          · obtain ⟨r, er, hr⟩ := J1 (a == 2)
            exact ⟨r, ST (fun k => by rw [spec_l71Body.l0, if_pos (by omega)]) (by exact Ev.bind ea (ev_neg h0 (ev_neg h1 (ev_pos h2 er)))), hr⟩
          · by_cases h3 : a = 3
            · obtain ⟨r, er, hr⟩ := J1 (a == 3)
              exact ⟨r, ST (fun k => by rw [spec_l71Body.l0, if_pos (by omega)]) (by exact Ev.bind ea (ev_neg h0 (ev_neg h1 (ev_neg h2 (ev_pos h3 er))))), hr⟩
            · by_cases h5 : a = 4
              · obtain ⟨r, er, hr⟩ := J1 (a == 4)
                exact ⟨r, ST (fun k => by rw [spec_l71Body.l0, if_pos (by omega)]) (by exact Ev.bind ea (ev_neg h0 (ev_neg h1 (ev_neg h2 (ev_neg h3 (ev_pos h5 er)))))), hr⟩
              · obtain ⟨r, er, hr⟩ := J1 (a == 5)
                exact ⟨r, ST (fun k => by rw [spec_l71Body.l0, if_pos (by omega)]) (by exact Ev.bind ea (ev_neg h0 (ev_neg h1 (ev_neg h2 (ev_neg h3 (ev_neg h5 er)))))), hr⟩
  obtain ⟨a, ea, a0, a1, -⟩ := pick_ev b hb hl 3 p hp (by omega) (by omega)
  have a1 := a1 (by omega)
  obtain ⟨r, er, r1, r2, r3, r4⟩ := L0 (1 + a).toNat [] (p + 1) (by omega) (by omega) (by simp; omega) (by simp)
  rw [show (((1 + a).toNat : Nat) : Int) = 1 + a by omega] at er r4
  unfold spec_l71Body.f
  refine ⟨r, Ev.bind ea ?_, r1, r2, r3, by omega⟩
  rw [w64 (by omega) (by omega)]
  exact er
/-- Bodies of few acts each. -/
def Bnd (c : Nat) (l1 : List (List S57)) : Prop := ∀ y ∈ l1, y.length ≤ c ∧ ∀ x ∈ y, Few x
def Nice (l0 : List Int) (l1 : List (List S57)) : Prop := (1 ≤ l0.length ∧ l0.length ≤ 3) ∧ (1 ≤ l1.length ∧ l1.length ≤ 4) ∧ Bnd 3 l1
theorem small_of {c : Nat} {l0 : List Int} {l1 : List (List S57)} (h0 : l0.length ≤ 1000) (h1 : l1.length ≤ 1000) (hc : c ≤ 1000) (h : Bnd c l1) : Small l0 l1 :=
  ⟨by omega, by omega, fun y hy => ⟨by have := (h y hy).1; omega, fun x hx => by obtain ⟨a, b⟩ := (h y hy).2 x hx; exact ⟨by omega, by omega⟩⟩⟩
theorem cells_ev (b : List Int) (hb : Bytes b) (hl : b.length ≤ 2000) : ∀ (n : Nat) (l : List Int) (p : Int), 0 ≤ p → p + n ≤ 9000 → ∃ r, Ev (fun k => cellsF k b n l p) r ∧ r.1.length = l.length + n ∧ p ≤ r.2 ∧ r.2 ≤ p + n
  | 0, l, p, h0, h1 => ⟨(l, p), Ev.now _, by simp, by simp, by simp⟩
  | n + 1, l, p, h0, h1 => by
    obtain ⟨c, ec, c0, c1, -⟩ := pick_ev b hb hl 5 p h0 (by omega) (by omega)
    have c1 := c1 (by omega)
    obtain ⟨r, er, r1, r2, r3⟩ := cells_ev b hb hl n (l ++ [nums5.getD c.toNat 0]) (p + 1) (by omega) (by omega)
    refine ⟨r, ?_, ?_, by omega, by omega⟩
    · simp only [cellsF]
      exact Ev.bind ec (ev_pos ⟨c0, c1⟩ er)
    · rw [r1, List.length_append]
      simp
      omega
theorem bodies_ev (b : List Int) (hb : Bytes b) (hl : b.length ≤ 2000) (bodies cells : Int) (g0 : 0 ≤ bodies) (g1 : bodies ≤ 100) (g2 : cells ≤ 100) : ∀ (n : Nat) (i : Int) (l : List (List S57)) (p : Int), 0 ≤ i → i + n ≤ 100 → 0 ≤ p → p + 76 * n ≤ 9000 → Bnd 3 l →
    ∃ r, Ev (fun k => bodiesF k b bodies cells n i l p) r ∧ r.1.length = l.length + n ∧ Bnd 3 r.1 ∧ p ≤ r.2 ∧ r.2 ≤ p + 76 * n
  | 0, i, l, p, _, _, h0, h1, h2 => ⟨(l, p), Ev.now _, by simp, h2, by simp, by simp⟩
  | n + 1, i, l, p, i0, i1, h0, h1, h2 => by
    obtain ⟨t, et, t1, t2, t3, t4⟩ := l71Body_ev b hb hl i bodies cells p i0 (by omega) g0 g1 g2 h0 (by omega)
    obtain ⟨r, er, r1, r2, r3, r4⟩ := bodies_ev b hb hl bodies cells g0 g1 g2 n (i + 1) (l ++ [t.1]) t.2 (by omega) (by omega) (by omega) (by omega) (fun y hy => by
      rcases List.mem_append.1 hy with hy | hy
      · exact h2 y hy
      · rw [List.mem_singleton.1 hy]; exact ⟨t1, t2⟩)
    refine ⟨r, ?_, ?_, r2, by omega, by omega⟩
    · simp only [bodiesF]
      exact Ev.bind et er
    · rw [r1, List.length_append]
      simp
      omega
theorem bnd_set {c : Nat} {l : List (List S57)} (h : Bnd c l) {v : List S57} (hv : v.length ≤ c) (hf : ∀ x ∈ v, Few x) : Bnd c (l.set 0 v) := fun y hy => by
  rcases List.mem_or_eq_of_mem_set hy with hy | rfl
  · exact h y hy
  · exact ⟨hv, hf⟩
theorem fork_ev (b : List Int) (hb : Bytes b) (hl : b.length ≤ 2000) (bodies cells : Int) (g0 : 2 ≤ bodies) (g1 : bodies ≤ 4) (g2 : cells ≤ 100) (l0 : List Int) (l1 : List (List S57)) (p : Int) (h0 : 0 ≤ p) (h1 : p ≤ 8000) (hB : Bnd 3 l1) :
    ∃ r, Ev (fun k => forkF k b bodies cells l0 l1 p) r ∧ r.1 = l0 ∧ r.2.1.length = l1.length ∧ Bnd 3 r.2.1 ∧ p ≤ r.2.2 ∧ r.2.2 ≤ p + 24 := by
  unfold forkF
  obtain ⟨e, ee, -⟩ := pick_ev b hb hl 4 p h0 (by omega) (by omega)
  by_cases he : e > 0
  · obtain ⟨x, ex, x0, x1, -⟩ := pick_ev b hb hl (bodies - 1) (p + 1) (by omega) (by omega) (by omega)
    have x1 := x1 (by omega)
    obtain ⟨t, et, t1, t2, t3⟩ := l71Deeds_ev b hb hl cells (p + 1 + 1) (by omega) (by omega) (by omega)
    refine ⟨(l0, l1.set 0 [⟨2, [], [1, 1 + x], 0⟩, ⟨1, t.1, [], 0⟩], t.2), Ev.bind ee (ev_pos he (Ev.bind ex (ev_pos ⟨x0, by omega⟩ (Ev.bind et (Ev.now _))))), rfl, by simp, bnd_set hB (by simp) (fun y hy => ?_), by dsimp only; omega, by dsimp only; omega⟩
    rcases List.mem_cons.1 hy with rfl | hy
    · exact ⟨by simp, by simp⟩
    · rw [List.mem_singleton.1 hy]; exact ⟨t1, by simp⟩
  · exact ⟨(l0, l1, p + 1), Ev.bind ee (ev_neg he (Ev.now _)), rfl, rfl, hB, by dsimp only; omega, by dsimp only; omega⟩
theorem one_ev (b : List Int) (hb : Bytes b) (hl : b.length ≤ 2000) (p : Int) (h0 : 0 ≤ p) (h1 : p ≤ 7000) : ∃ r, Ev (fun k => oneF k b p) r ∧ Nice r.1 r.2.1 ∧ p ≤ r.2.2 ∧ r.2.2 ≤ p + 340 := by
  unfold oneF
  obtain ⟨c, ec, c0, c1, -⟩ := pick_ev b hb hl 3 p h0 (by omega) (by omega)
  have c1 := c1 (by omega)
  obtain ⟨l, el, k1, k2, k3⟩ := cells_ev b hb hl (1 + c).toNat [] (p + 1) (by omega) (by omega)
  obtain ⟨d, ed, d0, d1, -⟩ := pick_ev b hb hl 3 l.2 (by omega) (by omega) (by omega)
  have d1 := d1 (by omega)
  obtain ⟨m, em, m1, m2, m3, m4⟩ := bodies_ev b hb hl (2 + d) (1 + c) (by omega) (by omega) (by omega) (2 + d).toNat 0 [] (l.2 + 1) (by omega) (by omega) (by omega) (by omega) (by intro y hy; simp at hy)
  obtain ⟨f, ef, f1, f2, f3, f4, f5⟩ := fork_ev b hb hl (2 + d) (1 + c) (by omega) (by omega) (by omega) l.1 m.1 m.2 (by omega) (by omega) m2
  simp only [List.length_nil, Nat.zero_add] at k1 m1
  exact ⟨f, Ev.bind ec (ev_pos ⟨c0, c1⟩ (Ev.bind el (Ev.bind ed (ev_pos ⟨d0, d1⟩ (Ev.bind em ef))))), ⟨by rw [f1]; omega, by omega, f3⟩, by omega, by omega⟩
theorem prog_ev (b : List Int) (hb : Bytes b) (hl : b.length ≤ 2000) : ∀ (n : Nat) (p : Int), 0 ≤ p → p + 340 * n ≤ 7000 → ∃ r, Ev (fun k => progF k b n p) r ∧ Nice r.1 r.2.1 ∧ p ≤ r.2.2 ∧ r.2.2 ≤ p + 340 * n
  | 0, p, h0, h1 => ⟨_, Ev.now _, ⟨⟨by simp, by simp⟩, ⟨by simp, by simp⟩, fun y hy => by
      rcases List.mem_cons.1 hy with rfl | hy
      · exact ⟨by simp, fun x hx => by rw [List.mem_singleton.1 hx]; exact ⟨by simp, by simp⟩⟩
      · rw [List.mem_singleton.1 hy]; exact ⟨by simp, fun x hx => by rw [List.mem_singleton.1 hx]; exact ⟨by simp, by simp⟩⟩⟩, by simp, by simp⟩
  | n + 1, p, h0, h1 => by
    obtain ⟨r, er, r1, r2, r3⟩ := one_ev b hb hl p h0 (by omega)
    obtain ⟨R, o1, _, _⟩ := ok_ev r.1 r.2.1 (small_of (c := 3) (by have := r1.1; omega) (by have := r1.2.1; omega) (by omega) r1.2.2)
    obtain ⟨q, eq, q1, q2, q3⟩ := prog_ev b hb hl n r.2.2 (by omega) (by omega)
    cases R with
    | true => exact ⟨r, by simp only [progF]; exact Ev.bind er (Ev.bind o1 (ev_pos rfl (Ev.now _))), r1, by omega, by omega⟩
    | false => exact ⟨q, by simp only [progF]; exact Ev.bind er (Ev.bind o1 (ev_neg Bool.false_ne_true eq)), q1, by omega, by omega⟩
theorem l71Prog_ev (b : List Int) (hb : Bytes b) (hl : b.length ≤ 2000) (p : Int) (h0 : 0 ≤ p) (h1 : p ≤ 3000) : ∃ r, Ev (fun k => spec_l71Prog.f k b p) r ∧ Nice r.1 r.2.1 ∧ p ≤ r.2.2 ∧ r.2.2 ≤ p + 3400 := by
  obtain ⟨r, er, r1, r2, r3⟩ := prog_ev b hb hl 10 p h0 (by omega)
  exact ⟨r, er, r1, r2, by omega⟩
theorem bnd_app {c : Nat} {l : List (List S57)} (h : Bnd c l) (h0 : 0 < l.length) {x : S57} (hx : Few x) : Bnd (c + 1) (app0 l x) ∧ (app0 l x).length = l.length := by
  have hm : l.getD 0 [] ∈ l := by
    rw [List.getD_eq_getElem?_getD, List.getElem?_eq_getElem h0]
    exact List.getElem_mem h0
  obtain ⟨m1, m2⟩ := h _ hm
  refine ⟨bnd_set (fun y hy => ⟨Nat.le_succ_of_le (h y hy).1, (h y hy).2⟩) (by rw [List.length_append]; simp; exact m1) (fun y hy => ?_), app0_len l x⟩
  rcases List.mem_append.1 hy with hy | hy
  · exact m2 y hy
  · rw [List.mem_singleton.1 hy]; exact hx
theorem bend_ev (b : List Int) (hb : Bytes b) (hl : b.length ≤ 2000) (c : Int) (l0 : List Int) (l1 : List (List S57)) (p : Int) (h0 : 0 ≤ p) (h1 : p ≤ 9000) (hN : Nice l0 l1) :
    ∃ r, Ev (fun k => bendF k b c l0 l1 p) r ∧ Small r.1 r.2.1 ∧ p ≤ r.2.2 ∧ r.2.2 ≤ p + 3 := by
  obtain ⟨n0, n1, nB⟩ := hN
  have hp : 0 < l1.length := by omega
  have A : ∀ x : S57, Few x → Small l0 (app0 l1 x) := fun x hx => by
    obtain ⟨b1, b2⟩ := bnd_app nB hp hx
    exact small_of (by first | omega | (dsimp only; omega) | (simp; omega)) (by first | omega | (dsimp only; omega) | (simp; omega)) (by omega) b1
  unfold bendF
  by_cases c0 : c = 0
  · obtain ⟨d, ed, d0, d1, -⟩ := pick_ev b hb hl 2 p h0 (by omega) (by omega)
    have d1 := d1 (by omega)
    exact ⟨_, ev_pos c0 (Ev.bind ed (ev_pos ⟨d0, d1⟩ (Ev.now _))), small_of (by first | omega | (dsimp only; omega) | (simp; omega)) (by first | omega | (dsimp only; omega) | (simp; omega)) (by omega) nB, by dsimp only; omega, by dsimp only; omega⟩
  by_cases c1 : c = 1
  · exact ⟨_, ev_neg c0 (ev_pos c1 (Ev.now _)), small_of (by first | omega | (dsimp only; omega) | (simp; omega)) (by first | omega | (dsimp only; omega) | (simp; omega)) (by omega) nB, by dsimp only; omega, by dsimp only; omega⟩
  by_cases c2 : c = 2
  · obtain ⟨d, ed, -⟩ := pick_ev b hb hl 7 p h0 (by omega) (by omega)
    exact ⟨_, ev_neg c0 (ev_neg c1 (ev_pos c2 (Ev.bind ed (Ev.now _)))), A _ ⟨by simp, by simp⟩, by dsimp only; omega, by dsimp only; omega⟩
  by_cases c3 : c = 3
  · obtain ⟨d, ed, -⟩ := pick_ev b hb hl 6 p h0 (by omega) (by omega)
    exact ⟨_, ev_neg c0 (ev_neg c1 (ev_neg c2 (ev_pos c3 (Ev.bind ed (Ev.now _))))), A _ ⟨by simp, by simp⟩, by dsimp only; omega, by dsimp only; omega⟩
  by_cases c4 : c = 4
  · obtain ⟨d, ed, -⟩ := pick_ev b hb hl 7 p h0 (by omega) (by omega)
    obtain ⟨e, ee, -⟩ := pick_ev b hb hl 5 (p + 1) (by omega) (by omega) (by omega)
    obtain ⟨f, ef, -⟩ := pick_ev b hb hl 5 (p + 1 + 1) (by omega) (by omega) (by omega)
    exact ⟨_, ev_neg c0 (ev_neg c1 (ev_neg c2 (ev_neg c3 (ev_pos c4 (Ev.bind ed (Ev.bind ee (Ev.bind ef (Ev.now _)))))))), A _ ⟨by simp, by simp⟩, by dsimp only; omega, by dsimp only; omega⟩
  by_cases c5 : c = 5
  · refine ⟨_, ev_neg c0 (ev_neg c1 (ev_neg c2 (ev_neg c3 (ev_neg c4 (ev_pos c5 (Ev.now _)))))), small_of (c := 3) (by first | omega | (dsimp only; omega) | (simp; omega)) (by first | omega | (dsimp only; omega) | (simp; omega)) (by omega) (fun y hy => ?_), by dsimp only; omega, by dsimp only; omega⟩
    rcases List.mem_append.1 hy with hy | hy
    · exact nB y hy
    · have : y = [] := by simpa using hy
      subst this
      exact ⟨by simp, by simp⟩
  by_cases c6 : c = 6
  · obtain ⟨d, ed, -⟩ := pick_ev b hb hl 5 p h0 (by omega) (by omega)
    exact ⟨_, ev_neg c0 (ev_neg c1 (ev_neg c2 (ev_neg c3 (ev_neg c4 (ev_neg c5 (ev_pos c6 (Ev.bind ed (Ev.now _)))))))), A _ ⟨by simp, by simp⟩, by dsimp only; omega, by dsimp only; omega⟩
  have fx : Few (⟨3, [], [], 0⟩ : S57) := ⟨by simp, by simp⟩
  obtain ⟨b1, e1⟩ := bnd_app nB hp fx
  obtain ⟨b2, e2⟩ := bnd_app b1 (by omega) fx
  obtain ⟨b3, e3⟩ := bnd_app b2 (by omega) fx
  obtain ⟨b4, e4⟩ := bnd_app b3 (by omega) fx
  obtain ⟨b5, e5⟩ := bnd_app b4 (by omega) fx
  exact ⟨_, ev_neg c0 (ev_neg c1 (ev_neg c2 (ev_neg c3 (ev_neg c4 (ev_neg c5 (ev_neg c6 (Ev.now _))))))), small_of (by first | omega | (dsimp only; omega) | (simp; omega)) (by first | omega | (dsimp only; omega) | (simp; omega)) (by omega) b5, by dsimp only; omega, by dsimp only; omega⟩
theorem l71Bent_ev (b : List Int) (hb : Bytes b) (hl : b.length ≤ 2000) (l0 : List Int) (l1 : List (List S57)) (p : Int) (h0 : 0 ≤ p) (h1 : p ≤ 8000) (hN : Nice l0 l1) :
    ∃ r, Ev (fun k => spec_l71Bent.f k b p l0 l1) r ∧ Small r.1 r.2.1 ∧ p ≤ r.2.2 ∧ r.2.2 ≤ p + 4 := by
  obtain ⟨c, ec, -⟩ := pick_ev b hb hl 8 p h0 (by omega) (by omega)
  obtain ⟨r, er, r1, r2, r3⟩ := bend_ev b hb hl c l0 l1 (p + 1) (by omega) (by omega) hN
  have hok : bendOk l0 l1 := ⟨by have := hN.1; omega, by have := hN.2.1; omega, List.all_eq_true.2 (fun y hy => decide_eq_true (by have := (hN.2.2 y hy).1; omega))⟩
  unfold spec_l71Bent.f
  exact ⟨r, ev_pos hok (Ev.bind ec er), r1, by omega, by omega⟩
theorem nice_small {l0 : List Int} {l1 : List (List S57)} (h : Nice l0 l1) : Small l0 l1 := small_of (c := 3) (by have := h.1; omega) (by have := h.2.1; omega) (by omega) h.2.2
theorem drawOk_ev (l : List Int) (hl : ∀ x ∈ l, (Lit.int .u8 x).wf = true) : ∃ r, Ev (fun k => spec_DrawProgOk.f k l) r ∧ Small r.1 r.2 := by
  obtain ⟨b, eb, b1, b2⟩ := open_ev l hl
  obtain ⟨x, ex, x1, x2, x3⟩ := l71Prog_ev b b1 b2 0 (by omega) (by omega)
  obtain ⟨d, ed, -⟩ := pick_ev b b1 b2 2 x.2.2 (by omega) (by omega) (by omega)
  unfold spec_DrawProgOk.f
  rw [eb]
  by_cases c : d = 0
  · obtain ⟨r, er, r1, -⟩ := l71Bent_ev b b1 b2 x.1 x.2.1 (x.2.2 + 1) (by omega) (by omega) x1
    exact ⟨(r.1, r.2.1), Ev.bind (Ev.now _) (Ev.bind ex (Ev.bind ed (ev_pos c (Ev.bind er (Ev.now _))))), r1⟩
  · exact ⟨(x.1, x.2.1), Ev.bind (Ev.now _) (Ev.bind ex (Ev.bind ed (ev_neg c (Ev.now _)))), nice_small x1⟩
end Go.Proofs.Ytoeepmcaabmjkaa.PProgD
namespace Go.Proofs.Ytoeepmcaabmjkaa.Pure
open Go.RowKit Go.Proofs.Ytoeepmcaabmjkaa.QPM Go.Proofs.YtoeepmcaabmjkaaW.PrintWords Go.Proofs.YtoeepmcaabmjkaaW.PrintLast Go.Proofs.Ytoeepmcaabmjkaa.PProg Go.Proofs.Ytoeepmcaabmjkaa.PTree Go.Proofs.Ytoeepmcaabmjkaa.PTau Go.Proofs.Ytoeepmcaabmjkaa.PProgD
theorem progTree_val {l0 : List Int} {l1 : List (List S57)} (ho : Ev (fun k => impl_ProgOk.f k l0 l1) true) (fm : PTree.Form l1) (b : Int) (b0 : 0 ≤ b) (b1 : b < l1.length) : Ev (fun k => impl_ProgTree.f k l0 l1 b) (tau l1 b) := by
  have hi : inB b 0 ((l1.length : Int) - 1) = true := by
    unfold inB
    rw [decide_eq_true b0, decide_eq_true (show b ≤ (l1.length : Int) - 1 by omega)]
    rfl
  unfold impl_ProgTree.f
  refine Ev.bind ho (ev_pos rfl ?_)
  simp only [isPlace_eq, hi, Option.bind_some]
  exact ev_pos trivial (Ev.bind (tau_at (l0 := l0) fm b b0 b1).2 (Ev.now _))
theorem kids_loop {l0 : List Int} {l1 : List (List S57)} (ho : Ev (fun k => impl_ProgOk.f k l0 l1) true) (fm : PTree.Form l1) : Ev (fun k => laws_FnProgKids.l0 k 0 l0 l1) true := by
  have few := fm.few
  have key : ∀ i, i ≤ l1.length → Ev (fun k => laws_FnProgKids.l0 k (i : Int) l0 l1) true := by
    refine down ?_ ?_
    · exact Ev.step (fun k => by rw [laws_FnProgKids.l0, if_neg (by omega)]) (Ev.now _)
    · intro i hi ih
      have acts := fm.acts i hi
      have inner : ∀ j, j ≤ l1[i].length → Ev (fun k => laws_FnProgKids.l1 k (i : Int) (j : Int) l0 l1) true := by
        refine down ?_ ?_
        · refine Ev.step (fun k => ?_) ih
          rw [laws_FnProgKids.l1, if_pos (by omega), if_pos (by omega), rdBi l1 i hi, if_neg (by omega), w64 (by omega) (by omega)]
          rfl
        · intro j hj ih2
          obtain ⟨kl, kx⟩ := fm.kids i hi l1[i][j] (List.getElem_mem hj)
          have kids : ∀ n, n ≤ l1[i][j].f2.length → Ev (fun k => laws_FnProgKids.l2 k (i : Int) (j : Int) l1[i][j].f2 (n : Int) l0 l1) true := by
            refine down ?_ ?_
            · refine Ev.step (fun k => ?_) ih2
              rw [laws_FnProgKids.l2, if_neg (by omega), w64 (by omega) (by omega)]
              rfl
            · intro n hn ih3
              obtain ⟨x0, x1⟩ := kx _ (List.getElem_mem hn)
              have lt := tau_lt fm i hi (List.getElem_mem hj) (List.getElem_mem hn)
              refine Ev.step (fun k => by rw [laws_FnProgKids.l2, if_pos (by omega), if_pos (by omega), rdI _ n hn, if_neg (by omega)]) ?_
              refine Ev.bind (progTree_val ho fm _ (by omega) x1) (Ev.bind (progTree_val ho fm (i : Int) (by omega) (by omega)) (ev_neg (by omega) (Ev.congr (fun k => ?_) ih3)))
              rw [w64 (by omega) (by omega)]
              rfl
          refine Ev.step (fun k => ?_) (kids 0 (Nat.zero_le _))
          rw [laws_FnProgKids.l1, if_pos (by omega), if_pos (by omega), rdBi l1 i hi, if_pos (by omega), if_pos (by omega), rdAi _ j hj]
          rfl
      refine Ev.step (fun k => ?_) (inner 0 (Nat.zero_le _))
      rw [laws_FnProgKids.l0, if_pos (by omega)]
      rfl
  exact key 0 (Nat.zero_le _)
theorem FnProgKids : laws_FnProgKids.Pure := by
  intro l0 hl _ hb
  refine Ev.rounds (g := fun k => laws_FnProgKids.f k l0) ?_
  unfold laws_FnProgKids.f
  by_cases c : (l0.length : Int) > 1048576
  · exact ev_pos c (Ev.now _)
  refine ev_neg c ?_
  obtain ⟨r, er, rs⟩ := drawOk_ev l0 hb
  obtain ⟨R, o1, o2, o3⟩ := ok_tau r.1 r.2 rs
  refine Ev.bind er (Ev.bind o2 (Ev.bind o1 ?_))
  cases R with
  | false => exact ev_neg (by decide) (Ev.step (fun k => by rw [laws_FnProgKids.j0, if_pos (by decide)]) (by exact Ev.bind o1 (Ev.now _)))
  | true => exact ev_neg (by decide) (Ev.step (fun k => by rw [laws_FnProgKids.j0, if_neg (by decide)]) (kids_loop o2 (o3 rfl).2.1))
end Go.Proofs.Ytoeepmcaabmjkaa.Pure
-- PRINTED WORDS (module Derived/Print/Sized.lean): go-gate-2's, for the rows of laws over slices: an AI agent of Go's test side, Tue Nov 17 2026; no person has read it. Lean checks it.
namespace Go.Proofs.YtoeepmcaabmjkaaW.PrintWords
open Go.ChangeShapes Go.WideShapes
/-- A row's slice of whole numbers is no longer than its weight allows. -/
theorem sized_ints {H : Type} {enc : TypeId × Value → H} {P : Program} {W : World} {base : Nat} {spare : Nat → Bool} {held : Bool} {t e : TypeId} {k : IntKind} {a : Option Addr} {len cap : Nat} {d : DataW H} {ps : List MemPlace} {ts : List TypeId} {ds : List (DataW H)} {j : Nat}
    (hsz : (DataW.weightsEach P ts ds).all (· ≤ reachBytes) = true) (ht : ts[j]? = some t) (hd : ds[j]? = some d) (hu : P.underlying t = some (.slice e)) (he : P.underlying e = some (.int k)) (hc : P.cellsOf e = 1) {B : Nat} (hB : P.bytesOf e = B)
    (h : DataW.Trod enc P W base spare held t (.slice a len cap) d ps) : len * B ≤ 140737488351232 := by
  obtain ⟨fuel, hf⟩ := h
  rcases open_ints hu he hc hf with ⟨hcs, _⟩ | ⟨x, l, c, zs, hcs, _, hl, _, hz, hx, _, _⟩
  · simp [Value.cells] at hcs
    obtain ⟨rfl, rfl, rfl⟩ := hcs
    simp
  · simp [Value.cells] at hcs
    obtain ⟨rfl, rfl, rfl⟩ := hcs
    obtain ⟨hx, _⟩ := Prod.mk.inj hx
    subst hx
    have z := sized_slice hsz ht hd hu
    rw [hB] at z
    have hl2 : len ≤ zs.length := by
      rw [hz]
      split
      · exact hl
      · exact Nat.le_refl _
    have h1 : (lits (H := H) k (zs.take len)).length + (lits (H := H) k (zs.drop len)).length = zs.length := by
      simp [lits]
      omega
    rw [h1] at z
    exact Nat.le_trans (Nat.mul_le_mul_right _ hl2) z
end Go.Proofs.YtoeepmcaabmjkaaW.PrintWords
