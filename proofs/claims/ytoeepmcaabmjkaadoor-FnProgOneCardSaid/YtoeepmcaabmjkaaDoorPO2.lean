import Derived.Test.YtoeepmcaabmjkaaDoorPO0
import Derived.Test.YtoeepmcaabmjkaaDoorPO1
namespace Go.Proofs.YtoeepmcaabmjkaaDoor.QPO
open Go.RowKit Go.Proofs.YtoeepmcaabmjkaaDoorW.PrintWords Go.Proofs.YtoeepmcaabmjkaaDoorW.PrintLast Go.Proofs.YtoeepmcaabmjkaaDoorW.PrintMore
attribute [local go_sem] yz yx yQ yP yl yk yy yw   -- for this text's walks alone
set_option linter.unusedVariables false
set_option linter.unusedSimpArgs false
def yU.f (k : Nat) (a0_0 : Int) (a0_1 : Int) (a0_2 : Int) : Option (ByteArray) := (some (([(wrap64 (114 + a0_1)) % 256] : List Int) : List Int)).bind fun y144 => (if a0_0 = 1 then (if (strOfNums y144).size + 1 ≤ 9223372036854775807 then ((some (([(wrap64 (65 + a0_2)) % 256] : List Int) : List Int)).bind fun y147 => (if ((strOfNums y144) ++ (⟨#[61]⟩ : ByteArray)).size + (strOfNums y147).size ≤ 9223372036854775807 then (some (((strOfNums y144) ++ (⟨#[61]⟩ : ByteArray)) ++ (strOfNums y147))) else (none))) else (none)) else (if a0_0 = 2 then ((some (([(wrap64 (65 + a0_1)) % 256] : List Int) : List Int)).bind fun y150 => (if (strOfNums y150).size + 1 ≤ 9223372036854775807 then ((some (([(wrap64 (114 + a0_2)) % 256] : List Int) : List Int)).bind fun y153 => (if ((strOfNums y150) ++ (⟨#[61]⟩ : ByteArray)).size + (strOfNums y153).size ≤ 9223372036854775807 then (some (((strOfNums y150) ++ (⟨#[61]⟩ : ByteArray)) ++ (strOfNums y153))) else (none))) else (none))) else (if a0_0 = 3 then (if (strOfNums y144).size + 1 ≤ 9223372036854775807 then ((yd.f k a0_2).bind fun t156 => (if ((strOfNums y144) ++ (⟨#[61]⟩ : ByteArray)).size + t156.size ≤ 9223372036854775807 then (some (((strOfNums y144) ++ (⟨#[61]⟩ : ByteArray)) ++ t156)) else (none))) else (none)) else (if a0_0 = 4 then (if (strOfNums y144).size + 1 ≤ 9223372036854775807 then ((some (([(wrap64 (114 + a0_2)) % 256] : List Int) : List Int)).bind fun y157 => (if ((strOfNums y144) ++ (⟨#[43]⟩ : ByteArray)).size + (strOfNums y157).size ≤ 9223372036854775807 then (some (((strOfNums y144) ++ (⟨#[43]⟩ : ByteArray)) ++ (strOfNums y157))) else (none))) else (none)) else (if (strOfNums y144).size + 1 ≤ 9223372036854775807 then (some ((strOfNums y144) ++ (⟨#[63]⟩ : ByteArray))) else (none))))))
set_option maxHeartbeats 8000000 in
set_option maxRecDepth 100000 in
theorem yU.calls (k : Nat) (a0_0 : Int) (a0_1 : Int) (a0_2 : Int) (r : ByteArray) (w : World) (h : yU.f k a0_0 a0_1 a0_2 = some r) :
    Calls Tryd.prog 44 #[.agg #[.int .i64 a0_0, .int .i64 a0_1, .int .i64 a0_2]] w fun e w' => e = .returned (.string r) ∧ Below w.heap.size w w' := by
  have hu82 := Tryd.underlying82
  have HB := za.mk (Below.refl w.heap.size w)
  have H : ((some (([(wrap64 (114 + a0_1)) % 256] : List Int) : List Int)).bind fun y144 => (if a0_0 = 1 then (if (strOfNums y144).size + 1 ≤ 9223372036854775807 then ((some (([(wrap64 (65 + a0_2)) % 256] : List Int) : List Int)).bind fun y147 => (if ((strOfNums y144) ++ (⟨#[61]⟩ : ByteArray)).size + (strOfNums y147).size ≤ 9223372036854775807 then (some (((strOfNums y144) ++ (⟨#[61]⟩ : ByteArray)) ++ (strOfNums y147))) else (none))) else (none)) else (if a0_0 = 2 then ((some (([(wrap64 (65 + a0_1)) % 256] : List Int) : List Int)).bind fun y150 => (if (strOfNums y150).size + 1 ≤ 9223372036854775807 then ((some (([(wrap64 (114 + a0_2)) % 256] : List Int) : List Int)).bind fun y153 => (if ((strOfNums y150) ++ (⟨#[61]⟩ : ByteArray)).size + (strOfNums y153).size ≤ 9223372036854775807 then (some (((strOfNums y150) ++ (⟨#[61]⟩ : ByteArray)) ++ (strOfNums y153))) else (none))) else (none))) else (if a0_0 = 3 then (if (strOfNums y144).size + 1 ≤ 9223372036854775807 then ((yd.f k a0_2).bind fun t156 => (if ((strOfNums y144) ++ (⟨#[61]⟩ : ByteArray)).size + t156.size ≤ 9223372036854775807 then (some (((strOfNums y144) ++ (⟨#[61]⟩ : ByteArray)) ++ t156)) else (none))) else (none)) else (if a0_0 = 4 then (if (strOfNums y144).size + 1 ≤ 9223372036854775807 then ((some (([(wrap64 (114 + a0_2)) % 256] : List Int) : List Int)).bind fun y157 => (if ((strOfNums y144) ++ (⟨#[43]⟩ : ByteArray)).size + (strOfNums y157).size ≤ 9223372036854775807 then (some (((strOfNums y144) ++ (⟨#[43]⟩ : ByteArray)) ++ (strOfNums y157))) else (none))) else (none)) else (if (strOfNums y144).size + 1 ≤ 9223372036854775807 then (some ((strOfNums y144) ++ (⟨#[63]⟩ : ByteArray))) else (none))))))) = some r := h
  clear h
  obtain ⟨y144, hy144⟩ : ∃ y_ : List Int, y_ = (([(wrap64 (114 + a0_1)) % 256] : List Int)) := ⟨_, rfl⟩
  replace H : (if a0_0 = 1 then (if (strOfNums y144).size + 1 ≤ 9223372036854775807 then ((some (([(wrap64 (65 + a0_2)) % 256] : List Int) : List Int)).bind fun y147 => (if ((strOfNums y144) ++ (⟨#[61]⟩ : ByteArray)).size + (strOfNums y147).size ≤ 9223372036854775807 then (some (((strOfNums y144) ++ (⟨#[61]⟩ : ByteArray)) ++ (strOfNums y147))) else (none))) else (none)) else (if a0_0 = 2 then ((some (([(wrap64 (65 + a0_1)) % 256] : List Int) : List Int)).bind fun y150 => (if (strOfNums y150).size + 1 ≤ 9223372036854775807 then ((some (([(wrap64 (114 + a0_2)) % 256] : List Int) : List Int)).bind fun y153 => (if ((strOfNums y150) ++ (⟨#[61]⟩ : ByteArray)).size + (strOfNums y153).size ≤ 9223372036854775807 then (some (((strOfNums y150) ++ (⟨#[61]⟩ : ByteArray)) ++ (strOfNums y153))) else (none))) else (none))) else (if a0_0 = 3 then (if (strOfNums y144).size + 1 ≤ 9223372036854775807 then ((yd.f k a0_2).bind fun t156 => (if ((strOfNums y144) ++ (⟨#[61]⟩ : ByteArray)).size + t156.size ≤ 9223372036854775807 then (some (((strOfNums y144) ++ (⟨#[61]⟩ : ByteArray)) ++ t156)) else (none))) else (none)) else (if a0_0 = 4 then (if (strOfNums y144).size + 1 ≤ 9223372036854775807 then ((some (([(wrap64 (114 + a0_2)) % 256] : List Int) : List Int)).bind fun y157 => (if ((strOfNums y144) ++ (⟨#[43]⟩ : ByteArray)).size + (strOfNums y157).size ≤ 9223372036854775807 then (some (((strOfNums y144) ++ (⟨#[43]⟩ : ByteArray)) ++ (strOfNums y157))) else (none))) else (none)) else (if (strOfNums y144).size + 1 ≤ 9223372036854775807 then (some ((strOfNums y144) ++ (⟨#[63]⟩ : ByteArray))) else (none)))))) = some r := by first | (rw [hy144]; with_reducible exact H) | (have H2_ := (Option.bind_some _ _).symm.trans H; rw [hy144]; with_reducible exact H2_) | (have H2_ := (Option.bind_some _ _).symm.trans H; with_reducible exact H2_) | with_reducible exact H | (rw [hy144]; exact H) | exact H
  have Ny144 := za.mk hy144
  clear hy144
  by_cases c2 : a0_0 = 1
  · rw [if_pos c2] at H
    have c2b0 : (a0_0 == 1) = true := beq_iff_eq.mpr c2
    have c2b1 : (a0_0 != 1) = false := bne_eq_false_iff_eq.mpr c2
    clear c2
    by_cases c3 : (strOfNums y144).size + 1 ≤ 9223372036854775807
    · rw [if_pos c3] at H
      have c3b0 := eq_true c3
      have c3b1 : decide ((strOfNums y144).size + 1 ≤ 9223372036854775807) = true := decide_eq_true c3
      try have c3b2 : (9223372036854775807 < (strOfNums y144).size + 1) = False := eq_false (Nat.not_lt.2 c3)
      obtain ⟨y147, hy147⟩ : ∃ y_ : List Int, y_ = (([(wrap64 (65 + a0_2)) % 256] : List Int)) := ⟨_, rfl⟩
      replace H : (if ((strOfNums y144) ++ (⟨#[61]⟩ : ByteArray)).size + (strOfNums y147).size ≤ 9223372036854775807 then (some (((strOfNums y144) ++ (⟨#[61]⟩ : ByteArray)) ++ (strOfNums y147))) else (none)) = some r := by first | (rw [hy147]; with_reducible exact H) | (have H2_ := (Option.bind_some _ _).symm.trans H; rw [hy147]; with_reducible exact H2_) | (have H2_ := (Option.bind_some _ _).symm.trans H; with_reducible exact H2_) | with_reducible exact H | (rw [hy147]; exact H) | exact H
      have Ny147 := za.mk hy147
      clear hy147
      by_cases c4 : ((strOfNums y144) ++ (⟨#[61]⟩ : ByteArray)).size + (strOfNums y147).size ≤ 9223372036854775807
      · rw [if_pos c4] at H
        have c4b0 := eq_true c4
        have c4b1 : decide (((strOfNums y144) ++ (⟨#[61]⟩ : ByteArray)).size + (strOfNums y147).size ≤ 9223372036854775807) = true := decide_eq_true c4
        try have c4b2 : (9223372036854775807 < ((strOfNums y144) ++ (⟨#[61]⟩ : ByteArray)).size + (strOfNums y147).size) = False := eq_false (Nat.not_lt.2 c4)
        try have c4b3 : (9223372036854775807 < ((strOfNums y144)).size + 1 + (strOfNums y147).size) = False := by
                have h_ := c4
                rw [ByteArray.size_append] at h_
                exact eq_false (Nat.not_lt.2 h_)
        obtain rfl := Option.some.inj H
        go_enter Tryd.func44, Tryd.ntmps44
        go_wp2_with (first | ((with_reducible refine zY (N := 1) rfl ?_); refine ye ?hg (N := 1) ?hd (cs := #[.int .i64 a0_0, .int .i64 a0_1, .int .i64 a0_2]) (t := 82) ?hr ?_; (case hd => rfl); (case hg => rfl); (case hr => first | (go_simp; done) | (go_simp; rfl)); intro gb143 hg w5 hbox hb; have n0_ := za.mk (zp (by repeat (with_reducible first | exact HB.out | apply zc | apply zb | apply zd)) hb); have n1_ := za.mk (hbox); have n2_ := za.mk ((by rw [hg]; exact (zy (by repeat (with_reducible first | exact HB.out | apply zc | apply zb | apply zd))) : w.heap.size ≤ gb143)); have n3_ := za.mk ((by rw [hg]; exact (zy (by repeat (with_reducible first | exact HB.out | apply zc | apply zb | apply zd))) : w.heap.size ≤ gb143)); clear HB; have HB := n0_; have BK143 := n1_; have GW143 := n2_; have GE143 := n3_; clear n0_ n1_ n2_ n3_; clear hb hbox hg; have hcz6_0 : w5.cell? ⟨gb143, 0, none⟩ = some (.int .i64 a0_0) := (zf BK143.out 0).trans rfl; have hcz6_1 : w5.cell? ⟨gb143, 1, none⟩ = some (.int .i64 a0_1) := (zf BK143.out 1).trans rfl; have hcz6_2 : w5.cell? ⟨gb143, 2, none⟩ = some (.int .i64 a0_2) := (zf BK143.out 2).trans rfl; have hfz6_0 := zg BK143.out 0; have hfz6_1 := zg BK143.out 1; have hfz6_2 := zg BK143.out 2) | ((with_reducible refine zY (N := 8) rfl ?_); refine Kd.R_lit (Kd.int .u8) _ 5 ?hg (N := 8) ?hd (xs := ([(wrap64 (114 + a0_1)) % 256] : List Int)) (inner := [.int .u8 ((wrap64 (114 + a0_1)) % 256)]) (ok := fun _ => True) (okp := fun _ => True) ?hr ?hp (fun _ hk => hk) trivial (Below.refl _ _) (Nat.le_refl _) (by simp) ?_; (case hd => rfl); (case hg => rfl); (case hr => first | (go_simp; done) | (go_simp; rfl)); (case hp => exact (yt.one (show Kd.M (Kd.int .u8) _ _ _ ((wrap64 (114 + a0_1)) % 256) [.int .u8 ((wrap64 (114 + a0_1)) % 256)] from rfl) (yt.none _ _))); intro v145 w7 ho8 hb hg_ hnew_; clear hg_ hnew_; (first | rw [← Ny144.out] at ho8 | (simp only [Int.reduceToNat] at ho8; rw [← Ny144.out] at ho8)); have n0_ := za.mk (Kd.yq ho8 (zy (by repeat (with_reducible first | exact HB.out | apply zc | apply zb | apply zd | refine zh ?_ GE143.out)))); have n1_ := za.mk (zI (g := gb143) (o := .cells #[.int .i64 a0_0, .int .i64 a0_1, .int .i64 a0_2] 82 (0, 0)) (by (with_reducible repeat (first | refine zl ?_ _ | refine zm ?_ | refine zj ?_ _)); exact BK143.out) hb); have n2_ := za.mk (zp (by repeat (with_reducible first | exact HB.out | apply zc | apply zb | apply zd | refine zh ?_ GE143.out)) hb); clear BK143; clear HB; have HO146 := n0_; have BK143 := n1_; have HB := n2_; clear n0_ n1_ n2_; clear hb ho8; have hcv9 := y9 (P := Tryd.prog) Tryd.underlying34 Tryd.underlying5 Tryd.underlying9 (Kd.xk HO146.out); have hcz10_0 : w7.cell? ⟨gb143, 0, none⟩ = some (.int .i64 a0_0) := (zf BK143.out 0).trans rfl; have hcz10_1 : w7.cell? ⟨gb143, 1, none⟩ = some (.int .i64 a0_1) := (zf BK143.out 1).trans rfl; have hcz10_2 : w7.cell? ⟨gb143, 2, none⟩ = some (.int .i64 a0_2) := (zf BK143.out 2).trans rfl; have hfz10_0 := zg BK143.out 0; have hfz10_1 := zg BK143.out 1; have hfz10_2 := zg BK143.out 2) | ((with_reducible refine zY (N := 20) rfl ?_); refine Kd.R_lit (Kd.int .u8) _ 5 ?hg (N := 20) ?hd (xs := ([(wrap64 (65 + a0_2)) % 256] : List Int)) (inner := [.int .u8 ((wrap64 (65 + a0_2)) % 256)]) (ok := fun _ => True) (okp := fun _ => True) ?hr ?hp (fun _ hk => hk) trivial (Below.refl _ _) (Nat.le_refl _) (by simp) ?_; (case hd => rfl); (case hg => rfl); (case hr => first | (go_simp; done) | (go_simp; rfl)); (case hp => exact (yt.one (show Kd.M (Kd.int .u8) _ _ _ ((wrap64 (65 + a0_2)) % 256) [.int .u8 ((wrap64 (65 + a0_2)) % 256)] from rfl) (yt.none _ _))); intro v148 w11 ho12 hb hg_ hnew_; clear hg_ hnew_; (first | rw [← Ny147.out] at ho12 | (simp only [Int.reduceToNat] at ho12; rw [← Ny147.out] at ho12)); have n0_ := za.mk (Kd.R_elder' (by (with_reducible repeat (first | apply Kd.zE | apply Kd.zG | apply Kd.zT)); exact HO146.out) (Kd.xM ho12) hb); have n1_ := za.mk (Kd.yq (Kd.R_new' ho12 (Kd.R_lt (by (with_reducible repeat (first | apply Kd.zE | apply Kd.zG | apply Kd.zT)); exact HO146.out))) (zy (by repeat (with_reducible first | exact HB.out | apply zc | apply zb | apply zd | refine zh ?_ GE143.out)))); have n2_ := za.mk (zI (g := gb143) (o := .cells #[.int .i64 a0_0, .int .i64 a0_1, .int .i64 a0_2] 82 (0, 0)) (by (with_reducible repeat (first | refine zl ?_ _ | refine zm ?_ | refine zj ?_ _)); exact BK143.out) hb); have n3_ := za.mk (zp (by repeat (with_reducible first | exact HB.out | apply zc | apply zb | apply zd | refine zh ?_ GE143.out)) hb); clear HO146; clear BK143; clear HB; have HO146 := n0_; have HO149 := n1_; have BK143 := n2_; have HB := n3_; clear n0_ n1_ n2_ n3_; clear hb ho12; have hcv13 := y9 (P := Tryd.prog) Tryd.underlying34 Tryd.underlying5 Tryd.underlying9 (Kd.xk HO149.out)))
        go_ret
        exact ⟨by first | rfl | (simp [zr, zq] <;> rfl) | (simp [*, zr, zq] <;> rfl), by repeat (with_reducible first | exact HB.out | apply zc | apply zb | apply zd | refine zh ?_ GE143.out)⟩
      · rw [if_neg c4] at H
        exact absurd H (by simp)
    · rw [if_neg c3] at H
      exact absurd H (by simp)
  · rw [if_neg c2] at H
    have c2b0 : (a0_0 == 1) = false := beq_eq_false_iff_ne.mpr c2
    have c2b1 : (a0_0 != 1) = true := bne_iff_ne.mpr c2
    by_cases c14 : a0_0 = 2
    · rw [if_pos c14] at H
      have c14b0 : (a0_0 == 2) = true := beq_iff_eq.mpr c14
      have c14b1 : (a0_0 != 2) = false := bne_eq_false_iff_eq.mpr c14
      clear c14
      obtain ⟨y150, hy150⟩ : ∃ y_ : List Int, y_ = (([(wrap64 (65 + a0_1)) % 256] : List Int)) := ⟨_, rfl⟩
      replace H : (if (strOfNums y150).size + 1 ≤ 9223372036854775807 then ((some (([(wrap64 (114 + a0_2)) % 256] : List Int) : List Int)).bind fun y153 => (if ((strOfNums y150) ++ (⟨#[61]⟩ : ByteArray)).size + (strOfNums y153).size ≤ 9223372036854775807 then (some (((strOfNums y150) ++ (⟨#[61]⟩ : ByteArray)) ++ (strOfNums y153))) else (none))) else (none)) = some r := by first | (rw [hy150]; with_reducible exact H) | (have H2_ := (Option.bind_some _ _).symm.trans H; rw [hy150]; with_reducible exact H2_) | (have H2_ := (Option.bind_some _ _).symm.trans H; with_reducible exact H2_) | with_reducible exact H | (rw [hy150]; exact H) | exact H
      have Ny150 := za.mk hy150
      clear hy150
      by_cases c15 : (strOfNums y150).size + 1 ≤ 9223372036854775807
      · rw [if_pos c15] at H
        have c15b0 := eq_true c15
        have c15b1 : decide ((strOfNums y150).size + 1 ≤ 9223372036854775807) = true := decide_eq_true c15
        try have c15b2 : (9223372036854775807 < (strOfNums y150).size + 1) = False := eq_false (Nat.not_lt.2 c15)
        obtain ⟨y153, hy153⟩ : ∃ y_ : List Int, y_ = (([(wrap64 (114 + a0_2)) % 256] : List Int)) := ⟨_, rfl⟩
        replace H : (if ((strOfNums y150) ++ (⟨#[61]⟩ : ByteArray)).size + (strOfNums y153).size ≤ 9223372036854775807 then (some (((strOfNums y150) ++ (⟨#[61]⟩ : ByteArray)) ++ (strOfNums y153))) else (none)) = some r := by first | (rw [hy153]; with_reducible exact H) | (have H2_ := (Option.bind_some _ _).symm.trans H; rw [hy153]; with_reducible exact H2_) | (have H2_ := (Option.bind_some _ _).symm.trans H; with_reducible exact H2_) | with_reducible exact H | (rw [hy153]; exact H) | exact H
        have Ny153 := za.mk hy153
        clear hy153
        by_cases c16 : ((strOfNums y150) ++ (⟨#[61]⟩ : ByteArray)).size + (strOfNums y153).size ≤ 9223372036854775807
        · rw [if_pos c16] at H
          have c16b0 := eq_true c16
          have c16b1 : decide (((strOfNums y150) ++ (⟨#[61]⟩ : ByteArray)).size + (strOfNums y153).size ≤ 9223372036854775807) = true := decide_eq_true c16
          try have c16b2 : (9223372036854775807 < ((strOfNums y150) ++ (⟨#[61]⟩ : ByteArray)).size + (strOfNums y153).size) = False := eq_false (Nat.not_lt.2 c16)
          try have c16b3 : (9223372036854775807 < ((strOfNums y150)).size + 1 + (strOfNums y153).size) = False := by
                  have h_ := c16
                  rw [ByteArray.size_append] at h_
                  exact eq_false (Nat.not_lt.2 h_)
          obtain rfl := Option.some.inj H
          go_enter Tryd.func44, Tryd.ntmps44
          go_wp2_with (first | ((with_reducible refine zY (N := 1) rfl ?_); refine ye ?hg (N := 1) ?hd (cs := #[.int .i64 a0_0, .int .i64 a0_1, .int .i64 a0_2]) (t := 82) ?hr ?_; (case hd => rfl); (case hg => rfl); (case hr => first | (go_simp; done) | (go_simp; rfl)); intro gb143 hg w17 hbox hb; have n0_ := za.mk (zp (by repeat (with_reducible first | exact HB.out | apply zc | apply zb | apply zd)) hb); have n1_ := za.mk (hbox); have n2_ := za.mk ((by rw [hg]; exact (zy (by repeat (with_reducible first | exact HB.out | apply zc | apply zb | apply zd))) : w.heap.size ≤ gb143)); have n3_ := za.mk ((by rw [hg]; exact (zy (by repeat (with_reducible first | exact HB.out | apply zc | apply zb | apply zd))) : w.heap.size ≤ gb143)); clear HB; have HB := n0_; have BK143 := n1_; have GW143 := n2_; have GE143 := n3_; clear n0_ n1_ n2_ n3_; clear hb hbox hg; have hcz18_0 : w17.cell? ⟨gb143, 0, none⟩ = some (.int .i64 a0_0) := (zf BK143.out 0).trans rfl; have hcz18_1 : w17.cell? ⟨gb143, 1, none⟩ = some (.int .i64 a0_1) := (zf BK143.out 1).trans rfl; have hcz18_2 : w17.cell? ⟨gb143, 2, none⟩ = some (.int .i64 a0_2) := (zf BK143.out 2).trans rfl; have hfz18_0 := zg BK143.out 0; have hfz18_1 := zg BK143.out 1; have hfz18_2 := zg BK143.out 2) | ((with_reducible refine zY (N := 8) rfl ?_); refine Kd.R_lit (Kd.int .u8) _ 5 ?hg (N := 8) ?hd (xs := ([(wrap64 (114 + a0_1)) % 256] : List Int)) (inner := [.int .u8 ((wrap64 (114 + a0_1)) % 256)]) (ok := fun _ => True) (okp := fun _ => True) ?hr ?hp (fun _ hk => hk) trivial (Below.refl _ _) (Nat.le_refl _) (by simp) ?_; (case hd => rfl); (case hg => rfl); (case hr => first | (go_simp; done) | (go_simp; rfl)); (case hp => exact (yt.one (show Kd.M (Kd.int .u8) _ _ _ ((wrap64 (114 + a0_1)) % 256) [.int .u8 ((wrap64 (114 + a0_1)) % 256)] from rfl) (yt.none _ _))); intro v145 w19 ho20 hb hg_ hnew_; clear hg_ hnew_; (first | rw [← Ny144.out] at ho20 | (simp only [Int.reduceToNat] at ho20; rw [← Ny144.out] at ho20)); have n0_ := za.mk (Kd.yq ho20 (zy (by repeat (with_reducible first | exact HB.out | apply zc | apply zb | apply zd | refine zh ?_ GE143.out)))); have n1_ := za.mk (zI (g := gb143) (o := .cells #[.int .i64 a0_0, .int .i64 a0_1, .int .i64 a0_2] 82 (0, 0)) (by (with_reducible repeat (first | refine zl ?_ _ | refine zm ?_ | refine zj ?_ _)); exact BK143.out) hb); have n2_ := za.mk (zp (by repeat (with_reducible first | exact HB.out | apply zc | apply zb | apply zd | refine zh ?_ GE143.out)) hb); clear BK143; clear HB; have HO146 := n0_; have BK143 := n1_; have HB := n2_; clear n0_ n1_ n2_; clear hb ho20; have hcv21 := y9 (P := Tryd.prog) Tryd.underlying34 Tryd.underlying5 Tryd.underlying9 (Kd.xk HO146.out); have hcz22_0 : w19.cell? ⟨gb143, 0, none⟩ = some (.int .i64 a0_0) := (zf BK143.out 0).trans rfl; have hcz22_1 : w19.cell? ⟨gb143, 1, none⟩ = some (.int .i64 a0_1) := (zf BK143.out 1).trans rfl; have hcz22_2 : w19.cell? ⟨gb143, 2, none⟩ = some (.int .i64 a0_2) := (zf BK143.out 2).trans rfl; have hfz22_0 := zg BK143.out 0; have hfz22_1 := zg BK143.out 1; have hfz22_2 := zg BK143.out 2) | ((with_reducible refine zY (N := 29) rfl ?_); refine Kd.R_lit (Kd.int .u8) _ 5 ?hg (N := 29) ?hd (xs := ([(wrap64 (65 + a0_1)) % 256] : List Int)) (inner := [.int .u8 ((wrap64 (65 + a0_1)) % 256)]) (ok := fun _ => True) (okp := fun _ => True) ?hr ?hp (fun _ hk => hk) trivial (Below.refl _ _) (Nat.le_refl _) (by simp) ?_; (case hd => rfl); (case hg => rfl); (case hr => first | (go_simp; done) | (go_simp; rfl)); (case hp => exact (yt.one (show Kd.M (Kd.int .u8) _ _ _ ((wrap64 (65 + a0_1)) % 256) [.int .u8 ((wrap64 (65 + a0_1)) % 256)] from rfl) (yt.none _ _))); intro v151 w23 ho24 hb hg_ hnew_; clear hg_ hnew_; (first | rw [← Ny150.out] at ho24 | (simp only [Int.reduceToNat] at ho24; rw [← Ny150.out] at ho24)); have n0_ := za.mk (Kd.R_elder' (by (with_reducible repeat (first | apply Kd.zE | apply Kd.zG | apply Kd.zT)); exact HO146.out) (Kd.xM ho24) hb); have n1_ := za.mk (Kd.yq (Kd.R_new' ho24 (Kd.R_lt (by (with_reducible repeat (first | apply Kd.zE | apply Kd.zG | apply Kd.zT)); exact HO146.out))) (zy (by repeat (with_reducible first | exact HB.out | apply zc | apply zb | apply zd | refine zh ?_ GE143.out)))); have n2_ := za.mk (zI (g := gb143) (o := .cells #[.int .i64 a0_0, .int .i64 a0_1, .int .i64 a0_2] 82 (0, 0)) (by (with_reducible repeat (first | refine zl ?_ _ | refine zm ?_ | refine zj ?_ _)); exact BK143.out) hb); have n3_ := za.mk (zp (by repeat (with_reducible first | exact HB.out | apply zc | apply zb | apply zd | refine zh ?_ GE143.out)) hb); clear HO146; clear BK143; clear HB; have HO146 := n0_; have HO152 := n1_; have BK143 := n2_; have HB := n3_; clear n0_ n1_ n2_ n3_; clear hb ho24; have hcv25 := y9 (P := Tryd.prog) Tryd.underlying34 Tryd.underlying5 Tryd.underlying9 (Kd.xk HO152.out); have hcz26_0 : w23.cell? ⟨gb143, 0, none⟩ = some (.int .i64 a0_0) := (zf BK143.out 0).trans rfl; have hcz26_1 : w23.cell? ⟨gb143, 1, none⟩ = some (.int .i64 a0_1) := (zf BK143.out 1).trans rfl; have hcz26_2 : w23.cell? ⟨gb143, 2, none⟩ = some (.int .i64 a0_2) := (zf BK143.out 2).trans rfl; have hfz26_0 := zg BK143.out 0; have hfz26_1 := zg BK143.out 1; have hfz26_2 := zg BK143.out 2) | ((with_reducible refine zY (N := 36) rfl ?_); refine Kd.R_lit (Kd.int .u8) _ 5 ?hg (N := 36) ?hd (xs := ([(wrap64 (114 + a0_2)) % 256] : List Int)) (inner := [.int .u8 ((wrap64 (114 + a0_2)) % 256)]) (ok := fun _ => True) (okp := fun _ => True) ?hr ?hp (fun _ hk => hk) trivial (Below.refl _ _) (Nat.le_refl _) (by simp) ?_; (case hd => rfl); (case hg => rfl); (case hr => first | (go_simp; done) | (go_simp; rfl)); (case hp => exact (yt.one (show Kd.M (Kd.int .u8) _ _ _ ((wrap64 (114 + a0_2)) % 256) [.int .u8 ((wrap64 (114 + a0_2)) % 256)] from rfl) (yt.none _ _))); intro v154 w27 ho28 hb hg_ hnew_; clear hg_ hnew_; (first | rw [← Ny153.out] at ho28 | (simp only [Int.reduceToNat] at ho28; rw [← Ny153.out] at ho28)); have n0_ := za.mk (Kd.R_elder' (by (with_reducible repeat (first | apply Kd.zE | apply Kd.zG | apply Kd.zT)); exact HO146.out) (Kd.xM ho28) hb); have n1_ := za.mk (Kd.R_elder' (by (with_reducible repeat (first | apply Kd.zE | apply Kd.zG | apply Kd.zT)); exact HO152.out) (Kd.xM ho28) hb); have n2_ := za.mk (Kd.yq (Kd.R_new' (Kd.R_new' ho28 (Kd.R_lt (by (with_reducible repeat (first | apply Kd.zE | apply Kd.zG | apply Kd.zT)); exact HO146.out))) (Kd.R_lt (by (with_reducible repeat (first | apply Kd.zE | apply Kd.zG | apply Kd.zT)); exact HO152.out))) (zy (by repeat (with_reducible first | exact HB.out | apply zc | apply zb | apply zd | refine zh ?_ GE143.out)))); have n3_ := za.mk (zI (g := gb143) (o := .cells #[.int .i64 a0_0, .int .i64 a0_1, .int .i64 a0_2] 82 (0, 0)) (by (with_reducible repeat (first | refine zl ?_ _ | refine zm ?_ | refine zj ?_ _)); exact BK143.out) hb); have n4_ := za.mk (zp (by repeat (with_reducible first | exact HB.out | apply zc | apply zb | apply zd | refine zh ?_ GE143.out)) hb); clear HO146; clear HO152; clear BK143; clear HB; have HO146 := n0_; have HO152 := n1_; have HO155 := n2_; have BK143 := n3_; have HB := n4_; clear n0_ n1_ n2_ n3_ n4_; clear hb ho28; have hcv29 := y9 (P := Tryd.prog) Tryd.underlying34 Tryd.underlying5 Tryd.underlying9 (Kd.xk HO155.out)))
          go_ret
          exact ⟨by first | rfl | (simp [zr, zq] <;> rfl) | (simp [*, zr, zq] <;> rfl), by repeat (with_reducible first | exact HB.out | apply zc | apply zb | apply zd | refine zh ?_ GE143.out)⟩
        · rw [if_neg c16] at H
          exact absurd H (by simp)
      · rw [if_neg c15] at H
        exact absurd H (by simp)
    · rw [if_neg c14] at H
      have c14b0 : (a0_0 == 2) = false := beq_eq_false_iff_ne.mpr c14
      have c14b1 : (a0_0 != 2) = true := bne_iff_ne.mpr c14
      by_cases c30 : a0_0 = 3
      · rw [if_pos c30] at H
        have c30b0 : (a0_0 == 3) = true := beq_iff_eq.mpr c30
        have c30b1 : (a0_0 != 3) = false := bne_eq_false_iff_eq.mpr c30
        clear c30
        by_cases c31 : (strOfNums y144).size + 1 ≤ 9223372036854775807
        · rw [if_pos c31] at H
          have c31b0 := eq_true c31
          have c31b1 : decide ((strOfNums y144).size + 1 ≤ 9223372036854775807) = true := decide_eq_true c31
          try have c31b2 : (9223372036854775807 < (strOfNums y144).size + 1) = False := eq_false (Nat.not_lt.2 c31)
          replace H := Option.bind_eq_some_iff.mp H
          obtain ⟨t156, A320, H⟩ := H
          replace H : (if ((strOfNums y144) ++ (⟨#[61]⟩ : ByteArray)).size + t156.size ≤ 9223372036854775807 then (some (((strOfNums y144) ++ (⟨#[61]⟩ : ByteArray)) ++ t156)) else (none)) = some r := H
          have A32 := za.mk A320
          clear A320
          by_cases c33 : ((strOfNums y144) ++ (⟨#[61]⟩ : ByteArray)).size + t156.size ≤ 9223372036854775807
          · rw [if_pos c33] at H
            have c33b0 := eq_true c33
            have c33b1 : decide (((strOfNums y144) ++ (⟨#[61]⟩ : ByteArray)).size + t156.size ≤ 9223372036854775807) = true := decide_eq_true c33
            try have c33b2 : (9223372036854775807 < ((strOfNums y144) ++ (⟨#[61]⟩ : ByteArray)).size + t156.size) = False := eq_false (Nat.not_lt.2 c33)
            try have c33b3 : (9223372036854775807 < ((strOfNums y144)).size + 1 + t156.size) = False := by
                    have h_ := c33
                    rw [ByteArray.size_append] at h_
                    exact eq_false (Nat.not_lt.2 h_)
            obtain rfl := Option.some.inj H
            go_enter Tryd.func44, Tryd.ntmps44
            go_wp2_with (first | ((with_reducible refine zY (N := 1) rfl ?_); refine ye ?hg (N := 1) ?hd (cs := #[.int .i64 a0_0, .int .i64 a0_1, .int .i64 a0_2]) (t := 82) ?hr ?_; (case hd => rfl); (case hg => rfl); (case hr => first | (go_simp; done) | (go_simp; rfl)); intro gb143 hg w34 hbox hb; have n0_ := za.mk (zp (by repeat (with_reducible first | exact HB.out | apply zc | apply zb | apply zd)) hb); have n1_ := za.mk (hbox); have n2_ := za.mk ((by rw [hg]; exact (zy (by repeat (with_reducible first | exact HB.out | apply zc | apply zb | apply zd))) : w.heap.size ≤ gb143)); have n3_ := za.mk ((by rw [hg]; exact (zy (by repeat (with_reducible first | exact HB.out | apply zc | apply zb | apply zd))) : w.heap.size ≤ gb143)); clear HB; have HB := n0_; have BK143 := n1_; have GW143 := n2_; have GE143 := n3_; clear n0_ n1_ n2_ n3_; clear hb hbox hg; have hcz35_0 : w34.cell? ⟨gb143, 0, none⟩ = some (.int .i64 a0_0) := (zf BK143.out 0).trans rfl; have hcz35_1 : w34.cell? ⟨gb143, 1, none⟩ = some (.int .i64 a0_1) := (zf BK143.out 1).trans rfl; have hcz35_2 : w34.cell? ⟨gb143, 2, none⟩ = some (.int .i64 a0_2) := (zf BK143.out 2).trans rfl; have hfz35_0 := zg BK143.out 0; have hfz35_1 := zg BK143.out 1; have hfz35_2 := zg BK143.out 2) | ((with_reducible refine zY (N := 8) rfl ?_); refine Kd.R_lit (Kd.int .u8) _ 5 ?hg (N := 8) ?hd (xs := ([(wrap64 (114 + a0_1)) % 256] : List Int)) (inner := [.int .u8 ((wrap64 (114 + a0_1)) % 256)]) (ok := fun _ => True) (okp := fun _ => True) ?hr ?hp (fun _ hk => hk) trivial (Below.refl _ _) (Nat.le_refl _) (by simp) ?_; (case hd => rfl); (case hg => rfl); (case hr => first | (go_simp; done) | (go_simp; rfl)); (case hp => exact (yt.one (show Kd.M (Kd.int .u8) _ _ _ ((wrap64 (114 + a0_1)) % 256) [.int .u8 ((wrap64 (114 + a0_1)) % 256)] from rfl) (yt.none _ _))); intro v145 w36 ho37 hb hg_ hnew_; clear hg_ hnew_; (first | rw [← Ny144.out] at ho37 | (simp only [Int.reduceToNat] at ho37; rw [← Ny144.out] at ho37)); have n0_ := za.mk (Kd.yq ho37 (zy (by repeat (with_reducible first | exact HB.out | apply zc | apply zb | apply zd | refine zh ?_ GE143.out)))); have n1_ := za.mk (zI (g := gb143) (o := .cells #[.int .i64 a0_0, .int .i64 a0_1, .int .i64 a0_2] 82 (0, 0)) (by (with_reducible repeat (first | refine zl ?_ _ | refine zm ?_ | refine zj ?_ _)); exact BK143.out) hb); have n2_ := za.mk (zp (by repeat (with_reducible first | exact HB.out | apply zc | apply zb | apply zd | refine zh ?_ GE143.out)) hb); clear BK143; clear HB; have HO146 := n0_; have BK143 := n1_; have HB := n2_; clear n0_ n1_ n2_; clear hb ho37; have hcv38 := y9 (P := Tryd.prog) Tryd.underlying34 Tryd.underlying5 Tryd.underlying9 (Kd.xk HO146.out); have hcz39_0 : w36.cell? ⟨gb143, 0, none⟩ = some (.int .i64 a0_0) := (zf BK143.out 0).trans rfl; have hcz39_1 : w36.cell? ⟨gb143, 1, none⟩ = some (.int .i64 a0_1) := (zf BK143.out 1).trans rfl; have hcz39_2 : w36.cell? ⟨gb143, 2, none⟩ = some (.int .i64 a0_2) := (zf BK143.out 2).trans rfl; have hfz39_0 := zg BK143.out 0; have hfz39_1 := zg BK143.out 1; have hfz39_2 := zg BK143.out 2) | ((with_reducible refine zx (f := 21) rfl ?_); refine z6 (some 45) rfl rfl Tryd.func21 (by kernel_rfl) rfl #[.int .i64 a0_2] rfl (by (try simp only [List.map_toArray, List.map_cons, List.map_nil]); first | done | rfl | (simp only [List.length_drop, List.length_take]; rfl)) ?_; (with_reducible refine (yd.calls k a0_2 t156 _ A32.out).mono ?_); rintro e w40 ⟨rfl, hb⟩; refine ⟨_, rfl, ?_⟩; have n0_ := za.mk (Kd.yc (by (with_reducible repeat (first | apply Kd.zE | apply Kd.zG | apply Kd.zT)); exact HO146.out) hb); have n1_ := za.mk (zI (g := gb143) (o := .cells #[.int .i64 a0_0, .int .i64 a0_1, .int .i64 a0_2] 82 (0, 0)) (by (with_reducible repeat (first | refine zl ?_ _ | refine zm ?_ | refine zj ?_ _)); exact BK143.out) hb); have n2_ := za.mk (zp (by repeat (with_reducible first | exact HB.out | apply zc | apply zb | apply zd | refine zh ?_ GE143.out)) hb); clear HO146; clear BK143; clear HB; have HO146 := n0_; have BK143 := n1_; have HB := n2_; clear n0_ n1_ n2_; (try clear hb); (try clear hb2); (try clear hk); (try clear hi)))
            go_ret
            exact ⟨by first | rfl | (simp [zr, zq] <;> rfl) | (simp [*, zr, zq] <;> rfl), by repeat (with_reducible first | exact HB.out | apply zc | apply zb | apply zd | refine zh ?_ GE143.out)⟩
          · rw [if_neg c33] at H
            exact absurd H (by simp)
        · rw [if_neg c31] at H
          exact absurd H (by simp)
      · rw [if_neg c30] at H
        have c30b0 : (a0_0 == 3) = false := beq_eq_false_iff_ne.mpr c30
        have c30b1 : (a0_0 != 3) = true := bne_iff_ne.mpr c30
        by_cases c41 : a0_0 = 4
        · rw [if_pos c41] at H
          have c41b0 : (a0_0 == 4) = true := beq_iff_eq.mpr c41
          have c41b1 : (a0_0 != 4) = false := bne_eq_false_iff_eq.mpr c41
          clear c41
          by_cases c42 : (strOfNums y144).size + 1 ≤ 9223372036854775807
          · rw [if_pos c42] at H
            have c42b0 := eq_true c42
            have c42b1 : decide ((strOfNums y144).size + 1 ≤ 9223372036854775807) = true := decide_eq_true c42
            try have c42b2 : (9223372036854775807 < (strOfNums y144).size + 1) = False := eq_false (Nat.not_lt.2 c42)
            obtain ⟨y157, hy157⟩ : ∃ y_ : List Int, y_ = (([(wrap64 (114 + a0_2)) % 256] : List Int)) := ⟨_, rfl⟩
            replace H : (if ((strOfNums y144) ++ (⟨#[43]⟩ : ByteArray)).size + (strOfNums y157).size ≤ 9223372036854775807 then (some (((strOfNums y144) ++ (⟨#[43]⟩ : ByteArray)) ++ (strOfNums y157))) else (none)) = some r := by first | (rw [hy157]; with_reducible exact H) | (have H2_ := (Option.bind_some _ _).symm.trans H; rw [hy157]; with_reducible exact H2_) | (have H2_ := (Option.bind_some _ _).symm.trans H; with_reducible exact H2_) | with_reducible exact H | (rw [hy157]; exact H) | exact H
            have Ny157 := za.mk hy157
            clear hy157
            by_cases c43 : ((strOfNums y144) ++ (⟨#[43]⟩ : ByteArray)).size + (strOfNums y157).size ≤ 9223372036854775807
            · rw [if_pos c43] at H
              have c43b0 := eq_true c43
              have c43b1 : decide (((strOfNums y144) ++ (⟨#[43]⟩ : ByteArray)).size + (strOfNums y157).size ≤ 9223372036854775807) = true := decide_eq_true c43
              try have c43b2 : (9223372036854775807 < ((strOfNums y144) ++ (⟨#[43]⟩ : ByteArray)).size + (strOfNums y157).size) = False := eq_false (Nat.not_lt.2 c43)
              try have c43b3 : (9223372036854775807 < ((strOfNums y144)).size + 1 + (strOfNums y157).size) = False := by
                      have h_ := c43
                      rw [ByteArray.size_append] at h_
                      exact eq_false (Nat.not_lt.2 h_)
              obtain rfl := Option.some.inj H
              go_enter Tryd.func44, Tryd.ntmps44
              go_wp2_with (first | ((with_reducible refine zY (N := 1) rfl ?_); refine ye ?hg (N := 1) ?hd (cs := #[.int .i64 a0_0, .int .i64 a0_1, .int .i64 a0_2]) (t := 82) ?hr ?_; (case hd => rfl); (case hg => rfl); (case hr => first | (go_simp; done) | (go_simp; rfl)); intro gb143 hg w44 hbox hb; have n0_ := za.mk (zp (by repeat (with_reducible first | exact HB.out | apply zc | apply zb | apply zd)) hb); have n1_ := za.mk (hbox); have n2_ := za.mk ((by rw [hg]; exact (zy (by repeat (with_reducible first | exact HB.out | apply zc | apply zb | apply zd))) : w.heap.size ≤ gb143)); have n3_ := za.mk ((by rw [hg]; exact (zy (by repeat (with_reducible first | exact HB.out | apply zc | apply zb | apply zd))) : w.heap.size ≤ gb143)); clear HB; have HB := n0_; have BK143 := n1_; have GW143 := n2_; have GE143 := n3_; clear n0_ n1_ n2_ n3_; clear hb hbox hg; have hcz45_0 : w44.cell? ⟨gb143, 0, none⟩ = some (.int .i64 a0_0) := (zf BK143.out 0).trans rfl; have hcz45_1 : w44.cell? ⟨gb143, 1, none⟩ = some (.int .i64 a0_1) := (zf BK143.out 1).trans rfl; have hcz45_2 : w44.cell? ⟨gb143, 2, none⟩ = some (.int .i64 a0_2) := (zf BK143.out 2).trans rfl; have hfz45_0 := zg BK143.out 0; have hfz45_1 := zg BK143.out 1; have hfz45_2 := zg BK143.out 2) | ((with_reducible refine zY (N := 8) rfl ?_); refine Kd.R_lit (Kd.int .u8) _ 5 ?hg (N := 8) ?hd (xs := ([(wrap64 (114 + a0_1)) % 256] : List Int)) (inner := [.int .u8 ((wrap64 (114 + a0_1)) % 256)]) (ok := fun _ => True) (okp := fun _ => True) ?hr ?hp (fun _ hk => hk) trivial (Below.refl _ _) (Nat.le_refl _) (by simp) ?_; (case hd => rfl); (case hg => rfl); (case hr => first | (go_simp; done) | (go_simp; rfl)); (case hp => exact (yt.one (show Kd.M (Kd.int .u8) _ _ _ ((wrap64 (114 + a0_1)) % 256) [.int .u8 ((wrap64 (114 + a0_1)) % 256)] from rfl) (yt.none _ _))); intro v145 w46 ho47 hb hg_ hnew_; clear hg_ hnew_; (first | rw [← Ny144.out] at ho47 | (simp only [Int.reduceToNat] at ho47; rw [← Ny144.out] at ho47)); have n0_ := za.mk (Kd.yq ho47 (zy (by repeat (with_reducible first | exact HB.out | apply zc | apply zb | apply zd | refine zh ?_ GE143.out)))); have n1_ := za.mk (zI (g := gb143) (o := .cells #[.int .i64 a0_0, .int .i64 a0_1, .int .i64 a0_2] 82 (0, 0)) (by (with_reducible repeat (first | refine zl ?_ _ | refine zm ?_ | refine zj ?_ _)); exact BK143.out) hb); have n2_ := za.mk (zp (by repeat (with_reducible first | exact HB.out | apply zc | apply zb | apply zd | refine zh ?_ GE143.out)) hb); clear BK143; clear HB; have HO146 := n0_; have BK143 := n1_; have HB := n2_; clear n0_ n1_ n2_; clear hb ho47; have hcv48 := y9 (P := Tryd.prog) Tryd.underlying34 Tryd.underlying5 Tryd.underlying9 (Kd.xk HO146.out); have hcz49_0 : w46.cell? ⟨gb143, 0, none⟩ = some (.int .i64 a0_0) := (zf BK143.out 0).trans rfl; have hcz49_1 : w46.cell? ⟨gb143, 1, none⟩ = some (.int .i64 a0_1) := (zf BK143.out 1).trans rfl; have hcz49_2 : w46.cell? ⟨gb143, 2, none⟩ = some (.int .i64 a0_2) := (zf BK143.out 2).trans rfl; have hfz49_0 := zg BK143.out 0; have hfz49_1 := zg BK143.out 1; have hfz49_2 := zg BK143.out 2) | ((with_reducible refine zY (N := 55) rfl ?_); refine Kd.R_lit (Kd.int .u8) _ 5 ?hg (N := 55) ?hd (xs := ([(wrap64 (114 + a0_2)) % 256] : List Int)) (inner := [.int .u8 ((wrap64 (114 + a0_2)) % 256)]) (ok := fun _ => True) (okp := fun _ => True) ?hr ?hp (fun _ hk => hk) trivial (Below.refl _ _) (Nat.le_refl _) (by simp) ?_; (case hd => rfl); (case hg => rfl); (case hr => first | (go_simp; done) | (go_simp; rfl)); (case hp => exact (yt.one (show Kd.M (Kd.int .u8) _ _ _ ((wrap64 (114 + a0_2)) % 256) [.int .u8 ((wrap64 (114 + a0_2)) % 256)] from rfl) (yt.none _ _))); intro v158 w50 ho51 hb hg_ hnew_; clear hg_ hnew_; (first | rw [← Ny157.out] at ho51 | (simp only [Int.reduceToNat] at ho51; rw [← Ny157.out] at ho51)); have n0_ := za.mk (Kd.R_elder' (by (with_reducible repeat (first | apply Kd.zE | apply Kd.zG | apply Kd.zT)); exact HO146.out) (Kd.xM ho51) hb); have n1_ := za.mk (Kd.yq (Kd.R_new' ho51 (Kd.R_lt (by (with_reducible repeat (first | apply Kd.zE | apply Kd.zG | apply Kd.zT)); exact HO146.out))) (zy (by repeat (with_reducible first | exact HB.out | apply zc | apply zb | apply zd | refine zh ?_ GE143.out)))); have n2_ := za.mk (zI (g := gb143) (o := .cells #[.int .i64 a0_0, .int .i64 a0_1, .int .i64 a0_2] 82 (0, 0)) (by (with_reducible repeat (first | refine zl ?_ _ | refine zm ?_ | refine zj ?_ _)); exact BK143.out) hb); have n3_ := za.mk (zp (by repeat (with_reducible first | exact HB.out | apply zc | apply zb | apply zd | refine zh ?_ GE143.out)) hb); clear HO146; clear BK143; clear HB; have HO146 := n0_; have HO159 := n1_; have BK143 := n2_; have HB := n3_; clear n0_ n1_ n2_ n3_; clear hb ho51; have hcv52 := y9 (P := Tryd.prog) Tryd.underlying34 Tryd.underlying5 Tryd.underlying9 (Kd.xk HO159.out)))
              go_ret
              exact ⟨by first | rfl | (simp [zr, zq] <;> rfl) | (simp [*, zr, zq] <;> rfl), by repeat (with_reducible first | exact HB.out | apply zc | apply zb | apply zd | refine zh ?_ GE143.out)⟩
            · rw [if_neg c43] at H
              exact absurd H (by simp)
          · rw [if_neg c42] at H
            exact absurd H (by simp)
        · rw [if_neg c41] at H
          have c41b0 : (a0_0 == 4) = false := beq_eq_false_iff_ne.mpr c41
          have c41b1 : (a0_0 != 4) = true := bne_iff_ne.mpr c41
          by_cases c53 : (strOfNums y144).size + 1 ≤ 9223372036854775807
          · rw [if_pos c53] at H
            have c53b0 := eq_true c53
            have c53b1 : decide ((strOfNums y144).size + 1 ≤ 9223372036854775807) = true := decide_eq_true c53
            try have c53b2 : (9223372036854775807 < (strOfNums y144).size + 1) = False := eq_false (Nat.not_lt.2 c53)
            obtain rfl := Option.some.inj H
            go_enter Tryd.func44, Tryd.ntmps44
            go_wp2_with (first | ((with_reducible refine zY (N := 1) rfl ?_); refine ye ?hg (N := 1) ?hd (cs := #[.int .i64 a0_0, .int .i64 a0_1, .int .i64 a0_2]) (t := 82) ?hr ?_; (case hd => rfl); (case hg => rfl); (case hr => first | (go_simp; done) | (go_simp; rfl)); intro gb143 hg w54 hbox hb; have n0_ := za.mk (zp (by repeat (with_reducible first | exact HB.out | apply zc | apply zb | apply zd)) hb); have n1_ := za.mk (hbox); have n2_ := za.mk ((by rw [hg]; exact (zy (by repeat (with_reducible first | exact HB.out | apply zc | apply zb | apply zd))) : w.heap.size ≤ gb143)); have n3_ := za.mk ((by rw [hg]; exact (zy (by repeat (with_reducible first | exact HB.out | apply zc | apply zb | apply zd))) : w.heap.size ≤ gb143)); clear HB; have HB := n0_; have BK143 := n1_; have GW143 := n2_; have GE143 := n3_; clear n0_ n1_ n2_ n3_; clear hb hbox hg; have hcz55_0 : w54.cell? ⟨gb143, 0, none⟩ = some (.int .i64 a0_0) := (zf BK143.out 0).trans rfl; have hcz55_1 : w54.cell? ⟨gb143, 1, none⟩ = some (.int .i64 a0_1) := (zf BK143.out 1).trans rfl; have hcz55_2 : w54.cell? ⟨gb143, 2, none⟩ = some (.int .i64 a0_2) := (zf BK143.out 2).trans rfl; have hfz55_0 := zg BK143.out 0; have hfz55_1 := zg BK143.out 1; have hfz55_2 := zg BK143.out 2) | ((with_reducible refine zY (N := 8) rfl ?_); refine Kd.R_lit (Kd.int .u8) _ 5 ?hg (N := 8) ?hd (xs := ([(wrap64 (114 + a0_1)) % 256] : List Int)) (inner := [.int .u8 ((wrap64 (114 + a0_1)) % 256)]) (ok := fun _ => True) (okp := fun _ => True) ?hr ?hp (fun _ hk => hk) trivial (Below.refl _ _) (Nat.le_refl _) (by simp) ?_; (case hd => rfl); (case hg => rfl); (case hr => first | (go_simp; done) | (go_simp; rfl)); (case hp => exact (yt.one (show Kd.M (Kd.int .u8) _ _ _ ((wrap64 (114 + a0_1)) % 256) [.int .u8 ((wrap64 (114 + a0_1)) % 256)] from rfl) (yt.none _ _))); intro v145 w56 ho57 hb hg_ hnew_; clear hg_ hnew_; (first | rw [← Ny144.out] at ho57 | (simp only [Int.reduceToNat] at ho57; rw [← Ny144.out] at ho57)); have n0_ := za.mk (Kd.yq ho57 (zy (by repeat (with_reducible first | exact HB.out | apply zc | apply zb | apply zd | refine zh ?_ GE143.out)))); have n1_ := za.mk (zI (g := gb143) (o := .cells #[.int .i64 a0_0, .int .i64 a0_1, .int .i64 a0_2] 82 (0, 0)) (by (with_reducible repeat (first | refine zl ?_ _ | refine zm ?_ | refine zj ?_ _)); exact BK143.out) hb); have n2_ := za.mk (zp (by repeat (with_reducible first | exact HB.out | apply zc | apply zb | apply zd | refine zh ?_ GE143.out)) hb); clear BK143; clear HB; have HO146 := n0_; have BK143 := n1_; have HB := n2_; clear n0_ n1_ n2_; clear hb ho57; have hcv58 := y9 (P := Tryd.prog) Tryd.underlying34 Tryd.underlying5 Tryd.underlying9 (Kd.xk HO146.out); have hcz59_0 : w56.cell? ⟨gb143, 0, none⟩ = some (.int .i64 a0_0) := (zf BK143.out 0).trans rfl; have hcz59_1 : w56.cell? ⟨gb143, 1, none⟩ = some (.int .i64 a0_1) := (zf BK143.out 1).trans rfl; have hcz59_2 : w56.cell? ⟨gb143, 2, none⟩ = some (.int .i64 a0_2) := (zf BK143.out 2).trans rfl; have hfz59_0 := zg BK143.out 0; have hfz59_1 := zg BK143.out 1; have hfz59_2 := zg BK143.out 2))
            go_ret
            exact ⟨by first | rfl | (simp [zr, zq] <;> rfl) | (simp [*, zr, zq] <;> rfl), by repeat (with_reducible first | exact HB.out | apply zc | apply zb | apply zd | refine zh ?_ GE143.out)⟩
          · rw [if_neg c53] at H
            exact absurd H (by simp)
end Go.Proofs.YtoeepmcaabmjkaaDoor.QPO
namespace Go.Proofs.YtoeepmcaabmjkaaDoor.QPO
open Go.RowKit Go.Proofs.YtoeepmcaabmjkaaDoorW.PrintWords Go.Proofs.YtoeepmcaabmjkaaDoorW.PrintLast Go.Proofs.YtoeepmcaabmjkaaDoorW.PrintMore
attribute [local go_sem] yz yx yQ yP yl yk yy yw   -- for this text's walks alone
set_option linter.unusedVariables false
set_option linter.unusedSimpArgs false
mutual
def zV.l0 : Nat → ByteArray → Int → Int → List (S82) → List Int → Int → Option (ByteArray)
  | 0, _, _, _, _, _, _ => none
  | k + 1, x3, x4, x161000, x161001, x161002, x161003 => if x4 < (x161001.length : Int) then (if x3.size + 1 ≤ 9223372036854775807 then (if 0 ≤ x4 then ((yU.f k ((zP x161001 x4).f0) ((zP x161001 x4).f1) ((zP x161001 x4).f2)).bind fun t166 => (if (x3 ++ (⟨#[32]⟩ : ByteArray)).size + t166.size ≤ 9223372036854775807 then (zV.l0 k ((x3 ++ (⟨#[32]⟩ : ByteArray)) ++ t166) (wrap64 (x4 + 1)) x161000 x161001 x161002 x161003) else (none))) else (none)) else (none)) else (zV.l1 k x3 0 x161000 x161001 x161002 x161003)
def zV.l1 : Nat → ByteArray → Int → Int → List (S82) → List Int → Int → Option (ByteArray)
  | 0, _, _, _, _, _, _ => none
  | k + 1, x3, x5, x161000, x161001, x161002, x161003 => if x5 < (x161002.length : Int) then (if x3.size + 1 ≤ 9223372036854775807 then (if 0 ≤ x5 then ((yd.f k (rd x161002 x5)).bind fun t168 => (if (x3 ++ (⟨#[32]⟩ : ByteArray)).size + t168.size ≤ 9223372036854775807 then (zV.l1 k ((x3 ++ (⟨#[32]⟩ : ByteArray)) ++ t168) (wrap64 (x5 + 1)) x161000 x161001 x161002 x161003) else (none))) else (none)) else (none)) else (if x161000 = 4 then (if x3.size + 1 ≤ 9223372036854775807 then ((some (([(wrap64 (114 + x161003)) % 256] : List Int) : List Int)).bind fun y169 => (if (x3 ++ (⟨#[32]⟩ : ByteArray)).size + (strOfNums y169).size ≤ 9223372036854775807 then (some ((x3 ++ (⟨#[32]⟩ : ByteArray)) ++ (strOfNums y169))) else (none))) else (none)) else (some x3))
end
def zV.f (k : Nat) (a0_0 : Int) (l0_1 : List (S82)) (l0_2 : List Int) (a0_3 : Int) : Option (ByteArray) := (some (([(⟨#[]⟩ : ByteArray), (⟨#[116, 114, 121]⟩ : ByteArray), (⟨#[102, 111, 114, 107]⟩ : ByteArray), (⟨#[102, 97, 105, 108]⟩ : ByteArray), (⟨#[102, 97, 105, 108, 105, 102]⟩ : ByteArray)] : List ByteArray) : List ByteArray)).bind fun y161 => (if 0 ≤ a0_0 then (if a0_0 < (y161.length : Int) then (zV.l0 k (rdOf ByteArray.empty y161 a0_0) 0 a0_0 l0_1 l0_2 a0_3) else (none)) else (none))
set_option maxHeartbeats 8000000 in
set_option maxRecDepth 100000 in
theorem zV.calls (k : Nat) (a0_0 : Int) (A0_1 : Option Addr) (c0_1 : Nat) (l0_1 : List (S82)) (A0_2 : Option Addr) (c0_2 : Nat) (l0_2 : List Int) (a0_3 : Int) (r : ByteArray) (w : World) (hr0_1 : Kd.C k82 w A0_1 l0_1.length l0_1) (hc0_1 : l0_1.length ≤ c0_1) (hr0_2 : Kd.C (Kd.int .i64) w A0_2 l0_2.length l0_2) (hc0_2 : l0_2.length ≤ c0_2) (h : zV.f k a0_0 l0_1 l0_2 a0_3 = some r) :
    Calls Tryd.prog 22 #[.agg #[.int .i64 a0_0, .slice A0_1 l0_1.length c0_1, .slice A0_2 l0_2.length c0_2, .int .i64 a0_3]] w fun e w' => e = .returned (.string r) ∧ Below w.heap.size w w' := by
  have hu52 := Tryd.underlying52
  have hu82 := Tryd.underlying82
  have HR0_1 := za.mk hr0_1
  have HC0_1 := za.mk hc0_1
  clear hr0_1 hc0_1
  have HR0_2 := za.mk hr0_2
  have HC0_2 := za.mk hc0_2
  clear hr0_2 hc0_2
  have HB := za.mk (Below.refl w.heap.size w)
  have H : ((some (([(⟨#[]⟩ : ByteArray), (⟨#[116, 114, 121]⟩ : ByteArray), (⟨#[102, 111, 114, 107]⟩ : ByteArray), (⟨#[102, 97, 105, 108]⟩ : ByteArray), (⟨#[102, 97, 105, 108, 105, 102]⟩ : ByteArray)] : List ByteArray) : List ByteArray)).bind fun y161 => (if 0 ≤ a0_0 then (if a0_0 < (y161.length : Int) then (zV.l0 k (rdOf ByteArray.empty y161 a0_0) 0 a0_0 l0_1 l0_2 a0_3) else (none)) else (none))) = some r := h
  clear h
  obtain ⟨y161, hy161⟩ : ∃ y_ : List ByteArray, y_ = (([(⟨#[]⟩ : ByteArray), (⟨#[116, 114, 121]⟩ : ByteArray), (⟨#[102, 111, 114, 107]⟩ : ByteArray), (⟨#[102, 97, 105, 108]⟩ : ByteArray), (⟨#[102, 97, 105, 108, 105, 102]⟩ : ByteArray)] : List ByteArray)) := ⟨_, rfl⟩
  replace H : (if 0 ≤ a0_0 then (if a0_0 < (y161.length : Int) then (zV.l0 k (rdOf ByteArray.empty y161 a0_0) 0 a0_0 l0_1 l0_2 a0_3) else (none)) else (none)) = some r := by first | (rw [hy161]; with_reducible exact H) | (have H2_ := (Option.bind_some _ _).symm.trans H; rw [hy161]; with_reducible exact H2_) | (have H2_ := (Option.bind_some _ _).symm.trans H; with_reducible exact H2_) | with_reducible exact H | (rw [hy161]; exact H) | exact H
  have Ny161 := za.mk hy161
  clear hy161
  by_cases c2 : 0 ≤ a0_0
  · rw [if_pos c2] at H
    have c2b0 : decide (0 ≤ a0_0) = true := decide_eq_true c2
    clear c2
    by_cases c3 : a0_0 < (y161.length : Int)
    · rw [if_pos c3] at H
      have c3b0 : decide (a0_0 < (y161.length : Int)) = true := decide_eq_true c3
      clear c3
      have H' := za.mk H
      clear H
      go_enter Tryd.func22, Tryd.ntmps22
      go_wp2_with (first | ((with_reducible refine zY (N := 1) rfl ?_); refine ye ?hg (N := 1) ?hd (cs := #[.int .i64 a0_0, .slice A0_1 l0_1.length c0_1, .slice A0_2 l0_2.length c0_2, .int .i64 a0_3]) (t := 52) ?hr ?_; (case hd => rfl); (case hg => rfl); (case hr => first | (go_simp; done) | (go_simp; rfl)); intro gb160 hg w4 hbox hb; have n0_ := za.mk (zp (by repeat (with_reducible first | exact HB.out | apply zc | apply zb | apply zd)) hb); have n1_ := za.mk (hbox); have n2_ := za.mk ((by rw [hg]; exact (zy (by repeat (with_reducible first | exact HB.out | apply zc | apply zb | apply zd))) : w.heap.size ≤ gb160)); have n3_ := za.mk ((by rw [hg]; exact (zy (by repeat (with_reducible first | exact HB.out | apply zc | apply zb | apply zd))) : w.heap.size ≤ gb160)); clear HB; have HB := n0_; have BK160 := n1_; have GW160 := n2_; have GE160 := n3_; clear n0_ n1_ n2_ n3_; clear hb hbox hg) | ((with_reducible refine zY (N := 6) rfl ?_); refine Kd.R_lit Kd.string _ 9 ?hg (N := 6) ?hd (xs := ([(⟨#[]⟩ : ByteArray), (⟨#[116, 114, 121]⟩ : ByteArray), (⟨#[102, 111, 114, 107]⟩ : ByteArray), (⟨#[102, 97, 105, 108]⟩ : ByteArray), (⟨#[102, 97, 105, 108, 105, 102]⟩ : ByteArray)] : List ByteArray)) (inner := [.string (⟨#[]⟩ : ByteArray), .string (⟨#[116, 114, 121]⟩ : ByteArray), .string (⟨#[102, 111, 114, 107]⟩ : ByteArray), .string (⟨#[102, 97, 105, 108]⟩ : ByteArray), .string (⟨#[102, 97, 105, 108, 105, 102]⟩ : ByteArray)]) (ok := fun _ => True) (okp := fun _ => True) ?hr ?hp (fun _ hk => hk) trivial (Below.refl _ _) (Nat.le_refl _) (by simp) ?_; (case hd => rfl); (case hg => rfl); (case hr => first | (go_simp; done) | (go_simp; rfl)); (case hp => exact (yt.one (show Kd.M Kd.string _ _ _ (⟨#[]⟩ : ByteArray) [.string (⟨#[]⟩ : ByteArray)] from rfl) (yt.one (show Kd.M Kd.string _ _ _ (⟨#[116, 114, 121]⟩ : ByteArray) [.string (⟨#[116, 114, 121]⟩ : ByteArray)] from rfl) (yt.one (show Kd.M Kd.string _ _ _ (⟨#[102, 111, 114, 107]⟩ : ByteArray) [.string (⟨#[102, 111, 114, 107]⟩ : ByteArray)] from rfl) (yt.one (show Kd.M Kd.string _ _ _ (⟨#[102, 97, 105, 108]⟩ : ByteArray) [.string (⟨#[102, 97, 105, 108]⟩ : ByteArray)] from rfl) (yt.one (show Kd.M Kd.string _ _ _ (⟨#[102, 97, 105, 108, 105, 102]⟩ : ByteArray) [.string (⟨#[102, 97, 105, 108, 105, 102]⟩ : ByteArray)] from rfl) (yt.none _ _))))))); intro v162 w5 ho6 hb hg_ hnew_; clear hg_ hnew_; (first | rw [← Ny161.out] at ho6 | (simp only [Int.reduceToNat] at ho6; rw [← Ny161.out] at ho6)); have n0_ := za.mk (Kd.yq ho6 (zy (by repeat (with_reducible first | exact HB.out | apply zc | apply zb | apply zd | refine zh ?_ GE160.out)))); have n1_ := za.mk (zI (g := gb160) (o := .cells #[.int .i64 a0_0, .slice A0_1 l0_1.length c0_1, .slice A0_2 l0_2.length c0_2, .int .i64 a0_3] 52 (0, 0)) (by (with_reducible repeat (first | refine zl ?_ _ | refine zm ?_ | refine zj ?_ _)); exact BK160.out) hb); have n2_ := za.mk (zp (by repeat (with_reducible first | exact HB.out | apply zc | apply zb | apply zd | refine zh ?_ GE160.out)) hb); clear BK160; clear HB; have HO163 := n0_; have BK160 := n1_; have HB := n2_; clear n0_ n1_ n2_; clear hb ho6; have hcz7_0 : w5.cell? ⟨gb160, 0, none⟩ = some (.int .i64 a0_0) := (zf BK160.out 0).trans rfl; have hcz7_1 : w5.cell? ⟨gb160, 1, none⟩ = some (.slice A0_1 l0_1.length c0_1) := (zf BK160.out 1).trans rfl; have hcz7_2 : w5.cell? ⟨gb160, 2, none⟩ = some (.slice A0_2 l0_2.length c0_2) := (zf BK160.out 2).trans rfl; have hcz7_3 : w5.cell? ⟨gb160, 3, none⟩ = some (.int .i64 a0_3) := (zf BK160.out 3).trans rfl; have hfz7_0 := zg BK160.out 0; have hfz7_1 := zg BK160.out 1; have hfz7_2 := zg BK160.out 2; have hfz7_3 := zg BK160.out 3; obtain ⟨Ao8, co8, eo8⟩ := Kd.yn HO163.out; subst eo8; have p164 : 0 ≤ (a0_0 : Int) := of_decide_eq_true (by first | (with_reducible assumption) | assumption); have q164 : a0_0 < (y161.length : Int) := of_decide_eq_true (by first | (with_reducible assumption) | assumption); obtain ⟨ad164, e164, hx164_0⟩ := Kd.at_string (Kd.zU HO163.out).2.2 a0_0 p164 q164; cases e164; replace p164 := eq_true p164; replace q164 := eq_true q164))
      go_loopg [3, 4] k (fun kq v3 v4 w' => ∃ (x3_1 : ByteArray) (x4_1 : Int), v3 = .string x3_1 ∧ v4 = .int .i64 x4_1 ∧ za (zV.l0 kq x3_1 x4_1 a0_0 l0_1 l0_2 a0_3 = some r) ∧ za (kq ≤ k) ∧ za (w'.heap[gb160]? = some (.cells #[.int .i64 a0_0, (.slice A0_1 l0_1.length c0_1), (.slice A0_2 l0_2.length c0_2), .int .i64 a0_3] 52 (0, 0))) ∧ za (Below w.heap.size w w'))
      case atStart => exact ⟨(rdOf ByteArray.empty y161 a0_0), (0), (by first | rfl | (simp; done) | (simp [*]; done)), (by first | rfl | (simp; done) | (simp [*]; done)), H', ⟨Nat.le_refl _⟩, ⟨by (with_reducible repeat (first | refine zl ?_ _ | refine zm ?_ | refine zj ?_ _)); exact BK160.out⟩, ⟨by repeat (with_reducible first | exact HB.out | apply zc | apply zb | apply zd | refine zh ?_ GE160.out)⟩⟩
      case round =>
        clear H'
        try clear p1
        try clear q1
        try clear hx1
        try clear c2
        try clear c2b0
        try clear p2
        try clear c3
        try clear c3b0
        try clear hcz7_0
        try clear hcz7_1
        try clear hcz7_2
        try clear hcz7_3
        try clear hfz7_0
        try clear hfz7_1
        try clear hfz7_2
        try clear hfz7_3
        try clear hx164_0
        try clear p164
        try clear q164
        obtain ⟨x3_1, x4_1, rfl, rfl, HA, HK1, BK160, HB⟩ := hrel
        cases gk with
        | zero => exact absurd HA.out (by simp [zV.l0])
        | succ k1 =>
          have H := HA.out
          clear HA
          simp only [zV.l0] at H
          by_cases c9 : x4_1 < (l0_1.length : Int)
          · rw [if_pos c9] at H
            have c9b0 : decide (x4_1 < (l0_1.length : Int)) = true := decide_eq_true c9
            clear c9
            by_cases c10 : x3_1.size + 1 ≤ 9223372036854775807
            · rw [if_pos c10] at H
              have c10b0 := eq_true c10
              have c10b1 : decide (x3_1.size + 1 ≤ 9223372036854775807) = true := decide_eq_true c10
              try have c10b2 : (9223372036854775807 < x3_1.size + 1) = False := eq_false (Nat.not_lt.2 c10)
              by_cases c11 : 0 ≤ x4_1
              · rw [if_pos c11] at H
                have c11b0 : decide (0 ≤ x4_1) = true := decide_eq_true c11
                clear c11
                replace H := Option.bind_eq_some_iff.mp H
                obtain ⟨t166, A120, H⟩ := H
                replace H : (if (x3_1 ++ (⟨#[32]⟩ : ByteArray)).size + t166.size ≤ 9223372036854775807 then (zV.l0 k1 ((x3_1 ++ (⟨#[32]⟩ : ByteArray)) ++ t166) (wrap64 (x4_1 + 1)) a0_0 l0_1 l0_2 a0_3) else (none)) = some r := H
                have A12 := za.mk A120
                clear A120
                by_cases c13 : (x3_1 ++ (⟨#[32]⟩ : ByteArray)).size + t166.size ≤ 9223372036854775807
                · rw [if_pos c13] at H
                  have c13b0 := eq_true c13
                  have c13b1 : decide ((x3_1 ++ (⟨#[32]⟩ : ByteArray)).size + t166.size ≤ 9223372036854775807) = true := decide_eq_true c13
                  try have c13b2 : (9223372036854775807 < (x3_1 ++ (⟨#[32]⟩ : ByteArray)).size + t166.size) = False := eq_false (Nat.not_lt.2 c13)
                  try have c13b3 : (9223372036854775807 < (x3_1).size + 1 + t166.size) = False := by
                          have h_ := c13
                          rw [ByteArray.size_append] at h_
                          exact eq_false (Nat.not_lt.2 h_)
                  have H' := za.mk H
                  clear H
                  have hcz14_0 : wr.cell? ⟨gb160, 0, none⟩ = some (.int .i64 a0_0) := (zf BK160.out 0).trans rfl
                  have hcz14_1 : wr.cell? ⟨gb160, 1, none⟩ = some (.slice A0_1 l0_1.length c0_1) := (zf BK160.out 1).trans rfl
                  have hcz14_2 : wr.cell? ⟨gb160, 2, none⟩ = some (.slice A0_2 l0_2.length c0_2) := (zf BK160.out 2).trans rfl
                  have hcz14_3 : wr.cell? ⟨gb160, 3, none⟩ = some (.int .i64 a0_3) := (zf BK160.out 3).trans rfl
                  have hfz14_0 := zg BK160.out 0
                  have hfz14_1 := zg BK160.out 1
                  have hfz14_2 := zg BK160.out 2
                  have hfz14_3 := zg BK160.out 3
                  have p165 : 0 ≤ (x4_1 : Int) := of_decide_eq_true (by first | (with_reducible assumption) | assumption)
                  have q165 : x4_1 < (l0_1.length : Int) := of_decide_eq_true (by first | (with_reducible assumption) | assumption)
                  obtain ⟨ad165, e165, hx165_0, hx165_1, hx165_2⟩ := at_T82 HR0_1.out x4_1 p165 q165
                  cases e165
                  replace hx165_0 := (HB.out.cell (World.block_lt_of_cell? w _ hx165_0)).trans hx165_0
                  replace hx165_1 := (HB.out.cell (World.block_lt_of_cell? w _ hx165_1)).trans hx165_1
                  replace hx165_2 := (HB.out.cell (World.block_lt_of_cell? w _ hx165_2)).trans hx165_2
                  replace p165 := eq_true p165
                  replace q165 := eq_true q165
                  go_wp2_with (first | ((with_reducible refine zx (f := 44) rfl ?_); refine z6 (some 25) rfl rfl Tryd.func44 (by kernel_rfl) rfl #[.agg #[.int .i64 ((zP l0_1 x4_1).f0), .int .i64 ((zP l0_1 x4_1).f1), .int .i64 ((zP l0_1 x4_1).f2)]] rfl (by (try simp only [List.map_toArray, List.map_cons, List.map_nil]); first | done | rfl | (simp only [List.length_drop, List.length_take]; rfl)) ?_; (with_reducible refine (yU.calls k1 ((zP l0_1 x4_1).f0) ((zP l0_1 x4_1).f1) ((zP l0_1 x4_1).f2) t166 _ A12.out).mono ?_); rintro e w15 ⟨rfl, hb⟩; refine ⟨_, rfl, ?_⟩; have n0_ := za.mk (zI (g := gb160) (o := .cells #[.int .i64 a0_0, .slice (some ad165) l0_1.length c0_1, .slice A0_2 l0_2.length c0_2, .int .i64 a0_3] 52 (0, 0)) (by (with_reducible repeat (first | refine zl ?_ _ | refine zm ?_ | refine zj ?_ _)); exact BK160.out) hb); have n1_ := za.mk (zp (by repeat (with_reducible first | exact HB.out | apply zc | apply zb | apply zd | refine zh ?_ GE160.out)) hb); clear BK160; clear HB; have BK160 := n0_; have HB := n1_; clear n0_ n1_; (try clear hb); (try clear hb2); (try clear hk); (try clear hi)))
                  go_roundg k1
                  case measure => have := HK1.out; omega
                  case rel => exact ⟨((x3_1 ++ (⟨#[32]⟩ : ByteArray)) ++ t166), (wrap64 (x4_1 + 1)), (by first | rfl | (simp; done) | (simp [*]; done)), (by first | rfl | (simp; done) | (simp [*]; done)), H', ⟨by have := HK1.out; omega⟩, ⟨by (with_reducible repeat (first | refine zl ?_ _ | refine zm ?_ | refine zj ?_ _)); exact BK160.out⟩, ⟨by repeat (with_reducible first | exact HB.out | apply zc | apply zb | apply zd | refine zh ?_ GE160.out)⟩⟩
                · rw [if_neg c13] at H
                  exact absurd H (by simp)
              · rw [if_neg c11] at H
                exact absurd H (by simp)
            · rw [if_neg c10] at H
              exact absurd H (by simp)
          · rw [if_neg c9] at H
            have c9b0 : decide (x4_1 < (l0_1.length : Int)) = false := decide_eq_false c9
            clear c9
            have H' := za.mk H
            clear H
            have hcz16_0 : wr.cell? ⟨gb160, 0, none⟩ = some (.int .i64 a0_0) := (zf BK160.out 0).trans rfl
            have hcz16_1 : wr.cell? ⟨gb160, 1, none⟩ = some (.slice A0_1 l0_1.length c0_1) := (zf BK160.out 1).trans rfl
            have hcz16_2 : wr.cell? ⟨gb160, 2, none⟩ = some (.slice A0_2 l0_2.length c0_2) := (zf BK160.out 2).trans rfl
            have hcz16_3 : wr.cell? ⟨gb160, 3, none⟩ = some (.int .i64 a0_3) := (zf BK160.out 3).trans rfl
            have hfz16_0 := zg BK160.out 0
            have hfz16_1 := zg BK160.out 1
            have hfz16_2 := zg BK160.out 2
            have hfz16_3 := zg BK160.out 3
            go_wp2
            go_loopg [3, 5] k1 (fun kq v3 v5 w' => ∃ (x3_2 : ByteArray) (x5_2 : Int), v3 = .string x3_2 ∧ v5 = .int .i64 x5_2 ∧ za (zV.l1 kq x3_2 x5_2 a0_0 l0_1 l0_2 a0_3 = some r) ∧ za (kq ≤ k1) ∧ za (w'.heap[gb160]? = some (.cells #[.int .i64 a0_0, (.slice A0_1 l0_1.length c0_1), (.slice A0_2 l0_2.length c0_2), .int .i64 a0_3] 52 (0, 0))) ∧ za (Below w.heap.size w w'))
            case atStart => exact ⟨(x3_1), (0), (by first | rfl | (simp; done) | (simp [*]; done)), (by first | rfl | (simp; done) | (simp [*]; done)), H', ⟨Nat.le_refl _⟩, ⟨by (with_reducible repeat (first | refine zl ?_ _ | refine zm ?_ | refine zj ?_ _)); exact BK160.out⟩, ⟨by repeat (with_reducible first | exact HB.out | apply zc | apply zb | apply zd | refine zh ?_ GE160.out)⟩⟩
            case round =>
              clear H'
              try clear c1
              try clear p1
              try clear q1
              try clear hx1
              try clear c2
              try clear c2b0
              try clear p2
              try clear c3
              try clear c3b0
              try clear c4
              try clear p6
              try clear c9
              try clear c9b0
              try clear c10
              try clear c10b0
              try clear c10b1
              try clear c10b2
              try clear c11
              try clear c11b0
              try clear c13
              try clear c13b0
              try clear c13b1
              try clear c13b2
              try clear p16
              try clear q16
              try clear hx16
              try clear hcz14_0
              try clear hcz14_1
              try clear hcz14_2
              try clear hcz14_3
              try clear hcz16_0
              try clear hcz16_1
              try clear hcz16_2
              try clear hcz16_3
              try clear hcz7_0
              try clear hcz7_1
              try clear hcz7_2
              try clear hcz7_3
              try clear hfz14_0
              try clear hfz14_1
              try clear hfz14_2
              try clear hfz14_3
              try clear hfz16_0
              try clear hfz16_1
              try clear hfz16_2
              try clear hfz16_3
              try clear hfz7_0
              try clear hfz7_1
              try clear hfz7_2
              try clear hfz7_3
              try clear hx164_0
              try clear hx165_0
              try clear hx165_1
              try clear hx165_2
              try clear p1
              try clear p164
              try clear p165
              try clear p2
              try clear q1
              try clear q164
              try clear q165
              obtain ⟨x3_2, x5_2, rfl, rfl, HA, HK2, BK160, HB⟩ := hrel
              cases gk with
              | zero => exact absurd HA.out (by simp [zV.l1])
              | succ k2 =>
                have H := HA.out
                clear HA
                simp only [zV.l1] at H
                by_cases c17 : x5_2 < (l0_2.length : Int)
                · rw [if_pos c17] at H
                  have c17b0 : decide (x5_2 < (l0_2.length : Int)) = true := decide_eq_true c17
                  clear c17
                  by_cases c18 : x3_2.size + 1 ≤ 9223372036854775807
                  · rw [if_pos c18] at H
                    have c18b0 := eq_true c18
                    have c18b1 : decide (x3_2.size + 1 ≤ 9223372036854775807) = true := decide_eq_true c18
                    try have c18b2 : (9223372036854775807 < x3_2.size + 1) = False := eq_false (Nat.not_lt.2 c18)
                    by_cases c19 : 0 ≤ x5_2
                    · rw [if_pos c19] at H
                      have c19b0 : decide (0 ≤ x5_2) = true := decide_eq_true c19
                      clear c19
                      replace H := Option.bind_eq_some_iff.mp H
                      obtain ⟨t168, A200, H⟩ := H
                      replace H : (if (x3_2 ++ (⟨#[32]⟩ : ByteArray)).size + t168.size ≤ 9223372036854775807 then (zV.l1 k2 ((x3_2 ++ (⟨#[32]⟩ : ByteArray)) ++ t168) (wrap64 (x5_2 + 1)) a0_0 l0_1 l0_2 a0_3) else (none)) = some r := H
                      have A20 := za.mk A200
                      clear A200
                      by_cases c21 : (x3_2 ++ (⟨#[32]⟩ : ByteArray)).size + t168.size ≤ 9223372036854775807
                      · rw [if_pos c21] at H
                        have c21b0 := eq_true c21
                        have c21b1 : decide ((x3_2 ++ (⟨#[32]⟩ : ByteArray)).size + t168.size ≤ 9223372036854775807) = true := decide_eq_true c21
                        try have c21b2 : (9223372036854775807 < (x3_2 ++ (⟨#[32]⟩ : ByteArray)).size + t168.size) = False := eq_false (Nat.not_lt.2 c21)
                        try have c21b3 : (9223372036854775807 < (x3_2).size + 1 + t168.size) = False := by
                                have h_ := c21
                                rw [ByteArray.size_append] at h_
                                exact eq_false (Nat.not_lt.2 h_)
                        have H' := za.mk H
                        clear H
                        have hcz22_0 : wr.cell? ⟨gb160, 0, none⟩ = some (.int .i64 a0_0) := (zf BK160.out 0).trans rfl
                        have hcz22_1 : wr.cell? ⟨gb160, 1, none⟩ = some (.slice A0_1 l0_1.length c0_1) := (zf BK160.out 1).trans rfl
                        have hcz22_2 : wr.cell? ⟨gb160, 2, none⟩ = some (.slice A0_2 l0_2.length c0_2) := (zf BK160.out 2).trans rfl
                        have hcz22_3 : wr.cell? ⟨gb160, 3, none⟩ = some (.int .i64 a0_3) := (zf BK160.out 3).trans rfl
                        have hfz22_0 := zg BK160.out 0
                        have hfz22_1 := zg BK160.out 1
                        have hfz22_2 := zg BK160.out 2
                        have hfz22_3 := zg BK160.out 3
                        have p167 : 0 ≤ (x5_2 : Int) := of_decide_eq_true (by first | (with_reducible assumption) | assumption)
                        have q167 : x5_2 < (l0_2.length : Int) := of_decide_eq_true (by first | (with_reducible assumption) | assumption)
                        obtain ⟨ad167, e167, hx167_0⟩ := Kd.xu HR0_2.out x5_2 p167 q167
                        cases e167
                        replace hx167_0 := (HB.out.cell (World.block_lt_of_cell? w _ hx167_0)).trans hx167_0
                        replace p167 := eq_true p167
                        replace q167 := eq_true q167
                        go_wp2_with (first | ((with_reducible refine zx (f := 21) rfl ?_); refine z6 (some 41) rfl rfl Tryd.func21 (by kernel_rfl) rfl #[.int .i64 (rd l0_2 x5_2)] rfl (by (try simp only [List.map_toArray, List.map_cons, List.map_nil]); first | done | rfl | (simp only [List.length_drop, List.length_take]; rfl)) ?_; (with_reducible refine (yd.calls k2 (rd l0_2 x5_2) t168 _ A20.out).mono ?_); rintro e w23 ⟨rfl, hb⟩; refine ⟨_, rfl, ?_⟩; have n0_ := za.mk (zI (g := gb160) (o := .cells #[.int .i64 a0_0, .slice A0_1 l0_1.length c0_1, .slice (some ad167) l0_2.length c0_2, .int .i64 a0_3] 52 (0, 0)) (by (with_reducible repeat (first | refine zl ?_ _ | refine zm ?_ | refine zj ?_ _)); exact BK160.out) hb); have n1_ := za.mk (zp (by repeat (with_reducible first | exact HB.out | apply zc | apply zb | apply zd | refine zh ?_ GE160.out)) hb); clear BK160; clear HB; have BK160 := n0_; have HB := n1_; clear n0_ n1_; (try clear hb); (try clear hb2); (try clear hk); (try clear hi)))
                        go_roundg k2
                        case measure => have := HK1.out; have := HK2.out; omega
                        case rel => exact ⟨((x3_2 ++ (⟨#[32]⟩ : ByteArray)) ++ t168), (wrap64 (x5_2 + 1)), (by first | rfl | (simp; done) | (simp [*]; done)), (by first | rfl | (simp; done) | (simp [*]; done)), H', ⟨by have := HK1.out; have := HK2.out; omega⟩, ⟨by (with_reducible repeat (first | refine zl ?_ _ | refine zm ?_ | refine zj ?_ _)); exact BK160.out⟩, ⟨by repeat (with_reducible first | exact HB.out | apply zc | apply zb | apply zd | refine zh ?_ GE160.out)⟩⟩
                      · rw [if_neg c21] at H
                        exact absurd H (by simp)
                    · rw [if_neg c19] at H
                      exact absurd H (by simp)
                  · rw [if_neg c18] at H
                    exact absurd H (by simp)
                · rw [if_neg c17] at H
                  have c17b0 : decide (x5_2 < (l0_2.length : Int)) = false := decide_eq_false c17
                  clear c17
                  by_cases c24 : a0_0 = 4
                  · rw [if_pos c24] at H
                    have c24b0 : (a0_0 == 4) = true := beq_iff_eq.mpr c24
                    have c24b1 : (a0_0 != 4) = false := bne_eq_false_iff_eq.mpr c24
                    clear c24
                    by_cases c25 : x3_2.size + 1 ≤ 9223372036854775807
                    · rw [if_pos c25] at H
                      have c25b0 := eq_true c25
                      have c25b1 : decide (x3_2.size + 1 ≤ 9223372036854775807) = true := decide_eq_true c25
                      try have c25b2 : (9223372036854775807 < x3_2.size + 1) = False := eq_false (Nat.not_lt.2 c25)
                      obtain ⟨y169, hy169⟩ : ∃ y_ : List Int, y_ = (([(wrap64 (114 + a0_3)) % 256] : List Int)) := ⟨_, rfl⟩
                      replace H : (if (x3_2 ++ (⟨#[32]⟩ : ByteArray)).size + (strOfNums y169).size ≤ 9223372036854775807 then (some ((x3_2 ++ (⟨#[32]⟩ : ByteArray)) ++ (strOfNums y169))) else (none)) = some r := by first | (rw [hy169]; with_reducible exact H) | (have H2_ := (Option.bind_some _ _).symm.trans H; rw [hy169]; with_reducible exact H2_) | (have H2_ := (Option.bind_some _ _).symm.trans H; with_reducible exact H2_) | with_reducible exact H | (rw [hy169]; exact H) | exact H
                      have Ny169 := za.mk hy169
                      clear hy169
                      by_cases c26 : (x3_2 ++ (⟨#[32]⟩ : ByteArray)).size + (strOfNums y169).size ≤ 9223372036854775807
                      · rw [if_pos c26] at H
                        have c26b0 := eq_true c26
                        have c26b1 : decide ((x3_2 ++ (⟨#[32]⟩ : ByteArray)).size + (strOfNums y169).size ≤ 9223372036854775807) = true := decide_eq_true c26
                        try have c26b2 : (9223372036854775807 < (x3_2 ++ (⟨#[32]⟩ : ByteArray)).size + (strOfNums y169).size) = False := eq_false (Nat.not_lt.2 c26)
                        try have c26b3 : (9223372036854775807 < (x3_2).size + 1 + (strOfNums y169).size) = False := by
                                have h_ := c26
                                rw [ByteArray.size_append] at h_
                                exact eq_false (Nat.not_lt.2 h_)
                        obtain rfl := Option.some.inj H
                        have hcz27_0 : wr.cell? ⟨gb160, 0, none⟩ = some (.int .i64 a0_0) := (zf BK160.out 0).trans rfl
                        have hcz27_1 : wr.cell? ⟨gb160, 1, none⟩ = some (.slice A0_1 l0_1.length c0_1) := (zf BK160.out 1).trans rfl
                        have hcz27_2 : wr.cell? ⟨gb160, 2, none⟩ = some (.slice A0_2 l0_2.length c0_2) := (zf BK160.out 2).trans rfl
                        have hcz27_3 : wr.cell? ⟨gb160, 3, none⟩ = some (.int .i64 a0_3) := (zf BK160.out 3).trans rfl
                        have hfz27_0 := zg BK160.out 0
                        have hfz27_1 := zg BK160.out 1
                        have hfz27_2 := zg BK160.out 2
                        have hfz27_3 := zg BK160.out 3
                        go_wp2_with (first | ((with_reducible refine zY (N := 52) rfl ?_); refine Kd.R_lit (Kd.int .u8) _ 5 ?hg (N := 52) ?hd (xs := ([(wrap64 (114 + a0_3)) % 256] : List Int)) (inner := [.int .u8 ((wrap64 (114 + a0_3)) % 256)]) (ok := fun _ => True) (okp := fun _ => True) ?hr ?hp (fun _ hk => hk) trivial (Below.refl _ _) (Nat.le_refl _) (by simp) ?_; (case hd => rfl); (case hg => rfl); (case hr => first | (go_simp; done) | (go_simp; rfl)); (case hp => exact (yt.one (show Kd.M (Kd.int .u8) _ _ _ ((wrap64 (114 + a0_3)) % 256) [.int .u8 ((wrap64 (114 + a0_3)) % 256)] from rfl) (yt.none _ _))); intro v170 w28 ho29 hb hg_ hnew_; clear hg_ hnew_; (first | rw [← Ny169.out] at ho29 | (simp only [Int.reduceToNat] at ho29; rw [← Ny169.out] at ho29)); have n0_ := za.mk (Kd.yq ho29 (zy (by repeat (with_reducible first | exact HB.out | apply zc | apply zb | apply zd | refine zh ?_ GE160.out)))); have n1_ := za.mk (zI (g := gb160) (o := .cells #[.int .i64 a0_0, .slice A0_1 l0_1.length c0_1, .slice A0_2 l0_2.length c0_2, .int .i64 a0_3] 52 (0, 0)) (by (with_reducible repeat (first | refine zl ?_ _ | refine zm ?_ | refine zj ?_ _)); exact BK160.out) hb); have n2_ := za.mk (zp (by repeat (with_reducible first | exact HB.out | apply zc | apply zb | apply zd | refine zh ?_ GE160.out)) hb); clear BK160; clear HB; have HO171 := n0_; have BK160 := n1_; have HB := n2_; clear n0_ n1_ n2_; clear hb ho29; have hcv30 := y9 (P := Tryd.prog) Tryd.underlying34 Tryd.underlying5 Tryd.underlying9 (Kd.xk HO171.out)))
                        go_ret
                        exact ⟨by first | rfl | (simp [zr, zq] <;> rfl) | (simp [*, zr, zq] <;> rfl), by repeat (with_reducible first | exact HB.out | apply zc | apply zb | apply zd | refine zh ?_ GE160.out)⟩
                      · rw [if_neg c26] at H
                        exact absurd H (by simp)
                    · rw [if_neg c25] at H
                      exact absurd H (by simp)
                  · rw [if_neg c24] at H
                    have c24b0 : (a0_0 == 4) = false := beq_eq_false_iff_ne.mpr c24
                    have c24b1 : (a0_0 != 4) = true := bne_iff_ne.mpr c24
                    obtain rfl := Option.some.inj H
                    have hcz31_0 : wr.cell? ⟨gb160, 0, none⟩ = some (.int .i64 a0_0) := (zf BK160.out 0).trans rfl
                    have hcz31_1 : wr.cell? ⟨gb160, 1, none⟩ = some (.slice A0_1 l0_1.length c0_1) := (zf BK160.out 1).trans rfl
                    have hcz31_2 : wr.cell? ⟨gb160, 2, none⟩ = some (.slice A0_2 l0_2.length c0_2) := (zf BK160.out 2).trans rfl
                    have hcz31_3 : wr.cell? ⟨gb160, 3, none⟩ = some (.int .i64 a0_3) := (zf BK160.out 3).trans rfl
                    have hfz31_0 := zg BK160.out 0
                    have hfz31_1 := zg BK160.out 1
                    have hfz31_2 := zg BK160.out 2
                    have hfz31_3 := zg BK160.out 3
                    go_wp2
                    go_ret
                    exact ⟨by first | rfl | (simp [zr, zq] <;> rfl) | (simp [*, zr, zq] <;> rfl), by repeat (with_reducible first | exact HB.out | apply zc | apply zb | apply zd | refine zh ?_ GE160.out)⟩
    · rw [if_neg c3] at H
      exact absurd H (by simp)
  · rw [if_neg c2] at H
    exact absurd H (by simp)
end Go.Proofs.YtoeepmcaabmjkaaDoor.QPO
namespace Go.Proofs.YtoeepmcaabmjkaaDoor.QPO
open Go.RowKit Go.Proofs.YtoeepmcaabmjkaaDoorW.PrintWords Go.Proofs.YtoeepmcaabmjkaaDoorW.PrintLast Go.Proofs.YtoeepmcaabmjkaaDoorW.PrintMore
attribute [local go_sem] yz yx yQ yP yl yk yy yw   -- for this text's walks alone
set_option linter.unusedVariables false
set_option linter.unusedSimpArgs false
mutual
def zw.l0 : Nat → ByteArray → Int → List Int → List (List (S52)) → Option (ByteArray)
  | 0, _, _, _, _ => none
  | k + 1, x3, x4, x173000, x173001 => if x4 < (x173000.length : Int) then (if x3.size + 1 ≤ 9223372036854775807 then (if 0 ≤ x4 then ((yd.f k (rd x173000 x4)).bind fun t175 => (if (x3 ++ (⟨#[32]⟩ : ByteArray)).size + t175.size ≤ 9223372036854775807 then (zw.l0 k ((x3 ++ (⟨#[32]⟩ : ByteArray)) ++ t175) (wrap64 (x4 + 1)) x173000 x173001) else (none))) else (none)) else (none)) else (if x3.size + 1 ≤ 9223372036854775807 then (zw.l1 k (x3 ++ (⟨#[10]⟩ : ByteArray)) 0 x173000 x173001) else (none))
def zw.l1 : Nat → ByteArray → Int → List Int → List (List (S52)) → Option (ByteArray)
  | 0, _, _, _, _ => none
  | k + 1, x3, x5, x173000, x173001 => if x5 < (x173001.length : Int) then (if x3.size + 5 ≤ 9223372036854775807 then (zw.l2 k (x3 ++ (⟨#[98, 111, 100, 121, 10]⟩ : ByteArray)) x5 0 x173000 x173001) else (none)) else (some x3)
def zw.l2 : Nat → ByteArray → Int → Int → List Int → List (List (S52)) → Option (ByteArray)
  | 0, _, _, _, _, _ => none
  | k + 1, x3, x5, x6, x173000, x173001 => if 0 ≤ x5 then (if x5 < (x173001.length : Int) then (if x6 < ((zR x173001 x5).length : Int) then (if 0 ≤ x6 then ((zV.f k ((zM (zR x173001 x5) x6).f0) ((zM (zR x173001 x5) x6).f1) ((zM (zR x173001 x5) x6).f2) ((zM (zR x173001 x5) x6).f3)).bind fun t179 => (if x3.size + t179.size ≤ 9223372036854775807 then (if (x3 ++ t179).size + 1 ≤ 9223372036854775807 then (zw.l2 k ((x3 ++ t179) ++ (⟨#[10]⟩ : ByteArray)) x5 (wrap64 (x6 + 1)) x173000 x173001) else (none)) else (none))) else (none)) else (zw.l1 k x3 (wrap64 (x5 + 1)) x173000 x173001)) else (none)) else (none)
end
def zw.f (k : Nat) (l0_0 : List Int) (l0_1 : List (List (S52))) : Option (ByteArray) := (yY.f k l0_0 l0_1).bind fun t173 => (if t173 = true then (zw.l0 k (⟨#[99, 101, 108, 108, 115]⟩ : ByteArray) 0 l0_0 l0_1) else (some (⟨#[]⟩ : ByteArray)))
set_option maxHeartbeats 8000000 in
set_option maxRecDepth 100000 in
theorem zw.calls (k : Nat) (A0_0 : Option Addr) (c0_0 : Nat) (l0_0 : List Int) (A0_1 : Option Addr) (c0_1 : Nat) (l0_1 : List (List (S52))) (r : ByteArray) (w : World) (hr0_0 : Kd.C (Kd.int .i64) w A0_0 l0_0.length l0_0) (hc0_0 : l0_0.length ≤ c0_0) (hr0_1 : Kd.C (Kd.slice 52 k52) w A0_1 l0_1.length l0_1) (hc0_1 : l0_1.length ≤ c0_1) (h : zw.f k l0_0 l0_1 = some r) :
    Calls Tryd.prog 7 #[.agg #[.slice A0_0 l0_0.length c0_0, .slice A0_1 l0_1.length c0_1]] w fun e w' => e = .returned (.string r) ∧ Below w.heap.size w w' := by
  have hu30 := Tryd.underlying30
  have hu52 := Tryd.underlying52
  have HR0_0 := za.mk hr0_0
  have HC0_0 := za.mk hc0_0
  clear hr0_0 hc0_0
  have HR0_1 := za.mk hr0_1
  have HC0_1 := za.mk hc0_1
  clear hr0_1 hc0_1
  have HB := za.mk (Below.refl w.heap.size w)
  have H : ((yY.f k l0_0 l0_1).bind fun t173 => (if t173 = true then (zw.l0 k (⟨#[99, 101, 108, 108, 115]⟩ : ByteArray) 0 l0_0 l0_1) else (some (⟨#[]⟩ : ByteArray)))) = some r := h
  clear h
  replace H := Option.bind_eq_some_iff.mp H
  obtain ⟨t173, A20, H⟩ := H
  replace H : (if t173 = true then (zw.l0 k (⟨#[99, 101, 108, 108, 115]⟩ : ByteArray) 0 l0_0 l0_1) else (some (⟨#[]⟩ : ByteArray))) = some r := H
  have A2 := za.mk A20
  clear A20
  by_cases c3 : t173 = true
  · subst c3
    have H1 : (zw.l0 k (⟨#[99, 101, 108, 108, 115]⟩ : ByteArray) 0 l0_0 l0_1) = some r := by rw [if_pos rfl] at H; exact H
    clear H
    have H := H1
    clear H1
    have H' := za.mk H
    clear H
    go_enter Tryd.func7, Tryd.ntmps7
    go_wp2_with (first | ((with_reducible refine zY (N := 1) rfl ?_); refine ye ?hg (N := 1) ?hd (cs := #[.slice A0_0 l0_0.length c0_0, .slice A0_1 l0_1.length c0_1]) (t := 30) ?hr ?_; (case hd => rfl); (case hg => rfl); (case hr => first | (go_simp; done) | (go_simp; rfl)); intro gb172 hg w4 hbox hb; have n0_ := za.mk (zp (by repeat (with_reducible first | exact HB.out | apply zc | apply zb | apply zd)) hb); have n1_ := za.mk (hbox); have n2_ := za.mk ((by rw [hg]; exact (zy (by repeat (with_reducible first | exact HB.out | apply zc | apply zb | apply zd))) : w.heap.size ≤ gb172)); have n3_ := za.mk ((by rw [hg]; exact (zy (by repeat (with_reducible first | exact HB.out | apply zc | apply zb | apply zd))) : w.heap.size ≤ gb172)); clear HB; have HB := n0_; have BK172 := n1_; have GW172 := n2_; have GE172 := n3_; clear n0_ n1_ n2_ n3_; clear hb hbox hg; have hcz5_0 : w4.cell? ⟨gb172, 0, none⟩ = some (.slice A0_0 l0_0.length c0_0) := (zf BK172.out 0).trans rfl; have hcz5_1 : w4.cell? ⟨gb172, 1, none⟩ = some (.slice A0_1 l0_1.length c0_1) := (zf BK172.out 1).trans rfl; have hfz5_0 := zg BK172.out 0; have hfz5_1 := zg BK172.out 1) | ((with_reducible refine zx (f := 20) rfl ?_); refine z6 (some 8) rfl rfl Tryd.func20 (by kernel_rfl) rfl #[.agg #[.slice A0_0 l0_0.length c0_0, .slice A0_1 l0_1.length c0_1]] rfl (by (try simp only [List.map_toArray, List.map_cons, List.map_nil]); first | done | rfl | (simp only [List.length_drop, List.length_take]; rfl)) ?_; (with_reducible refine (yY.calls k _ _ l0_0 _ _ l0_1 true _ ?side1 ?side2 ?side3 ?side4 A2.out).mono ?_); (case side1 => repeat (first | exact (Kd.zX HR0_0.out HB.out) | (with_reducible refine Kd.yg ?_ _) | (with_reducible refine Kd.yi ?_ _) | (with_reducible refine Kd.yG ?_))); (case side2 => exact HC0_0.out); (case side3 => repeat (first | exact (Kd.zX HR0_1.out HB.out) | (with_reducible refine Kd.yg ?_ _) | (with_reducible refine Kd.yi ?_ _) | (with_reducible refine Kd.yG ?_))); (case side4 => exact HC0_1.out); rintro e w6 ⟨rfl, hb⟩; refine ⟨_, rfl, ?_⟩; have n0_ := za.mk (zI (g := gb172) (o := .cells #[.slice A0_0 l0_0.length c0_0, .slice A0_1 l0_1.length c0_1] 30 (0, 0)) (by (with_reducible repeat (first | refine zl ?_ _ | refine zm ?_ | refine zj ?_ _)); exact BK172.out) hb); have n1_ := za.mk (zp (by repeat (with_reducible first | exact HB.out | apply zc | apply zb | apply zd | refine zh ?_ GE172.out)) hb); clear BK172; clear HB; have BK172 := n0_; have HB := n1_; clear n0_ n1_; (try clear hb); (try clear hb2); (try clear hk); (try clear hi)))
    go_loopg [3, 4] k (fun kq v3 v4 w' => ∃ (x3_1 : ByteArray) (x4_1 : Int), v3 = .string x3_1 ∧ v4 = .int .i64 x4_1 ∧ za (zw.l0 kq x3_1 x4_1 l0_0 l0_1 = some r) ∧ za (kq ≤ k) ∧ za (w'.heap[gb172]? = some (.cells #[(.slice A0_0 l0_0.length c0_0), (.slice A0_1 l0_1.length c0_1)] 30 (0, 0))) ∧ za (Below w.heap.size w w'))
    case atStart => exact ⟨((⟨#[99, 101, 108, 108, 115]⟩ : ByteArray)), (0), (by first | rfl | (simp; done) | (simp [*]; done)), (by first | rfl | (simp; done) | (simp [*]; done)), H', ⟨Nat.le_refl _⟩, ⟨by (with_reducible repeat (first | refine zl ?_ _ | refine zm ?_ | refine zj ?_ _)); exact BK172.out⟩, ⟨by repeat (with_reducible first | exact HB.out | apply zc | apply zb | apply zd | refine zh ?_ GE172.out)⟩⟩
    case round =>
      clear H'
      try clear c2
      try clear p2
      try clear c3
      try clear hcz5_0
      try clear hcz5_1
      try clear hfz5_0
      try clear hfz5_1
      obtain ⟨x3_1, x4_1, rfl, rfl, HA, HK1, BK172, HB⟩ := hrel
      cases gk with
      | zero => exact absurd HA.out (by simp [zw.l0])
      | succ k1 =>
        have H := HA.out
        clear HA
        simp only [zw.l0] at H
        by_cases c7 : x4_1 < (l0_0.length : Int)
        · rw [if_pos c7] at H
          have c7b0 : decide (x4_1 < (l0_0.length : Int)) = true := decide_eq_true c7
          clear c7
          by_cases c8 : x3_1.size + 1 ≤ 9223372036854775807
          · rw [if_pos c8] at H
            have c8b0 := eq_true c8
            have c8b1 : decide (x3_1.size + 1 ≤ 9223372036854775807) = true := decide_eq_true c8
            try have c8b2 : (9223372036854775807 < x3_1.size + 1) = False := eq_false (Nat.not_lt.2 c8)
            by_cases c9 : 0 ≤ x4_1
            · rw [if_pos c9] at H
              have c9b0 : decide (0 ≤ x4_1) = true := decide_eq_true c9
              clear c9
              replace H := Option.bind_eq_some_iff.mp H
              obtain ⟨t175, A100, H⟩ := H
              replace H : (if (x3_1 ++ (⟨#[32]⟩ : ByteArray)).size + t175.size ≤ 9223372036854775807 then (zw.l0 k1 ((x3_1 ++ (⟨#[32]⟩ : ByteArray)) ++ t175) (wrap64 (x4_1 + 1)) l0_0 l0_1) else (none)) = some r := H
              have A10 := za.mk A100
              clear A100
              by_cases c11 : (x3_1 ++ (⟨#[32]⟩ : ByteArray)).size + t175.size ≤ 9223372036854775807
              · rw [if_pos c11] at H
                have c11b0 := eq_true c11
                have c11b1 : decide ((x3_1 ++ (⟨#[32]⟩ : ByteArray)).size + t175.size ≤ 9223372036854775807) = true := decide_eq_true c11
                try have c11b2 : (9223372036854775807 < (x3_1 ++ (⟨#[32]⟩ : ByteArray)).size + t175.size) = False := eq_false (Nat.not_lt.2 c11)
                try have c11b3 : (9223372036854775807 < (x3_1).size + 1 + t175.size) = False := by
                        have h_ := c11
                        rw [ByteArray.size_append] at h_
                        exact eq_false (Nat.not_lt.2 h_)
                have H' := za.mk H
                clear H
                have hcz12_0 : wr.cell? ⟨gb172, 0, none⟩ = some (.slice A0_0 l0_0.length c0_0) := (zf BK172.out 0).trans rfl
                have hcz12_1 : wr.cell? ⟨gb172, 1, none⟩ = some (.slice A0_1 l0_1.length c0_1) := (zf BK172.out 1).trans rfl
                have hfz12_0 := zg BK172.out 0
                have hfz12_1 := zg BK172.out 1
                have p174 : 0 ≤ (x4_1 : Int) := of_decide_eq_true (by first | (with_reducible assumption) | assumption)
                have q174 : x4_1 < (l0_0.length : Int) := of_decide_eq_true (by first | (with_reducible assumption) | assumption)
                obtain ⟨ad174, e174, hx174_0⟩ := Kd.xu HR0_0.out x4_1 p174 q174
                cases e174
                replace hx174_0 := (HB.out.cell (World.block_lt_of_cell? w _ hx174_0)).trans hx174_0
                replace p174 := eq_true p174
                replace q174 := eq_true q174
                go_wp2_with (first | ((with_reducible refine zx (f := 21) rfl ?_); refine z6 (some 24) rfl rfl Tryd.func21 (by kernel_rfl) rfl #[.int .i64 (rd l0_0 x4_1)] rfl (by (try simp only [List.map_toArray, List.map_cons, List.map_nil]); first | done | rfl | (simp only [List.length_drop, List.length_take]; rfl)) ?_; (with_reducible refine (yd.calls k1 (rd l0_0 x4_1) t175 _ A10.out).mono ?_); rintro e w13 ⟨rfl, hb⟩; refine ⟨_, rfl, ?_⟩; have n0_ := za.mk (zI (g := gb172) (o := .cells #[.slice (some ad174) l0_0.length c0_0, .slice A0_1 l0_1.length c0_1] 30 (0, 0)) (by (with_reducible repeat (first | refine zl ?_ _ | refine zm ?_ | refine zj ?_ _)); exact BK172.out) hb); have n1_ := za.mk (zp (by repeat (with_reducible first | exact HB.out | apply zc | apply zb | apply zd | refine zh ?_ GE172.out)) hb); clear BK172; clear HB; have BK172 := n0_; have HB := n1_; clear n0_ n1_; (try clear hb); (try clear hb2); (try clear hk); (try clear hi)))
                go_roundg k1
                case measure => have := HK1.out; omega
                case rel => exact ⟨((x3_1 ++ (⟨#[32]⟩ : ByteArray)) ++ t175), (wrap64 (x4_1 + 1)), (by first | rfl | (simp; done) | (simp [*]; done)), (by first | rfl | (simp; done) | (simp [*]; done)), H', ⟨by have := HK1.out; omega⟩, ⟨by (with_reducible repeat (first | refine zl ?_ _ | refine zm ?_ | refine zj ?_ _)); exact BK172.out⟩, ⟨by repeat (with_reducible first | exact HB.out | apply zc | apply zb | apply zd | refine zh ?_ GE172.out)⟩⟩
              · rw [if_neg c11] at H
                exact absurd H (by simp)
            · rw [if_neg c9] at H
              exact absurd H (by simp)
          · rw [if_neg c8] at H
            exact absurd H (by simp)
        · rw [if_neg c7] at H
          have c7b0 : decide (x4_1 < (l0_0.length : Int)) = false := decide_eq_false c7
          clear c7
          by_cases c14 : x3_1.size + 1 ≤ 9223372036854775807
          · rw [if_pos c14] at H
            have c14b0 := eq_true c14
            have c14b1 : decide (x3_1.size + 1 ≤ 9223372036854775807) = true := decide_eq_true c14
            try have c14b2 : (9223372036854775807 < x3_1.size + 1) = False := eq_false (Nat.not_lt.2 c14)
            have H' := za.mk H
            clear H
            have hcz15_0 : wr.cell? ⟨gb172, 0, none⟩ = some (.slice A0_0 l0_0.length c0_0) := (zf BK172.out 0).trans rfl
            have hcz15_1 : wr.cell? ⟨gb172, 1, none⟩ = some (.slice A0_1 l0_1.length c0_1) := (zf BK172.out 1).trans rfl
            have hfz15_0 := zg BK172.out 0
            have hfz15_1 := zg BK172.out 1
            go_wp2
            go_loopg [3, 5] k1 (fun kq v3 v5 w' => ∃ (x3_2 : ByteArray) (x5_2 : Int), v3 = .string x3_2 ∧ v5 = .int .i64 x5_2 ∧ za (zw.l1 kq x3_2 x5_2 l0_0 l0_1 = some r) ∧ za (kq ≤ k1) ∧ za (w'.heap[gb172]? = some (.cells #[(.slice A0_0 l0_0.length c0_0), (.slice A0_1 l0_1.length c0_1)] 30 (0, 0))) ∧ za (Below w.heap.size w w'))
            case atStart => exact ⟨(x3_1 ++ (⟨#[10]⟩ : ByteArray)), (0), (by first | rfl | (simp; done) | (simp [*]; done)), (by first | rfl | (simp; done) | (simp [*]; done)), H', ⟨Nat.le_refl _⟩, ⟨by (with_reducible repeat (first | refine zl ?_ _ | refine zm ?_ | refine zj ?_ _)); exact BK172.out⟩, ⟨by repeat (with_reducible first | exact HB.out | apply zc | apply zb | apply zd | refine zh ?_ GE172.out)⟩⟩
            case round =>
              clear H'
              try clear c1
              try clear p1
              try clear q1
              try clear hx1
              try clear c2
              try clear p2
              try clear c3
              try clear p6
              try clear c7
              try clear c7b0
              try clear c8
              try clear c8b0
              try clear c8b1
              try clear c8b2
              try clear c9
              try clear c9b0
              try clear c11
              try clear c11b0
              try clear c11b1
              try clear c11b2
              try clear c14
              try clear c14b0
              try clear c14b1
              try clear c14b2
              try clear hcz12_0
              try clear hcz12_1
              try clear hcz15_0
              try clear hcz15_1
              try clear hcz5_0
              try clear hcz5_1
              try clear hfz12_0
              try clear hfz12_1
              try clear hfz15_0
              try clear hfz15_1
              try clear hfz5_0
              try clear hfz5_1
              try clear hx174_0
              try clear p174
              try clear p2
              try clear q174
              obtain ⟨x3_2, x5_2, rfl, rfl, HA, HK2, BK172, HB⟩ := hrel
              cases gk with
              | zero => exact absurd HA.out (by simp [zw.l1])
              | succ k2 =>
                have H := HA.out
                clear HA
                simp only [zw.l1] at H
                by_cases c16 : x5_2 < (l0_1.length : Int)
                · rw [if_pos c16] at H
                  have c16b0 : decide (x5_2 < (l0_1.length : Int)) = true := decide_eq_true c16
                  clear c16
                  by_cases c17 : x3_2.size + 5 ≤ 9223372036854775807
                  · rw [if_pos c17] at H
                    have c17b0 := eq_true c17
                    have c17b1 : decide (x3_2.size + 5 ≤ 9223372036854775807) = true := decide_eq_true c17
                    try have c17b2 : (9223372036854775807 < x3_2.size + 5) = False := eq_false (Nat.not_lt.2 c17)
                    have H' := za.mk H
                    clear H
                    have hcz18_0 : wr.cell? ⟨gb172, 0, none⟩ = some (.slice A0_0 l0_0.length c0_0) := (zf BK172.out 0).trans rfl
                    have hcz18_1 : wr.cell? ⟨gb172, 1, none⟩ = some (.slice A0_1 l0_1.length c0_1) := (zf BK172.out 1).trans rfl
                    have hfz18_0 := zg BK172.out 0
                    have hfz18_1 := zg BK172.out 1
                    go_wp2
                    go_loopg [3, 6] k2 (fun kq v3 v6 w' => ∃ (x3_3 : ByteArray) (x6_3 : Int), v3 = .string x3_3 ∧ v6 = .int .i64 x6_3 ∧ za (zw.l2 kq x3_3 x5_2 x6_3 l0_0 l0_1 = some r) ∧ za (kq ≤ k2) ∧ za (w'.heap[gb172]? = some (.cells #[(.slice A0_0 l0_0.length c0_0), (.slice A0_1 l0_1.length c0_1)] 30 (0, 0))) ∧ za (Below w.heap.size w w'))
                    case atStart => exact ⟨(x3_2 ++ (⟨#[98, 111, 100, 121, 10]⟩ : ByteArray)), (0), (by first | rfl | (simp; done) | (simp [*]; done)), (by first | rfl | (simp; done) | (simp [*]; done)), H', ⟨Nat.le_refl _⟩, ⟨by (with_reducible repeat (first | refine zl ?_ _ | refine zm ?_ | refine zj ?_ _)); exact BK172.out⟩, ⟨by repeat (with_reducible first | exact HB.out | apply zc | apply zb | apply zd | refine zh ?_ GE172.out)⟩⟩
                    case round =>
                      clear H'
                      try clear c1
                      try clear p1
                      try clear q1
                      try clear hx1
                      try clear c2
                      try clear p2
                      try clear c3
                      try clear p6
                      try clear c7
                      try clear c7b0
                      try clear c8
                      try clear c8b0
                      try clear c8b1
                      try clear c8b2
                      try clear c9
                      try clear c9b0
                      try clear c11
                      try clear c11b0
                      try clear c11b1
                      try clear c11b2
                      try clear c14
                      try clear c14b0
                      try clear c14b1
                      try clear c14b2
                      try clear c16
                      try clear c16b0
                      try clear c17
                      try clear c17b0
                      try clear c17b1
                      try clear c17b2
                      try clear p17
                      try clear q17
                      try clear hx17
                      try clear hcz12_0
                      try clear hcz12_1
                      try clear hcz15_0
                      try clear hcz15_1
                      try clear hcz18_0
                      try clear hcz18_1
                      try clear hcz5_0
                      try clear hcz5_1
                      try clear hfz12_0
                      try clear hfz12_1
                      try clear hfz15_0
                      try clear hfz15_1
                      try clear hfz18_0
                      try clear hfz18_1
                      try clear hfz5_0
                      try clear hfz5_1
                      try clear hx174_0
                      try clear p1
                      try clear p174
                      try clear p2
                      try clear p6
                      try clear q1
                      try clear q174
                      obtain ⟨x3_3, x6_3, rfl, rfl, HA, HK3, BK172, HB⟩ := hrel
                      cases gk with
                      | zero => exact absurd HA.out (by simp [zw.l2])
                      | succ k3 =>
                        have H := HA.out
                        clear HA
                        simp only [zw.l2] at H
                        by_cases c19 : 0 ≤ x5_2
                        · rw [if_pos c19] at H
                          have c19b0 : decide (0 ≤ x5_2) = true := decide_eq_true c19
                          clear c19
                          by_cases c20 : x5_2 < (l0_1.length : Int)
                          · rw [if_pos c20] at H
                            have c20b0 : decide (x5_2 < (l0_1.length : Int)) = true := decide_eq_true c20
                            clear c20
                            by_cases c21 : x6_3 < ((zR l0_1 x5_2).length : Int)
                            · rw [if_pos c21] at H
                              have c21b0 : decide (x6_3 < ((zR l0_1 x5_2).length : Int)) = true := decide_eq_true c21
                              clear c21
                              by_cases c22 : 0 ≤ x6_3
                              · rw [if_pos c22] at H
                                have c22b0 : decide (0 ≤ x6_3) = true := decide_eq_true c22
                                clear c22
                                replace H := Option.bind_eq_some_iff.mp H
                                obtain ⟨t179, A230, H⟩ := H
                                replace H : (if x3_3.size + t179.size ≤ 9223372036854775807 then (if (x3_3 ++ t179).size + 1 ≤ 9223372036854775807 then (zw.l2 k3 ((x3_3 ++ t179) ++ (⟨#[10]⟩ : ByteArray)) x5_2 (wrap64 (x6_3 + 1)) l0_0 l0_1) else (none)) else (none)) = some r := H
                                have A23 := za.mk A230
                                clear A230
                                by_cases c24 : x3_3.size + t179.size ≤ 9223372036854775807
                                · rw [if_pos c24] at H
                                  have c24b0 := eq_true c24
                                  have c24b1 : decide (x3_3.size + t179.size ≤ 9223372036854775807) = true := decide_eq_true c24
                                  try have c24b2 : (9223372036854775807 < x3_3.size + t179.size) = False := eq_false (Nat.not_lt.2 c24)
                                  by_cases c25 : (x3_3 ++ t179).size + 1 ≤ 9223372036854775807
                                  · rw [if_pos c25] at H
                                    have c25b0 := eq_true c25
                                    have c25b1 : decide ((x3_3 ++ t179).size + 1 ≤ 9223372036854775807) = true := decide_eq_true c25
                                    try have c25b2 : (9223372036854775807 < (x3_3 ++ t179).size + 1) = False := eq_false (Nat.not_lt.2 c25)
                                    try have c25b3 : (9223372036854775807 < (x3_3).size + t179.size + 1) = False := by
                                            have h_ := c25
                                            rw [ByteArray.size_append] at h_
                                            exact eq_false (Nat.not_lt.2 h_)
                                    have H' := za.mk H
                                    clear H
                                    have hcz26_0 : wr.cell? ⟨gb172, 0, none⟩ = some (.slice A0_0 l0_0.length c0_0) := (zf BK172.out 0).trans rfl
                                    have hcz26_1 : wr.cell? ⟨gb172, 1, none⟩ = some (.slice A0_1 l0_1.length c0_1) := (zf BK172.out 1).trans rfl
                                    have hfz26_0 := zg BK172.out 0
                                    have hfz26_1 := zg BK172.out 1
                                    have p176 : 0 ≤ (x5_2 : Int) := of_decide_eq_true (by first | (with_reducible assumption) | assumption)
                                    have q176 : x5_2 < (l0_1.length : Int) := of_decide_eq_true (by first | (with_reducible assumption) | assumption)
                                    obtain ⟨ad176, A176_0, c176_0, e176, hx176_0, hl176_0, hi176_0⟩ := at_L5 HR0_1.out x5_2 p176 q176
                                    cases e176
                                    replace hx176_0 := (HB.out.cell (World.block_lt_of_cell? w _ hx176_0)).trans hx176_0
                                    have HR176_0 := za.mk hi176_0
                                    have HC176_0 := za.mk hl176_0
                                    clear hi176_0 hl176_0
                                    replace p176 := eq_true p176
                                    replace q176 := eq_true q176
                                    have p177 : 0 ≤ (x5_2 : Int) := of_decide_eq_true (by first | (with_reducible assumption) | assumption)
                                    have q177 : x5_2 < (l0_1.length : Int) := of_decide_eq_true (by first | (with_reducible assumption) | assumption)
                                    obtain ⟨ad177, A177_0, c177_0, e177, hx177_0, hl177_0, hi177_0⟩ := at_L5 HR0_1.out x5_2 p177 q177
                                    obtain rfl : ad176 = ad177 := (by injection e177)
                                    replace hx177_0 := (HB.out.cell (World.block_lt_of_cell? w _ hx177_0)).trans hx177_0
                                    have HR177_0 := za.mk hi177_0
                                    have HC177_0 := za.mk hl177_0
                                    clear hi177_0 hl177_0
                                    replace p177 := eq_true p177
                                    replace q177 := eq_true q177
                                    have ea_ := Option.some.inj (hx176_0.symm.trans hx177_0)
                                    injection ea_ with ea_ en_ ec_
                                    subst ea_
                                    subst ec_
                                    clear en_
                                    have p178 : 0 ≤ (x6_3 : Int) := of_decide_eq_true (by first | (with_reducible assumption) | assumption)
                                    have q178 : x6_3 < ((zR l0_1 x5_2).length : Int) := of_decide_eq_true (by first | (with_reducible assumption) | assumption)
                                    obtain ⟨ad178, A178_1, c178_1, A178_2, c178_2, e178, hx178_0, hx178_1, hx178_2, hx178_3, hl178_1, hi178_1, hl178_2, hi178_2⟩ := at_T52 HR177_0.out x6_3 p178 q178
                                    cases e178
                                    replace hx178_0 := (HB.out.cell (World.block_lt_of_cell? w _ hx178_0)).trans hx178_0
                                    replace hx178_1 := (HB.out.cell (World.block_lt_of_cell? w _ hx178_1)).trans hx178_1
                                    replace hx178_2 := (HB.out.cell (World.block_lt_of_cell? w _ hx178_2)).trans hx178_2
                                    replace hx178_3 := (HB.out.cell (World.block_lt_of_cell? w _ hx178_3)).trans hx178_3
                                    have HR178_1 := za.mk hi178_1
                                    have HC178_1 := za.mk hl178_1
                                    clear hi178_1 hl178_1
                                    have HR178_2 := za.mk hi178_2
                                    have HC178_2 := za.mk hl178_2
                                    clear hi178_2 hl178_2
                                    replace p178 := eq_true p178
                                    replace q178 := eq_true q178
                                    go_wp2_with (first | ((with_reducible refine zx (f := 22) rfl ?_); refine z6 (some 56) rfl rfl Tryd.func22 (by kernel_rfl) rfl #[.agg #[.int .i64 ((zM (zR l0_1 x5_2) x6_3).f0), .slice A178_1 ((zM (zR l0_1 x5_2) x6_3).f1).length c178_1, .slice A178_2 ((zM (zR l0_1 x5_2) x6_3).f2).length c178_2, .int .i64 ((zM (zR l0_1 x5_2) x6_3).f3)]] rfl (by (try simp only [List.map_toArray, List.map_cons, List.map_nil]); first | done | rfl | (simp only [List.length_drop, List.length_take]; rfl)) ?_; (with_reducible refine (zV.calls k3 ((zM (zR l0_1 x5_2) x6_3).f0) _ _ ((zM (zR l0_1 x5_2) x6_3).f1) _ _ ((zM (zR l0_1 x5_2) x6_3).f2) ((zM (zR l0_1 x5_2) x6_3).f3) t179 _ ?side1 ?side2 ?side3 ?side4 A23.out).mono ?_); (case side1 => repeat (first | exact (Kd.zX HR178_1.out HB.out) | (with_reducible refine Kd.yg ?_ _) | (with_reducible refine Kd.yi ?_ _) | (with_reducible refine Kd.yG ?_))); (case side2 => exact HC178_1.out); (case side3 => repeat (first | exact (Kd.zX HR178_2.out HB.out) | (with_reducible refine Kd.yg ?_ _) | (with_reducible refine Kd.yi ?_ _) | (with_reducible refine Kd.yG ?_))); (case side4 => exact HC178_2.out); rintro e w27 ⟨rfl, hb⟩; refine ⟨_, rfl, ?_⟩; have n0_ := za.mk (zI (g := gb172) (o := .cells #[.slice A0_0 l0_0.length c0_0, .slice (some ad176) l0_1.length c0_1] 30 (0, 0)) (by (with_reducible repeat (first | refine zl ?_ _ | refine zm ?_ | refine zj ?_ _)); exact BK172.out) hb); have n1_ := za.mk (zp (by repeat (with_reducible first | exact HB.out | apply zc | apply zb | apply zd | refine zh ?_ GE172.out)) hb); clear BK172; clear HB; have BK172 := n0_; have HB := n1_; clear n0_ n1_; (try clear hb); (try clear hb2); (try clear hk); (try clear hi)))
                                    go_roundg k3
                                    case measure => have := HK1.out; have := HK2.out; have := HK3.out; omega
                                    case rel => exact ⟨((x3_3 ++ t179) ++ (⟨#[10]⟩ : ByteArray)), (wrap64 (x6_3 + 1)), (by first | rfl | (simp; done) | (simp [*]; done)), (by first | rfl | (simp; done) | (simp [*]; done)), H', ⟨by have := HK1.out; have := HK2.out; have := HK3.out; omega⟩, ⟨by (with_reducible repeat (first | refine zl ?_ _ | refine zm ?_ | refine zj ?_ _)); exact BK172.out⟩, ⟨by repeat (with_reducible first | exact HB.out | apply zc | apply zb | apply zd | refine zh ?_ GE172.out)⟩⟩
                                  · rw [if_neg c25] at H
                                    exact absurd H (by simp)
                                · rw [if_neg c24] at H
                                  exact absurd H (by simp)
                              · rw [if_neg c22] at H
                                exact absurd H (by simp)
                            · rw [if_neg c21] at H
                              have c21b0 : decide (x6_3 < ((zR l0_1 x5_2).length : Int)) = false := decide_eq_false c21
                              clear c21
                              have H' := za.mk H
                              clear H
                              have hcz28_0 : wr.cell? ⟨gb172, 0, none⟩ = some (.slice A0_0 l0_0.length c0_0) := (zf BK172.out 0).trans rfl
                              have hcz28_1 : wr.cell? ⟨gb172, 1, none⟩ = some (.slice A0_1 l0_1.length c0_1) := (zf BK172.out 1).trans rfl
                              have hfz28_0 := zg BK172.out 0
                              have hfz28_1 := zg BK172.out 1
                              have p176 : 0 ≤ (x5_2 : Int) := of_decide_eq_true (by first | (with_reducible assumption) | assumption)
                              have q176 : x5_2 < (l0_1.length : Int) := of_decide_eq_true (by first | (with_reducible assumption) | assumption)
                              obtain ⟨ad176, A176_0, c176_0, e176, hx176_0, hl176_0, hi176_0⟩ := at_L5 HR0_1.out x5_2 p176 q176
                              cases e176
                              replace hx176_0 := (HB.out.cell (World.block_lt_of_cell? w _ hx176_0)).trans hx176_0
                              have HR176_0 := za.mk hi176_0
                              have HC176_0 := za.mk hl176_0
                              clear hi176_0 hl176_0
                              replace p176 := eq_true p176
                              replace q176 := eq_true q176
                              go_wp2
                              go_roundg k3
                              case measure => have := HK1.out; have := HK2.out; have := HK3.out; omega
                              case rel => exact ⟨(x3_3), (wrap64 (x5_2 + 1)), (by first | rfl | (simp; done) | (simp [*]; done)), (by first | rfl | (simp; done) | (simp [*]; done)), H', ⟨by have := HK1.out; have := HK2.out; have := HK3.out; omega⟩, ⟨by (with_reducible repeat (first | refine zl ?_ _ | refine zm ?_ | refine zj ?_ _)); exact BK172.out⟩, ⟨by repeat (with_reducible first | exact HB.out | apply zc | apply zb | apply zd | refine zh ?_ GE172.out)⟩⟩
                          · rw [if_neg c20] at H
                            exact absurd H (by simp)
                        · rw [if_neg c19] at H
                          exact absurd H (by simp)
                  · rw [if_neg c17] at H
                    exact absurd H (by simp)
                · rw [if_neg c16] at H
                  have c16b0 : decide (x5_2 < (l0_1.length : Int)) = false := decide_eq_false c16
                  clear c16
                  obtain rfl := Option.some.inj H
                  have hcz29_0 : wr.cell? ⟨gb172, 0, none⟩ = some (.slice A0_0 l0_0.length c0_0) := (zf BK172.out 0).trans rfl
                  have hcz29_1 : wr.cell? ⟨gb172, 1, none⟩ = some (.slice A0_1 l0_1.length c0_1) := (zf BK172.out 1).trans rfl
                  have hfz29_0 := zg BK172.out 0
                  have hfz29_1 := zg BK172.out 1
                  go_wp2
                  go_ret
                  exact ⟨by first | rfl | (simp [zr, zq] <;> rfl) | (simp [*, zr, zq] <;> rfl), by repeat (with_reducible first | exact HB.out | apply zc | apply zb | apply zd | refine zh ?_ GE172.out)⟩
          · rw [if_neg c14] at H
            exact absurd H (by simp)
  · replace c3 := Bool.eq_false_iff.mpr c3
    subst c3
    have H1 : (some (⟨#[]⟩ : ByteArray)) = some r := by rw [if_neg (show ¬ (false = true) by decide)] at H; exact H
    clear H
    have H := H1
    clear H1
    obtain rfl := Option.some.inj H
    go_enter Tryd.func7, Tryd.ntmps7
    go_wp2_with (first | ((with_reducible refine zY (N := 1) rfl ?_); refine ye ?hg (N := 1) ?hd (cs := #[.slice A0_0 l0_0.length c0_0, .slice A0_1 l0_1.length c0_1]) (t := 30) ?hr ?_; (case hd => rfl); (case hg => rfl); (case hr => first | (go_simp; done) | (go_simp; rfl)); intro gb172 hg w30 hbox hb; have n0_ := za.mk (zp (by repeat (with_reducible first | exact HB.out | apply zc | apply zb | apply zd)) hb); have n1_ := za.mk (hbox); have n2_ := za.mk ((by rw [hg]; exact (zy (by repeat (with_reducible first | exact HB.out | apply zc | apply zb | apply zd))) : w.heap.size ≤ gb172)); have n3_ := za.mk ((by rw [hg]; exact (zy (by repeat (with_reducible first | exact HB.out | apply zc | apply zb | apply zd))) : w.heap.size ≤ gb172)); clear HB; have HB := n0_; have BK172 := n1_; have GW172 := n2_; have GE172 := n3_; clear n0_ n1_ n2_ n3_; clear hb hbox hg; have hcz31_0 : w30.cell? ⟨gb172, 0, none⟩ = some (.slice A0_0 l0_0.length c0_0) := (zf BK172.out 0).trans rfl; have hcz31_1 : w30.cell? ⟨gb172, 1, none⟩ = some (.slice A0_1 l0_1.length c0_1) := (zf BK172.out 1).trans rfl; have hfz31_0 := zg BK172.out 0; have hfz31_1 := zg BK172.out 1) | ((with_reducible refine zx (f := 20) rfl ?_); refine z6 (some 8) rfl rfl Tryd.func20 (by kernel_rfl) rfl #[.agg #[.slice A0_0 l0_0.length c0_0, .slice A0_1 l0_1.length c0_1]] rfl (by (try simp only [List.map_toArray, List.map_cons, List.map_nil]); first | done | rfl | (simp only [List.length_drop, List.length_take]; rfl)) ?_; (with_reducible refine (yY.calls k _ _ l0_0 _ _ l0_1 false _ ?side1 ?side2 ?side3 ?side4 A2.out).mono ?_); (case side1 => repeat (first | exact (Kd.zX HR0_0.out HB.out) | (with_reducible refine Kd.yg ?_ _) | (with_reducible refine Kd.yi ?_ _) | (with_reducible refine Kd.yG ?_))); (case side2 => exact HC0_0.out); (case side3 => repeat (first | exact (Kd.zX HR0_1.out HB.out) | (with_reducible refine Kd.yg ?_ _) | (with_reducible refine Kd.yi ?_ _) | (with_reducible refine Kd.yG ?_))); (case side4 => exact HC0_1.out); rintro e w32 ⟨rfl, hb⟩; refine ⟨_, rfl, ?_⟩; have n0_ := za.mk (zI (g := gb172) (o := .cells #[.slice A0_0 l0_0.length c0_0, .slice A0_1 l0_1.length c0_1] 30 (0, 0)) (by (with_reducible repeat (first | refine zl ?_ _ | refine zm ?_ | refine zj ?_ _)); exact BK172.out) hb); have n1_ := za.mk (zp (by repeat (with_reducible first | exact HB.out | apply zc | apply zb | apply zd | refine zh ?_ GE172.out)) hb); clear BK172; clear HB; have BK172 := n0_; have HB := n1_; clear n0_ n1_; (try clear hb); (try clear hb2); (try clear hk); (try clear hi)))
    go_ret
    exact ⟨by first | rfl | (simp [zr, zq] <;> rfl) | (simp [*, zr, zq] <;> rfl), by repeat (with_reducible first | exact HB.out | apply zc | apply zb | apply zd | refine zh ?_ GE172.out)⟩
end Go.Proofs.YtoeepmcaabmjkaaDoor.QPO
namespace Go.Proofs.YtoeepmcaabmjkaaDoor.QPO
open Go.RowKit Go.Proofs.YtoeepmcaabmjkaaDoorW.PrintWords Go.Proofs.YtoeepmcaabmjkaaDoorW.PrintLast Go.Proofs.YtoeepmcaabmjkaaDoorW.PrintMore
attribute [local go_sem] yz yx yQ yP yl yk yy yw   -- for this text's walks alone
set_option linter.unusedVariables false
set_option linter.unusedSimpArgs false
theorem int_eq_nat (n : Nat) : (((n : Int) == 0) : Bool) = (n == 0) := by
  rw [Bool.eq_iff_iff]; simp
set_option maxHeartbeats 4000000 in
set_option maxRecDepth 100000 in
theorem impl_partOfAct.calls (k : Int) (A1 : Option Addr) (n1 c1 : Nat) (A2 : Option Addr) (n2 c2 : Nat) (r : Int) (w : World) :
    Calls Tryd.prog 28 #[.agg #[.int .i64 k, .slice A1 n1 c1, .slice A2 n2 c2, .int .i64 r]] w fun e w' => e = .returned (actW k (.slice A1 n1 c1) n1 (.slice A2 n2 c2) n2 r) ∧ Below w.heap.size w w' := by
  have hu := Tryd.underlying52
  have hu1 := Tryd.underlying89
  have hu2 := Tryd.underlying93
  have hu3 := Tryd.underlying95
  have hu4 := Tryd.underlying97
  have e1 := int_eq_nat n1
  have e2 := int_eq_nat n2
  obtain ⟨b1, hb1⟩ : ∃ b, b = (n1 == 0) := ⟨_, rfl⟩
  obtain ⟨b2, hb2⟩ : ∃ b, b = (n2 == 0) := ⟨_, rfl⟩
  obtain ⟨b3, hb3⟩ : ∃ b, b = (r == 0) := ⟨_, rfl⟩
  rw [← hb1] at e1
  rw [← hb2] at e2
  have H1 := za.mk hb1
  have H2 := za.mk hb2
  have H3 := za.mk hb3
  have e3 : (r == 0) = b3 := hb3.symm
  clear hb1 hb2 hb3
  obtain ⟨q1, hq1⟩ : ∃ b, b = (k == 1) := ⟨_, rfl⟩
  obtain ⟨q2, hq2⟩ : ∃ b, b = (k == 2) := ⟨_, rfl⟩
  obtain ⟨q3, hq3⟩ : ∃ b, b = (k == 3) := ⟨_, rfl⟩
  obtain ⟨q4, hq4⟩ : ∃ b, b = (k == 4) := ⟨_, rfl⟩
  have f1 := hq1.symm
  have f2 := hq2.symm
  have f3 := hq3.symm
  have f4 := hq4.symm
  have K1 := za.mk hq1
  have K2 := za.mk hq2
  have K3 := za.mk hq3
  have K4 := za.mk hq4
  clear hq1 hq2 hq3 hq4
  go_enter Tryd.func28, Tryd.ntmps28
  go_wp2
  go_quiet (fail)
  go_wp2
  all_goals
    go_ret
    refine ⟨?_, by repeat (first | exact Below.refl _ _ | apply zb | apply zd | apply zc)⟩
    have h1 := K1.out
    have h2 := K2.out
    have h3 := K3.out
    have h4 := K4.out
    have g1 := H1.out
    have g2 := H2.out
    have g3 := H3.out
    clear K1 K2 K3 K4 H1 H2 H3
    clear hu hu1 hu2 hu3 hu4 e1 e2
    try clear e3
    simp_all [actW]
def yJ.f (a0 : Int) (a1 : Int) : Option (Bool) := if 0 ≤ a0 then (some (decide (a0 < a1))) else (some false)
set_option maxHeartbeats 8000000 in
set_option maxRecDepth 100000 in
theorem yJ.calls (a0 : Int) (a1 : Int) (r : Bool) (w : World) (h : yJ.f a0 a1 = some r) :
    Calls Tryd.prog 84 #[.int .i64 a0, .int .i64 a1] w fun e w' => e = .returned (.bool r) ∧ ya w w' := by
  have H : (if 0 ≤ a0 then (some (decide (a0 < a1))) else (some false)) = some r := h
  clear h
  by_cases c3 : 0 ≤ a0
  · rw [if_pos c3] at H
    have c3b0 : decide (0 ≤ a0) = true := decide_eq_true c3
    clear c3
    obtain rfl := Option.some.inj H
    go_enter Tryd.func84, Tryd.ntmps84
    go_wp2
    go_ret
    exact ⟨by first | rfl | (simp; done) | (simp [*]; done), by repeat (first | exact ya.refl _ | apply ya.step)⟩
  · rw [if_neg c3] at H
    have c3b0 : decide (0 ≤ a0) = false := decide_eq_false c3
    clear c3
    obtain rfl := Option.some.inj H
    go_enter Tryd.func84, Tryd.ntmps84
    go_wp2
    go_ret
    exact ⟨by first | rfl | (simp; done) | (simp [*]; done), by repeat (first | exact ya.refl _ | apply ya.step)⟩
def xt.f (a0 : Int) : Option (Bool) := (yJ.f a0 100).bind fun t180 => (some t180)
set_option maxHeartbeats 8000000 in
set_option maxRecDepth 100000 in
theorem xt.calls (a0 : Int) (r : Bool) (w : World) (h : xt.f a0 = some r) :
    Calls Tryd.prog 66 #[.int .i64 a0] w fun e w' => e = .returned (.bool r) ∧ ya w w' := by
  have H : ((yJ.f a0 100).bind fun t180 => (some t180)) = some r := h
  clear h
  replace H := Option.bind_eq_some_iff.mp H
  obtain ⟨t180, A20, H⟩ := H
  replace H : (some t180) = some r := H
  have A2 := za.mk A20
  clear A20
  obtain rfl := Option.some.inj H
  go_enter Tryd.func66, Tryd.ntmps66
  go_wp2_with (first | ((with_reducible refine zx (f := 84) rfl ?_); refine z6 (some 4) rfl rfl Tryd.func84 (by kernel_rfl) rfl #[.int .i64 a0, .int .i64 100] rfl (by (try simp only [List.map_toArray, List.map_cons, List.map_nil]); first | done | rfl | (simp only [List.length_drop, List.length_take]; rfl)) ?_; (with_reducible refine (yJ.calls a0 100 t180 _ A2.out).mono ?_); rintro e w' ⟨rfl, ⟨nd, rfl⟩⟩; refine ⟨_, rfl, ?_⟩))
  go_ret
  exact ⟨by first | rfl | (simp; done) | (simp [*]; done), by repeat (first | exact ya.refl _ | apply ya.step)⟩
def yo.l0 : Nat → List Int → Int → Int → Option (Bool)
  | 0, _, _, _ => none
  | k + 1, x5, x6, x7 => if x7 < x6 then (if 0 ≤ x7 then (if x7 < (x5.length : Int) then ((xt.f (rd x5 x7)).bind fun t182 => (if t182 = true then (yo.l0 k x5 x6 (wrap64 (x7 + 1))) else (some false))) else (none)) else (none)) else (some true)
def yo.f (k : Nat) (l0 : List Int) : Option (Bool) := yo.l0 k l0 (l0.length : Int) 0
set_option maxHeartbeats 8000000 in
set_option maxRecDepth 100000 in
theorem yo.calls (k : Nat) (A0 : Option Addr) (c0 : Nat) (l0 : List Int) (r : Bool) (w : World) (hr0 : Kd.C (Kd.int .i64) w A0 l0.length l0) (hc0 : l0.length ≤ c0) (h : yo.f k l0 = some r) :
    Calls Tryd.prog 46 #[.slice A0 l0.length c0] w fun e w' => e = .returned (.bool r) ∧ ya w w' := by
  have HR0 := za.mk hr0
  have HC0 := za.mk hc0
  clear hr0 hc0
  have H : (yo.l0 k l0 (l0.length : Int) 0) = some r := h
  clear h
  have H' := za.mk H
  clear H
  go_enter Tryd.func46, Tryd.ntmps46
  go_wp2
  go_loopg [7] k (fun kq v7 w' => ∃ (x7_1 : Int), v7 = .int .i64 x7_1 ∧ za (yo.l0 kq l0 (l0.length : Int) x7_1 = some r) ∧ za (kq ≤ k) ∧ ya w w')
  case atStart => exact ⟨(0), (by first | rfl | (simp; done) | (simp [*]; done)), H', ⟨Nat.le_refl _⟩, by repeat (first | exact ya.refl _ | apply ya.step)⟩
  case round =>
    clear H'
    obtain ⟨x7_1, rfl, HA, HK1, ⟨m1, rfl⟩⟩ := hrel
    cases gk with
    | zero => exact absurd HA.out (by simp [yo.l0])
    | succ k1 =>
      have H := HA.out
      clear HA
      simp only [yo.l0] at H
      by_cases c2 : x7_1 < (l0.length : Int)
      · rw [if_pos c2] at H
        have c2b0 : decide (x7_1 < (l0.length : Int)) = true := decide_eq_true c2
        clear c2
        by_cases c3 : 0 ≤ x7_1
        · rw [if_pos c3] at H
          have c3b0 : decide (0 ≤ x7_1) = true := decide_eq_true c3
          clear c3
          by_cases c4 : x7_1 < (l0.length : Int)
          · rw [if_pos c4] at H
            have c4b0 : decide (x7_1 < (l0.length : Int)) = true := decide_eq_true c4
            clear c4
            replace H := Option.bind_eq_some_iff.mp H
            obtain ⟨t182, A50, H⟩ := H
            replace H : (if t182 = true then (yo.l0 k1 l0 (l0.length : Int) (wrap64 (x7_1 + 1))) else (some false)) = some r := H
            have A5 := za.mk A50
            clear A50
            by_cases c6 : t182 = true
            · subst c6
              have H1 : (yo.l0 k1 l0 (l0.length : Int) (wrap64 (x7_1 + 1))) = some r := by rw [if_pos rfl] at H; exact H
              clear H
              have H := H1
              clear H1
              have H' := za.mk H
              clear H
              have p181 : 0 ≤ (x7_1 : Int) := of_decide_eq_true (by first | (with_reducible assumption) | assumption)
              have q181 : x7_1 < (l0.length : Int) := of_decide_eq_true (by first | (with_reducible assumption) | assumption)
              obtain ⟨ad181, e181, hx181_0⟩ := Kd.xu HR0.out x7_1 p181 q181
              cases e181
              replace p181 := eq_true p181
              replace q181 := eq_true q181
              go_wp2_with (first | ((with_reducible refine zx (f := 66) rfl ?_); refine z6 (some 12) rfl rfl Tryd.func66 (by kernel_rfl) rfl #[.int .i64 (rd l0 x7_1)] rfl (by (try simp only [List.map_toArray, List.map_cons, List.map_nil]); first | done | rfl | (simp only [List.length_drop, List.length_take]; rfl)) ?_; (with_reducible refine (xt.calls (rd l0 x7_1) true _ A5.out).mono ?_); rintro e w' ⟨rfl, ⟨nd, rfl⟩⟩; refine ⟨_, rfl, ?_⟩))
              go_roundg k1
              case measure => have := HK1.out; omega
              case rel => exact ⟨(wrap64 (x7_1 + 1)), (by first | rfl | (simp; done) | (simp [*]; done)), H', ⟨by have := HK1.out; omega⟩, by repeat (first | exact ya.refl _ | apply ya.step)⟩
            · replace c6 := Bool.eq_false_iff.mpr c6
              subst c6
              have H1 : (some false) = some r := by rw [if_neg (show ¬ (false = true) by decide)] at H; exact H
              clear H
              have H := H1
              clear H1
              obtain rfl := Option.some.inj H
              have p181 : 0 ≤ (x7_1 : Int) := of_decide_eq_true (by first | (with_reducible assumption) | assumption)
              have q181 : x7_1 < (l0.length : Int) := of_decide_eq_true (by first | (with_reducible assumption) | assumption)
              obtain ⟨ad181, e181, hx181_0⟩ := Kd.xu HR0.out x7_1 p181 q181
              cases e181
              replace p181 := eq_true p181
              replace q181 := eq_true q181
              go_wp2_with (first | ((with_reducible refine zx (f := 66) rfl ?_); refine z6 (some 12) rfl rfl Tryd.func66 (by kernel_rfl) rfl #[.int .i64 (rd l0 x7_1)] rfl (by (try simp only [List.map_toArray, List.map_cons, List.map_nil]); first | done | rfl | (simp only [List.length_drop, List.length_take]; rfl)) ?_; (with_reducible refine (xt.calls (rd l0 x7_1) false _ A5.out).mono ?_); rintro e w' ⟨rfl, ⟨nd, rfl⟩⟩; refine ⟨_, rfl, ?_⟩))
              go_ret
              exact ⟨by first | rfl | (simp; done) | (simp [*]; done), by repeat (first | exact ya.refl _ | apply ya.step)⟩
          · rw [if_neg c4] at H
            exact absurd H (by simp)
        · rw [if_neg c3] at H
          exact absurd H (by simp)
      · rw [if_neg c2] at H
        have c2b0 : decide (x7_1 < (l0.length : Int)) = false := decide_eq_false c2
        clear c2
        obtain rfl := Option.some.inj H
        go_wp2
        go_ret
        exact ⟨by first | rfl | (simp; done) | (simp [*]; done), by repeat (first | exact ya.refl _ | apply ya.step)⟩
def zW.f (a0_0 : Int) (a0_1 : Int) (a0_2 : Int) : Option Part :=
  some (if a0_0 = 1 ∨ a0_0 = 2 ∨ a0_0 = 3 ∨ a0_0 = 4 then ⟨a0_0, a0_1, a0_2⟩ else if a0_0 = 5 then (if a0_2 = 0 then ⟨5, a0_1, 0⟩ else ⟨0, 0, 0⟩) else ⟨0, 0, 0⟩)
set_option maxHeartbeats 4000000 in
set_option maxRecDepth 100000 in
theorem zW.calls (a0_0 : Int) (a0_1 : Int) (a0_2 : Int) (r : Part) (w : World) (h : zW.f a0_0 a0_1 a0_2 = some r) :
    Calls Tryd.prog 51 #[.agg #[.int .i64 a0_0, .int .i64 a0_1, .int .i64 a0_2]] w fun e w' => e = .returned (partW r) ∧ Below w.heap.size w w' := by
  obtain rfl := Option.some.inj h
  clear h
  have hu := Tryd.underlying82
  have hu1 := Tryd.underlying119
  have hu2 := Tryd.underlying121
  have hu3 := Tryd.underlying123
  have hu4 := Tryd.underlying125
  have hu5 := Tryd.underlying126
  by_cases c1 : a0_0 = 1
  · subst c1
    go_enter Tryd.func51, Tryd.ntmps51
    go_wp2
    go_ret
    exact ⟨by simp [partW], zc (Below.refl _ _) _⟩
  have c1b : (a0_0 == 1) = false := beq_eq_false_iff_ne.mpr c1
  by_cases c2 : a0_0 = 2
  · subst c2
    go_enter Tryd.func51, Tryd.ntmps51
    go_wp2
    go_ret
    exact ⟨by simp [partW], zc (Below.refl _ _) _⟩
  have c2b : (a0_0 == 2) = false := beq_eq_false_iff_ne.mpr c2
  by_cases c3 : a0_0 = 3
  · subst c3
    go_enter Tryd.func51, Tryd.ntmps51
    go_wp2
    go_ret
    exact ⟨by simp [partW], zc (Below.refl _ _) _⟩
  have c3b : (a0_0 == 3) = false := beq_eq_false_iff_ne.mpr c3
  by_cases c4 : a0_0 = 4
  · subst c4
    go_enter Tryd.func51, Tryd.ntmps51
    go_wp2
    go_ret
    exact ⟨by simp [partW], zc (Below.refl _ _) _⟩
  have c4b : (a0_0 == 4) = false := beq_eq_false_iff_ne.mpr c4
  by_cases c5 : a0_0 = 5
  · subst c5
    by_cases c6 : a0_2 = 0
    · subst c6
      go_enter Tryd.func51, Tryd.ntmps51
      go_wp2
      go_ret
      exact ⟨by simp [partW], zc (Below.refl _ _) _⟩
    · have c6b : (a0_2 == 0) = false := beq_eq_false_iff_ne.mpr c6
      go_enter Tryd.func51, Tryd.ntmps51
      go_wp2
      go_ret
      exact ⟨by simp [partW, c6], zc (Below.refl _ _) _⟩
  have c5b : (a0_0 == 5) = false := beq_eq_false_iff_ne.mpr c5
  go_enter Tryd.func51, Tryd.ntmps51
  go_wp2
  go_ret
  exact ⟨by simp [partW, c1, c2, c3, c4, c5], zc (Below.refl _ _) _⟩
def yr.f (a0 : Int) : Option (Bool) := (yJ.f a0 3).bind fun t183 => (some t183)
set_option maxHeartbeats 8000000 in
set_option maxRecDepth 100000 in
theorem yr.calls (a0 : Int) (r : Bool) (w : World) (h : yr.f a0 = some r) :
    Calls Tryd.prog 68 #[.int .i64 a0] w fun e w' => e = .returned (.bool r) ∧ ya w w' := by
  have H : ((yJ.f a0 3).bind fun t183 => (some t183)) = some r := h
  clear h
  replace H := Option.bind_eq_some_iff.mp H
  obtain ⟨t183, A20, H⟩ := H
  replace H : (some t183) = some r := H
  have A2 := za.mk A20
  clear A20
  obtain rfl := Option.some.inj H
  go_enter Tryd.func68, Tryd.ntmps68
  go_wp2_with (first | ((with_reducible refine zx (f := 84) rfl ?_); refine z6 (some 4) rfl rfl Tryd.func84 (by kernel_rfl) rfl #[.int .i64 a0, .int .i64 3] rfl (by (try simp only [List.map_toArray, List.map_cons, List.map_nil]); first | done | rfl | (simp only [List.length_drop, List.length_take]; rfl)) ?_; (with_reducible refine (yJ.calls a0 3 t183 _ A2.out).mono ?_); rintro e w' ⟨rfl, ⟨nd, rfl⟩⟩; refine ⟨_, rfl, ?_⟩))
  go_ret
  exact ⟨by first | rfl | (simp; done) | (simp [*]; done), by repeat (first | exact ya.refl _ | apply ya.step)⟩
end Go.Proofs.YtoeepmcaabmjkaaDoor.QPO
namespace Go.Proofs.YtoeepmcaabmjkaaDoor.QPO
open Go.RowKit Go.Proofs.YtoeepmcaabmjkaaDoorW.PrintWords Go.Proofs.YtoeepmcaabmjkaaDoorW.PrintLast Go.Proofs.YtoeepmcaabmjkaaDoorW.PrintMore
attribute [local go_sem] yz yx yQ yP yl yk yy yw   -- for this text's walks alone
set_option linter.unusedVariables false
set_option linter.unusedSimpArgs false
def xc.f (a0 : Part) (a1 : Int) : Option Bool :=
  if a0.t = 1 then (yr.f a0.a).bind fun b => if b = true then yJ.f a0.b a1 else some false
  else if a0.t = 2 then (yJ.f a0.a a1).bind fun b => if b = true then yr.f a0.b else some false
  else if a0.t = 3 then (yr.f a0.a).bind fun b => if b = true then xt.f a0.b else some false
  else if a0.t = 4 then (yr.f a0.a).bind fun b => if b = true then yr.f a0.b else some false
  else if a0.t = 5 then yr.f a0.a
  else some false
set_option maxHeartbeats 8000000 in
set_option maxRecDepth 100000 in
theorem xc.calls (a0 : Part) (a1 : Int) (r : Bool) (w : World) (h : xc.f a0 a1 = some r) :
    Calls Tryd.prog 85 #[partW a0, .int .i64 a1] w fun e w' => e = .returned (.bool r) ∧ Below w.heap.size w w' := by
  obtain ⟨t, a, b⟩ := a0
  have hu1 := Tryd.underlying119
  have hu2 := Tryd.underlying121
  have hu3 := Tryd.underlying123
  have hu4 := Tryd.underlying125
  have hu5 := Tryd.underlying126
  unfold xc.f at h
  simp only at h
  by_cases c1 : t = 1
  · subst c1
    rw [if_pos rfl] at h
    show Calls Tryd.prog 85 #[.iface 119 (.agg #[.int .i64 a, .int .i64 b]), .int .i64 a1] w _
    have y1 : ∀ W, (Instr.typeAssert (.iface 119 (.agg #[.int .i64 a, .int .i64 b])) 57 119 true).run Tryd.prog W = .ok (.tuple #[.agg #[.int .i64 a, .int .i64 b], .bool true]) W := fun W => by kernel_rfl
    obtain ⟨b1, h1, h2⟩ := Option.bind_eq_some_iff.1 h
    clear h
    have H1 := za.mk h1
    clear h1
    cases b1 with
    | false =>
      obtain rfl : r = false := by simpa using h2.symm
      clear h2
      go_enter Tryd.func85, Tryd.ntmps85
      go_wp2_with fail
      refine (yr.calls a false _ H1.out).mono ?_
      rintro e w1 ⟨rfl, hd⟩
      obtain ⟨nd, rfl⟩ := hd.out
      go_wp2
      go_ret
      exact ⟨rfl, zb (zc (Below.refl _ _) _) _⟩
    | true =>
      have H2 := za.mk (show yJ.f b a1 = some r from h2)
      clear h2
      go_enter Tryd.func85, Tryd.ntmps85
      go_wp2_with fail
      refine (yr.calls a true _ H1.out).mono ?_
      rintro e w1 ⟨rfl, hd⟩
      obtain ⟨nd, rfl⟩ := hd.out
      go_wp2_with fail
      refine (yJ.calls b a1 r _ H2.out).mono ?_
      rintro e w2 ⟨rfl, hd2⟩
      obtain ⟨nd2, rfl⟩ := hd2.out
      go_wp2
      go_ret
      exact ⟨rfl, by repeat (first | exact Below.refl _ _ | apply zb | apply zc)⟩
  by_cases c2 : t = 2
  · subst c2
    rw [if_neg (by decide), if_pos rfl] at h
    show Calls Tryd.prog 85 #[.iface 121 (.agg #[.int .i64 a, .int .i64 b]), .int .i64 a1] w _
    have y1 : ∀ W, (Instr.typeAssert (.iface 121 (.agg #[.int .i64 a, .int .i64 b])) 57 119 true).run Tryd.prog W = .ok (.tuple #[.agg #[.int .i64 0, .int .i64 0], .bool false]) W := fun W => by kernel_rfl
    have y2 : ∀ W, (Instr.typeAssert (.iface 121 (.agg #[.int .i64 a, .int .i64 b])) 57 121 true).run Tryd.prog W = .ok (.tuple #[.agg #[.int .i64 a, .int .i64 b], .bool true]) W := fun W => by kernel_rfl
    obtain ⟨b1, h1, h2⟩ := Option.bind_eq_some_iff.1 h
    clear h
    have H1 := za.mk h1
    clear h1
    cases b1 with
    | false =>
      obtain rfl : r = false := by simpa using h2.symm
      clear h2
      go_enter Tryd.func85, Tryd.ntmps85
      go_wp2_with fail
      refine (yJ.calls a a1 false _ H1.out).mono ?_
      rintro e w1 ⟨rfl, hd⟩
      obtain ⟨nd, rfl⟩ := hd.out
      go_wp2
      go_ret
      exact ⟨rfl, zb (zc (Below.refl _ _) _) _⟩
    | true =>
      have H2 := za.mk (show yr.f b = some r from h2)
      clear h2
      go_enter Tryd.func85, Tryd.ntmps85
      go_wp2_with fail
      refine (yJ.calls a a1 true _ H1.out).mono ?_
      rintro e w1 ⟨rfl, hd⟩
      obtain ⟨nd, rfl⟩ := hd.out
      go_wp2_with fail
      refine (yr.calls b r _ H2.out).mono ?_
      rintro e w2 ⟨rfl, hd2⟩
      obtain ⟨nd2, rfl⟩ := hd2.out
      go_wp2
      go_ret
      exact ⟨rfl, by repeat (first | exact Below.refl _ _ | apply zb | apply zc)⟩
  by_cases c3 : t = 3
  · subst c3
    rw [if_neg (by decide), if_neg (by decide), if_pos rfl] at h
    show Calls Tryd.prog 85 #[.iface 123 (.agg #[.int .i64 a, .int .i64 b]), .int .i64 a1] w _
    have y1 : ∀ W, (Instr.typeAssert (.iface 123 (.agg #[.int .i64 a, .int .i64 b])) 57 119 true).run Tryd.prog W = .ok (.tuple #[.agg #[.int .i64 0, .int .i64 0], .bool false]) W := fun W => by kernel_rfl
    have y2 : ∀ W, (Instr.typeAssert (.iface 123 (.agg #[.int .i64 a, .int .i64 b])) 57 121 true).run Tryd.prog W = .ok (.tuple #[.agg #[.int .i64 0, .int .i64 0], .bool false]) W := fun W => by kernel_rfl
    have y3 : ∀ W, (Instr.typeAssert (.iface 123 (.agg #[.int .i64 a, .int .i64 b])) 57 123 true).run Tryd.prog W = .ok (.tuple #[.agg #[.int .i64 a, .int .i64 b], .bool true]) W := fun W => by kernel_rfl
    obtain ⟨b1, h1, h2⟩ := Option.bind_eq_some_iff.1 h
    clear h
    have H1 := za.mk h1
    clear h1
    cases b1 with
    | false =>
      obtain rfl : r = false := by simpa using h2.symm
      clear h2
      go_enter Tryd.func85, Tryd.ntmps85
      go_wp2_with fail
      refine (yr.calls a false _ H1.out).mono ?_
      rintro e w1 ⟨rfl, hd⟩
      obtain ⟨nd, rfl⟩ := hd.out
      go_wp2
      go_ret
      exact ⟨rfl, zb (zc (Below.refl _ _) _) _⟩
    | true =>
      have H2 := za.mk (show xt.f b = some r from h2)
      clear h2
      go_enter Tryd.func85, Tryd.ntmps85
      go_wp2_with fail
      refine (yr.calls a true _ H1.out).mono ?_
      rintro e w1 ⟨rfl, hd⟩
      obtain ⟨nd, rfl⟩ := hd.out
      go_wp2_with fail
      refine (xt.calls b r _ H2.out).mono ?_
      rintro e w2 ⟨rfl, hd2⟩
      obtain ⟨nd2, rfl⟩ := hd2.out
      go_wp2
      go_ret
      exact ⟨rfl, by repeat (first | exact Below.refl _ _ | apply zb | apply zc)⟩
  by_cases c4 : t = 4
  · subst c4
    rw [if_neg (by decide), if_neg (by decide), if_neg (by decide), if_pos rfl] at h
    show Calls Tryd.prog 85 #[.iface 125 (.agg #[.int .i64 a, .int .i64 b]), .int .i64 a1] w _
    have y1 : ∀ W, (Instr.typeAssert (.iface 125 (.agg #[.int .i64 a, .int .i64 b])) 57 119 true).run Tryd.prog W = .ok (.tuple #[.agg #[.int .i64 0, .int .i64 0], .bool false]) W := fun W => by kernel_rfl
    have y2 : ∀ W, (Instr.typeAssert (.iface 125 (.agg #[.int .i64 a, .int .i64 b])) 57 121 true).run Tryd.prog W = .ok (.tuple #[.agg #[.int .i64 0, .int .i64 0], .bool false]) W := fun W => by kernel_rfl
    have y3 : ∀ W, (Instr.typeAssert (.iface 125 (.agg #[.int .i64 a, .int .i64 b])) 57 123 true).run Tryd.prog W = .ok (.tuple #[.agg #[.int .i64 0, .int .i64 0], .bool false]) W := fun W => by kernel_rfl
    have y4 : ∀ W, (Instr.typeAssert (.iface 125 (.agg #[.int .i64 a, .int .i64 b])) 57 125 true).run Tryd.prog W = .ok (.tuple #[.agg #[.int .i64 a, .int .i64 b], .bool true]) W := fun W => by kernel_rfl
    obtain ⟨b1, h1, h2⟩ := Option.bind_eq_some_iff.1 h
    clear h
    have H1 := za.mk h1
    clear h1
    cases b1 with
    | false =>
      obtain rfl : r = false := by simpa using h2.symm
      clear h2
      go_enter Tryd.func85, Tryd.ntmps85
      go_wp2_with fail
      refine (yr.calls a false _ H1.out).mono ?_
      rintro e w1 ⟨rfl, hd⟩
      obtain ⟨nd, rfl⟩ := hd.out
      go_wp2
      go_ret
      exact ⟨rfl, zb (zc (Below.refl _ _) _) _⟩
    | true =>
      have H2 := za.mk (show yr.f b = some r from h2)
      clear h2
      go_enter Tryd.func85, Tryd.ntmps85
      go_wp2_with fail
      refine (yr.calls a true _ H1.out).mono ?_
      rintro e w1 ⟨rfl, hd⟩
      obtain ⟨nd, rfl⟩ := hd.out
      go_wp2_with fail
      refine (yr.calls b r _ H2.out).mono ?_
      rintro e w2 ⟨rfl, hd2⟩
      obtain ⟨nd2, rfl⟩ := hd2.out
      go_wp2
      go_ret
      exact ⟨rfl, by repeat (first | exact Below.refl _ _ | apply zb | apply zc)⟩
  by_cases c5 : t = 5
  · subst c5
    rw [if_neg (by decide), if_neg (by decide), if_neg (by decide), if_neg (by decide), if_pos rfl] at h
    show Calls Tryd.prog 85 #[.iface 126 (.agg #[.int .i64 a]), .int .i64 a1] w _
    have y1 : ∀ W, (Instr.typeAssert (.iface 126 (.agg #[.int .i64 a])) 57 119 true).run Tryd.prog W = .ok (.tuple #[.agg #[.int .i64 0, .int .i64 0], .bool false]) W := fun W => by kernel_rfl
    have y2 : ∀ W, (Instr.typeAssert (.iface 126 (.agg #[.int .i64 a])) 57 121 true).run Tryd.prog W = .ok (.tuple #[.agg #[.int .i64 0, .int .i64 0], .bool false]) W := fun W => by kernel_rfl
    have y3 : ∀ W, (Instr.typeAssert (.iface 126 (.agg #[.int .i64 a])) 57 123 true).run Tryd.prog W = .ok (.tuple #[.agg #[.int .i64 0, .int .i64 0], .bool false]) W := fun W => by kernel_rfl
    have y4 : ∀ W, (Instr.typeAssert (.iface 126 (.agg #[.int .i64 a])) 57 125 true).run Tryd.prog W = .ok (.tuple #[.agg #[.int .i64 0, .int .i64 0], .bool false]) W := fun W => by kernel_rfl
    have y5 : ∀ W, (Instr.typeAssert (.iface 126 (.agg #[.int .i64 a])) 57 126 true).run Tryd.prog W = .ok (.tuple #[.agg #[.int .i64 a], .bool true]) W := fun W => by kernel_rfl
    have H1 := za.mk h
    clear h
    go_enter Tryd.func85, Tryd.ntmps85
    go_wp2_with fail
    refine (yr.calls a r _ H1.out).mono ?_
    rintro e w1 ⟨rfl, hd⟩
    obtain ⟨nd, rfl⟩ := hd.out
    go_wp2
    go_ret
    exact ⟨rfl, zb (zc (Below.refl _ _) _) _⟩
  rw [if_neg c1, if_neg c2, if_neg c3, if_neg c4, if_neg c5] at h
  obtain rfl := Option.some.inj h
  have hp : partW ⟨t, a, b⟩ = .nilIface := by simp [partW, c1, c2, c3, c4, c5]
  rw [hp]
  clear hp c1 c2 c3 c4 c5 h
  have y1 : ∀ W, (Instr.typeAssert .nilIface 57 119 true).run Tryd.prog W = .ok (.tuple #[.agg #[.int .i64 0, .int .i64 0], .bool false]) W := fun W => by kernel_rfl
  have y2 : ∀ W, (Instr.typeAssert .nilIface 57 121 true).run Tryd.prog W = .ok (.tuple #[.agg #[.int .i64 0, .int .i64 0], .bool false]) W := fun W => by kernel_rfl
  have y3 : ∀ W, (Instr.typeAssert .nilIface 57 123 true).run Tryd.prog W = .ok (.tuple #[.agg #[.int .i64 0, .int .i64 0], .bool false]) W := fun W => by kernel_rfl
  have y4 : ∀ W, (Instr.typeAssert .nilIface 57 125 true).run Tryd.prog W = .ok (.tuple #[.agg #[.int .i64 0, .int .i64 0], .bool false]) W := fun W => by kernel_rfl
  have y5 : ∀ W, (Instr.typeAssert .nilIface 57 126 true).run Tryd.prog W = .ok (.tuple #[.agg #[.int .i64 0], .bool false]) W := fun W => by kernel_rfl
  go_enter Tryd.func85, Tryd.ntmps85
  go_wp2
  go_ret
  exact ⟨rfl, Below.refl _ _⟩
end Go.Proofs.YtoeepmcaabmjkaaDoor.QPO
namespace Go.Proofs.YtoeepmcaabmjkaaDoor.QPO
open Go.RowKit Go.Proofs.YtoeepmcaabmjkaaDoorW.PrintWords Go.Proofs.YtoeepmcaabmjkaaDoorW.PrintLast Go.Proofs.YtoeepmcaabmjkaaDoorW.PrintMore
attribute [local go_sem] yz yx yQ yP yl yk yy yw   -- for this text's walks alone
set_option linter.unusedVariables false
set_option linter.unusedSimpArgs false
mutual
def zO.j0 : Nat → List (S82) → Int → Bool → Option (Bool)
  | 0, _, _, _ => none
  | k + 1, x0, x1, x17 => if x17 = true then (some false) else (zO.l0 k x1 x0 (x0.length : Int) 0)
def zO.l0 : Nat → Int → List (S82) → Int → Int → Option (Bool)
  | 0, _, _, _, _ => none
  | k + 1, x1, x18, x19, x20 => if x20 < x19 then (if 0 ≤ x20 then (if x20 < (x18.length : Int) then ((zW.f ((zP x18 x20).f0) ((zP x18 x20).f1) ((zP x18 x20).f2)).bind fun t186 => ((xc.f t186 x1).bind fun t187 => (if t187 = true then (zO.l0 k x1 x18 x19 (wrap64 (x20 + 1))) else (some false)))) else (none)) else (none)) else (some true)
end
def zO.f (k : Nat) (l0 : List (S82)) (a1 : Int) : Option (Bool) := if a1 < 0 then (zO.j0 k l0 a1 true) else (if a1 > 3 then (zO.j0 k l0 a1 true) else (zO.j0 k l0 a1 (decide ((l0.length : Int) > 5))))
set_option maxHeartbeats 8000000 in
set_option maxRecDepth 100000 in
theorem zO.calls (k : Nat) (A0 : Option Addr) (c0 : Nat) (l0 : List (S82)) (a1 : Int) (r : Bool) (w : World) (hr0 : Kd.C k82 w A0 l0.length l0) (hc0 : l0.length ≤ c0) (h : zO.f k l0 a1 = some r) :
    Calls Tryd.prog 67 #[.slice A0 l0.length c0, .int .i64 a1] w fun e w' => e = .returned (.bool r) ∧ Below w.heap.size w w' := by
  have hu82 := Tryd.underlying82
  have HR0 := za.mk hr0
  have HC0 := za.mk hc0
  clear hr0 hc0
  have HB := za.mk (Below.refl w.heap.size w)
  have H : (if a1 < 0 then (zO.j0 k l0 a1 true) else (if a1 > 3 then (zO.j0 k l0 a1 true) else (zO.j0 k l0 a1 (decide ((l0.length : Int) > 5))))) = some r := h
  clear h
  have HC3 := za.mk H
  clear H
  go_enter Tryd.func67, Tryd.ntmps67
  go_upto_region 1 with (fail)
  go_cut [17] (fun v17 wc => ∃ (kq : Nat) (x17_2 : Bool), v17 = .bool x17_2 ∧ za (zO.j0 kq l0 a1 x17_2 = some r) ∧ za (kq ≤ k) ∧ za (Below w.heap.size w wc))
  case first =>
    have H := HC3.out
    clear HC3
    by_cases c4 : a1 < 0
    · rw [if_pos c4] at H
      have c4b0 : decide (a1 < 0) = true := decide_eq_true c4
      clear c4
      (first | rw [c4b0] | (simp only [zn, zo]; rw [c4b0]) | skip)
      have H' := za.mk H
      clear H
      go_wp2
      go_meet
      case rel => exact ⟨_, (true), (by first | rfl | (simp; done) | (simp [*]; done)), H', ⟨by first | omega | exact Nat.le_refl _⟩, ⟨by repeat (with_reducible first | exact HB.out | apply zc | apply zb | apply zd)⟩⟩
    · rw [if_neg c4] at H
      have c4b0 : decide (a1 < 0) = false := decide_eq_false c4
      clear c4
      (first | rw [c4b0] | (simp only [zn, zo]; rw [c4b0]) | skip)
      by_cases c5 : a1 > 3
      · rw [if_pos c5] at H
        have c5b0 : decide (3 < a1) = true := decide_eq_true c5
        clear c5
        have H' := za.mk H
        clear H
        go_wp2
        go_meet
        case rel => exact ⟨_, (true), (by first | rfl | (simp; done) | (simp [*]; done)), H', ⟨by first | omega | exact Nat.le_refl _⟩, ⟨by repeat (with_reducible first | exact HB.out | apply zc | apply zb | apply zd)⟩⟩
      · rw [if_neg c5] at H
        have c5b0 : decide (3 < a1) = false := decide_eq_false c5
        clear c5
        have H' := za.mk H
        clear H
        go_wp2
        go_meet
        case rel => exact ⟨_, (decide ((l0.length : Int) > 5)), (by first | rfl | (simp; done) | (simp [*]; done)), H', ⟨by first | omega | exact Nat.le_refl _⟩, ⟨by repeat (with_reducible first | exact HB.out | apply zc | apply zb | apply zd)⟩⟩
  case rest =>
    clear HC3
    try clear p2
    try clear c4
    try clear c4b0
    try clear c5
    try clear c5b0
    obtain ⟨kq, x17_2, rfl, HA, HJ2, HB⟩ := hcut
    cases kq with
    | zero => exact absurd HA.out (by simp [zO.j0])
    | succ kj2 =>
      have H := HA.out
      clear HA
      simp only [zO.j0] at H
      by_cases c6 : x17_2 = true
      · subst c6
        have H1 : (some false) = some r := by rw [if_pos rfl] at H; exact H
        clear H
        have H := H1
        clear H1
        obtain rfl := Option.some.inj H
        go_wp2
        go_ret
        exact ⟨by first | rfl | (simp [zr, zq] <;> rfl) | (simp [*, zr, zq] <;> rfl), by repeat (with_reducible first | exact HB.out | apply zc | apply zb | apply zd)⟩
      · replace c6 := Bool.eq_false_iff.mpr c6
        subst c6
        have H1 : (zO.l0 kj2 a1 l0 (l0.length : Int) 0) = some r := by rw [if_neg (show ¬ (false = true) by decide)] at H; exact H
        clear H
        have H := H1
        clear H1
        have H' := za.mk H
        clear H
        go_wp2
        go_loopg [20] kj2 (fun kq v20 w' => ∃ (x20_2 : Int), v20 = .int .i64 x20_2 ∧ za (zO.l0 kq a1 l0 (l0.length : Int) x20_2 = some r) ∧ za (kq ≤ kj2) ∧ za (Below w.heap.size w w'))
        case atStart => exact ⟨(0), (by first | rfl | (simp; done) | (simp [*]; done)), H', ⟨Nat.le_refl _⟩, ⟨by repeat (with_reducible first | exact HB.out | apply zc | apply zb | apply zd)⟩⟩
        case round =>
          clear H'
          try clear p2
          try clear c4
          try clear c4b0
          try clear c5
          try clear c5b0
          try clear c6
          try clear p2
          obtain ⟨x20_2, rfl, HA, HK2, HB⟩ := hrel
          cases gk with
          | zero => exact absurd HA.out (by simp [zO.l0])
          | succ k2 =>
            have H := HA.out
            clear HA
            simp only [zO.l0] at H
            by_cases c7 : x20_2 < (l0.length : Int)
            · rw [if_pos c7] at H
              have c7b0 : decide (x20_2 < (l0.length : Int)) = true := decide_eq_true c7
              clear c7
              by_cases c8 : 0 ≤ x20_2
              · rw [if_pos c8] at H
                have c8b0 : decide (0 ≤ x20_2) = true := decide_eq_true c8
                clear c8
                by_cases c9 : x20_2 < (l0.length : Int)
                · rw [if_pos c9] at H
                  have c9b0 : decide (x20_2 < (l0.length : Int)) = true := decide_eq_true c9
                  clear c9
                  replace H := Option.bind_eq_some_iff.mp H
                  obtain ⟨t186, A100, H⟩ := H
                  replace H : ((xc.f t186 a1).bind fun t187 => (if t187 = true then (zO.l0 k2 a1 l0 (l0.length : Int) (wrap64 (x20_2 + 1))) else (some false))) = some r := H
                  have A10 := za.mk A100
                  clear A100
                  replace H := Option.bind_eq_some_iff.mp H
                  obtain ⟨t187, A110, H⟩ := H
                  replace H : (if t187 = true then (zO.l0 k2 a1 l0 (l0.length : Int) (wrap64 (x20_2 + 1))) else (some false)) = some r := H
                  have A11 := za.mk A110
                  clear A110
                  by_cases c12 : t187 = true
                  · subst c12
                    have H1 : (zO.l0 k2 a1 l0 (l0.length : Int) (wrap64 (x20_2 + 1))) = some r := by rw [if_pos rfl] at H; exact H
                    clear H
                    have H := H1
                    clear H1
                    have H' := za.mk H
                    clear H
                    have p184 : 0 ≤ (x20_2 : Int) := of_decide_eq_true (by first | (with_reducible assumption) | assumption)
                    have q184 : x20_2 < (l0.length : Int) := of_decide_eq_true (by first | (with_reducible assumption) | assumption)
                    obtain ⟨ad184, e184, hx184_0, hx184_1, hx184_2⟩ := at_T82 HR0.out x20_2 p184 q184
                    cases e184
                    replace hx184_0 := (HB.out.cell (World.block_lt_of_cell? w _ hx184_0)).trans hx184_0
                    replace hx184_1 := (HB.out.cell (World.block_lt_of_cell? w _ hx184_1)).trans hx184_1
                    replace hx184_2 := (HB.out.cell (World.block_lt_of_cell? w _ hx184_2)).trans hx184_2
                    replace p184 := eq_true p184
                    replace q184 := eq_true q184
                    go_wp2_with (first | ((with_reducible refine zY (N := 6) rfl ?_); (try (refine xK (by rfl) ?_; dsimp only)); refine ye ?hg (N := 6) ?hd (cs := #[.int .i64 0, .int .i64 0, .int .i64 0]) (t := 82) ?hr ?_; (case hd => rfl); (case hg => rfl); (case hr => first | (go_simp; done) | (go_simp; rfl)); intro gb185 hg w13 hbox hb; have n0_ := za.mk (zp (by repeat (with_reducible first | exact HB.out | apply zc | apply zb | apply zd)) hb); have n1_ := za.mk (hbox); have n2_ := za.mk ((by rw [hg]; exact (zy (by repeat (with_reducible first | exact HB.out | apply zc | apply zb | apply zd))) : w.heap.size ≤ gb185)); have n3_ := za.mk ((by rw [hg]; exact (zy (by repeat (with_reducible first | exact HB.out | apply zc | apply zb | apply zd))) : w.heap.size ≤ gb185)); clear HB; have HB := n0_; have BK185 := n1_; have GW185 := n2_; have GE185 := n3_; clear n0_ n1_ n2_ n3_; clear hb hbox hg; have hcz14_0 : w13.cell? ⟨gb185, 0, none⟩ = some (.int .i64 0) := (zf BK185.out 0).trans rfl; have hcz14_1 : w13.cell? ⟨gb185, 1, none⟩ = some (.int .i64 0) := (zf BK185.out 1).trans rfl; have hcz14_2 : w13.cell? ⟨gb185, 2, none⟩ = some (.int .i64 0) := (zf BK185.out 2).trans rfl; have hfz14_0 := zg BK185.out 0; have hfz14_1 := zg BK185.out 1; have hfz14_2 := zg BK185.out 2) | ((with_reducible refine zx (f := 51) rfl ?_); refine z6 (some 25) rfl rfl Tryd.func51 (by kernel_rfl) rfl #[.agg #[.int .i64 ((zP l0 x20_2).f0), .int .i64 ((zP l0 x20_2).f1), .int .i64 ((zP l0 x20_2).f2)]] rfl (by (try simp only [List.map_toArray, List.map_cons, List.map_nil]); first | done | rfl | (simp only [List.length_drop, List.length_take]; rfl)) ?_; (with_reducible refine (zW.calls ((zP l0 x20_2).f0) ((zP l0 x20_2).f1) ((zP l0 x20_2).f2) t186 _ A10.out).mono ?_); rintro e w15 ⟨rfl, hb⟩; refine ⟨_, rfl, ?_⟩; have n0_ := za.mk (zI (g := gb185) (o := .cells #[.int .i64 ((zP l0 x20_2).f0), .int .i64 ((zP l0 x20_2).f1), .int .i64 ((zP l0 x20_2).f2)] 82 (0, 0)) (by (with_reducible repeat (first | refine zl ?_ _ | refine zm ?_ | refine zj ?_ _)); refine yH (cs := #[.int .i64 ((zP l0 x20_2).f0), .int .i64 ((zP l0 x20_2).f1), .int .i64 0]) ?_ 2 _ rfl; (with_reducible repeat (first | refine zl ?_ _ | refine zm ?_ | refine zj ?_ _)); refine yH (cs := #[.int .i64 ((zP l0 x20_2).f0), .int .i64 0, .int .i64 0]) ?_ 1 _ rfl; (with_reducible repeat (first | refine zl ?_ _ | refine zm ?_ | refine zj ?_ _)); refine yH (cs := #[.int .i64 0, .int .i64 0, .int .i64 0]) ?_ 0 _ rfl; (with_reducible repeat (first | refine zl ?_ _ | refine zm ?_ | refine zj ?_ _)); exact BK185.out) hb); have n1_ := za.mk (zp (by repeat (with_reducible first | exact HB.out | apply zc | apply zb | apply zd | refine zh ?_ GE185.out)) hb); clear BK185; clear HB; have BK185 := n0_; have HB := n1_; clear n0_ n1_; (try clear hb); (try clear hb2); (try clear hk); (try clear hi)) | ((with_reducible refine zx (f := 85) rfl ?_); refine z6 (some 27) rfl rfl Tryd.func85 (by kernel_rfl) rfl #[partW t186, .int .i64 a1] rfl (by (try simp only [List.map_toArray, List.map_cons, List.map_nil]); first | done | rfl | (simp only [List.length_drop, List.length_take]; rfl)) ?_; (with_reducible refine (xc.calls t186 a1 true _ A11.out).mono ?_); rintro e w16 ⟨rfl, hb⟩; refine ⟨_, rfl, ?_⟩; have n0_ := za.mk (zI (g := gb185) (o := .cells #[.int .i64 ((zP l0 x20_2).f0), .int .i64 ((zP l0 x20_2).f1), .int .i64 ((zP l0 x20_2).f2)] 82 (0, 0)) (by (with_reducible repeat (first | refine zl ?_ _ | refine zm ?_ | refine zj ?_ _)); exact BK185.out) hb); have n1_ := za.mk (zp (by repeat (with_reducible first | exact HB.out | apply zc | apply zb | apply zd | refine zh ?_ GE185.out)) hb); clear BK185; clear HB; have BK185 := n0_; have HB := n1_; clear n0_ n1_; (try clear hb); (try clear hb2); (try clear hk); (try clear hi)))
                    go_roundg k2
                    case measure => have := HJ2.out; have := HK2.out; omega
                    case rel => exact ⟨(wrap64 (x20_2 + 1)), (by first | rfl | (simp; done) | (simp [*]; done)), H', ⟨by have := HJ2.out; have := HK2.out; omega⟩, ⟨by repeat (with_reducible first | exact HB.out | apply zc | apply zb | apply zd | refine zh ?_ GE185.out)⟩⟩
                  · replace c12 := Bool.eq_false_iff.mpr c12
                    subst c12
                    have H1 : (some false) = some r := by rw [if_neg (show ¬ (false = true) by decide)] at H; exact H
                    clear H
                    have H := H1
                    clear H1
                    obtain rfl := Option.some.inj H
                    have p184 : 0 ≤ (x20_2 : Int) := of_decide_eq_true (by first | (with_reducible assumption) | assumption)
                    have q184 : x20_2 < (l0.length : Int) := of_decide_eq_true (by first | (with_reducible assumption) | assumption)
                    obtain ⟨ad184, e184, hx184_0, hx184_1, hx184_2⟩ := at_T82 HR0.out x20_2 p184 q184
                    cases e184
                    replace hx184_0 := (HB.out.cell (World.block_lt_of_cell? w _ hx184_0)).trans hx184_0
                    replace hx184_1 := (HB.out.cell (World.block_lt_of_cell? w _ hx184_1)).trans hx184_1
                    replace hx184_2 := (HB.out.cell (World.block_lt_of_cell? w _ hx184_2)).trans hx184_2
                    replace p184 := eq_true p184
                    replace q184 := eq_true q184
                    go_wp2_with (first | ((with_reducible refine zY (N := 6) rfl ?_); (try (refine xK (by rfl) ?_; dsimp only)); refine ye ?hg (N := 6) ?hd (cs := #[.int .i64 0, .int .i64 0, .int .i64 0]) (t := 82) ?hr ?_; (case hd => rfl); (case hg => rfl); (case hr => first | (go_simp; done) | (go_simp; rfl)); intro gb185 hg w17 hbox hb; have n0_ := za.mk (zp (by repeat (with_reducible first | exact HB.out | apply zc | apply zb | apply zd)) hb); have n1_ := za.mk (hbox); have n2_ := za.mk ((by rw [hg]; exact (zy (by repeat (with_reducible first | exact HB.out | apply zc | apply zb | apply zd))) : w.heap.size ≤ gb185)); have n3_ := za.mk ((by rw [hg]; exact (zy (by repeat (with_reducible first | exact HB.out | apply zc | apply zb | apply zd))) : w.heap.size ≤ gb185)); clear HB; have HB := n0_; have BK185 := n1_; have GW185 := n2_; have GE185 := n3_; clear n0_ n1_ n2_ n3_; clear hb hbox hg; have hcz18_0 : w17.cell? ⟨gb185, 0, none⟩ = some (.int .i64 0) := (zf BK185.out 0).trans rfl; have hcz18_1 : w17.cell? ⟨gb185, 1, none⟩ = some (.int .i64 0) := (zf BK185.out 1).trans rfl; have hcz18_2 : w17.cell? ⟨gb185, 2, none⟩ = some (.int .i64 0) := (zf BK185.out 2).trans rfl; have hfz18_0 := zg BK185.out 0; have hfz18_1 := zg BK185.out 1; have hfz18_2 := zg BK185.out 2) | ((with_reducible refine zx (f := 51) rfl ?_); refine z6 (some 25) rfl rfl Tryd.func51 (by kernel_rfl) rfl #[.agg #[.int .i64 ((zP l0 x20_2).f0), .int .i64 ((zP l0 x20_2).f1), .int .i64 ((zP l0 x20_2).f2)]] rfl (by (try simp only [List.map_toArray, List.map_cons, List.map_nil]); first | done | rfl | (simp only [List.length_drop, List.length_take]; rfl)) ?_; (with_reducible refine (zW.calls ((zP l0 x20_2).f0) ((zP l0 x20_2).f1) ((zP l0 x20_2).f2) t186 _ A10.out).mono ?_); rintro e w19 ⟨rfl, hb⟩; refine ⟨_, rfl, ?_⟩; have n0_ := za.mk (zI (g := gb185) (o := .cells #[.int .i64 ((zP l0 x20_2).f0), .int .i64 ((zP l0 x20_2).f1), .int .i64 ((zP l0 x20_2).f2)] 82 (0, 0)) (by (with_reducible repeat (first | refine zl ?_ _ | refine zm ?_ | refine zj ?_ _)); refine yH (cs := #[.int .i64 ((zP l0 x20_2).f0), .int .i64 ((zP l0 x20_2).f1), .int .i64 0]) ?_ 2 _ rfl; (with_reducible repeat (first | refine zl ?_ _ | refine zm ?_ | refine zj ?_ _)); refine yH (cs := #[.int .i64 ((zP l0 x20_2).f0), .int .i64 0, .int .i64 0]) ?_ 1 _ rfl; (with_reducible repeat (first | refine zl ?_ _ | refine zm ?_ | refine zj ?_ _)); refine yH (cs := #[.int .i64 0, .int .i64 0, .int .i64 0]) ?_ 0 _ rfl; (with_reducible repeat (first | refine zl ?_ _ | refine zm ?_ | refine zj ?_ _)); exact BK185.out) hb); have n1_ := za.mk (zp (by repeat (with_reducible first | exact HB.out | apply zc | apply zb | apply zd | refine zh ?_ GE185.out)) hb); clear BK185; clear HB; have BK185 := n0_; have HB := n1_; clear n0_ n1_; (try clear hb); (try clear hb2); (try clear hk); (try clear hi)) | ((with_reducible refine zx (f := 85) rfl ?_); refine z6 (some 27) rfl rfl Tryd.func85 (by kernel_rfl) rfl #[partW t186, .int .i64 a1] rfl (by (try simp only [List.map_toArray, List.map_cons, List.map_nil]); first | done | rfl | (simp only [List.length_drop, List.length_take]; rfl)) ?_; (with_reducible refine (xc.calls t186 a1 false _ A11.out).mono ?_); rintro e w20 ⟨rfl, hb⟩; refine ⟨_, rfl, ?_⟩; have n0_ := za.mk (zI (g := gb185) (o := .cells #[.int .i64 ((zP l0 x20_2).f0), .int .i64 ((zP l0 x20_2).f1), .int .i64 ((zP l0 x20_2).f2)] 82 (0, 0)) (by (with_reducible repeat (first | refine zl ?_ _ | refine zm ?_ | refine zj ?_ _)); exact BK185.out) hb); have n1_ := za.mk (zp (by repeat (with_reducible first | exact HB.out | apply zc | apply zb | apply zd | refine zh ?_ GE185.out)) hb); clear BK185; clear HB; have BK185 := n0_; have HB := n1_; clear n0_ n1_; (try clear hb); (try clear hb2); (try clear hk); (try clear hi)))
                    go_ret
                    exact ⟨by first | rfl | (simp [zr, zq] <;> rfl) | (simp [*, zr, zq] <;> rfl), by repeat (with_reducible first | exact HB.out | apply zc | apply zb | apply zd | refine zh ?_ GE185.out)⟩
                · rw [if_neg c9] at H
                  exact absurd H (by simp)
              · rw [if_neg c8] at H
                exact absurd H (by simp)
            · rw [if_neg c7] at H
              have c7b0 : decide (x20_2 < (l0.length : Int)) = false := decide_eq_false c7
              clear c7
              obtain rfl := Option.some.inj H
              go_wp2
              go_ret
              exact ⟨by first | rfl | (simp [zr, zq] <;> rfl) | (simp [*, zr, zq] <;> rfl), by repeat (with_reducible first | exact HB.out | apply zc | apply zb | apply zd)⟩
end Go.Proofs.YtoeepmcaabmjkaaDoor.QPO
namespace Go.Proofs.YtoeepmcaabmjkaaDoor.QPO
open Go.RowKit Go.Proofs.YtoeepmcaabmjkaaDoorW.PrintWords Go.Proofs.YtoeepmcaabmjkaaDoorW.PrintLast Go.Proofs.YtoeepmcaabmjkaaDoorW.PrintMore
attribute [local go_sem] yz yx yQ yP yl yk yy yw   -- for this text's walks alone
set_option linter.unusedVariables false
set_option linter.unusedSimpArgs false
def kidOk (body bodies x : Int) : Bool := !(decide (x ≤ body) || decide (x ≥ bodies))
def kidsOk (l : List Int) (body bodies : Int) : Bool := l.all (kidOk body bodies) && (decide (1 ≤ l.length) && decide (l.length ≤ 2))
def xJ.f (k : Nat) (a0 : Int) (l1 : List S82) (l2 : List Int) (a3 cells body bodies : Int) : Option Bool :=
  if a0 = 1 ∧ l2.length = 0 ∧ a3 = 0 then zO.f k l1 cells
  else if a0 = 2 ∧ l1.length = 0 ∧ a3 = 0 then some (kidsOk l2 body bodies)
  else if a0 = 3 ∧ l1.length = 0 ∧ l2.length = 0 ∧ a3 = 0 then some true
  else if a0 = 4 ∧ l1.length = 0 ∧ l2.length = 0 then yr.f a3
  else some false
set_option maxHeartbeats 4000000 in
set_option maxRecDepth 100000 in
theorem xJ.calls (k : Nat) (a0 : Int) (A1 : Option Addr) (c1 : Nat) (l1 : List S82) (A2 : Option Addr) (c2 : Nat) (l2 : List Int) (a3 cells body bodies : Int) (r : Bool) (w : World) (hr1 : Kd.C k82 w A1 l1.length l1) (hc1 : l1.length ≤ c1) (hr2 : Kd.C (Kd.int .i64) w A2 l2.length l2) (hc2 : l2.length ≤ c2) (h : xJ.f k a0 l1 l2 a3 cells body bodies = some r) :
    Calls Tryd.prog 47 #[actW a0 (.slice A1 l1.length c1) l1.length (.slice A2 l2.length c2) l2.length a3, .int .i64 cells, .int .i64 body, .int .i64 bodies] w fun e w' => e = .returned (.bool r) ∧ Below w.heap.size w w' := by
  have hu1 := Tryd.underlying89
  have hu2 := Tryd.underlying93
  have hu3 := Tryd.underlying95
  have hu4 := Tryd.underlying97
  have hu5 := Tryd.underlying22
  have HR1 := za.mk hr1
  have HC1 := za.mk hc1
  have HR2 := za.mk hr2
  have HC2 := za.mk hc2
  clear hr1 hc1 hr2 hc2
  unfold xJ.f at h
  unfold actW
  by_cases q1 : a0 = 1 ∧ l2.length = 0 ∧ a3 = 0
  · rw [if_pos q1] at h ⊢
    have H1 := za.mk h
    clear h q1
    have y1 : ∀ W, (Instr.typeAssert (.iface 89 (.agg #[.slice A1 l1.length c1])) 57 89 true).run Tryd.prog W = .ok (.tuple #[.agg #[.slice A1 l1.length c1], .bool true]) W := fun W => by kernel_rfl
    go_enter Tryd.func47, Tryd.ntmps47
    go_wp2_with fail
    refine (zO.calls k A1 c1 l1 cells r _ (Kd.yg HR1.out _) HC1.out H1.out).mono ?_
    rintro e w1 ⟨rfl, hb⟩
    have HB := za.mk hb
    clear hb
    go_wp2
    go_ret
    exact ⟨rfl, zp (zc (Below.refl _ _) _) HB.out⟩
  rw [if_neg q1] at h ⊢
  by_cases q2 : a0 = 2 ∧ l1.length = 0 ∧ a3 = 0
  · rw [if_pos q2] at h ⊢
    obtain rfl : kidsOk l2 body bodies = r := by simpa using h
    clear h q1 q2
    have y1 : ∀ W, (Instr.typeAssert (.iface 93 (.agg #[.slice A2 l2.length c2])) 57 89 true).run Tryd.prog W = .ok (.tuple #[.agg #[.slice none 0 0], .bool false]) W := fun W => by kernel_rfl
    have y2 : ∀ W, (Instr.typeAssert (.iface 93 (.agg #[.slice A2 l2.length c2])) 57 93 true).run Tryd.prog W = .ok (.tuple #[.agg #[.slice A2 l2.length c2], .bool true]) W := fun W => by kernel_rfl
    have HM := za.mk (show l2.length ≤ 9223372036854775807 from HR2.out.2.1)
    have hb0 : (w.alloc (.cells #[.slice A2 l2.length c2] 93)).heap[w.heap.size]? = some (.cells #[.slice A2 l2.length c2] 93 (0, 0)) := heap_alloc_new w _
    have HB0 := za.mk hb0
    clear hb0
    go_enter Tryd.func47, Tryd.ntmps47
    go_wp2
    go_loopw [29] (fun v29 wr => ∃ x : Int, v29 = .int .i64 x ∧ za (0 ≤ x ∧ x ≤ (l2.length : Nat)) ∧ za (∀ j : Nat, (j : Int) < x → kidOk body bodies (rd l2 (j : Int)) = true) ∧ za (Below w.heap.size w wr) ∧ za (wr.heap[w.heap.size]? = some (.cells #[.slice A2 l2.length c2] 93 (0, 0)))) (fun v29 _ => l2.length - (intOf v29).toNat)
    case atStart => exact ⟨0, rfl, ⟨by omega, by omega⟩, ⟨fun j hj => absurd hj (by omega)⟩, ⟨zc (Below.refl _ _) _⟩, HB0⟩
    case round =>
      clear HB0
      obtain ⟨x, rfl, HX, HK, HB, HBX⟩ := hrel
      by_cases c0 : x < ((l2.length : Nat) : Int)
      · have c0b : decide (x < ((l2.length : Nat) : Int)) = true := decide_eq_true c0
        have hx0 := HX.out.1
        obtain ⟨ad, ea, hx⟩ := Kd.xu (Kd.zX HR2.out HB.out) x hx0 c0
        cases ea
        have HP := za.mk c0
        have p0 := eq_true hx0
        have p1 := eq_true c0
        clear c0 hx0
        obtain ⟨y, hy⟩ : ∃ y, y = rd l2 x := ⟨_, rfl⟩
        rw [← hy] at hx
        have HY := za.mk hy
        clear hy
        by_cases c3 : kidOk body bodies y = true
        · have HG := za.mk c3
          unfold kidOk at c3
          have d1 : decide (y ≤ body) = false := by revert c3; cases decide (y ≤ body) <;> simp
          have d2 : decide (y ≥ bodies) = false := by revert c3; cases decide (y ≥ bodies) <;> simp
          have d2' : decide (bodies ≤ y) = false := d2
          clear c3
          go_wp2
          go_roundw
          case rel =>
            have e1 : (wrap64 (x + 1)) = x + 1 := by have h1 := HX.out.1; have h2 := HP.out; have h3 := HM.out; unfold wrap64; omega
            refine ⟨_, rfl, ⟨?_⟩, ⟨?_⟩, HB, HBX⟩
            · rw [e1]; exact ⟨by have := HX.out.1; omega, by have := HP.out; omega⟩
            · rw [e1]
              intro j hj
              by_cases hjx : (j : Int) = x
              · rw [hjx, ← HY.out]; exact HG.out
              · exact HK.out j (by omega)
          case measure =>
            have h1 := HX.out.1
            have h2 := HP.out
            have h3 := HM.out
            have e1 : (wrap64 (x + 1)) = x + 1 := by unfold wrap64; omega
            rw [e1]
            simp [intOf]
            omega
        · have hf : kidsOk l2 body bodies = false := by
            have hxl : x.toNat < l2.length := by have h1 := HX.out.1; have h2 := HP.out; omega
            have e : l2[x.toNat] = y := by rw [HY.out]; simp [rd, List.getD, hxl]
            unfold kidsOk
            rw [Bool.and_eq_false_iff]
            refine .inl (List.all_eq_false.2 ⟨l2[x.toNat], List.getElem_mem hxl, ?_⟩)
            rw [e]; exact c3
          have HF := za.mk hf
          unfold kidOk at c3
          by_cases c4 : y ≤ body
          · have d1 : decide (y ≤ body) = true := decide_eq_true c4
            clear c3 c4 hf
            go_wp2
            go_ret
            exact ⟨by rw [HF.out]; rfl, HB.out⟩
          · have d1 : decide (y ≤ body) = false := decide_eq_false c4
            have d2 : decide (y ≥ bodies) = true := by rw [d1] at c3; simpa using c3
            have d2' : decide (bodies ≤ y) = true := d2
            clear c3 c4 hf
            go_wp2
            go_ret
            exact ⟨by rw [HF.out]; rfl, HB.out⟩
      · have c0b : decide (x < ((l2.length : Nat) : Int)) = false := decide_eq_false c0
        have HE := za.mk (show x = (l2.length : Nat) by have := HX.out.1; have := HX.out.2; omega)
        clear c0
        have hbx : wr.cell? ⟨w.heap.size, 0, none⟩ = some (.slice A2 l2.length c2) := (zf HBX.out 0).trans rfl
        have hall : l2.all (kidOk body bodies) = true := by
          rw [List.all_eq_true]
          intro z hz
          obtain ⟨j, hj, rfl⟩ := List.getElem_of_mem hz
          have := HK.out j (by rw [HE.out]; omega)
          simpa [rd, List.getD, hj] using this
        have hv : kidsOk l2 body bodies = (decide (1 ≤ l2.length) && decide (l2.length ≤ 2)) := by unfold kidsOk; rw [hall, Bool.true_and]
        have HV := za.mk hv
        clear hall hv
        by_cases n1 : 1 ≤ l2.length
        · have m1 : decide ((l2.length : Int) ≥ 1) = true := decide_eq_true (by omega)
          have m1' : decide ((1 : Int) ≤ (l2.length : Int)) = true := decide_eq_true (by omega)
          have m1'' : decide (1 ≤ l2.length) = true := decide_eq_true n1
          by_cases n2 : l2.length ≤ 2
          · have m2 : decide ((l2.length : Int) ≤ 2) = true := decide_eq_true (by omega)
            have m2' : decide (l2.length ≤ 2) = true := decide_eq_true n2
            clear n1 n2
            go_wp2
            go_ret
            exact ⟨by rw [HV.out, m1'', m2']; rfl, HB.out⟩
          · have m2 : decide ((l2.length : Int) ≤ 2) = false := decide_eq_false (by omega)
            have m2' : decide (l2.length ≤ 2) = false := decide_eq_false n2
            clear n1 n2
            go_wp2
            go_ret
            exact ⟨by rw [HV.out, m1'', m2']; rfl, HB.out⟩
        · have m1 : decide ((l2.length : Int) ≥ 1) = false := decide_eq_false (by omega)
          have m1' : decide ((1 : Int) ≤ (l2.length : Int)) = false := decide_eq_false (by omega)
          have m1'' : decide (1 ≤ l2.length) = false := decide_eq_false n1
          clear n1
          go_wp2
          go_ret
          exact ⟨by rw [HV.out, m1'']; rfl, HB.out⟩
  rw [if_neg q2] at h ⊢
  by_cases q3 : a0 = 3 ∧ l1.length = 0 ∧ l2.length = 0 ∧ a3 = 0
  · rw [if_pos q3] at h ⊢
    obtain rfl : true = r := by simpa using h
    clear h q1 q2 q3
    have y1 : ∀ W, (Instr.typeAssert (.iface 95 (.agg #[])) 57 89 true).run Tryd.prog W = .ok (.tuple #[.agg #[.slice none 0 0], .bool false]) W := fun W => by kernel_rfl
    have y2 : ∀ W, (Instr.typeAssert (.iface 95 (.agg #[])) 57 93 true).run Tryd.prog W = .ok (.tuple #[.agg #[.slice none 0 0], .bool false]) W := fun W => by kernel_rfl
    have y3 : ∀ W, (Instr.typeAssert (.iface 95 (.agg #[])) 57 95 true).run Tryd.prog W = .ok (.tuple #[.agg #[], .bool true]) W := fun W => by kernel_rfl
    go_enter Tryd.func47, Tryd.ntmps47
    go_wp2
    go_ret
    exact ⟨rfl, by repeat (first | exact Below.refl _ _ | apply zb | apply zc)⟩
  rw [if_neg q3] at h ⊢
  by_cases q4 : a0 = 4 ∧ l1.length = 0 ∧ l2.length = 0
  · rw [if_pos q4] at h ⊢
    have H1 := za.mk h
    clear h q1 q2 q3 q4
    have y1 : ∀ W, (Instr.typeAssert (.iface 97 (.agg #[.int .i64 a3])) 57 89 true).run Tryd.prog W = .ok (.tuple #[.agg #[.slice none 0 0], .bool false]) W := fun W => by kernel_rfl
    have y2 : ∀ W, (Instr.typeAssert (.iface 97 (.agg #[.int .i64 a3])) 57 93 true).run Tryd.prog W = .ok (.tuple #[.agg #[.slice none 0 0], .bool false]) W := fun W => by kernel_rfl
    have y3 : ∀ W, (Instr.typeAssert (.iface 97 (.agg #[.int .i64 a3])) 57 95 true).run Tryd.prog W = .ok (.tuple #[.agg #[], .bool false]) W := fun W => by kernel_rfl
    have y4 : ∀ W, (Instr.typeAssert (.iface 97 (.agg #[.int .i64 a3])) 57 97 true).run Tryd.prog W = .ok (.tuple #[.agg #[.int .i64 a3], .bool true]) W := fun W => by kernel_rfl
    go_enter Tryd.func47, Tryd.ntmps47
    go_wp2_with fail
    refine (yr.calls a3 r _ H1.out).mono ?_
    rintro e w1 ⟨rfl, hd⟩
    obtain ⟨nd, rfl⟩ := hd.out
    go_wp2
    go_ret
    exact ⟨rfl, by repeat (first | exact Below.refl _ _ | apply zb | apply zc)⟩
  rw [if_neg q4] at h ⊢
  obtain rfl : false = r := by simpa using h
  clear h q1 q2 q3 q4
  have y1 : ∀ W, (Instr.typeAssert .nilIface 57 89 true).run Tryd.prog W = .ok (.tuple #[.agg #[.slice none 0 0], .bool false]) W := fun W => by kernel_rfl
  have y2 : ∀ W, (Instr.typeAssert .nilIface 57 93 true).run Tryd.prog W = .ok (.tuple #[.agg #[.slice none 0 0], .bool false]) W := fun W => by kernel_rfl
  have y3 : ∀ W, (Instr.typeAssert .nilIface 57 95 true).run Tryd.prog W = .ok (.tuple #[.agg #[], .bool false]) W := fun W => by kernel_rfl
  have y4 : ∀ W, (Instr.typeAssert .nilIface 57 97 true).run Tryd.prog W = .ok (.tuple #[.agg #[.int .i64 0], .bool false]) W := fun W => by kernel_rfl
  go_enter Tryd.func47, Tryd.ntmps47
  go_wp2
  go_ret
  exact ⟨rfl, by repeat (first | exact Below.refl _ _ | apply zb | apply zc)⟩
end Go.Proofs.YtoeepmcaabmjkaaDoor.QPO
namespace Go.Proofs.YtoeepmcaabmjkaaDoor.QPO
open Go.RowKit Go.Proofs.YtoeepmcaabmjkaaDoorW.PrintWords Go.Proofs.YtoeepmcaabmjkaaDoorW.PrintLast Go.Proofs.YtoeepmcaabmjkaaDoorW.PrintMore
attribute [local go_sem] yz yx yQ yP yl yk yy yw   -- for this text's walks alone
set_option linter.unusedVariables false
set_option linter.unusedSimpArgs false
mutual
def z8.l0 : Nat → Int → List (S52) → Int → Int → List Int → List (List (S52)) → Option (Int)
  | 0, _, _, _, _, _, _ => none
  | k + 1, x5, x14, x15, x16, x189000, x189001 => if x16 < x15 then (if 0 ≤ x16 then (if x16 < (x14.length : Int) then (z8.l1 k x5 x14 x15 x16 ((zM x14 x16).f2) (((zM x14 x16).f2).length : Int) 0 x189000 x189001) else (none)) else (none)) else (some x5)
def z8.l1 : Nat → Int → List (S52) → Int → Int → List Int → Int → Int → List Int → List (List (S52)) → Option (Int)
  | 0, _, _, _, _, _, _, _, _, _ => none
  | k + 1, x5, x14, x15, x16, x21, x22, x23, x189000, x189001 => if x23 < x22 then (if 0 ≤ x23 then (if x23 < (x21.length : Int) then ((z8.f k x189000 x189001 (rd x21 x23)).bind fun t193 => (z8.l1 k (wrap64 (x5 + t193)) x14 x15 x16 x21 x22 (wrap64 (x23 + 1)) x189000 x189001)) else (none)) else (none)) else (z8.l0 k x5 x14 x15 (wrap64 (x16 + 1)) x189000 x189001)
def z8.f : Nat → List Int → List (List (S52)) → Int → Option (Int)
  | 0, _, _, _ => none
  | k + 1, l0_0, l0_1, a1 => if 0 ≤ a1 then (if a1 < (l0_1.length : Int) then (z8.l0 k 1 (zR l0_1 a1) ((zR l0_1 a1).length : Int) 0 l0_0 l0_1) else (none)) else (none)
end
set_option maxHeartbeats 8000000 in
set_option maxRecDepth 100000 in
theorem z8.calls (k : Nat) : ∀ (A0_0 : Option Addr) (c0_0 : Nat) (l0_0 : List Int) (A0_1 : Option Addr) (c0_1 : Nat) (l0_1 : List (List (S52))) (a1 : Int) (r : Int) (w : World) (hr0_0 : Kd.C (Kd.int .i64) w A0_0 l0_0.length l0_0) (hc0_0 : l0_0.length ≤ c0_0) (hr0_1 : Kd.C (Kd.slice 52 k52) w A0_1 l0_1.length l0_1) (hc0_1 : l0_1.length ≤ c0_1) (h : z8.f k l0_0 l0_1 a1 = some r),
    Calls Tryd.prog 48 #[.agg #[.slice A0_0 l0_0.length c0_0, .slice A0_1 l0_1.length c0_1], .int .i64 a1] w fun e w' => e = .returned (.int .i64 r) ∧ Below w.heap.size w w' := by
  induction k using Nat.strongRecOn with
  | _ k ih =>
  intro A0_0 c0_0 l0_0 A0_1 c0_1 l0_1 a1 r w hr0_0 hc0_0 hr0_1 hc0_1 h
  cases k with
  | zero => exact absurd h (by simp [z8.f])
  | succ k =>
  simp only [z8.f] at h
  have hu30 := Tryd.underlying30
  have hu52 := Tryd.underlying52
  have HR0_0 := za.mk hr0_0
  have HC0_0 := za.mk hc0_0
  clear hr0_0 hc0_0
  have HR0_1 := za.mk hr0_1
  have HC0_1 := za.mk hc0_1
  clear hr0_1 hc0_1
  have HB := za.mk (Below.refl w.heap.size w)
  have H : (if 0 ≤ a1 then (if a1 < (l0_1.length : Int) then (z8.l0 k 1 (zR l0_1 a1) ((zR l0_1 a1).length : Int) 0 l0_0 l0_1) else (none)) else (none)) = some r := h
  clear h
  by_cases c3 : 0 ≤ a1
  · rw [if_pos c3] at H
    have c3b0 : decide (0 ≤ a1) = true := decide_eq_true c3
    clear c3
    by_cases c4 : a1 < (l0_1.length : Int)
    · rw [if_pos c4] at H
      have c4b0 : decide (a1 < (l0_1.length : Int)) = true := decide_eq_true c4
      clear c4
      have H' := za.mk H
      clear H
      go_enter Tryd.func48, Tryd.ntmps48
      go_wp2_with (first | ((with_reducible refine zY (N := 2) rfl ?_); refine ye ?hg (N := 2) ?hd (cs := #[.slice A0_0 l0_0.length c0_0, .slice A0_1 l0_1.length c0_1]) (t := 30) ?hr ?_; (case hd => rfl); (case hg => rfl); (case hr => first | (go_simp; done) | (go_simp; rfl)); intro gb188 hg w5 hbox hb; have n0_ := za.mk (zp (by repeat (with_reducible first | exact HB.out | apply zc | apply zb | apply zd)) hb); have n1_ := za.mk (hbox); have n2_ := za.mk ((by rw [hg]; exact (zy (by repeat (with_reducible first | exact HB.out | apply zc | apply zb | apply zd))) : w.heap.size ≤ gb188)); have n3_ := za.mk ((by rw [hg]; exact (zy (by repeat (with_reducible first | exact HB.out | apply zc | apply zb | apply zd))) : w.heap.size ≤ gb188)); clear HB; have HB := n0_; have BK188 := n1_; have GW188 := n2_; have GE188 := n3_; clear n0_ n1_ n2_ n3_; clear hb hbox hg; have hcz6_0 : w5.cell? ⟨gb188, 0, none⟩ = some (.slice A0_0 l0_0.length c0_0) := (zf BK188.out 0).trans rfl; have hcz6_1 : w5.cell? ⟨gb188, 1, none⟩ = some (.slice A0_1 l0_1.length c0_1) := (zf BK188.out 1).trans rfl; have hfz6_0 := zg BK188.out 0; have hfz6_1 := zg BK188.out 1; have p189 : 0 ≤ (a1 : Int) := of_decide_eq_true (by first | (with_reducible assumption) | assumption); have q189 : a1 < (l0_1.length : Int) := of_decide_eq_true (by first | (with_reducible assumption) | assumption); obtain ⟨ad189, A189_0, c189_0, e189, hx189_0, hl189_0, hi189_0⟩ := at_L5 HR0_1.out a1 p189 q189; cases e189; replace hx189_0 := (HB.out.cell (World.block_lt_of_cell? w _ hx189_0)).trans hx189_0; have HR189_0 := za.mk hi189_0; have HC189_0 := za.mk hl189_0; clear hi189_0 hl189_0; replace p189 := eq_true p189; replace q189 := eq_true q189))
      go_loopg [5, 16] k (fun kq v5 v16 w' => ∃ (x5_1 : Int) (x16_1 : Int), v5 = .int .i64 x5_1 ∧ v16 = .int .i64 x16_1 ∧ za (z8.l0 kq x5_1 (zR l0_1 a1) ((zR l0_1 a1).length : Int) x16_1 l0_0 l0_1 = some r) ∧ za (kq ≤ k) ∧ za (w'.heap[gb188]? = some (.cells #[(.slice A0_0 l0_0.length c0_0), (.slice (some ad189) l0_1.length c0_1)] 30 (0, 0))) ∧ za (Below w.heap.size w w'))
      case atStart => exact ⟨(1), (0), (by first | rfl | (simp; done) | (simp [*]; done)), (by first | rfl | (simp; done) | (simp [*]; done)), H', ⟨Nat.le_refl _⟩, ⟨by (with_reducible repeat (first | refine zl ?_ _ | refine zm ?_ | refine zj ?_ _)); exact BK188.out⟩, ⟨by repeat (with_reducible first | exact HB.out | apply zc | apply zb | apply zd | refine zh ?_ GE188.out)⟩⟩
      case round =>
        clear H'
        try clear c1
        try clear p1
        try clear q1
        try clear hx1
        try clear p2
        try clear c3
        try clear c3b0
        try clear c4
        try clear c4b0
        try clear hcz6_0
        try clear hcz6_1
        try clear hfz6_0
        try clear hfz6_1
        try clear hx189_0
        try clear p189
        try clear q189
        obtain ⟨x5_1, x16_1, rfl, rfl, HA, HK1, BK188, HB⟩ := hrel
        cases gk with
        | zero => exact absurd HA.out (by simp [z8.l0])
        | succ k1 =>
          have H := HA.out
          clear HA
          simp only [z8.l0] at H
          by_cases c7 : x16_1 < ((zR l0_1 a1).length : Int)
          · rw [if_pos c7] at H
            have c7b0 : decide (x16_1 < ((zR l0_1 a1).length : Int)) = true := decide_eq_true c7
            clear c7
            by_cases c8 : 0 ≤ x16_1
            · rw [if_pos c8] at H
              have c8b0 : decide (0 ≤ x16_1) = true := decide_eq_true c8
              clear c8
              by_cases c9 : x16_1 < ((zR l0_1 a1).length : Int)
              · rw [if_pos c9] at H
                have c9b0 : decide (x16_1 < ((zR l0_1 a1).length : Int)) = true := decide_eq_true c9
                clear c9
                have H' := za.mk H
                clear H
                have p190 : 0 ≤ (x16_1 : Int) := of_decide_eq_true (by first | (with_reducible assumption) | assumption)
                have q190 : x16_1 < ((zR l0_1 a1).length : Int) := of_decide_eq_true (by first | (with_reducible assumption) | assumption)
                obtain ⟨ad190, A190_1, c190_1, A190_2, c190_2, e190, hx190_0, hx190_1, hx190_2, hx190_3, hl190_1, hi190_1, hl190_2, hi190_2⟩ := at_T52 HR189_0.out x16_1 p190 q190
                cases e190
                replace hx190_0 := (HB.out.cell (World.block_lt_of_cell? w _ hx190_0)).trans hx190_0
                replace hx190_1 := (HB.out.cell (World.block_lt_of_cell? w _ hx190_1)).trans hx190_1
                replace hx190_2 := (HB.out.cell (World.block_lt_of_cell? w _ hx190_2)).trans hx190_2
                replace hx190_3 := (HB.out.cell (World.block_lt_of_cell? w _ hx190_3)).trans hx190_3
                have HR190_1 := za.mk hi190_1
                have HC190_1 := za.mk hl190_1
                clear hi190_1 hl190_1
                have HR190_2 := za.mk hi190_2
                have HC190_2 := za.mk hl190_2
                clear hi190_2 hl190_2
                replace p190 := eq_true p190
                replace q190 := eq_true q190
                go_wp2_with (first | ((with_reducible refine zY (N := 7) rfl ?_); refine ye ?hg (N := 7) ?hd (cs := #[.int .i64 0, .slice none 0 0, .slice none 0 0, .int .i64 0]) (t := 52) ?hr ?_; (case hd => rfl); (case hg => rfl); (case hr => first | (go_simp; done) | (go_simp; rfl)); intro gb191 hg w10 hbox hb; have n0_ := za.mk (zI (g := gb188) (o := .cells #[.slice A0_0 l0_0.length c0_0, .slice (some ad189) l0_1.length c0_1] 30 (0, 0)) (by (with_reducible repeat (first | refine zl ?_ _ | refine zm ?_ | refine zj ?_ _)); exact BK188.out) hb); have n1_ := za.mk (zp (by repeat (with_reducible first | exact HB.out | apply zc | apply zb | apply zd | refine zh ?_ GE188.out)) hb); have n2_ := za.mk (hbox); have n3_ := za.mk ((by rw [hg]; exact (zy (by repeat (with_reducible first | exact HB.out | apply zc | apply zb | apply zd | refine zh ?_ GE188.out))) : w.heap.size ≤ gb191)); have n4_ := za.mk ((by rw [hg]; exact (zy (by repeat (with_reducible first | exact HB.out | apply zc | apply zb | apply zd | refine zh ?_ GE188.out))) : w.heap.size ≤ gb191)); have n5_ := za.mk ((by rw [hg]; exact Nat.ne_of_lt (yO (g := gb188) (o := .cells #[.slice A0_0 l0_0.length c0_0, .slice (some ad189) l0_1.length c0_1] 30 (0, 0)) (by (with_reducible repeat (first | refine zl ?_ _ | refine zm ?_ | refine zj ?_ _)); exact BK188.out)) : gb188 ≠ gb191)); have n6_ := za.mk ((by rw [hg]; exact Nat.ne_of_gt (yO (g := gb188) (o := .cells #[.slice A0_0 l0_0.length c0_0, .slice (some ad189) l0_1.length c0_1] 30 (0, 0)) (by (with_reducible repeat (first | refine zl ?_ _ | refine zm ?_ | refine zj ?_ _)); exact BK188.out)) : gb191 ≠ gb188)); clear BK188; clear HB; have BK188 := n0_; have HB := n1_; have BK191 := n2_; have GW191 := n3_; have GE191 := n4_; have NB188_191 := n5_; have NB191_188 := n6_; clear n0_ n1_ n2_ n3_ n4_ n5_ n6_; clear hb hbox hg; have hnb11 := NB191_188.out; have hnc11 := NB188_191.out; have hcz12_0 : w10.cell? ⟨gb191, 0, none⟩ = some (.int .i64 0) := (zf BK191.out 0).trans rfl; have hcz12_1 : w10.cell? ⟨gb191, 1, none⟩ = some (.slice none 0 0) := (zf BK191.out 1).trans rfl; have hcz12_2 : w10.cell? ⟨gb191, 2, none⟩ = some (.slice none 0 0) := (zf BK191.out 2).trans rfl; have hcz12_3 : w10.cell? ⟨gb191, 3, none⟩ = some (.int .i64 0) := (zf BK191.out 3).trans rfl; have hfz12_0 := zg BK191.out 0; have hfz12_1 := zg BK191.out 1; have hfz12_2 := zg BK191.out 2; have hfz12_3 := zg BK191.out 3))
                go_loopg [5, 23] k1 (fun kq v5 v23 w' => ∃ (x5_2 : Int) (x23_2 : Int), v5 = .int .i64 x5_2 ∧ v23 = .int .i64 x23_2 ∧ za (z8.l1 kq x5_2 (zR l0_1 a1) ((zR l0_1 a1).length : Int) x16_1 ((zM (zR l0_1 a1) x16_1).f2) (((zM (zR l0_1 a1) x16_1).f2).length : Int) x23_2 l0_0 l0_1 = some r) ∧ za (kq ≤ k1) ∧ za (w'.heap[gb188]? = some (.cells #[(.slice A0_0 l0_0.length c0_0), (.slice (some ad189) l0_1.length c0_1)] 30 (0, 0))) ∧ za (w'.heap[gb191]? = some (.cells #[.int .i64 ((zM (zR l0_1 a1) x16_1).f0), (.slice A190_1 ((zM (zR l0_1 a1) x16_1).f1).length c190_1), (.slice A190_2 ((zM (zR l0_1 a1) x16_1).f2).length c190_2), .int .i64 ((zM (zR l0_1 a1) x16_1).f3)] 52 (0, 0))) ∧ za (Below w.heap.size w w'))
                case atStart => exact ⟨(x5_1), (0), (by first | rfl | (simp; done) | (simp [*]; done)), (by first | rfl | (simp; done) | (simp [*]; done)), H', ⟨Nat.le_refl _⟩, ⟨by (with_reducible repeat (first | refine zl ?_ _ | refine zm ?_ | refine zj ?_ _)); refine blk_far ?_ NB188_191.out _; (with_reducible repeat (first | refine zl ?_ _ | refine zm ?_ | refine zj ?_ _)); refine blk_far ?_ NB188_191.out _; (with_reducible repeat (first | refine zl ?_ _ | refine zm ?_ | refine zj ?_ _)); refine blk_far ?_ NB188_191.out _; (with_reducible repeat (first | refine zl ?_ _ | refine zm ?_ | refine zj ?_ _)); refine blk_far ?_ NB188_191.out _; (with_reducible repeat (first | refine zl ?_ _ | refine zm ?_ | refine zj ?_ _)); exact BK188.out⟩, ⟨by (with_reducible repeat (first | refine zl ?_ _ | refine zm ?_ | refine zj ?_ _)); refine yH (cs := #[.int .i64 ((zM (zR l0_1 a1) x16_1).f0), .slice A190_1 ((zM (zR l0_1 a1) x16_1).f1).length c190_1, .slice A190_2 ((zM (zR l0_1 a1) x16_1).f2).length c190_2, .int .i64 0]) ?_ 3 _ rfl; (with_reducible repeat (first | refine zl ?_ _ | refine zm ?_ | refine zj ?_ _)); refine yH (cs := #[.int .i64 ((zM (zR l0_1 a1) x16_1).f0), .slice A190_1 ((zM (zR l0_1 a1) x16_1).f1).length c190_1, .slice none 0 0, .int .i64 0]) ?_ 2 _ rfl; (with_reducible repeat (first | refine zl ?_ _ | refine zm ?_ | refine zj ?_ _)); refine yH (cs := #[.int .i64 ((zM (zR l0_1 a1) x16_1).f0), .slice none 0 0, .slice none 0 0, .int .i64 0]) ?_ 1 _ rfl; (with_reducible repeat (first | refine zl ?_ _ | refine zm ?_ | refine zj ?_ _)); refine yH (cs := #[.int .i64 0, .slice none 0 0, .slice none 0 0, .int .i64 0]) ?_ 0 _ rfl; (with_reducible repeat (first | refine zl ?_ _ | refine zm ?_ | refine zj ?_ _)); exact BK191.out⟩, ⟨by repeat (with_reducible first | exact HB.out | apply zc | apply zb | apply zd | refine zh ?_ GE188.out | refine zh ?_ GE191.out)⟩⟩
                case round =>
                  clear H'
                  try clear c1
                  try clear p1
                  try clear q1
                  try clear hx1
                  try clear p2
                  try clear c3
                  try clear c3b0
                  try clear c4
                  try clear c4b0
                  try clear c7
                  try clear c7b0
                  try clear c8
                  try clear c8b0
                  try clear c9
                  try clear c9b0
                  try clear c11
                  try clear hcz12_0
                  try clear hcz12_1
                  try clear hcz12_2
                  try clear hcz12_3
                  try clear hcz6_0
                  try clear hcz6_1
                  try clear hfz12_0
                  try clear hfz12_1
                  try clear hfz12_2
                  try clear hfz12_3
                  try clear hfz6_0
                  try clear hfz6_1
                  try clear hx189_0
                  try clear hx190_0
                  try clear hx190_1
                  try clear hx190_2
                  try clear hx190_3
                  try clear p1
                  try clear p189
                  try clear p190
                  try clear p2
                  try clear q1
                  try clear q189
                  try clear q190
                  obtain ⟨x5_2, x23_2, rfl, rfl, HA, HK2, BK188, BK191, HB⟩ := hrel
                  cases gk with
                  | zero => exact absurd HA.out (by simp [z8.l1])
                  | succ k2 =>
                    have H := HA.out
                    clear HA
                    simp only [z8.l1] at H
                    by_cases c13 : x23_2 < (((zM (zR l0_1 a1) x16_1).f2).length : Int)
                    · rw [if_pos c13] at H
                      have c13b0 : decide (x23_2 < (((zM (zR l0_1 a1) x16_1).f2).length : Int)) = true := decide_eq_true c13
                      clear c13
                      by_cases c14 : 0 ≤ x23_2
                      · rw [if_pos c14] at H
                        have c14b0 : decide (0 ≤ x23_2) = true := decide_eq_true c14
                        clear c14
                        by_cases c15 : x23_2 < (((zM (zR l0_1 a1) x16_1).f2).length : Int)
                        · rw [if_pos c15] at H
                          have c15b0 : decide (x23_2 < (((zM (zR l0_1 a1) x16_1).f2).length : Int)) = true := decide_eq_true c15
                          clear c15
                          replace H := Option.bind_eq_some_iff.mp H
                          obtain ⟨t193, A160, H⟩ := H
                          replace H : (z8.l1 k2 (wrap64 (x5_2 + t193)) (zR l0_1 a1) ((zR l0_1 a1).length : Int) x16_1 ((zM (zR l0_1 a1) x16_1).f2) (((zM (zR l0_1 a1) x16_1).f2).length : Int) (wrap64 (x23_2 + 1)) l0_0 l0_1) = some r := H
                          have A16 := za.mk A160
                          clear A160
                          have H' := za.mk H
                          clear H
                          have p192 : 0 ≤ (x23_2 : Int) := of_decide_eq_true (by first | (with_reducible assumption) | assumption)
                          have q192 : x23_2 < (((zM (zR l0_1 a1) x16_1).f2).length : Int) := of_decide_eq_true (by first | (with_reducible assumption) | assumption)
                          obtain ⟨ad192, e192, hx192_0⟩ := Kd.xu HR190_2.out x23_2 p192 q192
                          cases e192
                          replace hx192_0 := (HB.out.cell (World.block_lt_of_cell? w _ hx192_0)).trans hx192_0
                          replace p192 := eq_true p192
                          replace q192 := eq_true q192
                          have hnb17 := NB188_191.out
                          have hnc17 := NB191_188.out
                          have hcz18_0 : wr.cell? ⟨gb188, 0, none⟩ = some (.slice A0_0 l0_0.length c0_0) := (zf BK188.out 0).trans rfl
                          have hcz18_1 : wr.cell? ⟨gb188, 1, none⟩ = some (.slice (some ad189) l0_1.length c0_1) := (zf BK188.out 1).trans rfl
                          have hfz18_0 := zg BK188.out 0
                          have hfz18_1 := zg BK188.out 1
                          go_wp2_with (first | ((with_reducible refine zx (f := 48) rfl ?_); refine z6 (some 30) rfl rfl Tryd.func48 (by kernel_rfl) rfl #[.agg #[.slice A0_0 l0_0.length c0_0, .slice (some ad189) l0_1.length c0_1], .int .i64 (rd ((zM (zR l0_1 a1) x16_1).f2) x23_2)] rfl (by (try simp only [List.map_toArray, List.map_cons, List.map_nil]); first | done | rfl | (simp only [List.length_drop, List.length_take]; rfl)) ?_; (with_reducible refine (ih k2 (by have := HK1.out; have := HK2.out; omega) _ _ l0_0 _ _ l0_1 (rd ((zM (zR l0_1 a1) x16_1).f2) x23_2) t193 _ ?side1 ?side2 ?side3 ?side4 A16.out).mono ?_); (case side1 => repeat (first | exact (Kd.zX HR0_0.out HB.out) | (with_reducible refine Kd.yg ?_ _) | (with_reducible refine Kd.yi ?_ _) | (with_reducible refine Kd.yG ?_))); (case side2 => exact HC0_0.out); (case side3 => repeat (first | exact (Kd.zX HR0_1.out HB.out) | (with_reducible refine Kd.yg ?_ _) | (with_reducible refine Kd.yi ?_ _) | (with_reducible refine Kd.yG ?_))); (case side4 => exact HC0_1.out); rintro e w19 ⟨rfl, hb⟩; refine ⟨_, rfl, ?_⟩; have n0_ := za.mk (zI (g := gb188) (o := .cells #[.slice A0_0 l0_0.length c0_0, .slice (some ad189) l0_1.length c0_1] 30 (0, 0)) (by (with_reducible repeat (first | refine zl ?_ _ | refine zm ?_ | refine zj ?_ _)); exact BK188.out) hb); have n1_ := za.mk (zI (g := gb191) (o := .cells #[.int .i64 ((zM (zR l0_1 a1) x16_1).f0), .slice A190_1 ((zM (zR l0_1 a1) x16_1).f1).length c190_1, .slice (some ad192) ((zM (zR l0_1 a1) x16_1).f2).length c190_2, .int .i64 ((zM (zR l0_1 a1) x16_1).f3)] 52 (0, 0)) (by (with_reducible repeat (first | refine zl ?_ _ | refine zm ?_ | refine zj ?_ _)); exact BK191.out) hb); have n2_ := za.mk (zp (by repeat (with_reducible first | exact HB.out | apply zc | apply zb | apply zd | refine zh ?_ GE188.out | refine zh ?_ GE191.out)) hb); clear BK188; clear BK191; clear HB; have BK188 := n0_; have BK191 := n1_; have HB := n2_; clear n0_ n1_ n2_; (try clear hb); (try clear hb2); (try clear hk); (try clear hi)))
                          go_roundg k2
                          case measure => have := HK1.out; have := HK2.out; omega
                          case rel => exact ⟨(wrap64 (x5_2 + t193)), (wrap64 (x23_2 + 1)), (by first | rfl | (simp; done) | (simp [*]; done)), (by first | rfl | (simp; done) | (simp [*]; done)), H', ⟨by have := HK1.out; have := HK2.out; omega⟩, ⟨by (with_reducible repeat (first | refine zl ?_ _ | refine zm ?_ | refine zj ?_ _)); exact BK188.out⟩, ⟨by (with_reducible repeat (first | refine zl ?_ _ | refine zm ?_ | refine zj ?_ _)); exact BK191.out⟩, ⟨by repeat (with_reducible first | exact HB.out | apply zc | apply zb | apply zd | refine zh ?_ GE188.out | refine zh ?_ GE191.out)⟩⟩
                        · rw [if_neg c15] at H
                          exact absurd H (by simp)
                      · rw [if_neg c14] at H
                        exact absurd H (by simp)
                    · rw [if_neg c13] at H
                      have c13b0 : decide (x23_2 < (((zM (zR l0_1 a1) x16_1).f2).length : Int)) = false := decide_eq_false c13
                      clear c13
                      have H' := za.mk H
                      clear H
                      go_wp2
                      go_roundg k2
                      case measure => have := HK1.out; have := HK2.out; omega
                      case rel => exact ⟨(x5_2), (wrap64 (x16_1 + 1)), (by first | rfl | (simp; done) | (simp [*]; done)), (by first | rfl | (simp; done) | (simp [*]; done)), H', ⟨by have := HK1.out; have := HK2.out; omega⟩, ⟨by (with_reducible repeat (first | refine zl ?_ _ | refine zm ?_ | refine zj ?_ _)); exact BK188.out⟩, ⟨by repeat (with_reducible first | exact HB.out | apply zc | apply zb | apply zd | refine zh ?_ GE188.out | refine zh ?_ GE191.out)⟩⟩
              · rw [if_neg c9] at H
                exact absurd H (by simp)
            · rw [if_neg c8] at H
              exact absurd H (by simp)
          · rw [if_neg c7] at H
            have c7b0 : decide (x16_1 < ((zR l0_1 a1).length : Int)) = false := decide_eq_false c7
            clear c7
            obtain rfl := Option.some.inj H
            go_wp2
            go_ret
            exact ⟨by first | rfl | (simp [zr, zq] <;> rfl) | (simp [*, zr, zq] <;> rfl), by repeat (with_reducible first | exact HB.out | apply zc | apply zb | apply zd | refine zh ?_ GE188.out)⟩
    · rw [if_neg c4] at H
      exact absurd H (by simp)
  · rw [if_neg c3] at H
    exact absurd H (by simp)
end Go.Proofs.YtoeepmcaabmjkaaDoor.QPO
namespace Go.Proofs.YtoeepmcaabmjkaaDoor.QPO
open Go.RowKit Go.Proofs.YtoeepmcaabmjkaaDoorW.PrintWords Go.Proofs.YtoeepmcaabmjkaaDoorW.PrintLast Go.Proofs.YtoeepmcaabmjkaaDoorW.PrintMore
attribute [local go_sem] yz yx yQ yP yl yk yy yw   -- for this text's walks alone
set_option linter.unusedVariables false
set_option linter.unusedSimpArgs false
def innerF (k : Nat) (cells body bodies : Int) : List S52 → Option Bool
  | [] => some true
  | a :: l => (xJ.f k a.f0 a.f1 a.f2 a.f3 cells body bodies).bind fun b => if b = true then innerF k cells body bodies l else some false
def outerF (k : Nat) (cells bodies : Int) : Nat → List (List S52) → Option Bool
  | _, [] => some true
  | i, l :: ls => if l.length > 4 then some false else (innerF k cells (i : Int) bodies l).bind fun b => if b = true then outerF k cells bodies (i + 1) ls else some false
def xp.f (k : Nat) (l0_0 : List Int) (l0_1 : List (List (S52))) : Option Bool :=
  if l0_0.length > 3 then some false else (yo.f k l0_0).bind fun b => if b = true then (if l0_1.length < 1 ∨ 4 < l0_1.length then some false else (outerF k (l0_0.length : Int) (l0_1.length : Int) 0 l0_1).bind fun b => if b = true then (z8.f k l0_0 l0_1 0).bind fun t => some (decide (t ≤ 7)) else some false) else some false
theorem C_rows {w : World} {A : Option Addr} {n : Nat} {xs : List (List S52)} (h : Kd.C (Kd.slice 52 k52) w A n xs) (i : Nat) (hi : i < n) : ∃ ad A1 c1 l, A = some ad ∧ xs[i]? = some l ∧ w.cell? (ad.add i) = some (.slice A1 l.length c1) ∧ l.length ≤ c1 ∧ Kd.C k52 w A1 l.length l := by
  have hn := h.1
  obtain ⟨ad, c, e, _, hK, hc0⟩ := Kd.C_get h [] (i : Int) (by omega) (by omega)
  obtain ⟨A1, c1, rfl, l1, g1⟩ := hK
  have hx : xs[i]? = some (xs.getD (i : Int).toNat []) := by
    rw [List.getD_eq_getElem?_getD, Int.toNat_natCast, List.getElem?_eq_getElem (show i < xs.length by omega)]
    rfl
  refine ⟨ad, A1, c1, _, e, hx, ?_, l1, g1⟩
  have := hc0 0 _ rfl
  rw [show (Kd.slice 52 k52).sz = 1 from rfl, Nat.mul_one, Nat.add_zero, Int.toNat_natCast] at this
  exact this
set_option maxHeartbeats 8000000 in
set_option maxRecDepth 100000 in
theorem xp.calls (k : Nat) (A0_0 : Option Addr) (c0_0 : Nat) (l0_0 : List Int) (A0_1 : Option Addr) (c0_1 : Nat) (l0_1 : List (List (S52))) (r : Bool) (w : World) (hr0_0 : Kd.C (Kd.int .i64) w A0_0 l0_0.length l0_0) (hc0_0 : l0_0.length ≤ c0_0) (hr0_1 : Kd.C (Kd.slice 52 k52) w A0_1 l0_1.length l0_1) (hc0_1 : l0_1.length ≤ c0_1) (h : xp.f k l0_0 l0_1 = some r) :
    Calls Tryd.prog 25 #[.agg #[.slice A0_0 l0_0.length c0_0, .slice A0_1 l0_1.length c0_1]] w fun e w' => e = .returned (.bool r) ∧ Below w.heap.size w w' := by
  have hu1 := Tryd.underlying30
  have hu2 := Tryd.underlying52
  have hu3 := Tryd.underlying28
  have hu4 := Tryd.underlying48
  have HR0 := za.mk hr0_0
  have HC0 := za.mk hc0_0
  have HR1 := za.mk hr0_1
  have HC1 := za.mk hc0_1
  clear hr0_0 hc0_0 hr0_1 hc0_1
  have HM := za.mk (show l0_1.length ≤ 9223372036854775807 from HR1.out.2.1)
  unfold xp.f at h
  obtain ⟨w1, hw1⟩ : ∃ w1, w1 = w.alloc (.cells #[.slice A0_0 l0_0.length c0_0, .slice A0_1 l0_1.length c0_1] 30) := ⟨_, rfl⟩
  have HBX := za.mk (show w1.heap[w.heap.size]? = some (.cells #[.slice A0_0 l0_0.length c0_0, .slice A0_1 l0_1.length c0_1] 30 (0, 0)) by rw [hw1]; exact heap_alloc_new w _)
  have HB := za.mk (show Below w.heap.size w w1 by rw [hw1]; exact zc (Below.refl _ _) _)
  go_enter Tryd.func25, Tryd.ntmps25
  go_upto_region 1 with (fail)
  rw [← hw1]
  clear hw1
  have xb0 : w1.cell? ⟨w.heap.size, 0, none⟩ = some (.slice A0_0 l0_0.length c0_0) := (zf HBX.out 0).trans rfl
  have xb1 : w1.cell? ⟨w.heap.size, 1, none⟩ = some (.slice A0_1 l0_1.length c0_1) := (zf HBX.out 1).trans rfl
  by_cases q0 : l0_0.length > 3
  · rw [if_pos q0] at h
    obtain rfl : false = r := by simpa using h
    have d0 : decide ((l0_0.length : Int) > 3) = true := decide_eq_true (by omega)
    have d0' : decide ((3 : Int) < (l0_0.length : Int)) = true := d0
    have d0'' : decide (3 < l0_0.length) = true := decide_eq_true q0
    clear q0 h
    go_wp2
    go_ret
    exact ⟨rfl, HB.out⟩
  rw [if_neg q0] at h
  have d0 : decide ((l0_0.length : Int) > 3) = false := decide_eq_false (by omega)
  have d0' : decide ((3 : Int) < (l0_0.length : Int)) = false := d0
  have d0'' : decide (3 < l0_0.length) = false := decide_eq_false q0
  clear q0
  obtain ⟨b, hb, h⟩ := Option.bind_eq_some_iff.1 h
  have H1 := za.mk hb
  clear hb
  cases b with
  | false =>
    obtain rfl : false = r := by simpa using h
    clear h
    go_wp2_with fail
    refine (yo.calls k A0_0 c0_0 l0_0 false _ (Kd.zX HR0.out HB.out) HC0.out H1.out).mono ?_
    rintro e w2 ⟨rfl, hd⟩
    obtain ⟨nd, rfl⟩ := hd.out
    go_wp2
    go_ret
    exact ⟨rfl, zb HB.out _⟩
  | true =>
  rw [if_pos rfl] at h
  go_wp2_with fail
  refine (yo.calls k A0_0 c0_0 l0_0 true _ (Kd.zX HR0.out HB.out) HC0.out H1.out).mono ?_
  rintro e w2 ⟨rfl, hd⟩
  clear H1
  have HB2 := za.mk (show Below w.heap.size w w2 by obtain ⟨nd, rfl⟩ := hd.out; exact zb HB.out _)
  have HBX2 := za.mk (show w2.heap[w.heap.size]? = some (.cells #[.slice A0_0 l0_0.length c0_0, .slice A0_1 l0_1.length c0_1] 30 (0, 0)) by obtain ⟨nd, rfl⟩ := hd.out; exact HBX.out)
  clear hd xb0 xb1 HB HBX
  have xb0 : w2.cell? ⟨w.heap.size, 0, none⟩ = some (.slice A0_0 l0_0.length c0_0) := (zf HBX2.out 0).trans rfl
  have xb1 : w2.cell? ⟨w.heap.size, 1, none⟩ = some (.slice A0_1 l0_1.length c0_1) := (zf HBX2.out 1).trans rfl
  by_cases q1 : l0_1.length < 1 ∨ 4 < l0_1.length
  · rw [if_pos q1] at h
    obtain rfl : false = r := by simpa using h
    clear h
    by_cases q2 : l0_1.length < 1
    · have d1 : decide ((l0_1.length : Int) < 1) = true := decide_eq_true (by omega)
      have d1' : decide (l0_1.length < 1) = true := decide_eq_true q2
      clear q1 q2
      go_wp2
      go_ret
      exact ⟨rfl, HB2.out⟩
    · have d1 : decide ((l0_1.length : Int) < 1) = false := decide_eq_false (by omega)
      have d1' : decide (l0_1.length < 1) = false := decide_eq_false q2
      have d2 : decide ((l0_1.length : Int) > 4) = true := decide_eq_true (by omega)
      have d2' : decide ((4 : Int) < (l0_1.length : Int)) = true := d2
      have d2'' : decide (4 < l0_1.length) = true := decide_eq_true (by omega)
      clear q1 q2
      go_wp2
      go_ret
      exact ⟨rfl, HB2.out⟩
  rw [if_neg q1] at h
  have d1 : decide ((l0_1.length : Int) < 1) = false := decide_eq_false (by omega)
  have d1' : decide (l0_1.length < 1) = false := decide_eq_false (by omega)
  have d2 : decide ((l0_1.length : Int) > 4) = false := decide_eq_false (by omega)
  have d2' : decide ((4 : Int) < (l0_1.length : Int)) = false := d2
  have d2'' : decide (4 < l0_1.length) = false := decide_eq_false (by omega)
  clear q1
  have H2 := za.mk h
  clear h
  go_wp2
  go_loopw [30] (fun v30 wr => ∃ x : Int, v30 = .int .i64 x ∧ za (0 ≤ x ∧ x ≤ (l0_1.length : Nat)) ∧ za ((outerF k (l0_0.length : Int) (l0_1.length : Int) x.toNat (l0_1.drop x.toNat)).bind (fun b => if b = true then (z8.f k l0_0 l0_1 0).bind fun t => some (decide (t ≤ 7)) else some false) = some r) ∧ za (Below w.heap.size w wr) ∧ za (wr.heap[w.heap.size]? = some (.cells #[.slice A0_0 l0_0.length c0_0, .slice A0_1 l0_1.length c0_1] 30 (0, 0)))) (fun v30 _ => l0_1.length - (intOf v30).toNat)
  case atStart => exact ⟨0, rfl, ⟨by omega, by omega⟩, H2, HB2, HBX2⟩
  case round =>
    clear HB2 HBX2 H2 xb0 xb1
    obtain ⟨x, rfl, HX, HH, HB, HBX⟩ := hrel
    obtain ⟨wo, rfl⟩ : ∃ wo, wo = wr := ⟨_, rfl⟩
    have xb0 : wo.cell? ⟨w.heap.size, 0, none⟩ = some (.slice A0_0 l0_0.length c0_0) := (zf HBX.out 0).trans rfl
    have xb1 : wo.cell? ⟨w.heap.size, 1, none⟩ = some (.slice A0_1 l0_1.length c0_1) := (zf HBX.out 1).trans rfl
    by_cases c0 : x < ((l0_1.length : Nat) : Int)
    · have c0b : decide (x < ((l0_1.length : Nat) : Int)) = true := decide_eq_true c0
      have hx0 := HX.out.1
      obtain ⟨ad, B1, c1, l, ea, hl, hxc, hlc, hlr⟩ := C_rows (Kd.zX HR1.out HB.out) x.toNat (by omega)
      cases ea
      have HLC := za.mk hlc
      have HLR := za.mk hlr
      have HLM := za.mk (show l.length ≤ 9223372036854775807 from hlr.2.1)
      clear hlc hlr
      have H := HH.out
      clear HH
      have hdrop : l0_1.drop x.toNat = l :: l0_1.drop (x.toNat + 1) := by
        obtain ⟨hlt, rfl⟩ := List.getElem?_eq_some_iff.1 hl
        exact List.drop_eq_getElem_cons hlt
      rw [hdrop, outerF] at H
      clear hdrop hl
      have HP := za.mk c0
      have p0 := eq_true hx0
      have p1 := eq_true c0
      clear c0 hx0
      by_cases q2 : l.length > 4
      · rw [if_pos q2] at H
        obtain rfl : false = r := by simpa using H
        have m1 : decide ((l.length : Int) > 4) = true := decide_eq_true (by omega)
        have m2 : decide ((4 : Int) < (l.length : Int)) = true := m1
        have m3 : decide (4 < l.length) = true := decide_eq_true q2
        clear q2 H
        go_wp2
        go_ret
        exact ⟨rfl, HB.out⟩
      · rw [if_neg q2] at H
        have m1 : decide ((l.length : Int) > 4) = false := decide_eq_false (by omega)
        have m2 : decide ((4 : Int) < (l.length : Int)) = false := m1
        have m3 : decide (4 < l.length) = false := decide_eq_false q2
        clear q2
        have ex : ((x.toNat : Nat) : Int) = x := by have := HX.out.1; omega
        rw [ex] at H
        have EX := za.mk ex
        clear ex
        obtain ⟨g, hg⟩ : ∃ g : Bool → Option Bool, g = fun b => ((if b = true then outerF k (l0_0.length : Int) (l0_1.length : Int) (x.toNat + 1) (l0_1.drop (x.toNat + 1)) else some false).bind (fun b => if b = true then (z8.f k l0_0 l0_1 0).bind fun t => some (decide (t ≤ 7)) else some false)) := ⟨_, rfl⟩
        have HG := za.mk hg
        have H2 := za.mk (show (innerF k (l0_0.length : Int) x (l0_1.length : Int) (l.drop (0 : Int).toNat)).bind g = some r by rw [hg]; rw [Option.bind_assoc] at H; exact H)
        clear H hg
        go_wp2
        go_loopw [40] (fun v40 wi => ∃ y : Int, v40 = .int .i64 y ∧ za (0 ≤ y ∧ y ≤ (l.length : Nat)) ∧ za ((innerF k (l0_0.length : Int) x (l0_1.length : Int) (l.drop y.toNat)).bind g = some r) ∧ za (Below wo.heap.size wo wi) ∧ za (wi.heap[w.heap.size]? = some (.cells #[.slice A0_0 l0_0.length c0_0, .slice (some ad) l0_1.length c0_1] 30 (0, 0)))) (fun v40 _ => l.length - (intOf v40).toNat)
        case atStart => exact ⟨0, rfl, ⟨by omega, by omega⟩, H2, ⟨Below.refl _ _⟩, HBX⟩
        case round =>
          clear H2 xb0 xb1 HBX
          obtain ⟨y, rfl, HY, HI, HBi, HBX⟩ := hrel
          have xb0 : wr.cell? ⟨w.heap.size, 0, none⟩ = some (.slice A0_0 l0_0.length c0_0) := (zf HBX.out 0).trans rfl
          have xb1 : wr.cell? ⟨w.heap.size, 1, none⟩ = some (.slice (some ad) l0_1.length c0_1) := (zf HBX.out 1).trans rfl
          by_cases e0 : y < ((l.length : Nat) : Int)
          · have e0b : decide (y < ((l.length : Nat) : Int)) = true := decide_eq_true e0
            have hy0 := HY.out.1
            obtain ⟨ad2, D1, d1, D2, d2, ea2, hya, hyb, hyc, hyd, hle1, hre1, hle2, hre2⟩ := at_T52 (Kd.zX HLR.out HBi.out) y hy0 e0
            cases ea2
            obtain ⟨a, ha⟩ : ∃ a, a = zM l y := ⟨_, rfl⟩
            rw [← ha] at hya hyb hyc hyd hle1 hre1 hle2 hre2
            have hdrop : l.drop y.toNat = a :: l.drop (y.toNat + 1) := by
              have hlt : y.toNat < l.length := by omega
              rw [List.drop_eq_getElem_cons hlt, ha]
              simp [zM, List.getD, hlt]
            have H := HI.out
            clear HI ha
            rw [hdrop, innerF, Option.bind_assoc] at H
            clear hdrop
            obtain ⟨b, hb, H⟩ := Option.bind_eq_some_iff.1 H
            have HAC := za.mk hb
            have HN := za.mk H
            have HR1 := za.mk hre1
            have HR2 := za.mk hre2
            have HL1 := za.mk hle1
            have HL2 := za.mk hle2
            have HPy := za.mk e0
            have p2 := eq_true hy0
            have p3 := eq_true e0
            clear hb H hre1 hre2 hle1 hle2 e0 hy0
            go_upto_region 13 with (fail)
            obtain ⟨wa, hwa⟩ : ∃ wa, wa = wr.alloc (.cells #[.int .i64 a.f0, .slice D1 a.f1.length d1, .slice D2 a.f2.length d2, .int .i64 a.f3] 52) := ⟨_, rfl⟩
            rw [← hwa]
            have HBA := za.mk (show Below wr.heap.size wr wa by rw [hwa]; exact zc (Below.refl _ _) _)
            have HA := za.mk (show wa.heap[wr.heap.size]? = some (.cells #[.int .i64 a.f0, .slice D1 a.f1.length d1, .slice D2 a.f2.length d2, .int .i64 a.f3] 52 (0, 0)) by rw [hwa]; exact heap_alloc_new wr _)
            clear hwa
            have HBXA := za.mk ((HBA.out.block _ (yO HBX.out)).trans HBX.out)
            have HRA := za.mk (Kd.zX HR1.out HBA.out)
            have HRB := za.mk (Kd.zX HR2.out HBA.out)
            have HS := za.mk (show ∀ w', Below wa.heap.size wa w' → (Below wa.heap.size wa w' ∧ w'.cell? ⟨w.heap.size, 0, none⟩ = some (.slice A0_0 l0_0.length c0_0) ∧ w'.cell? ⟨w.heap.size, 1, none⟩ = some (.slice (some ad) l0_1.length c0_1) ∧ w'.cell? ⟨wr.heap.size, 0, none⟩ = some (.int .i64 a.f0) ∧ w'.cell? ⟨wr.heap.size, 1, none⟩ = some (.slice D1 a.f1.length d1) ∧ w'.cell? ⟨wr.heap.size, 2, none⟩ = some (.slice D2 a.f2.length d2) ∧ w'.cell? ⟨wr.heap.size, 3, none⟩ = some (.int .i64 a.f3)) from fun w' hb => ⟨hb, (zf ((hb.block _ (yO HBXA.out)).trans HBXA.out) 0).trans rfl, (zf ((hb.block _ (yO HBXA.out)).trans HBXA.out) 1).trans rfl, (zf ((hb.block _ (yO HA.out)).trans HA.out) 0).trans rfl, (zf ((hb.block _ (yO HA.out)).trans HA.out) 1).trans rfl, (zf ((hb.block _ (yO HA.out)).trans HA.out) 2).trans rfl, (zf ((hb.block _ (yO HA.out)).trans HA.out) 3).trans rfl⟩)
            clear xb0 xb1 hya hyb hyc hyd
            go_cut [54] (fun v54 wc => v54 = .bool (!b) ∧ za (Below wa.heap.size wa wc))
            case first =>
              obtain ⟨sb, s0, s1, s2, s3, s4, s5⟩ := HS.out wa (Below.refl _ _)
              go_region_held3 (fun w' => Below wa.heap.size wa w' ∧ w'.cell? ⟨w.heap.size, 0, none⟩ = some (.slice A0_0 l0_0.length c0_0) ∧ w'.cell? ⟨w.heap.size, 1, none⟩ = some (.slice (some ad) l0_1.length c0_1) ∧ w'.cell? ⟨wr.heap.size, 0, none⟩ = some (.int .i64 a.f0) ∧ w'.cell? ⟨wr.heap.size, 1, none⟩ = some (.slice D1 a.f1.length d1) ∧ w'.cell? ⟨wr.heap.size, 2, none⟩ = some (.slice D2 a.f2.length d2) ∧ w'.cell? ⟨wr.heap.size, 3, none⟩ = some (.int .i64 a.f3)) (first | exact HS.out _ (yh (Below.refl _ _)) | exact HS.out _ (Below.refl _ _) | (refine HS.out _ ?_; first | exact zp (And.left (by assumption)) (by assumption) | exact And.left (by assumption)) | go_keep) (first | (go_at_call 28; refine (impl_partOfAct.calls a.f0 D1 a.f1.length d1 D2 a.f2.length d2 a.f3 _).mono ?_; rintro e wq ⟨rfl, hq_⟩) | (go_at_call 47; refine (xJ.calls k a.f0 D1 d1 a.f1 D2 d2 a.f2 a.f3 (l0_0.length : Int) x (l0_1.length : Int) b _ (by exact Kd.zX HRA.out (And.left (by assumption))) HL1.out (by exact Kd.zX HRB.out (And.left (by assumption))) HL2.out HAC.out).mono ?_; rintro e wz ⟨rfl, hz_⟩))
              go_wp2_with fail
              go_meet
              exact ⟨rfl, ⟨And.left (by assumption)⟩⟩
            case rest =>
              obtain ⟨rfl, HC_⟩ := hcut
              have HWC := za.mk (show Below wo.heap.size wo wc from zp (zp HBi.out HBA.out) HC_.out)
              have HBXC := za.mk ((HC_.out.block _ (yO HBXA.out)).trans HBXA.out)
              clear HC_ HS HA HBA HBXA HRA HRB HR1 HR2 HL1 HL2 HAC HBi HBX
              cases b with
              | false =>
                have hr := HN.out
                rw [if_neg Bool.false_ne_true, Option.bind_some, HG.out] at hr
                obtain rfl : false = r := by simpa using hr
                clear hr HN
                go_wp2
                go_ret
                exact ⟨rfl, zp HB.out HWC.out⟩
              | true =>
                have hr := HN.out
                rw [if_pos rfl] at hr
                have HN2 := za.mk hr
                clear hr HN
                go_wp2
                go_roundw
                case rel =>
                  have e1 : (wrap64 (y + 1)) = y + 1 := by have h1 := HY.out.1; have h2 := HPy.out; have h3 := HLM.out; unfold wrap64; omega
                  refine ⟨_, rfl, ⟨?_⟩, ⟨?_⟩, HWC, HBXC⟩
                  · rw [e1]; exact ⟨by have := HY.out.1; omega, by have := HPy.out; omega⟩
                  · rw [e1, show (y + 1).toNat = y.toNat + 1 by have := HY.out.1; omega]
                    exact HN2.out
                case measure =>
                  have h1 := HY.out.1
                  have h2 := HPy.out
                  have h3 := HLM.out
                  have e1 : (wrap64 (y + 1)) = y + 1 := by unfold wrap64; omega
                  rw [e1]
                  simp [intOf]
                  omega
          · have e0b : decide (y < ((l.length : Nat) : Int)) = false := decide_eq_false e0
            have HE := za.mk (show y.toNat = l.length by have := HY.out.1; have := HY.out.2; omega)
            have hr := HI.out
            rw [HE.out, List.drop_length, innerF, Option.bind_some, HG.out] at hr
            dsimp only at hr
            rw [if_pos rfl] at hr
            have HN2 := za.mk hr
            clear hr HI e0
            go_wp2
            go_roundw
            case rel =>
              have e1 : (wrap64 (x + 1)) = x + 1 := by have h1 := HX.out.1; have h2 := HP.out; have h3 := HM.out; unfold wrap64; omega
              refine ⟨_, rfl, ⟨?_⟩, ⟨?_⟩, ⟨zp HB.out HBi.out⟩, HBX⟩
              · rw [e1]; exact ⟨by have := HX.out.1; omega, by have := HP.out; omega⟩
              · rw [e1, show (x + 1).toNat = x.toNat + 1 by have := HX.out.1; omega]
                exact HN2.out
            case measure =>
              have h1 := HX.out.1
              have h2 := HP.out
              have h3 := HM.out
              have e1 : (wrap64 (x + 1)) = x + 1 := by unfold wrap64; omega
              rw [e1]
              simp [intOf]
              omega
    · have c0b : decide (x < ((l0_1.length : Nat) : Int)) = false := decide_eq_false c0
      have HE := za.mk (show x.toNat = l0_1.length by have := HX.out.1; have := HX.out.2; omega)
      have hr := HH.out
      rw [HE.out, List.drop_length, outerF, Option.bind_some, if_pos rfl] at hr
      obtain ⟨t, ht, hr⟩ := Option.bind_eq_some_iff.1 hr
      obtain rfl : decide (t ≤ 7) = r := by simpa using hr
      have HT := za.mk ht
      clear hr ht HH c0
      go_wp2_with fail
      refine (z8.calls k _ _ l0_0 _ _ l0_1 0 t _ (by exact Kd.zX HR0.out HB.out) HC0.out (by exact Kd.zX HR1.out HB.out) HC1.out HT.out).mono ?_
      rintro e w5 ⟨rfl, hb5⟩
      have HB5 := za.mk (zp HB.out hb5)
      clear hb5
      by_cases q5 : t ≤ 7
      · have m1 : decide (t ≤ 7) = true := decide_eq_true q5
        have HQ := za.mk m1
        clear q5
        go_wp2
        go_ret
        exact ⟨by rw [HQ.out]; rfl, HB5.out⟩
      · have m1 : decide (t ≤ 7) = false := decide_eq_false q5
        have HQ := za.mk m1
        clear q5
        go_wp2
        go_ret
        exact ⟨by rw [HQ.out]; rfl, HB5.out⟩
def yA.f (a0 : Int) : Option ByteArray := if 0 ≤ a0 ∧ a0 ≤ 99 then some ⟨(Lib.decDigits a0.toNat).toArray⟩ else none
theorem yA.calls (a0 : Int) (r : ByteArray) (w : World) (h : yA.f a0 = some r) : Calls Tryd.prog 26 #[.int .i64 a0] w fun e w' => e = .returned (.string r) ∧ w' = w := by
  unfold yA.f at h
  have c : 0 ≤ a0 ∧ a0 ≤ 99 := Classical.byContradiction fun c => by rw [if_neg c] at h; exact absurd h (by simp)
  rw [if_pos c] at h
  injection h with h
  subst h
  have k := Shelf.Tryd.strconv_Itoa_small a0.toNat (by omega) w
  rw [Int.toNat_of_nonneg c.1] at k
  exact k
def ym.f (a0 : Int) : Option ByteArray := if 0 ≤ a0 ∧ a0 ≤ 2 then some (strOfNums [114 + a0]) else none
set_option maxRecDepth 100000 in
theorem ym.calls (a0 : Int) (r : ByteArray) (w : World) (h : ym.f a0 = some r) : Calls Tryd.prog 53 #[.int .i64 a0] w fun e w' => e = .returned (.string r) ∧ w' = w := by
  unfold ym.f at h
  have c : 0 ≤ a0 ∧ a0 ≤ 2 := Classical.byContradiction fun c => by rw [if_neg c] at h; exact absurd h (by simp)
  rw [if_pos c] at h
  injection h with h
  subst h
  have hc : a0 = 0 ∨ a0 = 1 ∨ a0 = 2 := by omega
  clear c
  rcases hc with rfl | rfl | rfl
  · have he : Utf8.encode 114 = strOfNums [114 + 0] := by kernel_rfl
    go_enter Tryd.func53, Tryd.ntmps53
    go_wp2
    go_ret
    exact ⟨rfl, rfl⟩
  · have he : Utf8.encode 115 = strOfNums [114 + 1] := by kernel_rfl
    go_enter Tryd.func53, Tryd.ntmps53
    go_wp2
    go_ret
    exact ⟨rfl, rfl⟩
  · have he : Utf8.encode 116 = strOfNums [114 + 2] := by kernel_rfl
    go_enter Tryd.func53, Tryd.ntmps53
    go_wp2
    go_ret
    exact ⟨rfl, rfl⟩
def y8.f (a0 : Int) : Option ByteArray := if 0 ≤ a0 ∧ a0 ≤ 2 then some (strOfNums [65 + a0]) else none
set_option maxRecDepth 100000 in
theorem y8.calls (a0 : Int) (r : ByteArray) (w : World) (h : y8.f a0 = some r) : Calls Tryd.prog 70 #[.int .i64 a0] w fun e w' => e = .returned (.string r) ∧ w' = w := by
  unfold y8.f at h
  have c : 0 ≤ a0 ∧ a0 ≤ 2 := Classical.byContradiction fun c => by rw [if_neg c] at h; exact absurd h (by simp)
  rw [if_pos c] at h
  injection h with h
  subst h
  have hc : a0 = 0 ∨ a0 = 1 ∨ a0 = 2 := by omega
  clear c
  rcases hc with rfl | rfl | rfl
  · have he : Utf8.encode 65 = strOfNums [65 + 0] := by kernel_rfl
    go_enter Tryd.func70, Tryd.ntmps70
    go_wp2
    go_ret
    exact ⟨rfl, rfl⟩
  · have he : Utf8.encode 66 = strOfNums [65 + 1] := by kernel_rfl
    go_enter Tryd.func70, Tryd.ntmps70
    go_wp2
    go_ret
    exact ⟨rfl, rfl⟩
  · have he : Utf8.encode 67 = strOfNums [65 + 2] := by kernel_rfl
    go_enter Tryd.func70, Tryd.ntmps70
    go_wp2
    go_ret
    exact ⟨rfl, rfl⟩
end Go.Proofs.YtoeepmcaabmjkaaDoor.QPO
namespace Go.Proofs.YtoeepmcaabmjkaaDoor.QPO
open Go.RowKit Go.Proofs.YtoeepmcaabmjkaaDoorW.PrintWords Go.Proofs.YtoeepmcaabmjkaaDoorW.PrintLast Go.Proofs.YtoeepmcaabmjkaaDoorW.PrintMore
attribute [local go_sem] yz yx yQ yP yl yk yy yw   -- for this text's walks alone
set_option linter.unusedVariables false
set_option linter.unusedSimpArgs false
theorem R_freshT {α : Type} {d : Kd α} {e : Nat} {w : World} {base b : Nat} {ok : Nat → Prop} {xs : List α} {cs : List Value} (h : w.heap[b]? = some (.cells cs.toArray e (0, 0))) (hb : base ≤ b) (hok : ok b) (hl : xs.length ≤ maxLen)
    (hr : yt (d.M w base (fun k => ok k ∧ k ≠ b)) d.sz xs cs) : Kd.R d e w base ok (.slice (some ⟨b, 0, none⟩) xs.length xs.length) xs := by
  have hcl : cs.length = xs.length * d.sz := hr.1
  refine ⟨fun k hk => ?_, cs, ⟨hcl, .inr ⟨b, xs.length, cs.toArray, rfl, hb, h, Nat.le_refl _, hl, by simpa using hcl, ?_⟩⟩, hr.imp_ (fun _ _ hp => d.M_mono (fun k hk => ⟨hk.1, fun e => hk.2 (by simpa [Value.ownBlock] using e)⟩) hp)⟩
  · have : b = k := by simpa [Value.ownBlock] using hk
    subst this
    exact hok
  · rw [← hcl]; simp
theorem alloc_atT {W : World} {o : Obj} {b : Nat} (h : W.heap.size = b) : (W.alloc o).heap[b]? = some o := by subst h; exact heap_alloc_new W o
def yj.f (a0 : Part) : Option ByteArray :=
  if a0.t = 1 then (ym.f a0.a).bind fun x => (y8.f a0.b).bind fun y => some (x ++ (⟨#[61]⟩ : ByteArray) ++ y)
  else if a0.t = 2 then (y8.f a0.a).bind fun x => (ym.f a0.b).bind fun y => some (x ++ (⟨#[61]⟩ : ByteArray) ++ y)
  else if a0.t = 3 then (ym.f a0.a).bind fun x => (yA.f a0.b).bind fun y => some (x ++ (⟨#[61]⟩ : ByteArray) ++ y)
  else if a0.t = 4 then (ym.f a0.a).bind fun x => (ym.f a0.b).bind fun y => some (x ++ (⟨#[43]⟩ : ByteArray) ++ y)
  else if a0.t = 5 then (ym.f a0.a).bind fun x => some (x ++ (⟨#[63]⟩ : ByteArray))
  else some (⟨#[]⟩ : ByteArray)
theorem yR {a : Int} {r : ByteArray} (h : ym.f a = some r) : r.size = 1 := by
  unfold ym.f at h
  split at h
  · injection h with h; rw [← h]; rfl
  · cases h
theorem cellName_size {a : Int} {r : ByteArray} (h : y8.f a = some r) : r.size = 1 := by
  unfold y8.f at h
  split at h
  · injection h with h; rw [← h]; rfl
  · cases h
theorem dec_len (n : Nat) (h : n < 100) : (Lib.decDigits n).length ≤ 2 := by
  by_cases c : n < 10
  · rw [Lib.decDigits_one c]; simp
  · rw [Lib.decDigits_two c h]; simp
theorem xF {a : Int} {r : ByteArray} (h : yA.f a = some r) : r.size ≤ 2 := by
  unfold yA.f at h
  split at h
  · rename_i c
    injection h with h
    rw [← h]
    have := dec_len a.toNat (by omega)
    simpa [ByteArray.size] using this
  · cases h
set_option maxHeartbeats 8000000 in
set_option maxRecDepth 100000 in
theorem yj.calls (a0 : Part) (r : ByteArray) (w : World) (h : yj.f a0 = some r) :
    Calls Tryd.prog 50 #[partW a0] w fun e w' => e = .returned (.string r) ∧ Below w.heap.size w w' := by
  obtain ⟨t, a, b⟩ := a0
  have hu1 := Tryd.underlying119
  have hu2 := Tryd.underlying121
  have hu3 := Tryd.underlying123
  have hu4 := Tryd.underlying125
  have hu5 := Tryd.underlying126
  unfold yj.f at h
  simp only at h
  by_cases c1 : t = 1
  · subst c1
    rw [if_pos rfl] at h
    show Calls Tryd.prog 50 #[.iface 119 (.agg #[.int .i64 a, .int .i64 b])] w _
    have y1 : ∀ W, (Instr.typeAssert (.iface 119 (.agg #[.int .i64 a, .int .i64 b])) 57 119 true).run Tryd.prog W = .ok (.tuple #[.agg #[.int .i64 a, .int .i64 b], .bool true]) W := fun W => by kernel_rfl
    obtain ⟨x, hx, h⟩ := Option.bind_eq_some_iff.1 h
    have sx := yR hx
    have HX := za.mk hx
    clear hx
    obtain ⟨y, hy, h⟩ := Option.bind_eq_some_iff.1 h
    have sy := cellName_size hy
    have HY := za.mk hy
    clear hy
    injection h with h
    subst h
    go_enter Tryd.func50, Tryd.ntmps50
    have cb0 : (w.alloc (.cells #[.int .i64 a, .int .i64 b] 119)).drew.cell? ⟨w.heap.size, 0, none⟩ = some (.int .i64 a) := (zf (zm (heap_alloc_new _ _)) 0).trans rfl
    have cb1 : (w.alloc (.cells #[.int .i64 a, .int .i64 b] 119)).drew.cell? ⟨w.heap.size, 1, none⟩ = some (.int .i64 b) := (zf (zm (heap_alloc_new _ _)) 1).trans rfl
    go_upto_region 4 with (fail)
    refine xi (n := 9) (S := fun w' => w'.cell? ⟨w.heap.size, 0, none⟩ = some (.int .i64 a) ∧ w'.cell? ⟨w.heap.size, 1, none⟩ = some (.int .i64 b)) (ds := []) #[false, false, false, false, false, false, false, false, false] (by kernel_rfl) rfl rfl ⟨cb0, cb1⟩ (fun hHeld => ?_)
    refine zF (i := 0) (N := some 12) (v := ?_) (a' := ?_) #[true, false, false, false, false, false, false, false, false] rfl rfl (by kernel_rfl) (fun _ _ _ h => h) (Or.inl ⟨by rfl, ?_⟩) ?_ ?_
    rotate_left
    · intro w'
      go_simp
      with_reducible rfl
    rotate_left
    · simp only [Act.put, List.setIfInBounds_toArray, List.set_cons_zero, List.set_cons_succ, zn, zo]
      rfl
    refine zF (i := 4) (N := some 16) (v := ?_) (a' := ?_) #[true, false, false, false, true, false, false, false, false] rfl rfl (by kernel_rfl) (fun _ _ _ h => h) (Or.inl ⟨by rfl, ?_⟩) ?_ ?_
    rotate_left
    · intro w'
      go_simp
      with_reducible rfl
    rotate_left
    · simp only [Act.put, List.setIfInBounds_toArray, List.set_cons_zero, List.set_cons_succ, zn, zo]
      rfl
    refine yK (i := 1) (N := some 13) (v := ?_) (a' := ?_) #[true, true, false, false, true, false, false, false, false] rfl rfl (by kernel_rfl) (fun _ _ _ h => h) (Or.inl ⟨by rfl, ?_⟩) hHeld ?_ ?_
    rotate_left
    · rintro w' ⟨s0, s1⟩
      go_simp
      with_reducible rfl
    rotate_left
    · simp only [Act.put, List.setIfInBounds_toArray, List.set_cons_zero, List.set_cons_succ, zn, zo]
      rfl
    refine yK (i := 5) (N := some 17) (v := ?_) (a' := ?_) #[true, true, false, false, true, true, false, false, false] rfl rfl (by kernel_rfl) (fun _ _ _ h => h) (Or.inl ⟨by rfl, ?_⟩) hHeld ?_ ?_
    rotate_left
    · rintro w' ⟨s0, s1⟩
      go_simp
      with_reducible rfl
    rotate_left
    · simp only [Act.put, List.setIfInBounds_toArray, List.set_cons_zero, List.set_cons_succ, zn, zo]
      rfl
    refine yM (i := 2) (N := some 14) #[true, true, true, false, true, true, false, false, false] rfl rfl (by kernel_rfl) (by decide) (fun K hK => ?_)
    refine y7 Tryd.func53 (by kernel_rfl) rfl #[.int .i64 a] (by rfl) rfl rfl (by simp only [List.map_toArray, List.map_cons, List.map_nil]; rfl) ?_
    with_reducible refine (ym.calls a x _ HX.out).mono ?_
    rintro e wc ⟨rfl, rfl⟩
    refine ⟨_, rfl, ?_⟩
    refine hK.out _ _ ⟨cb0, cb1⟩ (fun hHeld => ?_)
    clear hK K
    refine zQ (a' := ?_) ?_ ?_
    rotate_left
    · show Act.put _ (some 14) _ = _
      simp only [Act.put, List.setIfInBounds_toArray, List.set_cons_zero, List.set_cons_succ, zn, zo]
      rfl
    refine zF (i := 3) (N := some 15) (v := ?_) (a' := ?_) #[true, true, true, true, true, true, false, false, false] rfl rfl (by kernel_rfl) (fun _ _ _ h => h) (Or.inl ⟨by rfl, ?_⟩) ?_ ?_
    rotate_left
    · intro w'
      go_simp
      with_reducible rfl
    rotate_left
    · simp only [Act.put, List.setIfInBounds_toArray, List.set_cons_zero, List.set_cons_succ, zn, zo]
      rfl
    refine yM (i := 6) (N := some 18) #[true, true, true, true, true, true, true, false, false] rfl rfl (by kernel_rfl) (by decide) (fun K hK => ?_)
    refine y7 Tryd.func70 (by kernel_rfl) rfl #[.int .i64 b] (by rfl) rfl rfl (by simp only [List.map_toArray, List.map_cons, List.map_nil]; rfl) ?_
    with_reducible refine (y8.calls b y _ HY.out).mono ?_
    rintro e wc ⟨rfl, rfl⟩
    refine ⟨_, rfl, ?_⟩
    refine hK.out _ _ ⟨cb0, cb1⟩ (fun hHeld => ?_)
    clear hK K
    refine zQ (a' := ?_) ?_ ?_
    rotate_left
    · show Act.put _ (some 18) _ = _
      simp only [Act.put, List.setIfInBounds_toArray, List.set_cons_zero, List.set_cons_succ, zn, zo]
      rfl
    refine zF (i := 7) (N := some 19) (v := ?_) (a' := ?_) #[true, true, true, true, true, true, true, true, false] rfl rfl (by kernel_rfl) (fun _ _ _ h => h) (Or.inl ⟨by rfl, ?_⟩) ?_ ?_
    rotate_left
    · intro w'
      go_simp
      with_reducible rfl
    rotate_left
    · simp only [Act.put, List.setIfInBounds_toArray, List.set_cons_zero, List.set_cons_succ, zn, zo]
      rfl
    refine zF (i := 8) (N := some 2) (v := ?_) (a' := ?_) #[true, true, true, true, true, true, true, true, true] rfl rfl (by kernel_rfl) (fun _ _ _ h => h) (Or.inl ⟨by rfl, ?_⟩) ?_ ?_
    rotate_left
    · intro w'
      go_simp
      with_reducible rfl
    rotate_left
    · simp only [Act.put, List.setIfInBounds_toArray, List.set_cons_zero, List.set_cons_succ, zn, zo]
      rfl
    refine xA (by kernel_rfl) ?_
    go_wp2
    go_ret
    exact ⟨rfl, by repeat (first | exact Below.refl _ _ | apply zd | apply zb | apply zc)⟩
  by_cases c2 : t = 2
  · subst c2
    rw [if_neg (by decide), if_pos rfl] at h
    show Calls Tryd.prog 50 #[.iface 121 (.agg #[.int .i64 a, .int .i64 b])] w _
    have y1 : ∀ W, (Instr.typeAssert (.iface 121 (.agg #[.int .i64 a, .int .i64 b])) 57 119 true).run Tryd.prog W = .ok (.tuple #[.agg #[.int .i64 0, .int .i64 0], .bool false]) W := fun W => by kernel_rfl
    have y2 : ∀ W, (Instr.typeAssert (.iface 121 (.agg #[.int .i64 a, .int .i64 b])) 57 121 true).run Tryd.prog W = .ok (.tuple #[.agg #[.int .i64 a, .int .i64 b], .bool true]) W := fun W => by kernel_rfl
    obtain ⟨x, hx, h⟩ := Option.bind_eq_some_iff.1 h
    have sx := cellName_size hx
    have HX := za.mk hx
    clear hx
    obtain ⟨y, hy, h⟩ := Option.bind_eq_some_iff.1 h
    have sy := yR hy
    have HY := za.mk hy
    clear hy
    injection h with h
    subst h
    go_enter Tryd.func50, Tryd.ntmps50
    have cb0 : (w.alloc (.cells #[.int .i64 a, .int .i64 b] 121)).drew.cell? ⟨w.heap.size, 0, none⟩ = some (.int .i64 a) := (zf (zm (heap_alloc_new _ _)) 0).trans rfl
    have cb1 : (w.alloc (.cells #[.int .i64 a, .int .i64 b] 121)).drew.cell? ⟨w.heap.size, 1, none⟩ = some (.int .i64 b) := (zf (zm (heap_alloc_new _ _)) 1).trans rfl
    go_upto_region 7 with (fail)
    refine xi (n := 9) (S := fun w' => w'.cell? ⟨w.heap.size, 0, none⟩ = some (.int .i64 a) ∧ w'.cell? ⟨w.heap.size, 1, none⟩ = some (.int .i64 b)) (ds := []) #[false, false, false, false, false, false, false, false, false] (by kernel_rfl) rfl rfl ⟨cb0, cb1⟩ (fun hHeld => ?_)
    refine zF (i := 0) (N := some 23) (v := ?_) (a' := ?_) #[true, false, false, false, false, false, false, false, false] rfl rfl (by kernel_rfl) (fun _ _ _ h => h) (Or.inl ⟨by rfl, ?_⟩) ?_ ?_
    rotate_left
    · intro w'
      go_simp
      with_reducible rfl
    rotate_left
    · simp only [Act.put, List.setIfInBounds_toArray, List.set_cons_zero, List.set_cons_succ, zn, zo]
      rfl
    refine zF (i := 4) (N := some 27) (v := ?_) (a' := ?_) #[true, false, false, false, true, false, false, false, false] rfl rfl (by kernel_rfl) (fun _ _ _ h => h) (Or.inl ⟨by rfl, ?_⟩) ?_ ?_
    rotate_left
    · intro w'
      go_simp
      with_reducible rfl
    rotate_left
    · simp only [Act.put, List.setIfInBounds_toArray, List.set_cons_zero, List.set_cons_succ, zn, zo]
      rfl
    refine yK (i := 1) (N := some 24) (v := ?_) (a' := ?_) #[true, true, false, false, true, false, false, false, false] rfl rfl (by kernel_rfl) (fun _ _ _ h => h) (Or.inl ⟨by rfl, ?_⟩) hHeld ?_ ?_
    rotate_left
    · rintro w' ⟨s0, s1⟩
      go_simp
      with_reducible rfl
    rotate_left
    · simp only [Act.put, List.setIfInBounds_toArray, List.set_cons_zero, List.set_cons_succ, zn, zo]
      rfl
    refine yK (i := 5) (N := some 28) (v := ?_) (a' := ?_) #[true, true, false, false, true, true, false, false, false] rfl rfl (by kernel_rfl) (fun _ _ _ h => h) (Or.inl ⟨by rfl, ?_⟩) hHeld ?_ ?_
    rotate_left
    · rintro w' ⟨s0, s1⟩
      go_simp
      with_reducible rfl
    rotate_left
    · simp only [Act.put, List.setIfInBounds_toArray, List.set_cons_zero, List.set_cons_succ, zn, zo]
      rfl
    refine yM (i := 2) (N := some 25) #[true, true, true, false, true, true, false, false, false] rfl rfl (by kernel_rfl) (by decide) (fun K hK => ?_)
    refine y7 Tryd.func70 (by kernel_rfl) rfl #[.int .i64 a] (by rfl) rfl rfl (by simp only [List.map_toArray, List.map_cons, List.map_nil]; rfl) ?_
    with_reducible refine (y8.calls a x _ HX.out).mono ?_
    rintro e wc ⟨rfl, rfl⟩
    refine ⟨_, rfl, ?_⟩
    refine hK.out _ _ ⟨cb0, cb1⟩ (fun hHeld => ?_)
    clear hK K
    refine zQ (a' := ?_) ?_ ?_
    rotate_left
    · show Act.put _ (some 25) _ = _
      simp only [Act.put, List.setIfInBounds_toArray, List.set_cons_zero, List.set_cons_succ, zn, zo]
      rfl
    refine zF (i := 3) (N := some 26) (v := ?_) (a' := ?_) #[true, true, true, true, true, true, false, false, false] rfl rfl (by kernel_rfl) (fun _ _ _ h => h) (Or.inl ⟨by rfl, ?_⟩) ?_ ?_
    rotate_left
    · intro w'
      go_simp
      with_reducible rfl
    rotate_left
    · simp only [Act.put, List.setIfInBounds_toArray, List.set_cons_zero, List.set_cons_succ, zn, zo]
      rfl
    refine yM (i := 6) (N := some 29) #[true, true, true, true, true, true, true, false, false] rfl rfl (by kernel_rfl) (by decide) (fun K hK => ?_)
    refine y7 Tryd.func53 (by kernel_rfl) rfl #[.int .i64 b] (by rfl) rfl rfl (by simp only [List.map_toArray, List.map_cons, List.map_nil]; rfl) ?_
    with_reducible refine (ym.calls b y _ HY.out).mono ?_
    rintro e wc ⟨rfl, rfl⟩
    refine ⟨_, rfl, ?_⟩
    refine hK.out _ _ ⟨cb0, cb1⟩ (fun hHeld => ?_)
    clear hK K
    refine zQ (a' := ?_) ?_ ?_
    rotate_left
    · show Act.put _ (some 29) _ = _
      simp only [Act.put, List.setIfInBounds_toArray, List.set_cons_zero, List.set_cons_succ, zn, zo]
      rfl
    refine zF (i := 7) (N := some 30) (v := ?_) (a' := ?_) #[true, true, true, true, true, true, true, true, false] rfl rfl (by kernel_rfl) (fun _ _ _ h => h) (Or.inl ⟨by rfl, ?_⟩) ?_ ?_
    rotate_left
    · intro w'
      go_simp
      with_reducible rfl
    rotate_left
    · simp only [Act.put, List.setIfInBounds_toArray, List.set_cons_zero, List.set_cons_succ, zn, zo]
      rfl
    refine zF (i := 8) (N := some 2) (v := ?_) (a' := ?_) #[true, true, true, true, true, true, true, true, true] rfl rfl (by kernel_rfl) (fun _ _ _ h => h) (Or.inl ⟨by rfl, ?_⟩) ?_ ?_
    rotate_left
    · intro w'
      go_simp
      with_reducible rfl
    rotate_left
    · simp only [Act.put, List.setIfInBounds_toArray, List.set_cons_zero, List.set_cons_succ, zn, zo]
      rfl
    refine xA (by kernel_rfl) ?_
    go_wp2
    go_ret
    exact ⟨rfl, by repeat (first | exact Below.refl _ _ | apply zd | apply zb | apply zc)⟩
  by_cases c3 : t = 3
  · subst c3
    rw [if_neg (by decide), if_neg (by decide), if_pos rfl] at h
    show Calls Tryd.prog 50 #[.iface 123 (.agg #[.int .i64 a, .int .i64 b])] w _
    have y1 : ∀ W, (Instr.typeAssert (.iface 123 (.agg #[.int .i64 a, .int .i64 b])) 57 119 true).run Tryd.prog W = .ok (.tuple #[.agg #[.int .i64 0, .int .i64 0], .bool false]) W := fun W => by kernel_rfl
    have y2 : ∀ W, (Instr.typeAssert (.iface 123 (.agg #[.int .i64 a, .int .i64 b])) 57 121 true).run Tryd.prog W = .ok (.tuple #[.agg #[.int .i64 0, .int .i64 0], .bool false]) W := fun W => by kernel_rfl
    have y3 : ∀ W, (Instr.typeAssert (.iface 123 (.agg #[.int .i64 a, .int .i64 b])) 57 123 true).run Tryd.prog W = .ok (.tuple #[.agg #[.int .i64 a, .int .i64 b], .bool true]) W := fun W => by kernel_rfl
    obtain ⟨x, hx, h⟩ := Option.bind_eq_some_iff.1 h
    have sx := yR hx
    have HX := za.mk hx
    clear hx
    obtain ⟨y, hy, h⟩ := Option.bind_eq_some_iff.1 h
    have sy := xF hy
    have HY := za.mk hy
    clear hy
    have sy2 : ¬ (9223372036854775807 < 2 + y.size) := by omega
    injection h with h
    subst h
    go_enter Tryd.func50, Tryd.ntmps50
    have cb0 : (w.alloc (.cells #[.int .i64 a, .int .i64 b] 123)).drew.cell? ⟨w.heap.size, 0, none⟩ = some (.int .i64 a) := (zf (zm (heap_alloc_new _ _)) 0).trans rfl
    have cb1 : (w.alloc (.cells #[.int .i64 a, .int .i64 b] 123)).drew.cell? ⟨w.heap.size, 1, none⟩ = some (.int .i64 b) := (zf (zm (heap_alloc_new _ _)) 1).trans rfl
    go_upto_region 10 with (fail)
    refine xi (n := 9) (S := fun w' => w'.cell? ⟨w.heap.size, 0, none⟩ = some (.int .i64 a) ∧ w'.cell? ⟨w.heap.size, 1, none⟩ = some (.int .i64 b)) (ds := []) #[false, false, false, false, false, false, false, false, false] (by kernel_rfl) rfl rfl ⟨cb0, cb1⟩ (fun hHeld => ?_)
    refine zF (i := 0) (N := some 34) (v := ?_) (a' := ?_) #[true, false, false, false, false, false, false, false, false] rfl rfl (by kernel_rfl) (fun _ _ _ h => h) (Or.inl ⟨by rfl, ?_⟩) ?_ ?_
    rotate_left
    · intro w'
      go_simp
      with_reducible rfl
    rotate_left
    · simp only [Act.put, List.setIfInBounds_toArray, List.set_cons_zero, List.set_cons_succ, zn, zo]
      rfl
    refine zF (i := 4) (N := some 38) (v := ?_) (a' := ?_) #[true, false, false, false, true, false, false, false, false] rfl rfl (by kernel_rfl) (fun _ _ _ h => h) (Or.inl ⟨by rfl, ?_⟩) ?_ ?_
    rotate_left
    · intro w'
      go_simp
      with_reducible rfl
    rotate_left
    · simp only [Act.put, List.setIfInBounds_toArray, List.set_cons_zero, List.set_cons_succ, zn, zo]
      rfl
    refine yK (i := 1) (N := some 35) (v := ?_) (a' := ?_) #[true, true, false, false, true, false, false, false, false] rfl rfl (by kernel_rfl) (fun _ _ _ h => h) (Or.inl ⟨by rfl, ?_⟩) hHeld ?_ ?_
    rotate_left
    · rintro w' ⟨s0, s1⟩
      go_simp
      with_reducible rfl
    rotate_left
    · simp only [Act.put, List.setIfInBounds_toArray, List.set_cons_zero, List.set_cons_succ, zn, zo]
      rfl
    refine yK (i := 5) (N := some 39) (v := ?_) (a' := ?_) #[true, true, false, false, true, true, false, false, false] rfl rfl (by kernel_rfl) (fun _ _ _ h => h) (Or.inl ⟨by rfl, ?_⟩) hHeld ?_ ?_
    rotate_left
    · rintro w' ⟨s0, s1⟩
      go_simp
      with_reducible rfl
    rotate_left
    · simp only [Act.put, List.setIfInBounds_toArray, List.set_cons_zero, List.set_cons_succ, zn, zo]
      rfl
    refine yM (i := 2) (N := some 36) #[true, true, true, false, true, true, false, false, false] rfl rfl (by kernel_rfl) (by decide) (fun K hK => ?_)
    refine y7 Tryd.func53 (by kernel_rfl) rfl #[.int .i64 a] (by rfl) rfl rfl (by simp only [List.map_toArray, List.map_cons, List.map_nil]; rfl) ?_
    with_reducible refine (ym.calls a x _ HX.out).mono ?_
    rintro e wc ⟨rfl, rfl⟩
    refine ⟨_, rfl, ?_⟩
    refine hK.out _ _ ⟨cb0, cb1⟩ (fun hHeld => ?_)
    clear hK K
    refine zQ (a' := ?_) ?_ ?_
    rotate_left
    · show Act.put _ (some 36) _ = _
      simp only [Act.put, List.setIfInBounds_toArray, List.set_cons_zero, List.set_cons_succ, zn, zo]
      rfl
    refine zF (i := 3) (N := some 37) (v := ?_) (a' := ?_) #[true, true, true, true, true, true, false, false, false] rfl rfl (by kernel_rfl) (fun _ _ _ h => h) (Or.inl ⟨by rfl, ?_⟩) ?_ ?_
    rotate_left
    · intro w'
      go_simp
      with_reducible rfl
    rotate_left
    · simp only [Act.put, List.setIfInBounds_toArray, List.set_cons_zero, List.set_cons_succ, zn, zo]
      rfl
    refine yM (i := 6) (N := some 40) #[true, true, true, true, true, true, true, false, false] rfl rfl (by kernel_rfl) (by decide) (fun K hK => ?_)
    refine y7 Tryd.func26 (by kernel_rfl) rfl #[.int .i64 b] (by rfl) rfl rfl (by simp only [List.map_toArray, List.map_cons, List.map_nil]; rfl) ?_
    with_reducible refine (yA.calls b y _ HY.out).mono ?_
    rintro e wc ⟨rfl, rfl⟩
    refine ⟨_, rfl, ?_⟩
    refine hK.out _ _ ⟨cb0, cb1⟩ (fun hHeld => ?_)
    clear hK K
    refine zQ (a' := ?_) ?_ ?_
    rotate_left
    · show Act.put _ (some 40) _ = _
      simp only [Act.put, List.setIfInBounds_toArray, List.set_cons_zero, List.set_cons_succ, zn, zo]
      rfl
    refine zF (i := 7) (N := some 41) (v := ?_) (a' := ?_) #[true, true, true, true, true, true, true, true, false] rfl rfl (by kernel_rfl) (fun _ _ _ h => h) (Or.inl ⟨by rfl, ?_⟩) ?_ ?_
    rotate_left
    · intro w'
      go_simp
      with_reducible rfl
    rotate_left
    · simp only [Act.put, List.setIfInBounds_toArray, List.set_cons_zero, List.set_cons_succ, zn, zo]
      rfl
    refine zF (i := 8) (N := some 2) (v := ?_) (a' := ?_) #[true, true, true, true, true, true, true, true, true] rfl rfl (by kernel_rfl) (fun _ _ _ h => h) (Or.inl ⟨by rfl, ?_⟩) ?_ ?_
    rotate_left
    · intro w'
      go_simp
      with_reducible rfl
    rotate_left
    · simp only [Act.put, List.setIfInBounds_toArray, List.set_cons_zero, List.set_cons_succ, zn, zo]
      rfl
    refine xA (by kernel_rfl) ?_
    go_wp2
    go_ret
    exact ⟨rfl, by repeat (first | exact Below.refl _ _ | apply zd | apply zb | apply zc)⟩
  by_cases c4 : t = 4
  · subst c4
    rw [if_neg (by decide), if_neg (by decide), if_neg (by decide), if_pos rfl] at h
    show Calls Tryd.prog 50 #[.iface 125 (.agg #[.int .i64 a, .int .i64 b])] w _
    have y1 : ∀ W, (Instr.typeAssert (.iface 125 (.agg #[.int .i64 a, .int .i64 b])) 57 119 true).run Tryd.prog W = .ok (.tuple #[.agg #[.int .i64 0, .int .i64 0], .bool false]) W := fun W => by kernel_rfl
    have y2 : ∀ W, (Instr.typeAssert (.iface 125 (.agg #[.int .i64 a, .int .i64 b])) 57 121 true).run Tryd.prog W = .ok (.tuple #[.agg #[.int .i64 0, .int .i64 0], .bool false]) W := fun W => by kernel_rfl
    have y3 : ∀ W, (Instr.typeAssert (.iface 125 (.agg #[.int .i64 a, .int .i64 b])) 57 123 true).run Tryd.prog W = .ok (.tuple #[.agg #[.int .i64 0, .int .i64 0], .bool false]) W := fun W => by kernel_rfl
    have y4 : ∀ W, (Instr.typeAssert (.iface 125 (.agg #[.int .i64 a, .int .i64 b])) 57 125 true).run Tryd.prog W = .ok (.tuple #[.agg #[.int .i64 a, .int .i64 b], .bool true]) W := fun W => by kernel_rfl
    obtain ⟨x, hx, h⟩ := Option.bind_eq_some_iff.1 h
    have sx := yR hx
    have HX := za.mk hx
    clear hx
    obtain ⟨y, hy, h⟩ := Option.bind_eq_some_iff.1 h
    have sy := yR hy
    have HY := za.mk hy
    clear hy
    injection h with h
    subst h
    go_enter Tryd.func50, Tryd.ntmps50
    have cb0 : (w.alloc (.cells #[.int .i64 a, .int .i64 b] 125)).drew.cell? ⟨w.heap.size, 0, none⟩ = some (.int .i64 a) := (zf (zm (heap_alloc_new _ _)) 0).trans rfl
    have cb1 : (w.alloc (.cells #[.int .i64 a, .int .i64 b] 125)).drew.cell? ⟨w.heap.size, 1, none⟩ = some (.int .i64 b) := (zf (zm (heap_alloc_new _ _)) 1).trans rfl
    go_upto_region 13 with (fail)
    refine xi (n := 9) (S := fun w' => w'.cell? ⟨w.heap.size, 0, none⟩ = some (.int .i64 a) ∧ w'.cell? ⟨w.heap.size, 1, none⟩ = some (.int .i64 b)) (ds := []) #[false, false, false, false, false, false, false, false, false] (by kernel_rfl) rfl rfl ⟨cb0, cb1⟩ (fun hHeld => ?_)
    refine zF (i := 0) (N := some 45) (v := ?_) (a' := ?_) #[true, false, false, false, false, false, false, false, false] rfl rfl (by kernel_rfl) (fun _ _ _ h => h) (Or.inl ⟨by rfl, ?_⟩) ?_ ?_
    rotate_left
    · intro w'
      go_simp
      with_reducible rfl
    rotate_left
    · simp only [Act.put, List.setIfInBounds_toArray, List.set_cons_zero, List.set_cons_succ, zn, zo]
      rfl
    refine zF (i := 4) (N := some 49) (v := ?_) (a' := ?_) #[true, false, false, false, true, false, false, false, false] rfl rfl (by kernel_rfl) (fun _ _ _ h => h) (Or.inl ⟨by rfl, ?_⟩) ?_ ?_
    rotate_left
    · intro w'
      go_simp
      with_reducible rfl
    rotate_left
    · simp only [Act.put, List.setIfInBounds_toArray, List.set_cons_zero, List.set_cons_succ, zn, zo]
      rfl
    refine yK (i := 1) (N := some 46) (v := ?_) (a' := ?_) #[true, true, false, false, true, false, false, false, false] rfl rfl (by kernel_rfl) (fun _ _ _ h => h) (Or.inl ⟨by rfl, ?_⟩) hHeld ?_ ?_
    rotate_left
    · rintro w' ⟨s0, s1⟩
      go_simp
      with_reducible rfl
    rotate_left
    · simp only [Act.put, List.setIfInBounds_toArray, List.set_cons_zero, List.set_cons_succ, zn, zo]
      rfl
    refine yK (i := 5) (N := some 50) (v := ?_) (a' := ?_) #[true, true, false, false, true, true, false, false, false] rfl rfl (by kernel_rfl) (fun _ _ _ h => h) (Or.inl ⟨by rfl, ?_⟩) hHeld ?_ ?_
    rotate_left
    · rintro w' ⟨s0, s1⟩
      go_simp
      with_reducible rfl
    rotate_left
    · simp only [Act.put, List.setIfInBounds_toArray, List.set_cons_zero, List.set_cons_succ, zn, zo]
      rfl
    refine yM (i := 2) (N := some 47) #[true, true, true, false, true, true, false, false, false] rfl rfl (by kernel_rfl) (by decide) (fun K hK => ?_)
    refine y7 Tryd.func53 (by kernel_rfl) rfl #[.int .i64 a] (by rfl) rfl rfl (by simp only [List.map_toArray, List.map_cons, List.map_nil]; rfl) ?_
    with_reducible refine (ym.calls a x _ HX.out).mono ?_
    rintro e wc ⟨rfl, rfl⟩
    refine ⟨_, rfl, ?_⟩
    refine hK.out _ _ ⟨cb0, cb1⟩ (fun hHeld => ?_)
    clear hK K
    refine zQ (a' := ?_) ?_ ?_
    rotate_left
    · show Act.put _ (some 47) _ = _
      simp only [Act.put, List.setIfInBounds_toArray, List.set_cons_zero, List.set_cons_succ, zn, zo]
      rfl
    refine zF (i := 3) (N := some 48) (v := ?_) (a' := ?_) #[true, true, true, true, true, true, false, false, false] rfl rfl (by kernel_rfl) (fun _ _ _ h => h) (Or.inl ⟨by rfl, ?_⟩) ?_ ?_
    rotate_left
    · intro w'
      go_simp
      with_reducible rfl
    rotate_left
    · simp only [Act.put, List.setIfInBounds_toArray, List.set_cons_zero, List.set_cons_succ, zn, zo]
      rfl
    refine yM (i := 6) (N := some 51) #[true, true, true, true, true, true, true, false, false] rfl rfl (by kernel_rfl) (by decide) (fun K hK => ?_)
    refine y7 Tryd.func53 (by kernel_rfl) rfl #[.int .i64 b] (by rfl) rfl rfl (by simp only [List.map_toArray, List.map_cons, List.map_nil]; rfl) ?_
    with_reducible refine (ym.calls b y _ HY.out).mono ?_
    rintro e wc ⟨rfl, rfl⟩
    refine ⟨_, rfl, ?_⟩
    refine hK.out _ _ ⟨cb0, cb1⟩ (fun hHeld => ?_)
    clear hK K
    refine zQ (a' := ?_) ?_ ?_
    rotate_left
    · show Act.put _ (some 51) _ = _
      simp only [Act.put, List.setIfInBounds_toArray, List.set_cons_zero, List.set_cons_succ, zn, zo]
      rfl
    refine zF (i := 7) (N := some 52) (v := ?_) (a' := ?_) #[true, true, true, true, true, true, true, true, false] rfl rfl (by kernel_rfl) (fun _ _ _ h => h) (Or.inl ⟨by rfl, ?_⟩) ?_ ?_
    rotate_left
    · intro w'
      go_simp
      with_reducible rfl
    rotate_left
    · simp only [Act.put, List.setIfInBounds_toArray, List.set_cons_zero, List.set_cons_succ, zn, zo]
      rfl
    refine zF (i := 8) (N := some 2) (v := ?_) (a' := ?_) #[true, true, true, true, true, true, true, true, true] rfl rfl (by kernel_rfl) (fun _ _ _ h => h) (Or.inl ⟨by rfl, ?_⟩) ?_ ?_
    rotate_left
    · intro w'
      go_simp
      with_reducible rfl
    rotate_left
    · simp only [Act.put, List.setIfInBounds_toArray, List.set_cons_zero, List.set_cons_succ, zn, zo]
      rfl
    refine xA (by kernel_rfl) ?_
    go_wp2
    go_ret
    exact ⟨rfl, by repeat (first | exact Below.refl _ _ | apply zd | apply zb | apply zc)⟩
  by_cases c5 : t = 5
  · subst c5
    rw [if_neg (by decide), if_neg (by decide), if_neg (by decide), if_neg (by decide), if_pos rfl] at h
    show Calls Tryd.prog 50 #[.iface 126 (.agg #[.int .i64 a])] w _
    have y1 : ∀ W, (Instr.typeAssert (.iface 126 (.agg #[.int .i64 a])) 57 119 true).run Tryd.prog W = .ok (.tuple #[.agg #[.int .i64 0, .int .i64 0], .bool false]) W := fun W => by kernel_rfl
    have y2 : ∀ W, (Instr.typeAssert (.iface 126 (.agg #[.int .i64 a])) 57 121 true).run Tryd.prog W = .ok (.tuple #[.agg #[.int .i64 0, .int .i64 0], .bool false]) W := fun W => by kernel_rfl
    have y3 : ∀ W, (Instr.typeAssert (.iface 126 (.agg #[.int .i64 a])) 57 123 true).run Tryd.prog W = .ok (.tuple #[.agg #[.int .i64 0, .int .i64 0], .bool false]) W := fun W => by kernel_rfl
    have y4 : ∀ W, (Instr.typeAssert (.iface 126 (.agg #[.int .i64 a])) 57 125 true).run Tryd.prog W = .ok (.tuple #[.agg #[.int .i64 0, .int .i64 0], .bool false]) W := fun W => by kernel_rfl
    have y5 : ∀ W, (Instr.typeAssert (.iface 126 (.agg #[.int .i64 a])) 57 126 true).run Tryd.prog W = .ok (.tuple #[.agg #[.int .i64 a], .bool true]) W := fun W => by kernel_rfl
    obtain ⟨x, hx, h⟩ := Option.bind_eq_some_iff.1 h
    have sx := yR hx
    have HX := za.mk hx
    clear hx
    injection h with h
    subst h
    go_enter Tryd.func50, Tryd.ntmps50
    go_wp2_with fail
    refine (ym.calls a x _ HX.out).mono ?_
    rintro e w1 ⟨rfl, rfl⟩
    go_wp2
    go_ret
    exact ⟨rfl, by repeat (first | exact Below.refl _ _ | apply zd | apply zb | apply zc)⟩
  rw [if_neg c1, if_neg c2, if_neg c3, if_neg c4, if_neg c5] at h
  injection h with h
  subst h
  have hp : partW ⟨t, a, b⟩ = .nilIface := by
    unfold partW
    rw [if_neg c1, if_neg c2, if_neg c3, if_neg c4, if_neg c5]
  rw [hp]
  have y1 : ∀ W, (Instr.typeAssert (.nilIface) 57 119 true).run Tryd.prog W = .ok (.tuple #[.agg #[.int .i64 0, .int .i64 0], .bool false]) W := fun W => by kernel_rfl
  have y2 : ∀ W, (Instr.typeAssert (.nilIface) 57 121 true).run Tryd.prog W = .ok (.tuple #[.agg #[.int .i64 0, .int .i64 0], .bool false]) W := fun W => by kernel_rfl
  have y3 : ∀ W, (Instr.typeAssert (.nilIface) 57 123 true).run Tryd.prog W = .ok (.tuple #[.agg #[.int .i64 0, .int .i64 0], .bool false]) W := fun W => by kernel_rfl
  have y4 : ∀ W, (Instr.typeAssert (.nilIface) 57 125 true).run Tryd.prog W = .ok (.tuple #[.agg #[.int .i64 0, .int .i64 0], .bool false]) W := fun W => by kernel_rfl
  have y5 : ∀ W, (Instr.typeAssert (.nilIface) 57 126 true).run Tryd.prog W = .ok (.tuple #[.agg #[.int .i64 0], .bool false]) W := fun W => by kernel_rfl
  go_enter Tryd.func50, Tryd.ntmps50
  go_wp2
  go_ret
  exact ⟨rfl, by repeat (first | exact Below.refl _ _ | apply zd | apply zb | apply zc)⟩
end Go.Proofs.YtoeepmcaabmjkaaDoor.QPO
namespace Go.Proofs.YtoeepmcaabmjkaaDoor.QPO
open Go.RowKit Go.Proofs.YtoeepmcaabmjkaaDoorW.PrintWords Go.Proofs.YtoeepmcaabmjkaaDoorW.PrintLast Go.Proofs.YtoeepmcaabmjkaaDoorW.PrintMore
attribute [local go_sem] yz yx yQ yP yl yk yy yw   -- for this text's walks alone
set_option linter.unusedVariables false
set_option linter.unusedSimpArgs false
def joinB (b : ByteArray) (xs : List ByteArray) : ByteArray := ⟨(Lib.join ((b :: xs).map (·.data.toList)) [32]).toArray⟩
def xN : List S82 → Option (List ByteArray)
  | [] => some []
  | d :: l => (zW.f d.f0 d.f1 d.f2).bind fun p => (yj.f p).bind fun x => (xN l).bind fun xs => some (x :: xs)
def kidsF : List Int → Option (List ByteArray)
  | [] => some []
  | d :: l => (yA.f d).bind fun x => (kidsF l).bind fun xs => some (x :: xs)
def yp.f (k : Int) (l1 : List S82) (l2 : List Int) (r : Int) : Option ByteArray :=
  if l1.length > 1000 ∨ l2.length > 1000 then none
  else if k = 1 ∧ l2.length = 0 ∧ r = 0 then (xN l1).bind fun xs => some (joinB ⟨#[116, 114, 121]⟩ xs)
  else if k = 2 ∧ l1.length = 0 ∧ r = 0 then (kidsF l2).bind fun xs => some (joinB ⟨#[102, 111, 114, 107]⟩ xs)
  else if k = 3 ∧ l1.length = 0 ∧ l2.length = 0 ∧ r = 0 then some (⟨#[102, 97, 105, 108]⟩ : ByteArray)
  else if k = 4 ∧ l1.length = 0 ∧ l2.length = 0 then (ym.f r).bind fun x => some ((⟨#[102, 97, 105, 108, 105, 102, 32]⟩ : ByteArray) ++ x)
  else some (⟨#[]⟩ : ByteArray)
theorem deedText_size {p : Part} {r : ByteArray} (h : yj.f p = some r) : r.size ≤ 4 := by
  unfold yj.f at h
  repeat' split at h
  · obtain ⟨x, hx, h⟩ := Option.bind_eq_some_iff.1 h
    obtain ⟨y, hy, h⟩ := Option.bind_eq_some_iff.1 h
    have := yR hx; have := cellName_size hy
    injection h with h
    rw [← h, ByteArray.size_append, ByteArray.size_append]
    have e : (⟨#[61]⟩ : ByteArray).size = 1 := rfl
    omega
  · obtain ⟨x, hx, h⟩ := Option.bind_eq_some_iff.1 h
    obtain ⟨y, hy, h⟩ := Option.bind_eq_some_iff.1 h
    have := cellName_size hx; have := yR hy
    injection h with h
    rw [← h, ByteArray.size_append, ByteArray.size_append]
    have e : (⟨#[61]⟩ : ByteArray).size = 1 := rfl
    omega
  · obtain ⟨x, hx, h⟩ := Option.bind_eq_some_iff.1 h
    obtain ⟨y, hy, h⟩ := Option.bind_eq_some_iff.1 h
    have := yR hx; have := xF hy
    injection h with h
    rw [← h, ByteArray.size_append, ByteArray.size_append]
    have e : (⟨#[61]⟩ : ByteArray).size = 1 := rfl
    omega
  · obtain ⟨x, hx, h⟩ := Option.bind_eq_some_iff.1 h
    obtain ⟨y, hy, h⟩ := Option.bind_eq_some_iff.1 h
    have := yR hx; have := yR hy
    injection h with h
    rw [← h, ByteArray.size_append, ByteArray.size_append]
    have e : (⟨#[43]⟩ : ByteArray).size = 1 := rfl
    omega
  · obtain ⟨x, hx, h⟩ := Option.bind_eq_some_iff.1 h
    have := yR hx
    injection h with h
    rw [← h, ByteArray.size_append]
    have e : (⟨#[63]⟩ : ByteArray).size = 1 := rfl
    omega
  · injection h with h
    rw [← h]
    exact Nat.zero_le _
theorem deeds_small : ∀ {l : List S82} {xs : List ByteArray}, xN l = some xs → xs.length = l.length ∧ ∀ x ∈ xs, x.size ≤ 4
  | [], xs, h => by injection h with h; subst h; simp
  | d :: l, xs, h => by
    unfold xN at h
    obtain ⟨p, _, h⟩ := Option.bind_eq_some_iff.1 h
    obtain ⟨x, hx, h⟩ := Option.bind_eq_some_iff.1 h
    obtain ⟨ys, hy, h⟩ := Option.bind_eq_some_iff.1 h
    injection h with h
    subst h
    obtain ⟨h1, h2⟩ := deeds_small hy
    refine ⟨by simp [h1], fun z hz => ?_⟩
    rcases List.mem_cons.1 hz with rfl | hz
    · exact deedText_size hx
    · exact h2 z hz
theorem kids_small : ∀ {l : List Int} {xs : List ByteArray}, kidsF l = some xs → xs.length = l.length ∧ ∀ x ∈ xs, x.size ≤ 4
  | [], xs, h => by injection h with h; subst h; simp
  | d :: l, xs, h => by
    unfold kidsF at h
    obtain ⟨x, hx, h⟩ := Option.bind_eq_some_iff.1 h
    obtain ⟨ys, hy, h⟩ := Option.bind_eq_some_iff.1 h
    injection h with h
    subst h
    obtain ⟨h1, h2⟩ := kids_small hy
    refine ⟨by simp [h1], fun z hz => ?_⟩
    rcases List.mem_cons.1 hz with rfl | hz
    · have := xF hx; omega
    · exact h2 z hz
theorem join_len (b : ByteArray) (xs : List ByteArray) (hb : b.size ≤ 4) (hn : xs.length ≤ 1000) (h : ∀ x ∈ xs, x.size ≤ 4) : (Lib.join ((b :: xs).map (·.data.toList)) [32]).length ≤ 100000 := by
  rw [List.map_cons, Lib.join_length]
  have hl : ∀ l : List ByteArray, (∀ x ∈ l, x.size ≤ 4) → Lib.lens (l.map (·.data.toList)) ≤ 4 * l.length := by
    intro l
    induction l with
    | nil => intro _; simp [Lib.lens]
    | cons y l ih =>
      intro hy
      have h1 := ih (fun x hx => hy x (List.mem_cons_of_mem _ hx))
      have h2 := hy y List.mem_cons_self
      have h3 : y.data.toList.length = y.size := rfl
      simp only [Lib.lens, List.map_cons, List.sum_cons, List.length_cons] at h1 ⊢
      omega
  have h1 := hl (b :: xs) (fun x hx => by
    rcases List.mem_cons.1 hx with rfl | hx
    · exact hb
    · exact h x hx)
  rw [List.map_cons] at h1
  simp only [List.length_map, List.length_cons, List.length_nil] at h1 ⊢
  omega
theorem words_cells {w : World} {base : Nat} {g c : Nat} {xs : List ByteArray} {n : Nat} (h : Kd.R Kd.string 9 w base (fun _ => True) (.slice (some ⟨g, 0, none⟩) n c) xs) (j : Nat) (x : ByteArray) (hj : xs[j]? = some x) : w.cell? ⟨g, 0 + j, none⟩ = some (.string x) := by
  obtain ⟨hl, hx⟩ := List.getElem?_eq_some_iff.1 hj
  have hn := (Kd.zU h).1
  have := (Kd.R_celln ByteArray.empty h (j : Int) (by omega) (by omega)).1
  rw [Nat.zero_add]
  rw [Int.toNat_natCast] at this
  rw [this]
  simp [rdOf, List.getD, hl, ← hx]
set_option maxHeartbeats 8000000 in
set_option maxRecDepth 100000 in
theorem yp.calls (k : Int) (A1 : Option Addr) (c1 : Nat) (l1 : List S82) (A2 : Option Addr) (c2 : Nat) (l2 : List Int) (r : Int) (t : ByteArray) (w : World) (hr1 : Kd.C k82 w A1 l1.length l1) (hr2 : Kd.C (Kd.int .i64) w A2 l2.length l2) (h : yp.f k l1 l2 r = some t) :
    Calls Tryd.prog 27 #[actW k (.slice A1 l1.length c1) l1.length (.slice A2 l2.length c2) l2.length r] w fun e w' => e = .returned (.string t) ∧ Below w.heap.size w w' := by
  have hu1 := Tryd.underlying89
  have hu2 := Tryd.underlying93
  have hu3 := Tryd.underlying95
  have hu4 := Tryd.underlying97
  have hu5 := Tryd.underlying82
  unfold yp.f at h
  have cs : ¬ (l1.length > 1000 ∨ l2.length > 1000) := fun c => by rw [if_pos c] at h; cases h
  rw [if_neg cs] at h
  unfold actW
  by_cases k1 : k = 1 ∧ l2.length = 0 ∧ r = 0
  · rw [if_pos k1] at h ⊢
    clear k1
    have y1 : ∀ W, (Instr.typeAssert (.iface 89 (.agg #[.slice A1 l1.length c1])) 57 89 true).run Tryd.prog W = .ok (.tuple #[.agg #[.slice A1 l1.length c1], .bool true]) W := fun W => by kernel_rfl
    replace h := za.mk h
    replace cs := za.mk cs
    replace hr1 := za.mk hr1
    clear hr2
    go_enter Tryd.func27, Tryd.ntmps27
    go_wp2_with (fail)
    have HR := za.mk (show Kd.R Kd.string 9 ((w.alloc (.cells #[.slice A1 l1.length c1] 89)).alloc (.cells #[.string ⟨#[116, 114, 121]⟩] 9)) w.heap.size (fun _ => True) (.slice (some ⟨w.heap.size + 1, 0, none⟩) 1 1) ((⟨#[116, 114, 121]⟩ : ByteArray) :: []) from
      R_freshT (xs := [(⟨#[116, 114, 121]⟩ : ByteArray)]) (cs := [.string ⟨#[116, 114, 121]⟩]) (alloc_atT (by simp)) (by omega) trivial (by simp [maxLen]) ((yt.none _ _).snoc (p := (⟨#[116, 114, 121]⟩ : ByteArray)) (c := [.string ⟨#[116, 114, 121]⟩]) rfl rfl))
    have HB := za.mk (show Below w.heap.size w ((w.alloc (.cells #[.slice A1 l1.length c1] 89)).alloc (.cells #[.string ⟨#[116, 114, 121]⟩] 9)) from zc (zc (Below.refl _ _) _) _)
    go_loopg [21, 4] l1.length (fun n v21 v4 w' => ∃ (i : Int) (xs : List ByteArray), v21 = .int .i64 i ∧ za (i + n = l1.length ∧ 0 ≤ i) ∧ za ((xN (l1.drop i.toNat)).bind (fun ys => some (joinB ⟨#[116, 114, 121]⟩ (xs ++ ys))) = some t) ∧ za (Kd.R Kd.string 9 w' w.heap.size (fun _ => True) v4 ((⟨#[116, 114, 121]⟩ : ByteArray) :: xs)) ∧ za (xs.length = i.toNat ∧ ∀ x ∈ xs, x.size ≤ 4) ∧ za (Below w.heap.size w w'))
    case atStart => exact ⟨0, [], rfl, ⟨by simp⟩, by simpa using h, HR, ⟨by simp⟩, HB⟩
    case round =>
      clear HR HB h
      obtain ⟨i, xs, rfl, hi, H, HR, HX, HB⟩ := hrel
      cases gk with
      | zero =>
        have cb : decide (i < l1.length) = false := by have := hi.out; exact decide_eq_false (by omega)
        have H := H.out
        rw [List.drop_eq_nil_of_le (by have := hi.out; omega)] at H
        simp only [xN, Option.bind_some, List.append_nil, Option.some.injEq] at H
        subst H
        obtain ⟨g, cap, hv, _, hg, _⟩ := Kd.R_form HR.out (by simp)
        subst hv
        go_wp2_with (fail)
        refine (Shelf.Tryd.strings_Join g 0 cap (⟨#[116, 114, 121]⟩ :: xs) ⟨#[32]⟩ _ (words_cells HR.out) hg (by have h1 := HX.out.1; have h2 := hi.out; have h3 := cs.out; simp only [List.length_cons]; omega) (Kd.zU HR.out).2.1 (Nat.le_trans (join_len _ xs (by decide) (by have h1 := HX.out.1; have h2 := hi.out; have h3 := cs.out; omega) HX.out.2) (by decide))).mono ?_
        rintro e w2 ⟨rfl, hb⟩
        go_wp2
        go_ret
        exact ⟨rfl, xe HB.out HB.out.size hb⟩
      | succ m =>
        have cb : decide (i < l1.length) = true := by have := hi.out; exact decide_eq_true (by omega)
        obtain ⟨ad, eA, hq0, hq1, hq2⟩ := at_T82 hr1.out i (by have := hi.out; omega) (by have := hi.out; omega)
        subst eA
        have hil : i.toNat < l1.length := by have := hi.out; omega
        obtain ⟨x, hx⟩ : ∃ x, x = zP l1 i := ⟨_, rfl⟩
        rw [← hx] at hq0 hq1 hq2
        replace hq0 := zA HB.out hq0
        replace hq1 := zA HB.out hq1
        replace hq2 := zA HB.out hq2
        have H := H.out
        have hd : l1.drop i.toNat = x :: l1.drop (i + 1).toNat := by
          rw [List.drop_eq_getElem_cons hil, hx, zP, List.getD_eq_getElem?_getD, List.getElem?_eq_getElem hil, show (i + 1).toNat = i.toNat + 1 by have := hi.out; omega]
          rfl
        rw [hd] at H
        clear hd hx hil
        obtain ⟨zs, hz, H⟩ := Option.bind_eq_some_iff.1 H
        unfold xN at hz
        obtain ⟨p, hp, hz⟩ := Option.bind_eq_some_iff.1 hz
        obtain ⟨y, hy, hz⟩ := Option.bind_eq_some_iff.1 hz
        obtain ⟨ys, hys, hz⟩ := Option.bind_eq_some_iff.1 hz
        injection hz with hz
        subst hz
        have sy := deedText_size hy
        replace hp := za.mk hp
        replace hy := za.mk hy
        have H := za.mk (show (xN (l1.drop (i + 1).toNat)).bind (fun ys => some (joinB ⟨#[116, 114, 121]⟩ (xs ++ [y] ++ ys))) = some t by rw [hys]; simpa using H)
        clear hys
        have hip : 0 ≤ i := hi.out.2
        have hil : i < (l1.length : Int) := by have := hi.out; omega
        have ei : wrap64 (i + 1) = i + 1 := by have h1 := cs.out; unfold wrap64; omega
        replace sy := za.mk sy
        go_wp2_with (fail)
        refine (zW.calls x.f0 x.f1 x.f2 p _ hp.out).mono ?_
        rintro e w2 ⟨rfl, hb2⟩
        go_wp2_with (fail)
        refine (yj.calls p y _ hy.out).mono ?_
        rintro e w3 ⟨rfl, hb3⟩
        have h23 : Below wr.heap.size wr w3 := xe (xe (zc (Below.refl _ _) _) (by simp) hb2) (by have := hb2.size; simp at this; omega) hb3
        have HB3 := za.mk (xe HB.out HB.out.size h23)
        have HR3 := za.mk (Kd.yc HR.out h23)
        clear HB HR h23 hb2 hb3 hq0 hq1 hq2
        go_wp2_with (at_builtin; refine Kd.R_append Kd.string w.heap.size rfl (.tmp 25) (.tmp 29) 79 9 (.string ⟨#[]⟩) 16 rfl Tryd.underlying79 (by kernel_rfl) rfl (by decide) (by decide) u4 (⟨#[116, 114, 121]⟩ :: xs) y [.string y] (fun _ => True) (fun _ => False) rfl rfl rfl (fun _ hk => hk.elim) (fun _ _ => trivial) HR3.out (Below.refl _ _) HB3.out.size (by have h1 := HX.out.1; have h2 := hi.out; have h3 := cs.out; simp only [List.length_cons]; omega) ?_)
        intro va wa hra hba hga hata
        go_wp2
        go_roundg m
        case measure => exact Nat.lt_succ_self _
        case rel => exact ⟨i + 1, xs ++ [y], by first | rfl | (simp [ei]; done), ⟨by have h1 := hi.out; omega⟩, H, ⟨hra⟩, ⟨by have h1 := HX.out.1; have h2 := hi.out; rw [List.length_append, List.length_singleton]; omega, fun z hz => by
          rcases List.mem_append.1 hz with hz | hz
          · exact HX.out.2 z hz
          · rw [List.mem_singleton.1 hz]; exact sy.out⟩, ⟨HB3.out.trans hba⟩⟩
  rw [if_neg k1] at h ⊢
  by_cases k2 : k = 2 ∧ l1.length = 0 ∧ r = 0
  · rw [if_pos k2] at h ⊢
    clear k2 k1
    have y0 : ∀ W, (Instr.typeAssert (.iface 93 (.agg #[.slice A2 l2.length c2])) 57 89 true).run Tryd.prog W = .ok (.tuple #[.agg #[.slice none 0 0], .bool false]) W := fun W => by kernel_rfl
    have y1 : ∀ W, (Instr.typeAssert (.iface 93 (.agg #[.slice A2 l2.length c2])) 57 93 true).run Tryd.prog W = .ok (.tuple #[.agg #[.slice A2 l2.length c2], .bool true]) W := fun W => by kernel_rfl
    replace h := za.mk h
    replace cs := za.mk cs
    replace hr2 := za.mk hr2
    clear hr1
    go_enter Tryd.func27, Tryd.ntmps27
    go_wp2_with (fail)
    have HR := za.mk (show Kd.R Kd.string 9 ((w.alloc (.cells #[.slice A2 l2.length c2] 93)).alloc (.cells #[.string ⟨#[102, 111, 114, 107]⟩] 9)) w.heap.size (fun _ => True) (.slice (some ⟨w.heap.size + 1, 0, none⟩) 1 1) ((⟨#[102, 111, 114, 107]⟩ : ByteArray) :: []) from
      R_freshT (xs := [(⟨#[102, 111, 114, 107]⟩ : ByteArray)]) (cs := [.string ⟨#[102, 111, 114, 107]⟩]) (alloc_atT (by simp)) (by omega) trivial (by simp [maxLen]) ((yt.none _ _).snoc (p := (⟨#[102, 111, 114, 107]⟩ : ByteArray)) (c := [.string ⟨#[102, 111, 114, 107]⟩]) rfl rfl))
    have HB := za.mk (show Below w.heap.size w ((w.alloc (.cells #[.slice A2 l2.length c2] 93)).alloc (.cells #[.string ⟨#[102, 111, 114, 107]⟩] 9)) from zc (zc (Below.refl _ _) _) _)
    go_loopg [41, 8] l2.length (fun n v21 v4 w' => ∃ (i : Int) (xs : List ByteArray), v21 = .int .i64 i ∧ za (i + n = l2.length ∧ 0 ≤ i) ∧ za ((kidsF (l2.drop i.toNat)).bind (fun ys => some (joinB ⟨#[102, 111, 114, 107]⟩ (xs ++ ys))) = some t) ∧ za (Kd.R Kd.string 9 w' w.heap.size (fun _ => True) v4 ((⟨#[102, 111, 114, 107]⟩ : ByteArray) :: xs)) ∧ za (xs.length = i.toNat ∧ ∀ x ∈ xs, x.size ≤ 4) ∧ za (Below w.heap.size w w'))
    case atStart => exact ⟨0, [], rfl, ⟨by simp⟩, by simpa using h, HR, ⟨by simp⟩, HB⟩
    case round =>
      clear HR HB h
      obtain ⟨i, xs, rfl, hi, H, HR, HX, HB⟩ := hrel
      cases gk with
      | zero =>
        have cb : decide (i < l2.length) = false := by have := hi.out; exact decide_eq_false (by omega)
        have H := H.out
        rw [List.drop_eq_nil_of_le (by have := hi.out; omega)] at H
        simp only [kidsF, Option.bind_some, List.append_nil, Option.some.injEq] at H
        subst H
        obtain ⟨g, cap, hv, _, hg, _⟩ := Kd.R_form HR.out (by simp)
        subst hv
        go_wp2_with (fail)
        refine (Shelf.Tryd.strings_Join g 0 cap (⟨#[102, 111, 114, 107]⟩ :: xs) ⟨#[32]⟩ _ (words_cells HR.out) hg (by have h1 := HX.out.1; have h2 := hi.out; have h3 := cs.out; simp only [List.length_cons]; omega) (Kd.zU HR.out).2.1 (Nat.le_trans (join_len _ xs (by decide) (by have h1 := HX.out.1; have h2 := hi.out; have h3 := cs.out; omega) HX.out.2) (by decide))).mono ?_
        rintro e w2 ⟨rfl, hb⟩
        go_wp2
        go_ret
        exact ⟨rfl, xe HB.out HB.out.size hb⟩
      | succ m =>
        have cb : decide (i < l2.length) = true := by have := hi.out; exact decide_eq_true (by omega)
        obtain ⟨ad, eA, hq0⟩ := Kd.xu hr2.out i (by have := hi.out; omega) (by have := hi.out; omega)
        subst eA
        have hil : i.toNat < l2.length := by have := hi.out; omega
        obtain ⟨x, hx⟩ : ∃ x, x = rd l2 i := ⟨_, rfl⟩
        rw [← hx] at hq0
        replace hq0 := zA HB.out hq0
        have H := H.out
        have hd : l2.drop i.toNat = x :: l2.drop (i + 1).toNat := by
          rw [List.drop_eq_getElem_cons hil, hx, rd, List.getD_eq_getElem?_getD, List.getElem?_eq_getElem hil, show (i + 1).toNat = i.toNat + 1 by have := hi.out; omega]
          rfl
        rw [hd] at H
        clear hd hx hil
        obtain ⟨zs, hz, H⟩ := Option.bind_eq_some_iff.1 H
        unfold kidsF at hz
        obtain ⟨y, hy, hz⟩ := Option.bind_eq_some_iff.1 hz
        obtain ⟨ys, hys, hz⟩ := Option.bind_eq_some_iff.1 hz
        injection hz with hz
        subst hz
        have sy : y.size ≤ 4 := Nat.le_trans (xF hy) (by decide)
        replace hy := za.mk hy
        have H := za.mk (show (kidsF (l2.drop (i + 1).toNat)).bind (fun ys => some (joinB ⟨#[102, 111, 114, 107]⟩ (xs ++ [y] ++ ys))) = some t by rw [hys]; simpa using H)
        clear hys
        have hip : 0 ≤ i := hi.out.2
        have hil : i < (l2.length : Int) := by have := hi.out; omega
        have ei : wrap64 (i + 1) = i + 1 := by have h1 := cs.out; unfold wrap64; omega
        replace sy := za.mk sy
        go_wp2_with (fail)
        refine (yA.calls x y _ hy.out).mono ?_
        rintro e w3 ⟨rfl, rfl⟩
        have HB3 := HB
        have HR3 := HR
        clear HB HR hq0
        go_wp2_with (at_builtin; refine Kd.R_append Kd.string w.heap.size rfl (.tmp 45) (.tmp 48) 79 9 (.string ⟨#[]⟩) 16 rfl Tryd.underlying79 (by kernel_rfl) rfl (by decide) (by decide) u8 (⟨#[102, 111, 114, 107]⟩ :: xs) y [.string y] (fun _ => True) (fun _ => False) rfl rfl rfl (fun _ hk => hk.elim) (fun _ _ => trivial) HR3.out (Below.refl _ _) HB3.out.size (by have h1 := HX.out.1; have h2 := hi.out; have h3 := cs.out; simp only [List.length_cons]; omega) ?_)
        intro va wa hra hba hga hata
        go_wp2
        go_roundg m
        case measure => exact Nat.lt_succ_self _
        case rel => exact ⟨i + 1, xs ++ [y], by first | rfl | (simp [ei]; done), ⟨by have h1 := hi.out; omega⟩, H, ⟨hra⟩, ⟨by have h1 := HX.out.1; have h2 := hi.out; rw [List.length_append, List.length_singleton]; omega, fun z hz => by
          rcases List.mem_append.1 hz with hz | hz
          · exact HX.out.2 z hz
          · rw [List.mem_singleton.1 hz]; exact sy.out⟩, ⟨HB3.out.trans hba⟩⟩
  rw [if_neg k2] at h ⊢
  by_cases k3 : k = 3 ∧ l1.length = 0 ∧ l2.length = 0 ∧ r = 0
  · rw [if_pos k3] at h ⊢
    clear k1 k2 k3
    have y0 : ∀ W, (Instr.typeAssert (.iface 95 (.agg #[])) 57 89 true).run Tryd.prog W = .ok (.tuple #[.agg #[.slice none 0 0], .bool false]) W := fun W => by kernel_rfl
    have y1 : ∀ W, (Instr.typeAssert (.iface 95 (.agg #[])) 57 93 true).run Tryd.prog W = .ok (.tuple #[.agg #[.slice none 0 0], .bool false]) W := fun W => by kernel_rfl
    have y2 : ∀ W, (Instr.typeAssert (.iface 95 (.agg #[])) 57 95 true).run Tryd.prog W = .ok (.tuple #[.agg #[], .bool true]) W := fun W => by kernel_rfl
    injection h with h
    subst h
    go_enter Tryd.func27, Tryd.ntmps27
    go_wp2
    go_ret
    exact ⟨rfl, by repeat (first | exact Below.refl _ _ | apply zd | apply zb | apply zc)⟩
  rw [if_neg k3] at h ⊢
  by_cases k4 : k = 4 ∧ l1.length = 0 ∧ l2.length = 0
  · rw [if_pos k4] at h ⊢
    clear k1 k2 k3 k4
    have y0 : ∀ W, (Instr.typeAssert (.iface 97 (.agg #[.int .i64 r])) 57 89 true).run Tryd.prog W = .ok (.tuple #[.agg #[.slice none 0 0], .bool false]) W := fun W => by kernel_rfl
    have y1 : ∀ W, (Instr.typeAssert (.iface 97 (.agg #[.int .i64 r])) 57 93 true).run Tryd.prog W = .ok (.tuple #[.agg #[.slice none 0 0], .bool false]) W := fun W => by kernel_rfl
    have y2 : ∀ W, (Instr.typeAssert (.iface 97 (.agg #[.int .i64 r])) 57 95 true).run Tryd.prog W = .ok (.tuple #[.agg #[], .bool false]) W := fun W => by kernel_rfl
    have y3 : ∀ W, (Instr.typeAssert (.iface 97 (.agg #[.int .i64 r])) 57 97 true).run Tryd.prog W = .ok (.tuple #[.agg #[.int .i64 r], .bool true]) W := fun W => by kernel_rfl
    obtain ⟨x, hx, h⟩ := Option.bind_eq_some_iff.1 h
    have sx := yR hx
    replace hx := za.mk hx
    injection h with h
    subst h
    go_enter Tryd.func27, Tryd.ntmps27
    go_wp2_with (fail)
    refine (ym.calls r x _ hx.out).mono ?_
    rintro e w1 ⟨rfl, rfl⟩
    go_wp2
    go_ret
    exact ⟨rfl, by repeat (first | exact Below.refl _ _ | apply zd | apply zb | apply zc)⟩
  rw [if_neg k4] at h ⊢
  injection h with h
  subst h
  have y0 : ∀ W, (Instr.typeAssert .nilIface 57 89 true).run Tryd.prog W = .ok (.tuple #[.agg #[.slice none 0 0], .bool false]) W := fun W => by kernel_rfl
  have y1 : ∀ W, (Instr.typeAssert .nilIface 57 93 true).run Tryd.prog W = .ok (.tuple #[.agg #[.slice none 0 0], .bool false]) W := fun W => by kernel_rfl
  have y2 : ∀ W, (Instr.typeAssert .nilIface 57 95 true).run Tryd.prog W = .ok (.tuple #[.agg #[], .bool false]) W := fun W => by kernel_rfl
  have y3 : ∀ W, (Instr.typeAssert .nilIface 57 97 true).run Tryd.prog W = .ok (.tuple #[.agg #[.int .i64 0], .bool false]) W := fun W => by kernel_rfl
  clear k1 k2 k3 k4
  go_enter Tryd.func27, Tryd.ntmps27
  go_wp2
  go_ret
  exact ⟨rfl, by repeat (first | exact Below.refl _ _ | apply zd | apply zb | apply zc)⟩
end Go.Proofs.YtoeepmcaabmjkaaDoor.QPO
