/- Part 9 of what FnExactSysNew leans on: contracts of Go functions, and plain lemmas, each under its own premises. Put together by wip/tools/pack.py. -/
import Derived.Deep.Slices
import Derived.DataReads
import Derived.WideShapes
import Derived.Test.YtoeepmcaabmjkaaKSN0
import Derived.Test.YtoeepmcaabmjkaaKSN1
import Derived.Test.YtoeepmcaabmjkaaKSN2
import Derived.Test.YtoeepmcaabmjkaaKSN3
import Derived.Test.YtoeepmcaabmjkaaKSN4
import Derived.Test.YtoeepmcaabmjkaaKSN5
import Derived.Test.YtoeepmcaabmjkaaKSN6
import Derived.Test.YtoeepmcaabmjkaaKSN7
import Derived.Test.YtoeepmcaabmjkaaKSN8
set_option linter.unusedVariables false
set_option linter.unusedSimpArgs false
namespace Go.Proofs.Ytoeepmcaabmjkaa.QSN
open Go.RowKit Go.Proofs.YtoeepmcaabmjkaaW.PrintWords Go.Proofs.YtoeepmcaabmjkaaW.PrintLast Go.Proofs.YtoeepmcaabmjkaaW.PrintMore
set_option maxHeartbeats 8000000 in
set_option maxRecDepth 100000 in
theorem laws_FnExactSysNew.main (k : Nat) (A0_0 : Option Addr) (c0_0 : Nat) (l0_0 : List Int) (A0_1 : Option Addr) (c0_1 : Nat) (l0_1 : List (List S141)) (z : Int) (X : List Int) (Y : List (List S57)) (C : List S69) (T : List S66) (b : Bool) (k2 m : Int) (w : World) (hr0_0 : Kd.C (Kd.int .i64) w A0_0 l0_0.length l0_0) (hc0_0 : l0_0.length ≤ c0_0) (hr0_1 : Kd.C (Kd.slice 141 k141) w A0_1 l0_1.length l0_1) (hc0_1 : l0_1.length ≤ c0_1) (ht1 : 0 ≤ z) (ht2 : 0 ≤ k2) (ht3 : 0 ≤ m) (h_1 : laws_szProg.f k l0_0 l0_1 1048576 = some z) (h_2 : laws_toProg.f k l0_0 l0_1 = some (X, Y)) (h_3 : spec_SysNew.f k X Y = some (C, T, 0, [], b)) (h_4 : T.length ≤ 1) (h_5 : impl_SysNew.f k X Y = some (C, T, 0, [], b)) (h_6 : laws_eqSys.f k C T 0 [] C T 0 [] = some true) (h_7 : laws_eqProg.f k X Y X Y = some true) (h_8 : laws_markProg.f X Y 1 = some k2) (h_9 : m = 1 + ((C.length * 3 + cnt66 T : Nat) : Int)) (h_10 : m ≤ 9223372036854775807) :
    Calls Try.prog 3 #[.agg #[.slice A0_0 l0_0.length c0_0, .slice A0_1 l0_1.length c0_1]] w fun e w' => e = .returned (.bool true) ∧ Below w.heap.size w w' := by
  have HR0_0 := Aside0.mk hr0_0
  have HC0_0 := Aside0.mk hc0_0
  clear hr0_0 hc0_0
  have HR0_1 := Aside0.mk hr0_1
  have HC0_1 := Aside0.mk hc0_1
  clear hr0_1 hc0_1
  have HB := Aside0.mk (Below.refl w.heap.size w)
  have H_1 := Aside0.mk h_1
  clear h_1
  have H_2 := Aside0.mk h_2
  clear h_2
  have H_3 := Aside0.mk h_3
  clear h_3
  have H_4 := Aside0.mk h_4
  clear h_4
  have H_5 := Aside0.mk h_5
  clear h_5
  have H_6 := Aside0.mk h_6
  clear h_6
  have H_7 := Aside0.mk h_7
  clear h_7
  have H_8 := Aside0.mk h_8
  clear h_8
  have H_9 := Aside0.mk h_9
  clear h_9
  have H_10 := Aside0.mk h_10
  clear h_10
  have hu25 := Try.underlying25
  go_enter Try.func3, Try.ntmps3
  have hu31 := Try.underlying31
  have hu36 := Try.underlying36
  have hbb_ : (b != b) = false := by simp
  go_wp2_with fail
  refine (laws_szProg.calls k _ _ l0_0 _ _ l0_1 1048576 z _ (by (with_reducible repeat (first | exact (Kd.C_below HR0_0.out HB.out) | apply Kd.C_alloc | apply Kd.C_drewN | apply Kd.C_drew))) HC0_0.out (by (with_reducible repeat (first | exact (Kd.C_below HR0_1.out HB.out) | apply Kd.C_alloc | apply Kd.C_drewN | apply Kd.C_drew))) HC0_1.out H_1.out).mono ?_
  rintro e w1 ⟨rfl, hp1_⟩
  have HSn := Aside0.mk (show w.heap.size ≤ w1.heap.size by have h_ := hp1_.size; first | exact h_ | (simp at h_; omega))
  have n_ := Aside0.mk ((hp1_.block _ (blk_lt (heap_alloc_new w (.cells #[.slice A0_0 l0_0.length c0_0, .slice A0_1 l0_1.length c0_1] 25)))).trans (heap_alloc_new w (.cells #[.slice A0_0 l0_0.length c0_0, .slice A0_1 l0_1.length c0_1] 25)))
  have HX2 := n_
  clear n_
  have HTHX2 := Aside0.mk (blk_lt HX2.out)
  have xHX2_0 : w1.cell? ⟨w.heap.size, 0, none⟩ = some (.slice A0_0 l0_0.length c0_0) := (blk_cell HX2.out 0).trans rfl
  have xHX2_1 : w1.cell? ⟨w.heap.size, 1, none⟩ = some (.slice A0_1 l0_1.length c0_1) := (blk_cell HX2.out 1).trans rfl
  replace HB := Aside0.mk (show Below w.heap.size w w1 from below_then (by repeat (first | (with_reducible first | exact HB.out | apply below_alloc | apply pw_below_drewN | apply below_drew1) | exact HB.out)) (show Below w.heap.size w _ from (by repeat (first | (with_reducible first | exact HB.out | apply below_alloc | apply pw_below_drewN | apply below_drew1) | exact HB.out))).size hp1_)
  clear hp1_
  have HS1 := HSn
  clear HSn
  have t1b := decide_eq_false (show ¬ (z < 0) by omega)
  have t1p := eq_false (show ¬ (z < 0) by omega)
  go_wp2_with fail
  refine (laws_toProg.calls k _ _ l0_0 _ _ l0_1 X Y _ (by (with_reducible repeat (first | exact (Kd.C_below HR0_0.out HB.out) | apply Kd.C_alloc | apply Kd.C_drewN | apply Kd.C_drew))) HC0_0.out (by (with_reducible repeat (first | exact (Kd.C_below HR0_1.out HB.out) | apply Kd.C_alloc | apply Kd.C_drewN | apply Kd.C_drew))) HC0_1.out H_2.out).mono ?_
  rintro e w2 ⟨v0_, v1_, rfl, hp1_, hp2_, hp3_⟩
  have HSn := Aside0.mk (show w1.heap.size ≤ w2.heap.size by have h_ := hp3_.size; first | exact h_ | (simp at h_; omega))
  replace HX2 := Aside0.mk ((hp3_.block _ (blk_lt (by (with_reducible repeat (first | exact HX2.out | apply blk_alloc | apply blk_drewN | apply blk_drew))))).trans (by (with_reducible repeat (first | exact HX2.out | apply blk_alloc | apply blk_drewN | apply blk_drew))))
  replace xHX2_0 : w2.cell? ⟨w.heap.size, 0, none⟩ = some (.slice A0_0 l0_0.length c0_0) := (blk_cell HX2.out 0).trans rfl
  replace xHX2_1 : w2.cell? ⟨w.heap.size, 1, none⟩ = some (.slice A0_1 l0_1.length c0_1) := (blk_cell HX2.out 1).trans rfl
  replace HB := Aside0.mk (show Below w.heap.size w w2 from below_then (by repeat (first | (with_reducible first | exact HB.out | apply below_alloc | apply pw_below_drewN | apply below_drew1) | exact HB.out)) (show Below w.heap.size w _ from (by repeat (first | (with_reducible first | exact HB.out | apply below_alloc | apply pw_below_drewN | apply below_drew1) | exact HB.out))).size hp3_)
  have HF4 := Aside0.mk (show Kd.R (Kd.int .i64) 3 w2 w1.heap.size (fun k_ => w1.heap.size ≤ k_ ∧ k_ < w2.heap.size) v0_ X from Kd.R_lower (Kd.R_mono (Kd.R_bound hp1_) (fun k_ hk => ⟨by have h_ := hk.2.1; first | exact h_ | (simp at h_; omega), hk.2.2.1⟩)) (by first | exact Nat.le_refl _ | (simp; done)))
  obtain ⟨A_5, c_5, e_5⟩ := Kd.R_slice HF4.out
  subst e_5
  have HF6 := Aside0.mk (show Kd.R (Kd.slice 57 k57) 54 w2 w1.heap.size (fun k_ => w1.heap.size ≤ k_ ∧ k_ < w2.heap.size) v1_ Y from Kd.R_lower (Kd.R_mono (Kd.R_bound hp2_) (fun k_ hk => ⟨by have h_ := hk.2.1; first | exact h_ | (simp at h_; omega), hk.2.2.1⟩)) (by first | exact Nat.le_refl _ | (simp; done)))
  obtain ⟨A_7, c_7, e_7⟩ := Kd.R_slice HF6.out
  subst e_7
  clear hp3_ hp2_ hp1_
  have HS2 := HSn
  clear HSn
  go_wp2_with fail
  refine (spec_SysNew.calls k _ _ X _ _ Y C T 0 (([] : List S84)) b _ (by (with_reducible repeat (first | exact (Kd.R_reads' HF4.out).2.2 | apply Kd.C_alloc | apply Kd.C_drewN | apply Kd.C_drew))) (Kd.R_reads' HF4.out).2.1 (by (with_reducible repeat (first | exact (Kd.R_reads' HF6.out).2.2 | apply Kd.C_alloc | apply Kd.C_drewN | apply Kd.C_drew))) (Kd.R_reads' HF6.out).2.1 H_3.out).mono ?_
  rintro e w3 ⟨v0_, v1_, v3_, rfl, hp1_, hp2_, hp3_, hp4_⟩
  have HSn := Aside0.mk (show w2.heap.size ≤ w3.heap.size by have h_ := hp4_.size; first | exact h_ | (simp at h_; omega))
  replace HF4 := Aside0.mk (Kd.R_below (by (with_reducible repeat (first | exact HF4.out | apply Kd.R_alloc | apply Kd.R_drewN | apply Kd.R_drew))) hp4_)
  replace HF6 := Aside0.mk (Kd.R_below (by (with_reducible repeat (first | exact HF6.out | apply Kd.R_alloc | apply Kd.R_drewN | apply Kd.R_drew))) hp4_)
  replace HX2 := Aside0.mk ((hp4_.block _ (blk_lt (by (with_reducible repeat (first | exact HX2.out | apply blk_alloc | apply blk_drewN | apply blk_drew))))).trans (by (with_reducible repeat (first | exact HX2.out | apply blk_alloc | apply blk_drewN | apply blk_drew))))
  replace xHX2_0 : w3.cell? ⟨w.heap.size, 0, none⟩ = some (.slice A0_0 l0_0.length c0_0) := (blk_cell HX2.out 0).trans rfl
  replace xHX2_1 : w3.cell? ⟨w.heap.size, 1, none⟩ = some (.slice A0_1 l0_1.length c0_1) := (blk_cell HX2.out 1).trans rfl
  replace HB := Aside0.mk (show Below w.heap.size w w3 from below_then (by repeat (first | (with_reducible first | exact HB.out | apply below_alloc | apply pw_below_drewN | apply below_drew1) | exact HB.out)) (show Below w.heap.size w _ from (by repeat (first | (with_reducible first | exact HB.out | apply below_alloc | apply pw_below_drewN | apply below_drew1) | exact HB.out))).size hp4_)
  have HF9 := Aside0.mk (show Kd.R k69 69 w3 w2.heap.size (fun k_ => w2.heap.size ≤ k_ ∧ k_ < w3.heap.size) v0_ C from Kd.R_lower (Kd.R_mono (Kd.R_bound hp1_) (fun k_ hk => ⟨by have h_ := hk.2.1; first | exact h_ | (simp at h_; omega), hk.2.2.1⟩)) (by first | exact Nat.le_refl _ | (simp; done)))
  obtain ⟨A_10, c_10, e_10⟩ := Kd.R_slice HF9.out
  subst e_10
  have HF11 := Aside0.mk (show Kd.N k66 66 w3 w2.heap.size (fun k_ => w2.heap.size ≤ k_ ∧ k_ < w3.heap.size) v1_ T from Kd.N_lower (Kd.N_mono (Kd.N_bound hp2_) (fun k_ hk => ⟨by have h_ := hk.1.1; first | exact h_ | (simp at h_; omega), hk.2⟩)) (by first | exact Nat.le_refl _ | (simp; done)))
  obtain ⟨A_12, c_12, e_12⟩ := Kd.N_slice HF11.out
  subst e_12
  obtain ⟨A_14, c_14, e_14⟩ := Kd.N_slice hp3_
  subst e_14
  clear hp3_ hp4_ hp2_ hp1_
  have HS3 := HSn
  clear HSn
  clear HF4
  clear HF6
  have yHX2_0 : ∀ o_ : Obj, (w3.alloc o_).cell? ⟨w.heap.size, 0, none⟩ = some (.slice A0_0 l0_0.length c0_0) := fun o_ => (blk_cell (blk_alloc HX2.out o_) 0).trans rfl
  have yHX2_1 : ∀ o_ : Obj, (w3.alloc o_).cell? ⟨w.heap.size, 1, none⟩ = some (.slice A0_1 l0_1.length c0_1) := fun o_ => (blk_cell (blk_alloc HX2.out o_) 1).trans rfl
  go_wp2_with fail
  refine (laws_toProg.calls k _ _ l0_0 _ _ l0_1 X Y _ (by (with_reducible repeat (first | exact (Kd.C_below HR0_0.out HB.out) | apply Kd.C_alloc | apply Kd.C_drewN | apply Kd.C_drew))) HC0_0.out (by (with_reducible repeat (first | exact (Kd.C_below HR0_1.out HB.out) | apply Kd.C_alloc | apply Kd.C_drewN | apply Kd.C_drew))) HC0_1.out H_2.out).mono ?_
  rintro e w4 ⟨v0_, v1_, rfl, hp1_, hp2_, hp3_⟩
  have HSn := Aside0.mk (show w3.heap.size ≤ w4.heap.size by have h_ := hp3_.size; first | exact h_ | (simp at h_; omega))
  clear yHX2_0 yHX2_1
  replace HF9 := Aside0.mk (Kd.R_below (by (with_reducible repeat (first | exact HF9.out | apply Kd.R_alloc | apply Kd.R_drewN | apply Kd.R_drew))) hp3_)
  replace HF11 := Aside0.mk (Kd.N_below (by (with_reducible repeat (first | exact HF11.out | apply Kd.N_alloc | apply Kd.N_drewN | apply Kd.N_drew))) hp3_)
  replace HX2 := Aside0.mk ((hp3_.block _ (blk_lt (by (with_reducible repeat (first | exact HX2.out | apply blk_alloc | apply blk_drewN | apply blk_drew))))).trans (by (with_reducible repeat (first | exact HX2.out | apply blk_alloc | apply blk_drewN | apply blk_drew))))
  replace xHX2_0 : w4.cell? ⟨w.heap.size, 0, none⟩ = some (.slice A0_0 l0_0.length c0_0) := (blk_cell HX2.out 0).trans rfl
  replace xHX2_1 : w4.cell? ⟨w.heap.size, 1, none⟩ = some (.slice A0_1 l0_1.length c0_1) := (blk_cell HX2.out 1).trans rfl
  have n_ := Aside0.mk ((hp3_.block _ (blk_lt (heap_alloc_new w3 (.cells #[.slice A_10 C.length c_10, .slice A_12 T.length c_12, .int .i64 0, .slice A_14 ([] : List S84).length c_14] 31)))).trans (heap_alloc_new w3 (.cells #[.slice A_10 C.length c_10, .slice A_12 T.length c_12, .int .i64 0, .slice A_14 ([] : List S84).length c_14] 31)))
  have HX16 := n_
  clear n_
  have HTHX16 := Aside0.mk (blk_lt HX16.out)
  have xHX16_0 : w4.cell? ⟨w3.heap.size, 0, none⟩ = some (.slice A_10 C.length c_10) := (blk_cell HX16.out 0).trans rfl
  have xHX16_1 : w4.cell? ⟨w3.heap.size, 1, none⟩ = some (.slice A_12 T.length c_12) := (blk_cell HX16.out 1).trans rfl
  have xHX16_2 : w4.cell? ⟨w3.heap.size, 2, none⟩ = some (.int .i64 0) := (blk_cell HX16.out 2).trans rfl
  have xHX16_3 : w4.cell? ⟨w3.heap.size, 3, none⟩ = some (.slice A_14 ([] : List S84).length c_14) := (blk_cell HX16.out 3).trans rfl
  replace HB := Aside0.mk (show Below w.heap.size w w4 from below_then (by repeat (first | (with_reducible first | exact HB.out | apply below_alloc | apply pw_below_drewN | apply below_drew1) | exact HB.out)) (show Below w.heap.size w _ from (by repeat (first | (with_reducible first | exact HB.out | apply below_alloc | apply pw_below_drewN | apply below_drew1) | exact HB.out))).size hp3_)
  have HF17 := Aside0.mk (show Kd.R (Kd.int .i64) 3 w4 w3.heap.size (fun k_ => w3.heap.size + 1 ≤ k_ ∧ k_ < w4.heap.size) v0_ X from Kd.R_lower (Kd.R_mono (Kd.R_bound hp1_) (fun k_ hk => ⟨by have h_ := hk.2.1; first | exact h_ | (simp at h_; omega), hk.2.2.1⟩)) (by first | exact Nat.le_refl _ | (simp; done)))
  obtain ⟨A_18, c_18, e_18⟩ := Kd.R_slice HF17.out
  subst e_18
  have HF19 := Aside0.mk (show Kd.R (Kd.slice 57 k57) 54 w4 w3.heap.size (fun k_ => w3.heap.size + 1 ≤ k_ ∧ k_ < w4.heap.size) v1_ Y from Kd.R_lower (Kd.R_mono (Kd.R_bound hp2_) (fun k_ hk => ⟨by have h_ := hk.2.1; first | exact h_ | (simp at h_; omega), hk.2.2.1⟩)) (by first | exact Nat.le_refl _ | (simp; done)))
  obtain ⟨A_20, c_20, e_20⟩ := Kd.R_slice HF19.out
  subst e_20
  clear hp3_ hp2_ hp1_
  have HS4 := HSn
  clear HSn
  have yHX2_0 : ∀ o_ : Obj, (w4.alloc o_).cell? ⟨w.heap.size, 0, none⟩ = some (.slice A0_0 l0_0.length c0_0) := fun o_ => (blk_cell (blk_alloc HX2.out o_) 0).trans rfl
  have yHX2_1 : ∀ o_ : Obj, (w4.alloc o_).cell? ⟨w.heap.size, 1, none⟩ = some (.slice A0_1 l0_1.length c0_1) := fun o_ => (blk_cell (blk_alloc HX2.out o_) 1).trans rfl
  have yHX16_0 : ∀ o_ : Obj, (w4.alloc o_).cell? ⟨w3.heap.size, 0, none⟩ = some (.slice A_10 C.length c_10) := fun o_ => (blk_cell (blk_alloc HX16.out o_) 0).trans rfl
  have yHX16_1 : ∀ o_ : Obj, (w4.alloc o_).cell? ⟨w3.heap.size, 1, none⟩ = some (.slice A_12 T.length c_12) := fun o_ => (blk_cell (blk_alloc HX16.out o_) 1).trans rfl
  have yHX16_2 : ∀ o_ : Obj, (w4.alloc o_).cell? ⟨w3.heap.size, 2, none⟩ = some (.int .i64 0) := fun o_ => (blk_cell (blk_alloc HX16.out o_) 2).trans rfl
  have yHX16_3 : ∀ o_ : Obj, (w4.alloc o_).cell? ⟨w3.heap.size, 3, none⟩ = some (.slice A_14 ([] : List S84).length c_14) := fun o_ => (blk_cell (blk_alloc HX16.out o_) 3).trans rfl
  go_wp2_with fail
  refine (impl_SysNew.callsA k _ _ X _ _ Y C T 0 (([] : List S84)) b _ (by (with_reducible repeat (first | exact (Kd.R_reads' HF17.out).2.2 | apply Kd.C_alloc | apply Kd.C_drewN | apply Kd.C_drew))) (Kd.R_reads' HF17.out).2.1 (by (with_reducible repeat (first | exact (Kd.R_reads' HF19.out).2.2 | apply Kd.C_alloc | apply Kd.C_drewN | apply Kd.C_drew))) (Kd.R_reads' HF19.out).2.1 H_5.out).mono ?_
  rintro e w5 ⟨v0_, v1_, v3_, rfl, hp1_, hp2_, hp3_, hp4_⟩
  have HSn := Aside0.mk (show w4.heap.size ≤ w5.heap.size by have h_ := hp4_.size; first | exact h_ | (simp at h_; omega))
  clear yHX2_0 yHX2_1
  clear yHX16_0 yHX16_1 yHX16_2 yHX16_3
  replace HF9 := Aside0.mk (Kd.R_below (by (with_reducible repeat (first | exact HF9.out | apply Kd.R_alloc | apply Kd.R_drewN | apply Kd.R_drew))) hp4_)
  replace HF11 := Aside0.mk (Kd.N_below (by (with_reducible repeat (first | exact HF11.out | apply Kd.N_alloc | apply Kd.N_drewN | apply Kd.N_drew))) hp4_)
  replace HF17 := Aside0.mk (Kd.R_below (by (with_reducible repeat (first | exact HF17.out | apply Kd.R_alloc | apply Kd.R_drewN | apply Kd.R_drew))) hp4_)
  replace HF19 := Aside0.mk (Kd.R_below (by (with_reducible repeat (first | exact HF19.out | apply Kd.R_alloc | apply Kd.R_drewN | apply Kd.R_drew))) hp4_)
  replace HX2 := Aside0.mk ((hp4_.block _ (blk_lt (by (with_reducible repeat (first | exact HX2.out | apply blk_alloc | apply blk_drewN | apply blk_drew))))).trans (by (with_reducible repeat (first | exact HX2.out | apply blk_alloc | apply blk_drewN | apply blk_drew))))
  replace xHX2_0 : w5.cell? ⟨w.heap.size, 0, none⟩ = some (.slice A0_0 l0_0.length c0_0) := (blk_cell HX2.out 0).trans rfl
  replace xHX2_1 : w5.cell? ⟨w.heap.size, 1, none⟩ = some (.slice A0_1 l0_1.length c0_1) := (blk_cell HX2.out 1).trans rfl
  replace HX16 := Aside0.mk ((hp4_.block _ (blk_lt (by (with_reducible repeat (first | exact HX16.out | apply blk_alloc | apply blk_drewN | apply blk_drew))))).trans (by (with_reducible repeat (first | exact HX16.out | apply blk_alloc | apply blk_drewN | apply blk_drew))))
  replace xHX16_0 : w5.cell? ⟨w3.heap.size, 0, none⟩ = some (.slice A_10 C.length c_10) := (blk_cell HX16.out 0).trans rfl
  replace xHX16_1 : w5.cell? ⟨w3.heap.size, 1, none⟩ = some (.slice A_12 T.length c_12) := (blk_cell HX16.out 1).trans rfl
  replace xHX16_2 : w5.cell? ⟨w3.heap.size, 2, none⟩ = some (.int .i64 0) := (blk_cell HX16.out 2).trans rfl
  replace xHX16_3 : w5.cell? ⟨w3.heap.size, 3, none⟩ = some (.slice A_14 ([] : List S84).length c_14) := (blk_cell HX16.out 3).trans rfl
  have n_ := Aside0.mk ((hp4_.block _ (blk_lt (heap_alloc_new w4 (.cells #[.slice A_18 X.length c_18, .slice A_20 Y.length c_20] 36)))).trans (heap_alloc_new w4 (.cells #[.slice A_18 X.length c_18, .slice A_20 Y.length c_20] 36)))
  have HX22 := n_
  clear n_
  have HTHX22 := Aside0.mk (blk_lt HX22.out)
  have xHX22_0 : w5.cell? ⟨w4.heap.size, 0, none⟩ = some (.slice A_18 X.length c_18) := (blk_cell HX22.out 0).trans rfl
  have xHX22_1 : w5.cell? ⟨w4.heap.size, 1, none⟩ = some (.slice A_20 Y.length c_20) := (blk_cell HX22.out 1).trans rfl
  replace HB := Aside0.mk (show Below w.heap.size w w5 from below_then (by repeat (first | (with_reducible first | exact HB.out | apply below_alloc | apply pw_below_drewN | apply below_drew1) | exact HB.out)) (show Below w.heap.size w _ from (by repeat (first | (with_reducible first | exact HB.out | apply below_alloc | apply pw_below_drewN | apply below_drew1) | exact HB.out))).size hp4_)
  have HSYS := Aside0.mk (show SysP w5 (w4.heap.size + 1) _ _ _ C T from SysP.of (Kd.R_lower hp1_ (by first | exact Nat.le_refl _ | (simp; done))) (Kd.R_lower hp2_ (by first | exact Nat.le_refl _ | (simp; done))) (fun k_ hk => hk.2.1) H_4.out)
  have HF23 := Aside0.mk (show Kd.R k69 69 w5 w4.heap.size (fun k_ => w4.heap.size + 1 ≤ k_ ∧ k_ < w5.heap.size) v0_ C from Kd.R_lower (Kd.R_mono (Kd.R_bound hp1_) (fun k_ hk => ⟨by have h_ := hk.2.1; first | exact h_ | (simp at h_; omega), hk.2.2.1⟩)) (by first | exact Nat.le_refl _ | (simp; done)))
  obtain ⟨A_24, c_24, e_24⟩ := Kd.R_slice HF23.out
  subst e_24
  have HF25 := Aside0.mk (show Kd.R k66 66 w5 w4.heap.size (fun k_ => w4.heap.size + 1 ≤ k_ ∧ k_ < w5.heap.size) v1_ T from Kd.R_lower (Kd.R_mono (Kd.R_bound (k66a_R hp2_)) (fun k_ hk => ⟨by have h_ := hk.2.1; first | exact h_ | (simp at h_; omega), hk.2.2.1⟩)) (by first | exact Nat.le_refl _ | (simp; done)))
  obtain ⟨A_26, c_26, e_26⟩ := Kd.R_slice HF25.out
  subst e_26
  obtain ⟨A_28, c_28, e_28⟩ := Kd.N_slice hp3_
  subst e_28
  clear hp3_ hp4_ hp2_ hp1_
  have HS5 := HSn
  clear HSn
  have yHX2_0 : ∀ o_ : Obj, (w5.alloc o_).cell? ⟨w.heap.size, 0, none⟩ = some (.slice A0_0 l0_0.length c0_0) := fun o_ => (blk_cell (blk_alloc HX2.out o_) 0).trans rfl
  have yHX2_1 : ∀ o_ : Obj, (w5.alloc o_).cell? ⟨w.heap.size, 1, none⟩ = some (.slice A0_1 l0_1.length c0_1) := fun o_ => (blk_cell (blk_alloc HX2.out o_) 1).trans rfl
  have yHX16_0 : ∀ o_ : Obj, (w5.alloc o_).cell? ⟨w3.heap.size, 0, none⟩ = some (.slice A_10 C.length c_10) := fun o_ => (blk_cell (blk_alloc HX16.out o_) 0).trans rfl
  have yHX16_1 : ∀ o_ : Obj, (w5.alloc o_).cell? ⟨w3.heap.size, 1, none⟩ = some (.slice A_12 T.length c_12) := fun o_ => (blk_cell (blk_alloc HX16.out o_) 1).trans rfl
  have yHX16_2 : ∀ o_ : Obj, (w5.alloc o_).cell? ⟨w3.heap.size, 2, none⟩ = some (.int .i64 0) := fun o_ => (blk_cell (blk_alloc HX16.out o_) 2).trans rfl
  have yHX16_3 : ∀ o_ : Obj, (w5.alloc o_).cell? ⟨w3.heap.size, 3, none⟩ = some (.slice A_14 ([] : List S84).length c_14) := fun o_ => (blk_cell (blk_alloc HX16.out o_) 3).trans rfl
  have yHX22_0 : ∀ o_ : Obj, (w5.alloc o_).cell? ⟨w4.heap.size, 0, none⟩ = some (.slice A_18 X.length c_18) := fun o_ => (blk_cell (blk_alloc HX22.out o_) 0).trans rfl
  have yHX22_1 : ∀ o_ : Obj, (w5.alloc o_).cell? ⟨w4.heap.size, 1, none⟩ = some (.slice A_20 Y.length c_20) := fun o_ => (blk_cell (blk_alloc HX22.out o_) 1).trans rfl
  go_wp2_with fail
  refine (laws_eqSys.calls k _ _ C _ _ T 0 _ _ (([] : List S84)) _ _ C _ _ T 0 _ _ (([] : List S84)) true _ (by (with_reducible repeat (first | exact (Kd.R_reads' HF23.out).2.2 | apply Kd.C_alloc | apply Kd.C_drewN | apply Kd.C_drew))) (Kd.R_reads' HF23.out).2.1 (by (with_reducible repeat (first | exact (Kd.R_reads' HF25.out).2.2 | apply Kd.C_alloc | apply Kd.C_drewN | apply Kd.C_drew))) (Kd.R_reads' HF25.out).2.1 (C_none _ _ _) (Nat.zero_le _) (by (with_reducible repeat (first | exact (Kd.R_reads' HF9.out).2.2 | apply Kd.C_alloc | apply Kd.C_drewN | apply Kd.C_drew))) (Kd.R_reads' HF9.out).2.1 (by (with_reducible repeat (first | exact (Kd.N_reads' HF11.out).2.2 | apply Kd.C_alloc | apply Kd.C_drewN | apply Kd.C_drew))) (Kd.N_reads' HF11.out).2.1 (C_none _ _ _) (Nat.zero_le _) H_6.out).mono ?_
  rintro e w6 ⟨rfl, hp1_⟩
  have HSn := Aside0.mk (show w5.heap.size ≤ w6.heap.size by have h_ := hp1_.size; first | exact h_ | (simp at h_; omega))
  clear yHX2_0 yHX2_1
  clear yHX16_0 yHX16_1 yHX16_2 yHX16_3
  clear yHX22_0 yHX22_1
  replace HF9 := Aside0.mk (Kd.R_below (by (with_reducible repeat (first | exact HF9.out | apply Kd.R_alloc | apply Kd.R_drewN | apply Kd.R_drew))) hp1_)
  replace HF11 := Aside0.mk (Kd.N_below (by (with_reducible repeat (first | exact HF11.out | apply Kd.N_alloc | apply Kd.N_drewN | apply Kd.N_drew))) hp1_)
  replace HF17 := Aside0.mk (Kd.R_below (by (with_reducible repeat (first | exact HF17.out | apply Kd.R_alloc | apply Kd.R_drewN | apply Kd.R_drew))) hp1_)
  replace HF19 := Aside0.mk (Kd.R_below (by (with_reducible repeat (first | exact HF19.out | apply Kd.R_alloc | apply Kd.R_drewN | apply Kd.R_drew))) hp1_)
  replace HF23 := Aside0.mk (Kd.R_below (by (with_reducible repeat (first | exact HF23.out | apply Kd.R_alloc | apply Kd.R_drewN | apply Kd.R_drew))) hp1_)
  replace HF25 := Aside0.mk (Kd.R_below (by (with_reducible repeat (first | exact HF25.out | apply Kd.R_alloc | apply Kd.R_drewN | apply Kd.R_drew))) hp1_)
  replace HSYS := Aside0.mk ((by first | exact SysP.below HSYS.out hp1_ | exact SysP.below (SysP.below HSYS.out (below_alloc (Below.refl _ _) _)) hp1_))
  replace HX2 := Aside0.mk ((hp1_.block _ (blk_lt (by (with_reducible repeat (first | exact HX2.out | apply blk_alloc | apply blk_drewN | apply blk_drew))))).trans (by (with_reducible repeat (first | exact HX2.out | apply blk_alloc | apply blk_drewN | apply blk_drew))))
  replace xHX2_0 : w6.cell? ⟨w.heap.size, 0, none⟩ = some (.slice A0_0 l0_0.length c0_0) := (blk_cell HX2.out 0).trans rfl
  replace xHX2_1 : w6.cell? ⟨w.heap.size, 1, none⟩ = some (.slice A0_1 l0_1.length c0_1) := (blk_cell HX2.out 1).trans rfl
  replace HX16 := Aside0.mk ((hp1_.block _ (blk_lt (by (with_reducible repeat (first | exact HX16.out | apply blk_alloc | apply blk_drewN | apply blk_drew))))).trans (by (with_reducible repeat (first | exact HX16.out | apply blk_alloc | apply blk_drewN | apply blk_drew))))
  replace xHX16_0 : w6.cell? ⟨w3.heap.size, 0, none⟩ = some (.slice A_10 C.length c_10) := (blk_cell HX16.out 0).trans rfl
  replace xHX16_1 : w6.cell? ⟨w3.heap.size, 1, none⟩ = some (.slice A_12 T.length c_12) := (blk_cell HX16.out 1).trans rfl
  replace xHX16_2 : w6.cell? ⟨w3.heap.size, 2, none⟩ = some (.int .i64 0) := (blk_cell HX16.out 2).trans rfl
  replace xHX16_3 : w6.cell? ⟨w3.heap.size, 3, none⟩ = some (.slice A_14 ([] : List S84).length c_14) := (blk_cell HX16.out 3).trans rfl
  replace HX22 := Aside0.mk ((hp1_.block _ (blk_lt (by (with_reducible repeat (first | exact HX22.out | apply blk_alloc | apply blk_drewN | apply blk_drew))))).trans (by (with_reducible repeat (first | exact HX22.out | apply blk_alloc | apply blk_drewN | apply blk_drew))))
  replace xHX22_0 : w6.cell? ⟨w4.heap.size, 0, none⟩ = some (.slice A_18 X.length c_18) := (blk_cell HX22.out 0).trans rfl
  replace xHX22_1 : w6.cell? ⟨w4.heap.size, 1, none⟩ = some (.slice A_20 Y.length c_20) := (blk_cell HX22.out 1).trans rfl
  have n_ := Aside0.mk ((hp1_.block _ (blk_lt (heap_alloc_new w5 (.cells #[.slice A_24 C.length c_24, .slice A_26 T.length c_26, .int .i64 0, .slice A_28 ([] : List S84).length c_28] 31)))).trans (heap_alloc_new w5 (.cells #[.slice A_24 C.length c_24, .slice A_26 T.length c_26, .int .i64 0, .slice A_28 ([] : List S84).length c_28] 31)))
  have HX30 := n_
  clear n_
  have HTHX30 := Aside0.mk (blk_lt HX30.out)
  have xHX30_0 : w6.cell? ⟨w5.heap.size, 0, none⟩ = some (.slice A_24 C.length c_24) := (blk_cell HX30.out 0).trans rfl
  have xHX30_1 : w6.cell? ⟨w5.heap.size, 1, none⟩ = some (.slice A_26 T.length c_26) := (blk_cell HX30.out 1).trans rfl
  have xHX30_2 : w6.cell? ⟨w5.heap.size, 2, none⟩ = some (.int .i64 0) := (blk_cell HX30.out 2).trans rfl
  have xHX30_3 : w6.cell? ⟨w5.heap.size, 3, none⟩ = some (.slice A_28 ([] : List S84).length c_28) := (blk_cell HX30.out 3).trans rfl
  replace HB := Aside0.mk (show Below w.heap.size w w6 from below_then (by repeat (first | (with_reducible first | exact HB.out | apply below_alloc | apply pw_below_drewN | apply below_drew1) | exact HB.out)) (show Below w.heap.size w _ from (by repeat (first | (with_reducible first | exact HB.out | apply below_alloc | apply pw_below_drewN | apply below_drew1) | exact HB.out))).size hp1_)
  clear hp1_
  have HS6 := HSn
  clear HSn
  go_upto_region 10 with (fail)
  go_cut [45] (fun v_ wc => v_ = .bool false ∧ Aside0 (Below w6.heap.size w6 wc))
  case first =>
    go_region_with (first | (go_at_call 11; refine (laws_toProg.calls k _ _ l0_0 _ _ l0_1 X Y _ (by (with_reducible repeat (first | exact (Kd.C_below HR0_0.out HB.out) | apply Kd.C_alloc | apply Kd.C_drewN | apply Kd.C_drew))) HC0_0.out (by (with_reducible repeat (first | exact (Kd.C_below HR0_1.out HB.out) | apply Kd.C_alloc | apply Kd.C_drewN | apply Kd.C_drew))) HC0_1.out H_2.out).mono ?_; rintro e wq ⟨v0_, v1_, rfl, hp0_, hp1_, hq_⟩; obtain ⟨Aq0, cq0, eq0⟩ := Kd.R_slice hp0_; subst eq0; obtain ⟨Aq1, cq1, eq1⟩ := Kd.R_slice hp1_; subst eq1; have HQ0 := Aside0.mk (Kd.R_reads' hp0_); have HQ1 := Aside0.mk (Kd.R_reads' hp1_); clear hp0_ hp1_; have HQB := Aside0.mk hq_; clear hq_; have HQHX2 := Aside0.mk ((HQB.out.block _ (blk_lt HX2.out)).trans HX2.out); have xqHX2_0 : wq.cell? ⟨w.heap.size, 0, none⟩ = some (.slice A0_0 l0_0.length c0_0) := (blk_cell HQHX2.out 0).trans rfl; have xqHX2_1 : wq.cell? ⟨w.heap.size, 1, none⟩ = some (.slice A0_1 l0_1.length c0_1) := (blk_cell HQHX2.out 1).trans rfl; have HQHX16 := Aside0.mk ((HQB.out.block _ (blk_lt HX16.out)).trans HX16.out); have xqHX16_0 : wq.cell? ⟨w3.heap.size, 0, none⟩ = some (.slice A_10 C.length c_10) := (blk_cell HQHX16.out 0).trans rfl; have xqHX16_1 : wq.cell? ⟨w3.heap.size, 1, none⟩ = some (.slice A_12 T.length c_12) := (blk_cell HQHX16.out 1).trans rfl; have xqHX16_2 : wq.cell? ⟨w3.heap.size, 2, none⟩ = some (.int .i64 0) := (blk_cell HQHX16.out 2).trans rfl; have xqHX16_3 : wq.cell? ⟨w3.heap.size, 3, none⟩ = some (.slice A_14 ([] : List S84).length c_14) := (blk_cell HQHX16.out 3).trans rfl; have HQHX22 := Aside0.mk ((HQB.out.block _ (blk_lt HX22.out)).trans HX22.out); have xqHX22_0 : wq.cell? ⟨w4.heap.size, 0, none⟩ = some (.slice A_18 X.length c_18) := (blk_cell HQHX22.out 0).trans rfl; have xqHX22_1 : wq.cell? ⟨w4.heap.size, 1, none⟩ = some (.slice A_20 Y.length c_20) := (blk_cell HQHX22.out 1).trans rfl; have HQHX30 := Aside0.mk ((HQB.out.block _ (blk_lt HX30.out)).trans HX30.out); have xqHX30_0 : wq.cell? ⟨w5.heap.size, 0, none⟩ = some (.slice A_24 C.length c_24) := (blk_cell HQHX30.out 0).trans rfl; have xqHX30_1 : wq.cell? ⟨w5.heap.size, 1, none⟩ = some (.slice A_26 T.length c_26) := (blk_cell HQHX30.out 1).trans rfl; have xqHX30_2 : wq.cell? ⟨w5.heap.size, 2, none⟩ = some (.int .i64 0) := (blk_cell HQHX30.out 2).trans rfl; have xqHX30_3 : wq.cell? ⟨w5.heap.size, 3, none⟩ = some (.slice A_28 ([] : List S84).length c_28) := (blk_cell HQHX30.out 3).trans rfl) | (go_at_call 14; refine (laws_eqProg.calls k _ _ X _ _ Y _ _ X _ _ Y true _ (by (with_reducible repeat (first | apply Kd.C_alloc | apply Kd.C_drewN | apply Kd.C_drew)); refine Kd.C_below ?_ HQB.out; (with_reducible repeat (first | exact (Kd.R_reads' HF17.out).2.2 | apply Kd.C_alloc | apply Kd.C_drewN | apply Kd.C_drew))) (Kd.R_reads' HF17.out).2.1 (by (with_reducible repeat (first | apply Kd.C_alloc | apply Kd.C_drewN | apply Kd.C_drew)); refine Kd.C_below ?_ HQB.out; (with_reducible repeat (first | exact (Kd.R_reads' HF19.out).2.2 | apply Kd.C_alloc | apply Kd.C_drewN | apply Kd.C_drew))) (Kd.R_reads' HF19.out).2.1 (by (with_reducible repeat (first | exact HQ0.out.2.2 | apply Kd.C_alloc | apply Kd.C_drewN | apply Kd.C_drew))) HQ0.out.2.1 (by (with_reducible repeat (first | exact HQ1.out.2.2 | apply Kd.C_alloc | apply Kd.C_drewN | apply Kd.C_drew))) HQ1.out.2.1 H_7.out).mono ?_; rintro e wr ⟨rfl, hr_⟩; have HRB := Aside0.mk hr_; clear hr_))
    all_goals go_wp2_with fail
    all_goals go_meet
    all_goals exact ⟨rfl, ⟨below_step (below_step (show Below w6.heap.size w6 w6.drew from below_drew (Below.refl _ _)) HQB.out) HRB.out⟩⟩
  case rest =>
    obtain ⟨rfl, HC_⟩ := hcut
    have hb_ := HC_.out
    clear HC_
    have HSn := Aside0.mk (show w6.heap.size ≤ wc.heap.size by have h_ := hb_.size; first | exact h_ | (simp at h_; omega))
    replace HF9 := Aside0.mk (Kd.R_below (by (with_reducible repeat (first | exact HF9.out | apply Kd.R_alloc | apply Kd.R_drewN | apply Kd.R_drew))) hb_)
    replace HF11 := Aside0.mk (Kd.N_below (by (with_reducible repeat (first | exact HF11.out | apply Kd.N_alloc | apply Kd.N_drewN | apply Kd.N_drew))) hb_)
    replace HF17 := Aside0.mk (Kd.R_below (by (with_reducible repeat (first | exact HF17.out | apply Kd.R_alloc | apply Kd.R_drewN | apply Kd.R_drew))) hb_)
    replace HF19 := Aside0.mk (Kd.R_below (by (with_reducible repeat (first | exact HF19.out | apply Kd.R_alloc | apply Kd.R_drewN | apply Kd.R_drew))) hb_)
    replace HF23 := Aside0.mk (Kd.R_below (by (with_reducible repeat (first | exact HF23.out | apply Kd.R_alloc | apply Kd.R_drewN | apply Kd.R_drew))) hb_)
    replace HF25 := Aside0.mk (Kd.R_below (by (with_reducible repeat (first | exact HF25.out | apply Kd.R_alloc | apply Kd.R_drewN | apply Kd.R_drew))) hb_)
    replace HSYS := Aside0.mk ((by first | exact SysP.below HSYS.out hb_ | exact SysP.below (SysP.below HSYS.out (below_alloc (Below.refl _ _) _)) hb_))
    replace HX2 := Aside0.mk ((hb_.block _ (blk_lt (by (with_reducible repeat (first | exact HX2.out | apply blk_alloc | apply blk_drewN | apply blk_drew))))).trans (by (with_reducible repeat (first | exact HX2.out | apply blk_alloc | apply blk_drewN | apply blk_drew))))
    replace xHX2_0 : wc.cell? ⟨w.heap.size, 0, none⟩ = some (.slice A0_0 l0_0.length c0_0) := (blk_cell HX2.out 0).trans rfl
    replace xHX2_1 : wc.cell? ⟨w.heap.size, 1, none⟩ = some (.slice A0_1 l0_1.length c0_1) := (blk_cell HX2.out 1).trans rfl
    replace HX16 := Aside0.mk ((hb_.block _ (blk_lt (by (with_reducible repeat (first | exact HX16.out | apply blk_alloc | apply blk_drewN | apply blk_drew))))).trans (by (with_reducible repeat (first | exact HX16.out | apply blk_alloc | apply blk_drewN | apply blk_drew))))
    replace xHX16_0 : wc.cell? ⟨w3.heap.size, 0, none⟩ = some (.slice A_10 C.length c_10) := (blk_cell HX16.out 0).trans rfl
    replace xHX16_1 : wc.cell? ⟨w3.heap.size, 1, none⟩ = some (.slice A_12 T.length c_12) := (blk_cell HX16.out 1).trans rfl
    replace xHX16_2 : wc.cell? ⟨w3.heap.size, 2, none⟩ = some (.int .i64 0) := (blk_cell HX16.out 2).trans rfl
    replace xHX16_3 : wc.cell? ⟨w3.heap.size, 3, none⟩ = some (.slice A_14 ([] : List S84).length c_14) := (blk_cell HX16.out 3).trans rfl
    replace HX22 := Aside0.mk ((hb_.block _ (blk_lt (by (with_reducible repeat (first | exact HX22.out | apply blk_alloc | apply blk_drewN | apply blk_drew))))).trans (by (with_reducible repeat (first | exact HX22.out | apply blk_alloc | apply blk_drewN | apply blk_drew))))
    replace xHX22_0 : wc.cell? ⟨w4.heap.size, 0, none⟩ = some (.slice A_18 X.length c_18) := (blk_cell HX22.out 0).trans rfl
    replace xHX22_1 : wc.cell? ⟨w4.heap.size, 1, none⟩ = some (.slice A_20 Y.length c_20) := (blk_cell HX22.out 1).trans rfl
    replace HX30 := Aside0.mk ((hb_.block _ (blk_lt (by (with_reducible repeat (first | exact HX30.out | apply blk_alloc | apply blk_drewN | apply blk_drew))))).trans (by (with_reducible repeat (first | exact HX30.out | apply blk_alloc | apply blk_drewN | apply blk_drew))))
    replace xHX30_0 : wc.cell? ⟨w5.heap.size, 0, none⟩ = some (.slice A_24 C.length c_24) := (blk_cell HX30.out 0).trans rfl
    replace xHX30_1 : wc.cell? ⟨w5.heap.size, 1, none⟩ = some (.slice A_26 T.length c_26) := (blk_cell HX30.out 1).trans rfl
    replace xHX30_2 : wc.cell? ⟨w5.heap.size, 2, none⟩ = some (.int .i64 0) := (blk_cell HX30.out 2).trans rfl
    replace xHX30_3 : wc.cell? ⟨w5.heap.size, 3, none⟩ = some (.slice A_28 ([] : List S84).length c_28) := (blk_cell HX30.out 3).trans rfl
    replace HB := Aside0.mk (show Below w.heap.size w wc from below_then (by repeat (first | (with_reducible first | exact HB.out | apply below_alloc | apply pw_below_drewN | apply below_drew1) | exact HB.out)) (show Below w.heap.size w _ from (by repeat (first | (with_reducible first | exact HB.out | apply below_alloc | apply pw_below_drewN | apply below_drew1) | exact HB.out))).size hb_)
    have HS7 := HSn
    clear HSn
    clear hb_
    go_wp2_with fail
    refine (laws_markProg.calls (fun k_ => w3.heap.size + 1 ≤ k_ ∧ k_ < w4.heap.size) _ X (fun k_ => w3.heap.size + 1 ≤ k_ ∧ k_ < w4.heap.size) _ Y 1 k2 w _ (by repeat (first | (with_reducible first | exact HB.out | apply below_alloc | apply pw_below_drewN | apply below_drew1) | exact HB.out)) (Kd.R_lower (by (with_reducible repeat (first | exact HF17.out | apply Kd.R_alloc | apply Kd.R_drewN | apply Kd.R_drew))) (by have := HS1.out; have := HS2.out; have := HS3.out; have := HS4.out; have := HS5.out; have := HS6.out; have := HS7.out; have := HB.out.size; omega)) (Kd.R_lower (by (with_reducible repeat (first | exact HF19.out | apply Kd.R_alloc | apply Kd.R_drewN | apply Kd.R_drew))) (by have := HS1.out; have := HS2.out; have := HS3.out; have := HS4.out; have := HS5.out; have := HS6.out; have := HS7.out; have := HB.out.size; omega)) H_8.out).mono ?_
    rintro e w8 ⟨rfl, hp1_, hp2_⟩
    have HSn := Aside0.mk (show wc.heap.size ≤ w8.heap.size by have h_ := hp2_.1; first | exact h_ | (simp at h_; omega))
    replace HF9 := Aside0.mk (Kd.R_step (by (with_reducible repeat (first | exact HF9.out | apply Kd.R_alloc | apply Kd.R_drewN | apply Kd.R_drew))) (fun k_ ho_ hl_ => hp2_.2 k_ hl_ (fun hq_ => by have h1_ := ho_; have h2_ := hq_; (try dsimp only at h1_); (try dsimp only at h2_); have := HS1.out; have := HS2.out; have := HS3.out; have := HS4.out; have := HS5.out; have := HS6.out; have := HS7.out; have := HTHX2.out; have := HTHX16.out; have := HTHX22.out; have := HTHX30.out; omega)))
    replace HF11 := Aside0.mk (Kd.N_step (by (with_reducible repeat (first | exact HF11.out | apply Kd.N_alloc | apply Kd.N_drewN | apply Kd.N_drew))) (fun k_ ho_ hl_ => hp2_.2 k_ hl_ (fun hq_ => by have h1_ := ho_; have h2_ := hq_; (try dsimp only at h1_); (try dsimp only at h2_); have := HS1.out; have := HS2.out; have := HS3.out; have := HS4.out; have := HS5.out; have := HS6.out; have := HS7.out; have := HTHX2.out; have := HTHX16.out; have := HTHX22.out; have := HTHX30.out; omega)))
    clear HF17
    clear HF19
    replace HF23 := Aside0.mk (Kd.R_step (by (with_reducible repeat (first | exact HF23.out | apply Kd.R_alloc | apply Kd.R_drewN | apply Kd.R_drew))) (fun k_ ho_ hl_ => hp2_.2 k_ hl_ (fun hq_ => by have h1_ := ho_; have h2_ := hq_; (try dsimp only at h1_); (try dsimp only at h2_); have := HS1.out; have := HS2.out; have := HS3.out; have := HS4.out; have := HS5.out; have := HS6.out; have := HS7.out; have := HTHX2.out; have := HTHX16.out; have := HTHX22.out; have := HTHX30.out; omega)))
    replace HF25 := Aside0.mk (Kd.R_step (by (with_reducible repeat (first | exact HF25.out | apply Kd.R_alloc | apply Kd.R_drewN | apply Kd.R_drew))) (fun k_ ho_ hl_ => hp2_.2 k_ hl_ (fun hq_ => by have h1_ := ho_; have h2_ := hq_; (try dsimp only at h1_); (try dsimp only at h2_); have := HS1.out; have := HS2.out; have := HS3.out; have := HS4.out; have := HS5.out; have := HS6.out; have := HS7.out; have := HTHX2.out; have := HTHX16.out; have := HTHX22.out; have := HTHX30.out; omega)))
    replace HSYS := Aside0.mk ((by first | exact SysP.step HSYS.out (fun k_ ho_ hl_ => hp2_.2 k_ hl_ (fun hq_ => by have h1_ := ho_; have h2_ := hq_; (try dsimp only at h1_); (try dsimp only at h2_); have := HS1.out; have := HS2.out; have := HS3.out; have := HS4.out; have := HS5.out; have := HS6.out; have := HS7.out; have := HTHX2.out; have := HTHX16.out; have := HTHX22.out; have := HTHX30.out; omega)) | exact SysP.step (SysP.below HSYS.out (below_alloc (Below.refl _ _) _)) (fun k_ ho_ hl_ => hp2_.2 k_ hl_ (fun hq_ => by have h1_ := ho_; have h2_ := hq_; (try dsimp only at h1_); (try dsimp only at h2_); have := HS1.out; have := HS2.out; have := HS3.out; have := HS4.out; have := HS5.out; have := HS6.out; have := HS7.out; have := HTHX2.out; have := HTHX16.out; have := HTHX22.out; have := HTHX30.out; omega))))
    replace HX2 := Aside0.mk ((hp2_.2 _ (blk_lt (by (with_reducible repeat (first | exact HX2.out | apply blk_alloc | apply blk_drewN | apply blk_drew)))) (fun hq_ => by have h2_ := hq_; (try dsimp only at h2_); have := HS1.out; have := HS2.out; have := HS3.out; have := HS4.out; have := HS5.out; have := HS6.out; have := HS7.out; have := HTHX2.out; have := HTHX16.out; have := HTHX22.out; have := HTHX30.out; omega)).trans (by (with_reducible repeat (first | exact HX2.out | apply blk_alloc | apply blk_drewN | apply blk_drew))))
    replace xHX2_0 : w8.cell? ⟨w.heap.size, 0, none⟩ = some (.slice A0_0 l0_0.length c0_0) := (blk_cell HX2.out 0).trans rfl
    replace xHX2_1 : w8.cell? ⟨w.heap.size, 1, none⟩ = some (.slice A0_1 l0_1.length c0_1) := (blk_cell HX2.out 1).trans rfl
    replace HX16 := Aside0.mk ((hp2_.2 _ (blk_lt (by (with_reducible repeat (first | exact HX16.out | apply blk_alloc | apply blk_drewN | apply blk_drew)))) (fun hq_ => by have h2_ := hq_; (try dsimp only at h2_); have := HS1.out; have := HS2.out; have := HS3.out; have := HS4.out; have := HS5.out; have := HS6.out; have := HS7.out; have := HTHX2.out; have := HTHX16.out; have := HTHX22.out; have := HTHX30.out; omega)).trans (by (with_reducible repeat (first | exact HX16.out | apply blk_alloc | apply blk_drewN | apply blk_drew))))
    replace xHX16_0 : w8.cell? ⟨w3.heap.size, 0, none⟩ = some (.slice A_10 C.length c_10) := (blk_cell HX16.out 0).trans rfl
    replace xHX16_1 : w8.cell? ⟨w3.heap.size, 1, none⟩ = some (.slice A_12 T.length c_12) := (blk_cell HX16.out 1).trans rfl
    replace xHX16_2 : w8.cell? ⟨w3.heap.size, 2, none⟩ = some (.int .i64 0) := (blk_cell HX16.out 2).trans rfl
    replace xHX16_3 : w8.cell? ⟨w3.heap.size, 3, none⟩ = some (.slice A_14 ([] : List S84).length c_14) := (blk_cell HX16.out 3).trans rfl
    replace HX22 := Aside0.mk ((hp2_.2 _ (blk_lt (by (with_reducible repeat (first | exact HX22.out | apply blk_alloc | apply blk_drewN | apply blk_drew)))) (fun hq_ => by have h2_ := hq_; (try dsimp only at h2_); have := HS1.out; have := HS2.out; have := HS3.out; have := HS4.out; have := HS5.out; have := HS6.out; have := HS7.out; have := HTHX2.out; have := HTHX16.out; have := HTHX22.out; have := HTHX30.out; omega)).trans (by (with_reducible repeat (first | exact HX22.out | apply blk_alloc | apply blk_drewN | apply blk_drew))))
    replace xHX22_0 : w8.cell? ⟨w4.heap.size, 0, none⟩ = some (.slice A_18 X.length c_18) := (blk_cell HX22.out 0).trans rfl
    replace xHX22_1 : w8.cell? ⟨w4.heap.size, 1, none⟩ = some (.slice A_20 Y.length c_20) := (blk_cell HX22.out 1).trans rfl
    replace HX30 := Aside0.mk ((hp2_.2 _ (blk_lt (by (with_reducible repeat (first | exact HX30.out | apply blk_alloc | apply blk_drewN | apply blk_drew)))) (fun hq_ => by have h2_ := hq_; (try dsimp only at h2_); have := HS1.out; have := HS2.out; have := HS3.out; have := HS4.out; have := HS5.out; have := HS6.out; have := HS7.out; have := HTHX2.out; have := HTHX16.out; have := HTHX22.out; have := HTHX30.out; omega)).trans (by (with_reducible repeat (first | exact HX30.out | apply blk_alloc | apply blk_drewN | apply blk_drew))))
    replace xHX30_0 : w8.cell? ⟨w5.heap.size, 0, none⟩ = some (.slice A_24 C.length c_24) := (blk_cell HX30.out 0).trans rfl
    replace xHX30_1 : w8.cell? ⟨w5.heap.size, 1, none⟩ = some (.slice A_26 T.length c_26) := (blk_cell HX30.out 1).trans rfl
    replace xHX30_2 : w8.cell? ⟨w5.heap.size, 2, none⟩ = some (.int .i64 0) := (blk_cell HX30.out 2).trans rfl
    replace xHX30_3 : w8.cell? ⟨w5.heap.size, 3, none⟩ = some (.slice A_28 ([] : List S84).length c_28) := (blk_cell HX30.out 3).trans rfl
    replace HB := Aside0.mk hp1_
    clear hp2_ hp1_
    have HS8 := HSn
    clear HSn
    have t2b := decide_eq_false (show ¬ (k2 < 0) by omega)
    have t2p := eq_false (show ¬ (k2 < 0) by omega)
    go_wp2_with fail
    refine (laws_eqSys.calls k _ _ C _ _ T 0 _ _ (([] : List S84)) _ _ C _ _ T 0 _ _ (([] : List S84)) true _ (by (with_reducible repeat (first | exact (Kd.R_reads' HF23.out).2.2 | apply Kd.C_alloc | apply Kd.C_drewN | apply Kd.C_drew))) (Kd.R_reads' HF23.out).2.1 (by (with_reducible repeat (first | exact (Kd.R_reads' HF25.out).2.2 | apply Kd.C_alloc | apply Kd.C_drewN | apply Kd.C_drew))) (Kd.R_reads' HF25.out).2.1 (C_none _ _ _) (Nat.zero_le _) (by (with_reducible repeat (first | exact (Kd.R_reads' HF9.out).2.2 | apply Kd.C_alloc | apply Kd.C_drewN | apply Kd.C_drew))) (Kd.R_reads' HF9.out).2.1 (by (with_reducible repeat (first | exact (Kd.N_reads' HF11.out).2.2 | apply Kd.C_alloc | apply Kd.C_drewN | apply Kd.C_drew))) (Kd.N_reads' HF11.out).2.1 (C_none _ _ _) (Nat.zero_le _) H_6.out).mono ?_
    rintro e w9 ⟨rfl, hp1_⟩
    have HSn := Aside0.mk (show w8.heap.size ≤ w9.heap.size by have h_ := hp1_.size; first | exact h_ | (simp at h_; omega))
    replace HF9 := Aside0.mk (Kd.R_below (by (with_reducible repeat (first | exact HF9.out | apply Kd.R_alloc | apply Kd.R_drewN | apply Kd.R_drew))) hp1_)
    replace HF11 := Aside0.mk (Kd.N_below (by (with_reducible repeat (first | exact HF11.out | apply Kd.N_alloc | apply Kd.N_drewN | apply Kd.N_drew))) hp1_)
    replace HF23 := Aside0.mk (Kd.R_below (by (with_reducible repeat (first | exact HF23.out | apply Kd.R_alloc | apply Kd.R_drewN | apply Kd.R_drew))) hp1_)
    replace HF25 := Aside0.mk (Kd.R_below (by (with_reducible repeat (first | exact HF25.out | apply Kd.R_alloc | apply Kd.R_drewN | apply Kd.R_drew))) hp1_)
    replace HSYS := Aside0.mk ((by first | exact SysP.below HSYS.out hp1_ | exact SysP.below (SysP.below HSYS.out (below_alloc (Below.refl _ _) _)) hp1_))
    replace HX2 := Aside0.mk ((hp1_.block _ (blk_lt (by (with_reducible repeat (first | exact HX2.out | apply blk_alloc | apply blk_drewN | apply blk_drew))))).trans (by (with_reducible repeat (first | exact HX2.out | apply blk_alloc | apply blk_drewN | apply blk_drew))))
    replace xHX2_0 : w9.cell? ⟨w.heap.size, 0, none⟩ = some (.slice A0_0 l0_0.length c0_0) := (blk_cell HX2.out 0).trans rfl
    replace xHX2_1 : w9.cell? ⟨w.heap.size, 1, none⟩ = some (.slice A0_1 l0_1.length c0_1) := (blk_cell HX2.out 1).trans rfl
    replace HX16 := Aside0.mk ((hp1_.block _ (blk_lt (by (with_reducible repeat (first | exact HX16.out | apply blk_alloc | apply blk_drewN | apply blk_drew))))).trans (by (with_reducible repeat (first | exact HX16.out | apply blk_alloc | apply blk_drewN | apply blk_drew))))
    replace xHX16_0 : w9.cell? ⟨w3.heap.size, 0, none⟩ = some (.slice A_10 C.length c_10) := (blk_cell HX16.out 0).trans rfl
    replace xHX16_1 : w9.cell? ⟨w3.heap.size, 1, none⟩ = some (.slice A_12 T.length c_12) := (blk_cell HX16.out 1).trans rfl
    replace xHX16_2 : w9.cell? ⟨w3.heap.size, 2, none⟩ = some (.int .i64 0) := (blk_cell HX16.out 2).trans rfl
    replace xHX16_3 : w9.cell? ⟨w3.heap.size, 3, none⟩ = some (.slice A_14 ([] : List S84).length c_14) := (blk_cell HX16.out 3).trans rfl
    replace HX22 := Aside0.mk ((hp1_.block _ (blk_lt (by (with_reducible repeat (first | exact HX22.out | apply blk_alloc | apply blk_drewN | apply blk_drew))))).trans (by (with_reducible repeat (first | exact HX22.out | apply blk_alloc | apply blk_drewN | apply blk_drew))))
    replace xHX22_0 : w9.cell? ⟨w4.heap.size, 0, none⟩ = some (.slice A_18 X.length c_18) := (blk_cell HX22.out 0).trans rfl
    replace xHX22_1 : w9.cell? ⟨w4.heap.size, 1, none⟩ = some (.slice A_20 Y.length c_20) := (blk_cell HX22.out 1).trans rfl
    replace HX30 := Aside0.mk ((hp1_.block _ (blk_lt (by (with_reducible repeat (first | exact HX30.out | apply blk_alloc | apply blk_drewN | apply blk_drew))))).trans (by (with_reducible repeat (first | exact HX30.out | apply blk_alloc | apply blk_drewN | apply blk_drew))))
    replace xHX30_0 : w9.cell? ⟨w5.heap.size, 0, none⟩ = some (.slice A_24 C.length c_24) := (blk_cell HX30.out 0).trans rfl
    replace xHX30_1 : w9.cell? ⟨w5.heap.size, 1, none⟩ = some (.slice A_26 T.length c_26) := (blk_cell HX30.out 1).trans rfl
    replace xHX30_2 : w9.cell? ⟨w5.heap.size, 2, none⟩ = some (.int .i64 0) := (blk_cell HX30.out 2).trans rfl
    replace xHX30_3 : w9.cell? ⟨w5.heap.size, 3, none⟩ = some (.slice A_28 ([] : List S84).length c_28) := (blk_cell HX30.out 3).trans rfl
    replace HB := Aside0.mk (show Below w.heap.size w w9 from below_then (by repeat (first | (with_reducible first | exact HB.out | apply below_alloc | apply pw_below_drewN | apply below_drew1) | exact HB.out)) (show Below w.heap.size w _ from (by repeat (first | (with_reducible first | exact HB.out | apply below_alloc | apply pw_below_drewN | apply below_drew1) | exact HB.out))).size hp1_)
    clear hp1_
    have HS9 := HSn
    clear HSn
    obtain ⟨F_, hF_, s0_, s1_, hA_⟩ := SysP.foot HSYS.out
    have hn_ := (hA_ A_28).1
    have hl_ := (hA_ A_28).2.1
    have hi0_ := (hA_ A_28).2.2
    have hc_ := markSys_ft (fun k_ => (w4.heap.size + 1) ≤ k_ ∧ k_ < w5.heap.size) A_24 C.length c_24 A_26 F_ c_26 0 A_28 [] c_28 1 w9 s0_ s1_ ⟨Nat.zero_le _, fun h => absurd h (Nat.lt_irrefl 0)⟩
    rw [hF_, hl_, mkI_small _ _ (by decide) (by rw [← H_9.out]; exact H_10.out), ← H_9.out] at hc_
    go_wp2_with fail
    refine hc_.mono ?_
    clear hc_
    rintro e w10 ⟨rfl, hj_, hi_⟩
    have HHELD := Aside0.mk (show HoldsN w10 (footR A_24 (C.length * 3) ++ (foot66 A_26 F_ ++ foot84 A_28 [])) 1 from Holds.bare (by rw [hj_]; exact jot_holds _ _ _ hn_ (fun a_ ha_ => (hi0_ a_ ha_).elim fun z_ hz_ => ⟨z_, pw_cell_below (below_alloc (Below.refl _ _) _) hz_⟩)) (by decide) (by rw [hl_, ← H_9.out]; exact H_10.out))
    have HOK0 := Aside0.mk ((s0_.below (below_alloc (Below.refl _ _) _)).step hi_)
    have HOK1 := Aside0.mk ((s1_.below (below_alloc (Below.refl _ _) _)).step hi_)
    have HFl := Aside0.mk hF_
    have HLl := Aside0.mk hl_
    have hsz_ := hi_.size
    have HSn := Aside0.mk (show w9.heap.size ≤ w10.heap.size by simp at hsz_; omega)
    have hk_ : ∀ k_, k_ < w9.heap.size → ¬ ((w4.heap.size + 1) ≤ k_ ∧ k_ < w5.heap.size) → w10.heap[k_]? = w9.heap[k_]? := fun k_ hl_ hq_ => (hi_.block k_ hq_).trans (Below.heap_alloc w9 _ k_ hl_)
    clear HSYS
    replace HF9 := Aside0.mk (Kd.R_step (by (with_reducible repeat (first | exact HF9.out | apply Kd.R_alloc | apply Kd.R_drewN | apply Kd.R_drew))) (fun k_ ho_ hl_ => hk_ k_ hl_ (fun hq_ => by have h2_ := hq_; have h1_ := ho_; (try dsimp only at h1_); have := HS1.out; have := HS2.out; have := HS3.out; have := HS4.out; have := HS5.out; have := HS6.out; have := HS7.out; have := HS8.out; have := HS9.out; have := HTHX2.out; have := HTHX16.out; have := HTHX22.out; have := HTHX30.out; omega)))
    replace HF11 := Aside0.mk (Kd.N_step (by (with_reducible repeat (first | exact HF11.out | apply Kd.N_alloc | apply Kd.N_drewN | apply Kd.N_drew))) (fun k_ ho_ hl_ => hk_ k_ hl_ (fun hq_ => by have h2_ := hq_; have h1_ := ho_; (try dsimp only at h1_); have := HS1.out; have := HS2.out; have := HS3.out; have := HS4.out; have := HS5.out; have := HS6.out; have := HS7.out; have := HS8.out; have := HS9.out; have := HTHX2.out; have := HTHX16.out; have := HTHX22.out; have := HTHX30.out; omega)))
    clear HF23
    clear HF25
    replace HX2 := Aside0.mk ((hk_ _ (blk_lt HX2.out) (fun hq_ => by have h2_ := hq_; have := HS1.out; have := HS2.out; have := HS3.out; have := HS4.out; have := HS5.out; have := HS6.out; have := HS7.out; have := HS8.out; have := HS9.out; have := HTHX2.out; have := HTHX16.out; have := HTHX22.out; have := HTHX30.out; omega)).trans HX2.out)
    replace xHX2_0 : w10.cell? ⟨w.heap.size, 0, none⟩ = some (.slice A0_0 l0_0.length c0_0) := (blk_cell HX2.out 0).trans rfl
    replace xHX2_1 : w10.cell? ⟨w.heap.size, 1, none⟩ = some (.slice A0_1 l0_1.length c0_1) := (blk_cell HX2.out 1).trans rfl
    replace HX16 := Aside0.mk ((hk_ _ (blk_lt HX16.out) (fun hq_ => by have h2_ := hq_; have := HS1.out; have := HS2.out; have := HS3.out; have := HS4.out; have := HS5.out; have := HS6.out; have := HS7.out; have := HS8.out; have := HS9.out; have := HTHX2.out; have := HTHX16.out; have := HTHX22.out; have := HTHX30.out; omega)).trans HX16.out)
    replace xHX16_0 : w10.cell? ⟨w3.heap.size, 0, none⟩ = some (.slice A_10 C.length c_10) := (blk_cell HX16.out 0).trans rfl
    replace xHX16_1 : w10.cell? ⟨w3.heap.size, 1, none⟩ = some (.slice A_12 T.length c_12) := (blk_cell HX16.out 1).trans rfl
    replace xHX16_2 : w10.cell? ⟨w3.heap.size, 2, none⟩ = some (.int .i64 0) := (blk_cell HX16.out 2).trans rfl
    replace xHX16_3 : w10.cell? ⟨w3.heap.size, 3, none⟩ = some (.slice A_14 ([] : List S84).length c_14) := (blk_cell HX16.out 3).trans rfl
    replace HX22 := Aside0.mk ((hk_ _ (blk_lt HX22.out) (fun hq_ => by have h2_ := hq_; have := HS1.out; have := HS2.out; have := HS3.out; have := HS4.out; have := HS5.out; have := HS6.out; have := HS7.out; have := HS8.out; have := HS9.out; have := HTHX2.out; have := HTHX16.out; have := HTHX22.out; have := HTHX30.out; omega)).trans HX22.out)
    replace xHX22_0 : w10.cell? ⟨w4.heap.size, 0, none⟩ = some (.slice A_18 X.length c_18) := (blk_cell HX22.out 0).trans rfl
    replace xHX22_1 : w10.cell? ⟨w4.heap.size, 1, none⟩ = some (.slice A_20 Y.length c_20) := (blk_cell HX22.out 1).trans rfl
    replace HX30 := Aside0.mk ((hk_ _ (blk_lt HX30.out) (fun hq_ => by have h2_ := hq_; have := HS1.out; have := HS2.out; have := HS3.out; have := HS4.out; have := HS5.out; have := HS6.out; have := HS7.out; have := HS8.out; have := HS9.out; have := HTHX2.out; have := HTHX16.out; have := HTHX22.out; have := HTHX30.out; omega)).trans HX30.out)
    replace xHX30_0 : w10.cell? ⟨w5.heap.size, 0, none⟩ = some (.slice A_24 C.length c_24) := (blk_cell HX30.out 0).trans rfl
    replace xHX30_1 : w10.cell? ⟨w5.heap.size, 1, none⟩ = some (.slice A_26 T.length c_26) := (blk_cell HX30.out 1).trans rfl
    replace xHX30_2 : w10.cell? ⟨w5.heap.size, 2, none⟩ = some (.int .i64 0) := (blk_cell HX30.out 2).trans rfl
    replace xHX30_3 : w10.cell? ⟨w5.heap.size, 3, none⟩ = some (.slice A_28 ([] : List S84).length c_28) := (blk_cell HX30.out 3).trans rfl
    replace HB := Aside0.mk (show Below w.heap.size w w10 from hi_.below (below_alloc HB.out _) (fun k_ hk => by have h2_ := hk.1; have := HS1.out; have := HS2.out; have := HS3.out; have := HS4.out; have := HS5.out; have := HS6.out; have := HS7.out; have := HS8.out; have := HS9.out; have := HTHX2.out; have := HTHX16.out; have := HTHX22.out; have := HTHX30.out; have h3_ := HB.out.size; omega))
    clear hj_ hi_ hk_ hn_ hl_ hi0_ hA_ s0_ s1_ hF_ hsz_
    have HS10 := HSn
    clear HSn
    have hc_ := heldSys_ft _ A_24 C.length c_24 A_26 F_ c_26 0 A_28 [] c_28 1 w10 HOK0.out HOK1.out ⟨Nat.zero_le _, fun h => absurd h (Nat.lt_irrefl 0)⟩ HHELD.out (by decide) (by rw [HLl.out, ← H_9.out]; exact H_10.out)
    rw [HFl.out, HLl.out, ← H_9.out] at hc_
    go_wp2_with fail
    refine hc_.mono ?_
    clear hc_
    rintro e w11 ⟨rfl, hb_⟩
    have HSn := Aside0.mk (show w10.heap.size ≤ w11.heap.size by have h_ := hb_.size; first | exact h_ | (simp at h_; omega))
    replace HF9 := Aside0.mk (Kd.R_below (by (with_reducible repeat (first | exact HF9.out | apply Kd.R_alloc | apply Kd.R_drewN | apply Kd.R_drew))) hb_)
    replace HF11 := Aside0.mk (Kd.N_below (by (with_reducible repeat (first | exact HF11.out | apply Kd.N_alloc | apply Kd.N_drewN | apply Kd.N_drew))) hb_)
    replace HHELD := Aside0.mk ((by first | exact HoldsN.below HHELD.out hb_ | exact HoldsN.below (HoldsN.below HHELD.out (below_alloc (Below.refl _ _) _)) hb_))
    replace HOK0 := Aside0.mk ((by first | exact ShR.below HOK0.out hb_ | exact ShR.below (ShR.below HOK0.out (below_alloc (Below.refl _ _) _)) hb_))
    replace HOK1 := Aside0.mk ((by first | exact F66.Ok.below HOK1.out hb_ | exact F66.Ok.below (F66.Ok.below HOK1.out (below_alloc (Below.refl _ _) _)) hb_))
    replace HX2 := Aside0.mk ((hb_.block _ (blk_lt (by (with_reducible repeat (first | exact HX2.out | apply blk_alloc | apply blk_drewN | apply blk_drew))))).trans (by (with_reducible repeat (first | exact HX2.out | apply blk_alloc | apply blk_drewN | apply blk_drew))))
    replace xHX2_0 : w11.cell? ⟨w.heap.size, 0, none⟩ = some (.slice A0_0 l0_0.length c0_0) := (blk_cell HX2.out 0).trans rfl
    replace xHX2_1 : w11.cell? ⟨w.heap.size, 1, none⟩ = some (.slice A0_1 l0_1.length c0_1) := (blk_cell HX2.out 1).trans rfl
    replace HX16 := Aside0.mk ((hb_.block _ (blk_lt (by (with_reducible repeat (first | exact HX16.out | apply blk_alloc | apply blk_drewN | apply blk_drew))))).trans (by (with_reducible repeat (first | exact HX16.out | apply blk_alloc | apply blk_drewN | apply blk_drew))))
    replace xHX16_0 : w11.cell? ⟨w3.heap.size, 0, none⟩ = some (.slice A_10 C.length c_10) := (blk_cell HX16.out 0).trans rfl
    replace xHX16_1 : w11.cell? ⟨w3.heap.size, 1, none⟩ = some (.slice A_12 T.length c_12) := (blk_cell HX16.out 1).trans rfl
    replace xHX16_2 : w11.cell? ⟨w3.heap.size, 2, none⟩ = some (.int .i64 0) := (blk_cell HX16.out 2).trans rfl
    replace xHX16_3 : w11.cell? ⟨w3.heap.size, 3, none⟩ = some (.slice A_14 ([] : List S84).length c_14) := (blk_cell HX16.out 3).trans rfl
    replace HX22 := Aside0.mk ((hb_.block _ (blk_lt (by (with_reducible repeat (first | exact HX22.out | apply blk_alloc | apply blk_drewN | apply blk_drew))))).trans (by (with_reducible repeat (first | exact HX22.out | apply blk_alloc | apply blk_drewN | apply blk_drew))))
    replace xHX22_0 : w11.cell? ⟨w4.heap.size, 0, none⟩ = some (.slice A_18 X.length c_18) := (blk_cell HX22.out 0).trans rfl
    replace xHX22_1 : w11.cell? ⟨w4.heap.size, 1, none⟩ = some (.slice A_20 Y.length c_20) := (blk_cell HX22.out 1).trans rfl
    replace HX30 := Aside0.mk ((hb_.block _ (blk_lt (by (with_reducible repeat (first | exact HX30.out | apply blk_alloc | apply blk_drewN | apply blk_drew))))).trans (by (with_reducible repeat (first | exact HX30.out | apply blk_alloc | apply blk_drewN | apply blk_drew))))
    replace xHX30_0 : w11.cell? ⟨w5.heap.size, 0, none⟩ = some (.slice A_24 C.length c_24) := (blk_cell HX30.out 0).trans rfl
    replace xHX30_1 : w11.cell? ⟨w5.heap.size, 1, none⟩ = some (.slice A_26 T.length c_26) := (blk_cell HX30.out 1).trans rfl
    replace xHX30_2 : w11.cell? ⟨w5.heap.size, 2, none⟩ = some (.int .i64 0) := (blk_cell HX30.out 2).trans rfl
    replace xHX30_3 : w11.cell? ⟨w5.heap.size, 3, none⟩ = some (.slice A_28 ([] : List S84).length c_28) := (blk_cell HX30.out 3).trans rfl
    replace HB := Aside0.mk (show Below w.heap.size w w11 from below_then (by repeat (first | (with_reducible first | exact HB.out | apply below_alloc | apply pw_below_drewN | apply below_drew1) | exact HB.out)) (show Below w.heap.size w _ from (by repeat (first | (with_reducible first | exact HB.out | apply below_alloc | apply pw_below_drewN | apply below_drew1) | exact HB.out))).size hb_)
    have HS11 := HSn
    clear HSn
    clear hb_
    have t3b := decide_eq_false (show ¬ (m < 0) by omega)
    have t3p := eq_false (show ¬ (m < 0) by omega)
    go_wp2_with fail
    refine (laws_toProg.calls k _ _ l0_0 _ _ l0_1 X Y _ (by (with_reducible repeat (first | exact (Kd.C_below HR0_0.out HB.out) | apply Kd.C_alloc | apply Kd.C_drewN | apply Kd.C_drew))) HC0_0.out (by (with_reducible repeat (first | exact (Kd.C_below HR0_1.out HB.out) | apply Kd.C_alloc | apply Kd.C_drewN | apply Kd.C_drew))) HC0_1.out H_2.out).mono ?_
    rintro e w12 ⟨v0_, v1_, rfl, hp1_, hp2_, hp3_⟩
    have HSn := Aside0.mk (show w11.heap.size ≤ w12.heap.size by have h_ := hp3_.size; first | exact h_ | (simp at h_; omega))
    replace HF9 := Aside0.mk (Kd.R_below (by (with_reducible repeat (first | exact HF9.out | apply Kd.R_alloc | apply Kd.R_drewN | apply Kd.R_drew))) hp3_)
    replace HF11 := Aside0.mk (Kd.N_below (by (with_reducible repeat (first | exact HF11.out | apply Kd.N_alloc | apply Kd.N_drewN | apply Kd.N_drew))) hp3_)
    replace HHELD := Aside0.mk ((by first | exact HoldsN.below HHELD.out hp3_ | exact HoldsN.below (HoldsN.below HHELD.out (below_alloc (Below.refl _ _) _)) hp3_))
    replace HOK0 := Aside0.mk ((by first | exact ShR.below HOK0.out hp3_ | exact ShR.below (ShR.below HOK0.out (below_alloc (Below.refl _ _) _)) hp3_))
    replace HOK1 := Aside0.mk ((by first | exact F66.Ok.below HOK1.out hp3_ | exact F66.Ok.below (F66.Ok.below HOK1.out (below_alloc (Below.refl _ _) _)) hp3_))
    replace HX2 := Aside0.mk ((hp3_.block _ (blk_lt (by (with_reducible repeat (first | exact HX2.out | apply blk_alloc | apply blk_drewN | apply blk_drew))))).trans (by (with_reducible repeat (first | exact HX2.out | apply blk_alloc | apply blk_drewN | apply blk_drew))))
    replace xHX2_0 : w12.cell? ⟨w.heap.size, 0, none⟩ = some (.slice A0_0 l0_0.length c0_0) := (blk_cell HX2.out 0).trans rfl
    replace xHX2_1 : w12.cell? ⟨w.heap.size, 1, none⟩ = some (.slice A0_1 l0_1.length c0_1) := (blk_cell HX2.out 1).trans rfl
    replace HX16 := Aside0.mk ((hp3_.block _ (blk_lt (by (with_reducible repeat (first | exact HX16.out | apply blk_alloc | apply blk_drewN | apply blk_drew))))).trans (by (with_reducible repeat (first | exact HX16.out | apply blk_alloc | apply blk_drewN | apply blk_drew))))
    replace xHX16_0 : w12.cell? ⟨w3.heap.size, 0, none⟩ = some (.slice A_10 C.length c_10) := (blk_cell HX16.out 0).trans rfl
    replace xHX16_1 : w12.cell? ⟨w3.heap.size, 1, none⟩ = some (.slice A_12 T.length c_12) := (blk_cell HX16.out 1).trans rfl
    replace xHX16_2 : w12.cell? ⟨w3.heap.size, 2, none⟩ = some (.int .i64 0) := (blk_cell HX16.out 2).trans rfl
    replace xHX16_3 : w12.cell? ⟨w3.heap.size, 3, none⟩ = some (.slice A_14 ([] : List S84).length c_14) := (blk_cell HX16.out 3).trans rfl
    replace HX22 := Aside0.mk ((hp3_.block _ (blk_lt (by (with_reducible repeat (first | exact HX22.out | apply blk_alloc | apply blk_drewN | apply blk_drew))))).trans (by (with_reducible repeat (first | exact HX22.out | apply blk_alloc | apply blk_drewN | apply blk_drew))))
    replace xHX22_0 : w12.cell? ⟨w4.heap.size, 0, none⟩ = some (.slice A_18 X.length c_18) := (blk_cell HX22.out 0).trans rfl
    replace xHX22_1 : w12.cell? ⟨w4.heap.size, 1, none⟩ = some (.slice A_20 Y.length c_20) := (blk_cell HX22.out 1).trans rfl
    replace HX30 := Aside0.mk ((hp3_.block _ (blk_lt (by (with_reducible repeat (first | exact HX30.out | apply blk_alloc | apply blk_drewN | apply blk_drew))))).trans (by (with_reducible repeat (first | exact HX30.out | apply blk_alloc | apply blk_drewN | apply blk_drew))))
    replace xHX30_0 : w12.cell? ⟨w5.heap.size, 0, none⟩ = some (.slice A_24 C.length c_24) := (blk_cell HX30.out 0).trans rfl
    replace xHX30_1 : w12.cell? ⟨w5.heap.size, 1, none⟩ = some (.slice A_26 T.length c_26) := (blk_cell HX30.out 1).trans rfl
    replace xHX30_2 : w12.cell? ⟨w5.heap.size, 2, none⟩ = some (.int .i64 0) := (blk_cell HX30.out 2).trans rfl
    replace xHX30_3 : w12.cell? ⟨w5.heap.size, 3, none⟩ = some (.slice A_28 ([] : List S84).length c_28) := (blk_cell HX30.out 3).trans rfl
    replace HB := Aside0.mk (show Below w.heap.size w w12 from below_then (by repeat (first | (with_reducible first | exact HB.out | apply below_alloc | apply pw_below_drewN | apply below_drew1) | exact HB.out)) (show Below w.heap.size w _ from (by repeat (first | (with_reducible first | exact HB.out | apply below_alloc | apply pw_below_drewN | apply below_drew1) | exact HB.out))).size hp3_)
    have HF34 := Aside0.mk (show Kd.R (Kd.int .i64) 3 w12 w11.heap.size (fun k_ => w11.heap.size ≤ k_ ∧ k_ < w12.heap.size) v0_ X from Kd.R_lower (Kd.R_mono (Kd.R_bound hp1_) (fun k_ hk => ⟨by have h_ := hk.2.1; first | exact h_ | (simp at h_; omega), hk.2.2.1⟩)) (by first | exact Nat.le_refl _ | (simp; done)))
    obtain ⟨A_35, c_35, e_35⟩ := Kd.R_slice HF34.out
    subst e_35
    have HF36 := Aside0.mk (show Kd.R (Kd.slice 57 k57) 54 w12 w11.heap.size (fun k_ => w11.heap.size ≤ k_ ∧ k_ < w12.heap.size) v1_ Y from Kd.R_lower (Kd.R_mono (Kd.R_bound hp2_) (fun k_ hk => ⟨by have h_ := hk.2.1; first | exact h_ | (simp at h_; omega), hk.2.2.1⟩)) (by first | exact Nat.le_refl _ | (simp; done)))
    obtain ⟨A_37, c_37, e_37⟩ := Kd.R_slice HF36.out
    subst e_37
    clear hp3_ hp2_ hp1_
    have HS12 := HSn
    clear HSn
    go_wp2_with fail
    refine (impl_SysNew.callsA k _ _ X _ _ Y C T 0 (([] : List S84)) b _ (by (with_reducible repeat (first | exact (Kd.R_reads' HF34.out).2.2 | apply Kd.C_alloc | apply Kd.C_drewN | apply Kd.C_drew))) (Kd.R_reads' HF34.out).2.1 (by (with_reducible repeat (first | exact (Kd.R_reads' HF36.out).2.2 | apply Kd.C_alloc | apply Kd.C_drewN | apply Kd.C_drew))) (Kd.R_reads' HF36.out).2.1 H_5.out).mono ?_
    rintro e w13 ⟨v0_, v1_, v3_, rfl, hp1_, hp2_, hp3_, hp4_⟩
    have HSn := Aside0.mk (show w12.heap.size ≤ w13.heap.size by have h_ := hp4_.size; first | exact h_ | (simp at h_; omega))
    replace HF9 := Aside0.mk (Kd.R_below (by (with_reducible repeat (first | exact HF9.out | apply Kd.R_alloc | apply Kd.R_drewN | apply Kd.R_drew))) hp4_)
    replace HF11 := Aside0.mk (Kd.N_below (by (with_reducible repeat (first | exact HF11.out | apply Kd.N_alloc | apply Kd.N_drewN | apply Kd.N_drew))) hp4_)
    replace HF34 := Aside0.mk (Kd.R_below (by (with_reducible repeat (first | exact HF34.out | apply Kd.R_alloc | apply Kd.R_drewN | apply Kd.R_drew))) hp4_)
    replace HF36 := Aside0.mk (Kd.R_below (by (with_reducible repeat (first | exact HF36.out | apply Kd.R_alloc | apply Kd.R_drewN | apply Kd.R_drew))) hp4_)
    replace HHELD := Aside0.mk ((by first | exact HoldsN.below HHELD.out hp4_ | exact HoldsN.below (HoldsN.below HHELD.out (below_alloc (Below.refl _ _) _)) hp4_))
    replace HOK0 := Aside0.mk ((by first | exact ShR.below HOK0.out hp4_ | exact ShR.below (ShR.below HOK0.out (below_alloc (Below.refl _ _) _)) hp4_))
    replace HOK1 := Aside0.mk ((by first | exact F66.Ok.below HOK1.out hp4_ | exact F66.Ok.below (F66.Ok.below HOK1.out (below_alloc (Below.refl _ _) _)) hp4_))
    replace HX2 := Aside0.mk ((hp4_.block _ (blk_lt (by (with_reducible repeat (first | exact HX2.out | apply blk_alloc | apply blk_drewN | apply blk_drew))))).trans (by (with_reducible repeat (first | exact HX2.out | apply blk_alloc | apply blk_drewN | apply blk_drew))))
    replace xHX2_0 : w13.cell? ⟨w.heap.size, 0, none⟩ = some (.slice A0_0 l0_0.length c0_0) := (blk_cell HX2.out 0).trans rfl
    replace xHX2_1 : w13.cell? ⟨w.heap.size, 1, none⟩ = some (.slice A0_1 l0_1.length c0_1) := (blk_cell HX2.out 1).trans rfl
    replace HX16 := Aside0.mk ((hp4_.block _ (blk_lt (by (with_reducible repeat (first | exact HX16.out | apply blk_alloc | apply blk_drewN | apply blk_drew))))).trans (by (with_reducible repeat (first | exact HX16.out | apply blk_alloc | apply blk_drewN | apply blk_drew))))
    replace xHX16_0 : w13.cell? ⟨w3.heap.size, 0, none⟩ = some (.slice A_10 C.length c_10) := (blk_cell HX16.out 0).trans rfl
    replace xHX16_1 : w13.cell? ⟨w3.heap.size, 1, none⟩ = some (.slice A_12 T.length c_12) := (blk_cell HX16.out 1).trans rfl
    replace xHX16_2 : w13.cell? ⟨w3.heap.size, 2, none⟩ = some (.int .i64 0) := (blk_cell HX16.out 2).trans rfl
    replace xHX16_3 : w13.cell? ⟨w3.heap.size, 3, none⟩ = some (.slice A_14 ([] : List S84).length c_14) := (blk_cell HX16.out 3).trans rfl
    replace HX22 := Aside0.mk ((hp4_.block _ (blk_lt (by (with_reducible repeat (first | exact HX22.out | apply blk_alloc | apply blk_drewN | apply blk_drew))))).trans (by (with_reducible repeat (first | exact HX22.out | apply blk_alloc | apply blk_drewN | apply blk_drew))))
    replace xHX22_0 : w13.cell? ⟨w4.heap.size, 0, none⟩ = some (.slice A_18 X.length c_18) := (blk_cell HX22.out 0).trans rfl
    replace xHX22_1 : w13.cell? ⟨w4.heap.size, 1, none⟩ = some (.slice A_20 Y.length c_20) := (blk_cell HX22.out 1).trans rfl
    replace HX30 := Aside0.mk ((hp4_.block _ (blk_lt (by (with_reducible repeat (first | exact HX30.out | apply blk_alloc | apply blk_drewN | apply blk_drew))))).trans (by (with_reducible repeat (first | exact HX30.out | apply blk_alloc | apply blk_drewN | apply blk_drew))))
    replace xHX30_0 : w13.cell? ⟨w5.heap.size, 0, none⟩ = some (.slice A_24 C.length c_24) := (blk_cell HX30.out 0).trans rfl
    replace xHX30_1 : w13.cell? ⟨w5.heap.size, 1, none⟩ = some (.slice A_26 T.length c_26) := (blk_cell HX30.out 1).trans rfl
    replace xHX30_2 : w13.cell? ⟨w5.heap.size, 2, none⟩ = some (.int .i64 0) := (blk_cell HX30.out 2).trans rfl
    replace xHX30_3 : w13.cell? ⟨w5.heap.size, 3, none⟩ = some (.slice A_28 ([] : List S84).length c_28) := (blk_cell HX30.out 3).trans rfl
    replace HB := Aside0.mk (show Below w.heap.size w w13 from below_then (by repeat (first | (with_reducible first | exact HB.out | apply below_alloc | apply pw_below_drewN | apply below_drew1) | exact HB.out)) (show Below w.heap.size w _ from (by repeat (first | (with_reducible first | exact HB.out | apply below_alloc | apply pw_below_drewN | apply below_drew1) | exact HB.out))).size hp4_)
    have HF39 := Aside0.mk (show Kd.R k69 69 w13 w12.heap.size (fun k_ => w12.heap.size ≤ k_ ∧ k_ < w13.heap.size) v0_ C from Kd.R_lower (Kd.R_mono (Kd.R_bound hp1_) (fun k_ hk => ⟨by have h_ := hk.2.1; first | exact h_ | (simp at h_; omega), hk.2.2.1⟩)) (by first | exact Nat.le_refl _ | (simp; done)))
    obtain ⟨A_40, c_40, e_40⟩ := Kd.R_slice HF39.out
    subst e_40
    have HF41 := Aside0.mk (show Kd.R k66 66 w13 w12.heap.size (fun k_ => w12.heap.size ≤ k_ ∧ k_ < w13.heap.size) v1_ T from Kd.R_lower (Kd.R_mono (Kd.R_bound (k66a_R hp2_)) (fun k_ hk => ⟨by have h_ := hk.2.1; first | exact h_ | (simp at h_; omega), hk.2.2.1⟩)) (by first | exact Nat.le_refl _ | (simp; done)))
    obtain ⟨A_42, c_42, e_42⟩ := Kd.R_slice HF41.out
    subst e_42
    obtain ⟨A_44, c_44, e_44⟩ := Kd.N_slice hp3_
    subst e_44
    clear hp3_ hp4_ hp2_ hp1_
    have HS13 := HSn
    clear HSn
    have yHX2_0 : ∀ o_ : Obj, (w13.alloc o_).cell? ⟨w.heap.size, 0, none⟩ = some (.slice A0_0 l0_0.length c0_0) := fun o_ => (blk_cell (blk_alloc HX2.out o_) 0).trans rfl
    have yHX2_1 : ∀ o_ : Obj, (w13.alloc o_).cell? ⟨w.heap.size, 1, none⟩ = some (.slice A0_1 l0_1.length c0_1) := fun o_ => (blk_cell (blk_alloc HX2.out o_) 1).trans rfl
    have yHX16_0 : ∀ o_ : Obj, (w13.alloc o_).cell? ⟨w3.heap.size, 0, none⟩ = some (.slice A_10 C.length c_10) := fun o_ => (blk_cell (blk_alloc HX16.out o_) 0).trans rfl
    have yHX16_1 : ∀ o_ : Obj, (w13.alloc o_).cell? ⟨w3.heap.size, 1, none⟩ = some (.slice A_12 T.length c_12) := fun o_ => (blk_cell (blk_alloc HX16.out o_) 1).trans rfl
    have yHX16_2 : ∀ o_ : Obj, (w13.alloc o_).cell? ⟨w3.heap.size, 2, none⟩ = some (.int .i64 0) := fun o_ => (blk_cell (blk_alloc HX16.out o_) 2).trans rfl
    have yHX16_3 : ∀ o_ : Obj, (w13.alloc o_).cell? ⟨w3.heap.size, 3, none⟩ = some (.slice A_14 ([] : List S84).length c_14) := fun o_ => (blk_cell (blk_alloc HX16.out o_) 3).trans rfl
    have yHX22_0 : ∀ o_ : Obj, (w13.alloc o_).cell? ⟨w4.heap.size, 0, none⟩ = some (.slice A_18 X.length c_18) := fun o_ => (blk_cell (blk_alloc HX22.out o_) 0).trans rfl
    have yHX22_1 : ∀ o_ : Obj, (w13.alloc o_).cell? ⟨w4.heap.size, 1, none⟩ = some (.slice A_20 Y.length c_20) := fun o_ => (blk_cell (blk_alloc HX22.out o_) 1).trans rfl
    have yHX30_0 : ∀ o_ : Obj, (w13.alloc o_).cell? ⟨w5.heap.size, 0, none⟩ = some (.slice A_24 C.length c_24) := fun o_ => (blk_cell (blk_alloc HX30.out o_) 0).trans rfl
    have yHX30_1 : ∀ o_ : Obj, (w13.alloc o_).cell? ⟨w5.heap.size, 1, none⟩ = some (.slice A_26 T.length c_26) := fun o_ => (blk_cell (blk_alloc HX30.out o_) 1).trans rfl
    have yHX30_2 : ∀ o_ : Obj, (w13.alloc o_).cell? ⟨w5.heap.size, 2, none⟩ = some (.int .i64 0) := fun o_ => (blk_cell (blk_alloc HX30.out o_) 2).trans rfl
    have yHX30_3 : ∀ o_ : Obj, (w13.alloc o_).cell? ⟨w5.heap.size, 3, none⟩ = some (.slice A_28 ([] : List S84).length c_28) := fun o_ => (blk_cell (blk_alloc HX30.out o_) 3).trans rfl
    go_wp2_with fail
    refine (laws_eqSys.calls k _ _ C _ _ T 0 _ _ (([] : List S84)) _ _ C _ _ T 0 _ _ (([] : List S84)) true _ (by (with_reducible repeat (first | exact (Kd.R_reads' HF39.out).2.2 | apply Kd.C_alloc | apply Kd.C_drewN | apply Kd.C_drew))) (Kd.R_reads' HF39.out).2.1 (by (with_reducible repeat (first | exact (Kd.R_reads' HF41.out).2.2 | apply Kd.C_alloc | apply Kd.C_drewN | apply Kd.C_drew))) (Kd.R_reads' HF41.out).2.1 (C_none _ _ _) (Nat.zero_le _) (by (with_reducible repeat (first | exact (Kd.R_reads' HF9.out).2.2 | apply Kd.C_alloc | apply Kd.C_drewN | apply Kd.C_drew))) (Kd.R_reads' HF9.out).2.1 (by (with_reducible repeat (first | exact (Kd.N_reads' HF11.out).2.2 | apply Kd.C_alloc | apply Kd.C_drewN | apply Kd.C_drew))) (Kd.N_reads' HF11.out).2.1 (C_none _ _ _) (Nat.zero_le _) H_6.out).mono ?_
    rintro e w14 ⟨rfl, hp1_⟩
    have HSn := Aside0.mk (show w13.heap.size ≤ w14.heap.size by have h_ := hp1_.size; first | exact h_ | (simp at h_; omega))
    clear yHX2_0 yHX2_1
    clear yHX16_0 yHX16_1 yHX16_2 yHX16_3
    clear yHX22_0 yHX22_1
    clear yHX30_0 yHX30_1 yHX30_2 yHX30_3
    replace HF9 := Aside0.mk (Kd.R_below (by (with_reducible repeat (first | exact HF9.out | apply Kd.R_alloc | apply Kd.R_drewN | apply Kd.R_drew))) hp1_)
    replace HF11 := Aside0.mk (Kd.N_below (by (with_reducible repeat (first | exact HF11.out | apply Kd.N_alloc | apply Kd.N_drewN | apply Kd.N_drew))) hp1_)
    replace HF34 := Aside0.mk (Kd.R_below (by (with_reducible repeat (first | exact HF34.out | apply Kd.R_alloc | apply Kd.R_drewN | apply Kd.R_drew))) hp1_)
    replace HF36 := Aside0.mk (Kd.R_below (by (with_reducible repeat (first | exact HF36.out | apply Kd.R_alloc | apply Kd.R_drewN | apply Kd.R_drew))) hp1_)
    replace HF39 := Aside0.mk (Kd.R_below (by (with_reducible repeat (first | exact HF39.out | apply Kd.R_alloc | apply Kd.R_drewN | apply Kd.R_drew))) hp1_)
    replace HF41 := Aside0.mk (Kd.R_below (by (with_reducible repeat (first | exact HF41.out | apply Kd.R_alloc | apply Kd.R_drewN | apply Kd.R_drew))) hp1_)
    replace HHELD := Aside0.mk ((by first | exact HoldsN.below HHELD.out hp1_ | exact HoldsN.below (HoldsN.below HHELD.out (below_alloc (Below.refl _ _) _)) hp1_))
    replace HOK0 := Aside0.mk ((by first | exact ShR.below HOK0.out hp1_ | exact ShR.below (ShR.below HOK0.out (below_alloc (Below.refl _ _) _)) hp1_))
    replace HOK1 := Aside0.mk ((by first | exact F66.Ok.below HOK1.out hp1_ | exact F66.Ok.below (F66.Ok.below HOK1.out (below_alloc (Below.refl _ _) _)) hp1_))
    replace HX2 := Aside0.mk ((hp1_.block _ (blk_lt (by (with_reducible repeat (first | exact HX2.out | apply blk_alloc | apply blk_drewN | apply blk_drew))))).trans (by (with_reducible repeat (first | exact HX2.out | apply blk_alloc | apply blk_drewN | apply blk_drew))))
    replace xHX2_0 : w14.cell? ⟨w.heap.size, 0, none⟩ = some (.slice A0_0 l0_0.length c0_0) := (blk_cell HX2.out 0).trans rfl
    replace xHX2_1 : w14.cell? ⟨w.heap.size, 1, none⟩ = some (.slice A0_1 l0_1.length c0_1) := (blk_cell HX2.out 1).trans rfl
    replace HX16 := Aside0.mk ((hp1_.block _ (blk_lt (by (with_reducible repeat (first | exact HX16.out | apply blk_alloc | apply blk_drewN | apply blk_drew))))).trans (by (with_reducible repeat (first | exact HX16.out | apply blk_alloc | apply blk_drewN | apply blk_drew))))
    replace xHX16_0 : w14.cell? ⟨w3.heap.size, 0, none⟩ = some (.slice A_10 C.length c_10) := (blk_cell HX16.out 0).trans rfl
    replace xHX16_1 : w14.cell? ⟨w3.heap.size, 1, none⟩ = some (.slice A_12 T.length c_12) := (blk_cell HX16.out 1).trans rfl
    replace xHX16_2 : w14.cell? ⟨w3.heap.size, 2, none⟩ = some (.int .i64 0) := (blk_cell HX16.out 2).trans rfl
    replace xHX16_3 : w14.cell? ⟨w3.heap.size, 3, none⟩ = some (.slice A_14 ([] : List S84).length c_14) := (blk_cell HX16.out 3).trans rfl
    replace HX22 := Aside0.mk ((hp1_.block _ (blk_lt (by (with_reducible repeat (first | exact HX22.out | apply blk_alloc | apply blk_drewN | apply blk_drew))))).trans (by (with_reducible repeat (first | exact HX22.out | apply blk_alloc | apply blk_drewN | apply blk_drew))))
    replace xHX22_0 : w14.cell? ⟨w4.heap.size, 0, none⟩ = some (.slice A_18 X.length c_18) := (blk_cell HX22.out 0).trans rfl
    replace xHX22_1 : w14.cell? ⟨w4.heap.size, 1, none⟩ = some (.slice A_20 Y.length c_20) := (blk_cell HX22.out 1).trans rfl
    replace HX30 := Aside0.mk ((hp1_.block _ (blk_lt (by (with_reducible repeat (first | exact HX30.out | apply blk_alloc | apply blk_drewN | apply blk_drew))))).trans (by (with_reducible repeat (first | exact HX30.out | apply blk_alloc | apply blk_drewN | apply blk_drew))))
    replace xHX30_0 : w14.cell? ⟨w5.heap.size, 0, none⟩ = some (.slice A_24 C.length c_24) := (blk_cell HX30.out 0).trans rfl
    replace xHX30_1 : w14.cell? ⟨w5.heap.size, 1, none⟩ = some (.slice A_26 T.length c_26) := (blk_cell HX30.out 1).trans rfl
    replace xHX30_2 : w14.cell? ⟨w5.heap.size, 2, none⟩ = some (.int .i64 0) := (blk_cell HX30.out 2).trans rfl
    replace xHX30_3 : w14.cell? ⟨w5.heap.size, 3, none⟩ = some (.slice A_28 ([] : List S84).length c_28) := (blk_cell HX30.out 3).trans rfl
    have n_ := Aside0.mk ((hp1_.block _ (blk_lt (heap_alloc_new w13 (.cells #[.slice A_40 C.length c_40, .slice A_42 T.length c_42, .int .i64 0, .slice A_44 ([] : List S84).length c_44] 31)))).trans (heap_alloc_new w13 (.cells #[.slice A_40 C.length c_40, .slice A_42 T.length c_42, .int .i64 0, .slice A_44 ([] : List S84).length c_44] 31)))
    have HX46 := n_
    clear n_
    have HTHX46 := Aside0.mk (blk_lt HX46.out)
    have xHX46_0 : w14.cell? ⟨w13.heap.size, 0, none⟩ = some (.slice A_40 C.length c_40) := (blk_cell HX46.out 0).trans rfl
    have xHX46_1 : w14.cell? ⟨w13.heap.size, 1, none⟩ = some (.slice A_42 T.length c_42) := (blk_cell HX46.out 1).trans rfl
    have xHX46_2 : w14.cell? ⟨w13.heap.size, 2, none⟩ = some (.int .i64 0) := (blk_cell HX46.out 2).trans rfl
    have xHX46_3 : w14.cell? ⟨w13.heap.size, 3, none⟩ = some (.slice A_44 ([] : List S84).length c_44) := (blk_cell HX46.out 3).trans rfl
    replace HB := Aside0.mk (show Below w.heap.size w w14 from below_then (by repeat (first | (with_reducible first | exact HB.out | apply below_alloc | apply pw_below_drewN | apply below_drew1) | exact HB.out)) (show Below w.heap.size w _ from (by repeat (first | (with_reducible first | exact HB.out | apply below_alloc | apply pw_below_drewN | apply below_drew1) | exact HB.out))).size hp1_)
    clear hp1_
    have HS14 := HSn
    clear HSn
    have hc_ := heldSys_ft _ A_24 C.length c_24 A_26 F_ c_26 0 A_28 [] c_28 1 w14 HOK0.out HOK1.out ⟨Nat.zero_le _, fun h => absurd h (Nat.lt_irrefl 0)⟩ HHELD.out (by decide) (by rw [HLl.out, ← H_9.out]; exact H_10.out)
    rw [HFl.out, HLl.out, ← H_9.out] at hc_
    go_wp2_with fail
    refine hc_.mono ?_
    clear hc_
    rintro e w15 ⟨rfl, hb_⟩
    have HSn := Aside0.mk (show w14.heap.size ≤ w15.heap.size by have h_ := hb_.size; first | exact h_ | (simp at h_; omega))
    replace HF9 := Aside0.mk (Kd.R_below (by (with_reducible repeat (first | exact HF9.out | apply Kd.R_alloc | apply Kd.R_drewN | apply Kd.R_drew))) hb_)
    replace HF11 := Aside0.mk (Kd.N_below (by (with_reducible repeat (first | exact HF11.out | apply Kd.N_alloc | apply Kd.N_drewN | apply Kd.N_drew))) hb_)
    replace HF34 := Aside0.mk (Kd.R_below (by (with_reducible repeat (first | exact HF34.out | apply Kd.R_alloc | apply Kd.R_drewN | apply Kd.R_drew))) hb_)
    replace HF36 := Aside0.mk (Kd.R_below (by (with_reducible repeat (first | exact HF36.out | apply Kd.R_alloc | apply Kd.R_drewN | apply Kd.R_drew))) hb_)
    replace HF39 := Aside0.mk (Kd.R_below (by (with_reducible repeat (first | exact HF39.out | apply Kd.R_alloc | apply Kd.R_drewN | apply Kd.R_drew))) hb_)
    replace HF41 := Aside0.mk (Kd.R_below (by (with_reducible repeat (first | exact HF41.out | apply Kd.R_alloc | apply Kd.R_drewN | apply Kd.R_drew))) hb_)
    replace HHELD := Aside0.mk ((by first | exact HoldsN.below HHELD.out hb_ | exact HoldsN.below (HoldsN.below HHELD.out (below_alloc (Below.refl _ _) _)) hb_))
    replace HOK0 := Aside0.mk ((by first | exact ShR.below HOK0.out hb_ | exact ShR.below (ShR.below HOK0.out (below_alloc (Below.refl _ _) _)) hb_))
    replace HOK1 := Aside0.mk ((by first | exact F66.Ok.below HOK1.out hb_ | exact F66.Ok.below (F66.Ok.below HOK1.out (below_alloc (Below.refl _ _) _)) hb_))
    replace HX2 := Aside0.mk ((hb_.block _ (blk_lt (by (with_reducible repeat (first | exact HX2.out | apply blk_alloc | apply blk_drewN | apply blk_drew))))).trans (by (with_reducible repeat (first | exact HX2.out | apply blk_alloc | apply blk_drewN | apply blk_drew))))
    replace xHX2_0 : w15.cell? ⟨w.heap.size, 0, none⟩ = some (.slice A0_0 l0_0.length c0_0) := (blk_cell HX2.out 0).trans rfl
    replace xHX2_1 : w15.cell? ⟨w.heap.size, 1, none⟩ = some (.slice A0_1 l0_1.length c0_1) := (blk_cell HX2.out 1).trans rfl
    replace HX16 := Aside0.mk ((hb_.block _ (blk_lt (by (with_reducible repeat (first | exact HX16.out | apply blk_alloc | apply blk_drewN | apply blk_drew))))).trans (by (with_reducible repeat (first | exact HX16.out | apply blk_alloc | apply blk_drewN | apply blk_drew))))
    replace xHX16_0 : w15.cell? ⟨w3.heap.size, 0, none⟩ = some (.slice A_10 C.length c_10) := (blk_cell HX16.out 0).trans rfl
    replace xHX16_1 : w15.cell? ⟨w3.heap.size, 1, none⟩ = some (.slice A_12 T.length c_12) := (blk_cell HX16.out 1).trans rfl
    replace xHX16_2 : w15.cell? ⟨w3.heap.size, 2, none⟩ = some (.int .i64 0) := (blk_cell HX16.out 2).trans rfl
    replace xHX16_3 : w15.cell? ⟨w3.heap.size, 3, none⟩ = some (.slice A_14 ([] : List S84).length c_14) := (blk_cell HX16.out 3).trans rfl
    replace HX22 := Aside0.mk ((hb_.block _ (blk_lt (by (with_reducible repeat (first | exact HX22.out | apply blk_alloc | apply blk_drewN | apply blk_drew))))).trans (by (with_reducible repeat (first | exact HX22.out | apply blk_alloc | apply blk_drewN | apply blk_drew))))
    replace xHX22_0 : w15.cell? ⟨w4.heap.size, 0, none⟩ = some (.slice A_18 X.length c_18) := (blk_cell HX22.out 0).trans rfl
    replace xHX22_1 : w15.cell? ⟨w4.heap.size, 1, none⟩ = some (.slice A_20 Y.length c_20) := (blk_cell HX22.out 1).trans rfl
    replace HX30 := Aside0.mk ((hb_.block _ (blk_lt (by (with_reducible repeat (first | exact HX30.out | apply blk_alloc | apply blk_drewN | apply blk_drew))))).trans (by (with_reducible repeat (first | exact HX30.out | apply blk_alloc | apply blk_drewN | apply blk_drew))))
    replace xHX30_0 : w15.cell? ⟨w5.heap.size, 0, none⟩ = some (.slice A_24 C.length c_24) := (blk_cell HX30.out 0).trans rfl
    replace xHX30_1 : w15.cell? ⟨w5.heap.size, 1, none⟩ = some (.slice A_26 T.length c_26) := (blk_cell HX30.out 1).trans rfl
    replace xHX30_2 : w15.cell? ⟨w5.heap.size, 2, none⟩ = some (.int .i64 0) := (blk_cell HX30.out 2).trans rfl
    replace xHX30_3 : w15.cell? ⟨w5.heap.size, 3, none⟩ = some (.slice A_28 ([] : List S84).length c_28) := (blk_cell HX30.out 3).trans rfl
    replace HX46 := Aside0.mk ((hb_.block _ (blk_lt (by (with_reducible repeat (first | exact HX46.out | apply blk_alloc | apply blk_drewN | apply blk_drew))))).trans (by (with_reducible repeat (first | exact HX46.out | apply blk_alloc | apply blk_drewN | apply blk_drew))))
    replace xHX46_0 : w15.cell? ⟨w13.heap.size, 0, none⟩ = some (.slice A_40 C.length c_40) := (blk_cell HX46.out 0).trans rfl
    replace xHX46_1 : w15.cell? ⟨w13.heap.size, 1, none⟩ = some (.slice A_42 T.length c_42) := (blk_cell HX46.out 1).trans rfl
    replace xHX46_2 : w15.cell? ⟨w13.heap.size, 2, none⟩ = some (.int .i64 0) := (blk_cell HX46.out 2).trans rfl
    replace xHX46_3 : w15.cell? ⟨w13.heap.size, 3, none⟩ = some (.slice A_44 ([] : List S84).length c_44) := (blk_cell HX46.out 3).trans rfl
    replace HB := Aside0.mk (show Below w.heap.size w w15 from below_then (by repeat (first | (with_reducible first | exact HB.out | apply below_alloc | apply pw_below_drewN | apply below_drew1) | exact HB.out)) (show Below w.heap.size w _ from (by repeat (first | (with_reducible first | exact HB.out | apply below_alloc | apply pw_below_drewN | apply below_drew1) | exact HB.out))).size hb_)
    have HS15 := HSn
    clear HSn
    clear hb_
    go_wp2
    go_ret
    exact ⟨rfl, (by repeat (first | (with_reducible first | exact HB.out | apply below_alloc | apply pw_below_drewN | apply below_drew1) | exact HB.out))⟩
set_option maxHeartbeats 8000000 in
set_option maxRecDepth 100000 in
theorem laws_FnExactSysNew.way0 (k : Nat) (A0_0 : Option Addr) (c0_0 : Nat) (l0_0 : List Int) (A0_1 : Option Addr) (c0_1 : Nat) (l0_1 : List (List S141)) (z : Int)  (w : World) (hr0_0 : Kd.C (Kd.int .i64) w A0_0 l0_0.length l0_0) (hc0_0 : l0_0.length ≤ c0_0) (hr0_1 : Kd.C (Kd.slice 141 k141) w A0_1 l0_1.length l0_1) (hc0_1 : l0_1.length ≤ c0_1) (ht1 : z < 0) (h_1 : laws_szProg.f k l0_0 l0_1 1048576 = some z) :
    Calls Try.prog 3 #[.agg #[.slice A0_0 l0_0.length c0_0, .slice A0_1 l0_1.length c0_1]] w fun e w' => e = .returned (.bool true) ∧ Below w.heap.size w w' := by
  have HR0_0 := Aside0.mk hr0_0
  have HC0_0 := Aside0.mk hc0_0
  clear hr0_0 hc0_0
  have HR0_1 := Aside0.mk hr0_1
  have HC0_1 := Aside0.mk hc0_1
  clear hr0_1 hc0_1
  have HB := Aside0.mk (Below.refl w.heap.size w)
  have H_1 := Aside0.mk h_1
  clear h_1
  have hu25 := Try.underlying25
  go_enter Try.func3, Try.ntmps3
  go_wp2_with fail
  refine (laws_szProg.calls k _ _ l0_0 _ _ l0_1 1048576 z _ (by (with_reducible repeat (first | exact (Kd.C_below HR0_0.out HB.out) | apply Kd.C_alloc | apply Kd.C_drewN | apply Kd.C_drew))) HC0_0.out (by (with_reducible repeat (first | exact (Kd.C_below HR0_1.out HB.out) | apply Kd.C_alloc | apply Kd.C_drewN | apply Kd.C_drew))) HC0_1.out H_1.out).mono ?_
  rintro e w1 ⟨rfl, hp1_⟩
  have HSn := Aside0.mk (show w.heap.size ≤ w1.heap.size by have h_ := hp1_.size; first | exact h_ | (simp at h_; omega))
  have n_ := Aside0.mk ((hp1_.block _ (blk_lt (heap_alloc_new w (.cells #[.slice A0_0 l0_0.length c0_0, .slice A0_1 l0_1.length c0_1] 25)))).trans (heap_alloc_new w (.cells #[.slice A0_0 l0_0.length c0_0, .slice A0_1 l0_1.length c0_1] 25)))
  have HX2 := n_
  clear n_
  have HTHX2 := Aside0.mk (blk_lt HX2.out)
  have xHX2_0 : w1.cell? ⟨w.heap.size, 0, none⟩ = some (.slice A0_0 l0_0.length c0_0) := (blk_cell HX2.out 0).trans rfl
  have xHX2_1 : w1.cell? ⟨w.heap.size, 1, none⟩ = some (.slice A0_1 l0_1.length c0_1) := (blk_cell HX2.out 1).trans rfl
  replace HB := Aside0.mk (show Below w.heap.size w w1 from below_then (by repeat (first | (with_reducible first | exact HB.out | apply below_alloc | apply pw_below_drewN | apply below_drew1) | exact HB.out)) (show Below w.heap.size w _ from (by repeat (first | (with_reducible first | exact HB.out | apply below_alloc | apply pw_below_drewN | apply below_drew1) | exact HB.out))).size hp1_)
  clear hp1_
  have HS1 := HSn
  clear HSn
  have t1b := decide_eq_true (show z < 0 by omega)
  have t1p := eq_true (show z < 0 by omega)
  go_wp2
  go_ret
  exact ⟨rfl, (by repeat (first | (with_reducible first | exact HB.out | apply below_alloc | apply pw_below_drewN | apply below_drew1) | exact HB.out))⟩
def laws_FnExactSysNew.Good (l0_0 : List Int) (l0_1 : List (List S141)) : Prop :=
  (∃ k : Nat, ∃ z : Int, (z < 0) ∧ (laws_szProg.f k l0_0 l0_1 1048576 = some z))
  ∨ (∃ k : Nat, ∃ z : Int, ∃ X : List Int, ∃ Y : List (List S57), ∃ C : List S69, ∃ T : List S66, ∃ b : Bool, ∃ k2 m : Int, (0 ≤ z) ∧ (0 ≤ k2) ∧ (0 ≤ m) ∧ (laws_szProg.f k l0_0 l0_1 1048576 = some z) ∧ (laws_toProg.f k l0_0 l0_1 = some (X, Y)) ∧ (spec_SysNew.f k X Y = some (C, T, 0, [], b)) ∧ (T.length ≤ 1) ∧ (impl_SysNew.f k X Y = some (C, T, 0, [], b)) ∧ (laws_eqSys.f k C T 0 [] C T 0 [] = some true) ∧ (laws_eqProg.f k X Y X Y = some true) ∧ (laws_markProg.f X Y 1 = some k2) ∧ (m = 1 + ((C.length * 3 + cnt66 T : Nat) : Int)) ∧ (m ≤ 9223372036854775807))
theorem laws_FnExactSysNew.all (A0_0 : Option Addr) (c0_0 : Nat) (l0_0 : List Int) (A0_1 : Option Addr) (c0_1 : Nat) (l0_1 : List (List S141)) (w : World) (hr0_0 : Kd.C (Kd.int .i64) w A0_0 l0_0.length l0_0) (hc0_0 : l0_0.length ≤ c0_0) (hr0_1 : Kd.C (Kd.slice 141 k141) w A0_1 l0_1.length l0_1) (hc0_1 : l0_1.length ≤ c0_1) (h : laws_FnExactSysNew.Good l0_0 l0_1) :
    Calls Try.prog 3 #[.agg #[.slice A0_0 l0_0.length c0_0, .slice A0_1 l0_1.length c0_1]] w fun e w' => e = .returned (.bool true) ∧ Below w.heap.size w w' := by
  rcases h with ⟨k, z, ht1, h_1⟩ | ⟨k, z, X, Y, C, T, b, k2, m, ht1, ht2, ht3, h_1, h_2, h_3, h_4, h_5, h_6, h_7, h_8, h_9, h_10⟩
  · exact laws_FnExactSysNew.way0 k A0_0 c0_0 l0_0 A0_1 c0_1 l0_1 z w hr0_0 hc0_0 hr0_1 hc0_1 ht1 h_1
  · exact laws_FnExactSysNew.main k A0_0 c0_0 l0_0 A0_1 c0_1 l0_1 z X Y C T b k2 m w hr0_0 hc0_0 hr0_1 hc0_1 ht1 ht2 ht3 h_1 h_2 h_3 h_4 h_5 h_6 h_7 h_8 h_9 h_10
end Go.Proofs.Ytoeepmcaabmjkaa.QSN
namespace Go.Proofs.Ytoeepmcaabmjkaa.QSN
open Go.RowKit Go.Proofs.YtoeepmcaabmjkaaW.PrintWords
structure S25 where
  f0 : List Int
  f1 : List (List S141)
def k25 : Kd S25 := Kd.iso (Kd.pair (Kd.slice 3 (Kd.int .i64)) (Kd.slice 105 (Kd.slice 141 k141))) (fun x : S25 => (x.f0, x.f1))
theorem k25_open {w : World} {x : S25} {cs : List Value} (h : k25.K w x cs) : ∃ A0 c0 A1 c1, cs = [.slice A0 x.f0.length c0, .slice A1 x.f1.length c1] ∧ x.f0.length ≤ c0 ∧ Kd.C (Kd.int .i64) w A0 x.f0.length x.f0 ∧ x.f1.length ≤ c1 ∧ Kd.C (Kd.slice 141 k141) w A1 x.f1.length x.f1 := by
  obtain ⟨_, _, rfl, ⟨A0, c0, rfl, l0, g0⟩, ⟨A1, c1, rfl, l1, g1⟩⟩ := h
  exact ⟨A0, c0, A1, c1, rfl, l0, g0, l1, g1⟩
end Go.Proofs.Ytoeepmcaabmjkaa.QSN
namespace Go.Proofs.Ytoeepmcaabmjkaa.PProg
open Go.RowKit Go.Proofs.Ytoeepmcaabmjkaa.QSN Go.Proofs.YtoeepmcaabmjkaaW.PrintWords Go.Proofs.YtoeepmcaabmjkaaW.PrintLast
theorem w64 {i : Int} (h0 : -9223372036854775808 ≤ i) (h1 : i ≤ 9223372036854775807) : wrap64 i = i := by
  unfold wrap64
  omega
theorem down {P : Nat → Prop} {n : Nat} (he : P n) (hs : ∀ i, i < n → P (i + 1) → P i) : ∀ i, i ≤ n → P i := by
  intro i hi
  obtain ⟨d, hd⟩ : ∃ d, n = i + d := ⟨n - i, by omega⟩
  induction d generalizing i with
  | zero =>
    have : i = n := by omega
    rw [this]
    exact he
  | succ d ih => exact hs i (by omega) (ih (i + 1) (by omega) (by omega))
theorem ev_pos {α : Type} {c : Prop} [Decidable c] {f g : Nat → Option α} {r : α} (hc : c) (h : Ev f r) : Ev (fun n => if c then f n else g n) r := by
  simp only [if_pos hc]
  exact h
theorem ev_neg {α : Type} {c : Prop} [Decidable c] {f g : Nat → Option α} {r : α} (hc : ¬ c) (h : Ev g r) : Ev (fun n => if c then f n else g n) r := by
  simp only [if_neg hc]
  exact h
theorem set_conv {α β : Type} (c : α → β) (z : β) (l : List α) (i : Nat) (hi : i < l.length) (y : β) (hy : y = c l[i]) :
    ((l.take i).map c ++ List.replicate (l.length - i) z).set i y = (l.take (i + 1)).map c ++ List.replicate (l.length - (i + 1)) z := by
  subst hy
  have e : l.length - i = (l.length - (i + 1)) + 1 := by omega
  have hm : ((l.take i).map c).length = i := by rw [List.length_map, List.length_take]; omega
  rw [e, List.replicate_succ, List.set_append_right _ _ (by omega), hm, Nat.sub_self, List.set_cons_zero, List.take_succ_eq_append_getElem hi, List.map_append, List.append_assoc]
  rfl
theorem conv_start {α β : Type} (c : α → β) (z : β) (l : List α) : List.replicate l.length z = (l.take 0).map c ++ List.replicate (l.length - 0) z := by simp
theorem conv_len {α β : Type} (c : α → β) (z : β) (l : List α) (i : Nat) (hi : i ≤ l.length) : ((l.take i).map c ++ List.replicate (l.length - i) z).length = l.length := by
  rw [List.length_append, List.length_map, List.length_take, List.length_replicate]
  omega
theorem conv_end {α β : Type} (c : α → β) (z : β) (l : List α) : (l.take l.length).map c ++ List.replicate (l.length - l.length) z = l.map c := by simp
/-- A loop that copies a row, element by element. -/
theorem conv_loop {α β : Type} (c : α → β) (z : β) (l : List α) (L : Nat → List β → Int → Option (List β)) (he : ∀ k m, L (k + 1) m (l.length : Int) = some m)
    (hs : ∀ i (hi : i < l.length) m, m.length = l.length → ∀ r, Ev (fun k => L k (m.set i (c l[i])) ((i + 1 : Nat) : Int)) r → Ev (fun k => L k m (i : Int)) r) :
    Ev (fun k => L k (List.replicate l.length z) 0) (l.map c) := by
  have key : ∀ i, i ≤ l.length → Ev (fun k => L k ((l.take i).map c ++ List.replicate (l.length - i) z) (i : Int)) (l.map c) := by
    refine down ?_ ?_
    · refine Ev.step (fun k => he k _) ?_
      rw [conv_end]
      exact Ev.now _
    · intro i hi ih
      refine hs i hi _ (conv_len c z l i (by omega)) _ ?_
      rw [set_conv c z l i hi _ rfl]
      exact ih
  have := key 0 (Nat.zero_le _)
  rw [← conv_start] at this
  exact this
/-- What is left of a, if n are taken; -1, if there are not so many. -/
def cut (a : Int) (n : Nat) : Int := if a - (n : Int) < 0 then -1 else a - (n : Int)
/-- A loop that takes the sizes of a row's elements. -/
theorem size_loop {α : Type} (sz : α → Nat) (l : List α) (L : Nat → Int → Int → Option Int) (he : ∀ k a, L (k + 1) a (l.length : Int) = some a)
    (hs : ∀ i (hi : i < l.length) a, 0 ≤ a → a ≤ 1048576 → (cut a (sz l[i]) < 0 → Ev (fun k => L k a (i : Int)) (-1)) ∧ (0 ≤ cut a (sz l[i]) → ∀ r, Ev (fun k => L k (a - (sz l[i] : Int)) ((i + 1 : Nat) : Int)) r → Ev (fun k => L k a (i : Int)) r)) :
    ∀ i, i ≤ l.length → ∀ a, 0 ≤ a → a ≤ 1048576 → Ev (fun k => L k a (i : Int)) (cut a ((l.drop i).map sz).sum) := by
  refine down ?_ ?_
  · intro a h0 h1
    refine Ev.step (fun k => he k _) ?_
    rw [List.drop_length]
    have : cut a ((([] : List α).map sz).sum) = a := by
      show (if a - ((0 : Nat) : Int) < 0 then (-1 : Int) else a - ((0 : Nat) : Int)) = a
      rw [if_neg (by omega)]
      omega
    rw [this]
    exact Ev.now _
  · intro i hi ih a h0 h1
    obtain ⟨x, y⟩ := hs i hi a h0 h1
    have e : ((l.drop i).map sz).sum = sz l[i] + ((l.drop (i + 1)).map sz).sum := by rw [List.drop_eq_getElem_cons hi, List.map_cons, List.sum_cons]
    rw [e]
    unfold cut at x y ⊢
    by_cases c : a - (sz l[i] : Int) < 0
    · rw [if_pos c] at x
      rw [if_pos (by omega)]
      exact x (by omega)
    · rw [if_neg c] at y
      have := y (by omega) _ (ih (a - (sz l[i] : Int)) (by omega) (by omega))
      unfold cut at this
      have e3 : (a - (sz l[i] : Int) - (((l.drop (i + 1)).map sz).sum : Int)) = (a - ((sz l[i] + ((l.drop (i + 1)).map sz).sum : Nat) : Int)) := by omega
      rw [e3] at this
      exact this
def toD (x : S169) : S122 := ⟨x.f0, x.f1, x.f2⟩
def toA (x : S141) : S57 := ⟨x.f0, x.f1.map toD, x.f2, x.f3⟩
theorem rdI (l : List Int) (i : Nat) (hi : i < l.length) : rd l (i : Int) = l[i] := by
  simp [rd, List.getD, hi]
theorem rdL (l : List S169) (i : Nat) (hi : i < l.length) : rd_T169 l (i : Int) = l[i] := by
  simp [rd_T169, List.getD, hi]
theorem rdA (l : List S141) (i : Nat) (hi : i < l.length) : rd_T141 l (i : Int) = l[i] := by
  simp [rd_T141, List.getD, hi]
theorem rdB (l : List (List S141)) (i : Nat) (hi : i < l.length) : rd_L5 l (i : Int) = l[i] := by
  simp [rd_L5, List.getD, hi]
theorem rdAi (l : List S57) (i : Nat) (hi : i < l.length) : rd_T57 l (i : Int) = l[i] := by
  simp [rd_T57, List.getD, hi]
theorem rdBi (l : List (List S57)) (i : Nat) (hi : i < l.length) : rd_L9 l (i : Int) = l[i] := by
  simp [rd_L9, List.getD, hi]
theorem toIntS_ev (l : List Int) (hl : l.length ≤ 1048576) : Ev (fun k => laws_toIntS.f k l) l := by
  have := conv_loop id 0 l (fun k m i => laws_toIntS.l0 k l m i) (fun k m => by rw [laws_toIntS.l0, if_neg (by omega)]) (fun i hi m hm r h => ?_)
  · rw [List.map_id] at this
    refine Ev.congr (fun k => ?_) this
    unfold laws_toIntS.f
    rw [if_pos (by omega), if_pos (by omega)]
    rfl
  · refine Ev.step (fun k => ?_) h
    rw [laws_toIntS.l0, if_pos (by omega), if_pos (by omega), if_pos (by omega), w64 (by omega) (by omega), rdI l i hi]
    rfl
theorem toDeedS_ev (l : List S169) (hl : l.length ≤ 1048576) : Ev (fun k => laws_toDeedS.f k l) (l.map toD) := by
  have := conv_loop toD z122 l (fun k m i => laws_toDeedS.l0 k l m i) (fun k m => by rw [laws_toDeedS.l0, if_neg (by omega)]) (fun i hi m hm r h => ?_)
  · refine Ev.congr (fun k => ?_) this
    unfold laws_toDeedS.f
    rw [if_pos (by omega), if_pos (by omega)]
    rfl
  · refine Ev.step (fun k => ?_) h
    rw [laws_toDeedS.l0, if_pos (by omega), if_pos (by omega)]
    simp only [laws_toDeed.f, Option.bind_some]
    rw [if_pos (by omega), w64 (by omega) (by omega), rdL l i hi]
    rfl
theorem toActS_ev (l : List S141) (hl : l.length ≤ 1048576) (h : ∀ x ∈ l, x.f1.length ≤ 1048576 ∧ x.f2.length ≤ 1048576) : Ev (fun k => laws_toActS.f k l) (l.map toA) := by
  have := conv_loop toA z57 l (fun k m i => laws_toActS.l0 k l m i) (fun k m => by rw [laws_toActS.l0, if_neg (by omega)]) (fun i hi m hm r hr => ?_)
  · refine Ev.congr (fun k => ?_) this
    unfold laws_toActS.f
    rw [if_pos (by omega), if_pos (by omega)]
    rfl
  · have hx := h l[i] (List.getElem_mem hi)
    refine Ev.step (fun k => by rw [laws_toActS.l0, if_pos (by omega), if_pos (by omega), rdA l i hi]) ?_
    unfold laws_toAct.f
    refine Ev.bind (Ev.bind (toDeedS_ev _ hx.1) (Ev.bind (toIntS_ev _ hx.2) (Ev.now _))) ?_
    refine Ev.congr (fun k => ?_) hr
    rw [if_pos (by omega), w64 (by omega) (by omega)]
    rfl
theorem toActSS_ev (l : List (List S141)) (hl : l.length ≤ 1048576) (h : ∀ b ∈ l, b.length ≤ 1048576 ∧ ∀ x ∈ b, x.f1.length ≤ 1048576 ∧ x.f2.length ≤ 1048576) : Ev (fun k => laws_toActSS.f k l) (l.map (List.map toA)) := by
  have := conv_loop (List.map toA) [] l (fun k m i => laws_toActSS.l0 k l m i) (fun k m => by rw [laws_toActSS.l0, if_neg (by omega)]) (fun i hi m hm r hr => ?_)
  · refine Ev.congr (fun k => ?_) this
    unfold laws_toActSS.f
    rw [if_pos (by omega), if_pos (by omega)]
    rfl
  · have hx := h l[i] (List.getElem_mem hi)
    refine Ev.step (fun k => by rw [laws_toActSS.l0, if_pos (by omega), if_pos (by omega), rdB l i hi]) ?_
    refine Ev.bind (toActS_ev _ hx.1 hx.2) ?_
    refine Ev.congr (fun k => ?_) hr
    rw [if_pos (by omega), w64 (by omega) (by omega)]
    rfl
def toB (l : List (List S141)) : List (List S57) := l.map (List.map toA)
theorem toProg_ev (l0 : List Int) (l : List (List S141)) (h0 : l0.length ≤ 1048576) (hl : l.length ≤ 1048576) (h : ∀ b ∈ l, b.length ≤ 1048576 ∧ ∀ x ∈ b, x.f1.length ≤ 1048576 ∧ x.f2.length ≤ 1048576) :
    Ev (fun k => laws_toProg.f k l0 l) (l0, toB l) := by
  unfold laws_toProg.f
  exact Ev.bind (toIntS_ev _ h0) (Ev.bind (toActSS_ev _ hl h) (Ev.now _))
def szA (x : S141) : Nat := x.f1.length + x.f2.length
def szB (l : List S141) : Nat := l.length + (l.map szA).sum
def szP (l0 : List Int) (l : List (List S141)) : Nat := l0.length + (l.length + (l.map szB).sum)
theorem szIntS_eq (l : List Int) (hl : l.length ≤ 9223372036854775807) (a : Int) (h0 : 0 ≤ a) (h1 : a ≤ 1048576) : laws_szIntS.f l a = some (cut a l.length) := by
  unfold laws_szIntS.f cut
  rw [w64 (by omega) (by omega)]
  split <;> rfl
theorem szDeedS_eq (l : List S169) (hl : l.length ≤ 9223372036854775807) (a : Int) (h0 : 0 ≤ a) (h1 : a ≤ 1048576) : laws_szDeedS.f l a = some (cut a l.length) := by
  unfold laws_szDeedS.f cut
  rw [w64 (by omega) (by omega)]
  split <;> rfl
theorem cut_lt {a : Int} {n : Nat} (h : a - (n : Int) < 0) : cut a n = -1 := if_pos h
theorem cut_ge {a : Int} {n : Nat} (h : ¬ a - (n : Int) < 0) : cut a n = a - (n : Int) := if_neg h
theorem cut_add (a : Int) (m n : Nat) : cut a (m + n) = if a - (m : Int) < 0 then -1 else cut (a - (m : Int)) n := by
  by_cases c : a - (m : Int) < 0
  · rw [if_pos c, cut_lt (by omega)]
  · rw [if_neg c]
    by_cases d : a - (m : Int) - (n : Int) < 0
    · rw [cut_lt d, cut_lt (by omega)]
    · rw [cut_ge d, cut_ge (by omega)]
      omega
theorem szAct_eq (x : S141) (h1 : x.f1.length ≤ 9223372036854775807) (h2 : x.f2.length ≤ 9223372036854775807) (a : Int) (h0 : 0 ≤ a) (ha : a ≤ 1048576) : laws_szAct.f x.f0 x.f1 x.f2 x.f3 a = some (cut a (szA x)) := by
  unfold laws_szAct.f szA
  rw [szDeedS_eq _ h1 a h0 ha, cut_add]
  simp only [Option.bind_some]
  by_cases c : a - (x.f1.length : Int) < 0
  · rw [cut_lt c, if_pos c, if_pos (by omega)]
  · rw [cut_ge c, if_neg c, if_neg c, szIntS_eq _ h2 _ (by omega) (by omega)]
    simp only [Option.bind_some]
    by_cases d : a - (x.f1.length : Int) - (x.f2.length : Int) < 0
    · rw [cut_lt d, if_pos (by omega)]
    · rw [cut_ge d, if_neg d]
theorem szActS_ev (l : List S141) (hl : l.length ≤ 9223372036854775807) (h : ∀ x ∈ l, x.f1.length ≤ 9223372036854775807 ∧ x.f2.length ≤ 9223372036854775807) (a : Int) (h0 : 0 ≤ a) (ha : a ≤ 1048576) : Ev (fun k => laws_szActS.f k l a) (cut a (szB l)) := by
  unfold szB
  rw [cut_add]
  unfold laws_szActS.f
  rw [w64 (by omega) (by omega)]
  by_cases c : a - (l.length : Int) < 0
  · rw [if_pos c]
    exact ev_pos c (Ev.now _)
  · rw [if_neg c]
    refine ev_neg c ?_
    have := size_loop szA l (fun k a i => laws_szActS.l0 k l a i) (fun k a => by rw [laws_szActS.l0, if_neg (by omega)]) (fun i hi a h0 ha => ?_) 0 (Nat.zero_le _) (a - (l.length : Int)) (by omega) (by omega)
    · rw [List.drop_zero] at this
      exact this
    · have hx := h l[i] (List.getElem_mem hi)
      refine ⟨fun q => ?_, fun q r hr => ?_⟩
      · refine Ev.step (fun k => by rw [laws_szActS.l0, if_pos (by omega), if_pos (by omega), rdA l i hi, szAct_eq _ hx.1 hx.2 a h0 ha, Option.bind_some, if_pos q]) (Ev.now _)
      · refine Ev.step (fun k => ?_) hr
        have qq : ¬ (a - (szA l[i] : Int) < 0) := by intro y; rw [cut_lt y] at q; omega
        rw [laws_szActS.l0, if_pos (by omega), if_pos (by omega), rdA l i hi, szAct_eq _ hx.1 hx.2 a h0 ha, Option.bind_some, if_neg (by omega), cut_ge qq, w64 (by omega) (by omega)]
        rfl
theorem szActSS_ev (l : List (List S141)) (hl : l.length ≤ 9223372036854775807) (h : ∀ b ∈ l, b.length ≤ 9223372036854775807 ∧ ∀ x ∈ b, x.f1.length ≤ 9223372036854775807 ∧ x.f2.length ≤ 9223372036854775807) (a : Int) (h0 : 0 ≤ a) (ha : a ≤ 1048576) :
    Ev (fun k => laws_szActSS.f k l a) (cut a (l.length + (l.map szB).sum)) := by
  rw [cut_add]
  unfold laws_szActSS.f
  rw [w64 (by omega) (by omega)]
  by_cases c : a - (l.length : Int) < 0
  · rw [if_pos c]
    exact ev_pos c (Ev.now _)
  · rw [if_neg c]
    refine ev_neg c ?_
    have := size_loop szB l (fun k a i => laws_szActSS.l0 k l a i) (fun k a => by rw [laws_szActSS.l0, if_neg (by omega)]) (fun i hi a h0 ha => ?_) 0 (Nat.zero_le _) (a - (l.length : Int)) (by omega) (by omega)
    · rw [List.drop_zero] at this
      exact this
    · have hx := h l[i] (List.getElem_mem hi)
      refine ⟨fun q => ?_, fun q r hr => ?_⟩
      · refine Ev.step (fun k => by rw [laws_szActSS.l0, if_pos (by omega), if_pos (by omega), rdB l i hi]) (Ev.bind (szActS_ev _ hx.1 hx.2 a h0 ha) ?_)
        exact ev_pos q (Ev.now _)
      · have qq : ¬ (a - (szB l[i] : Int) < 0) := by intro y; rw [cut_lt y] at q; omega
        refine Ev.step (fun k => by rw [laws_szActSS.l0, if_pos (by omega), if_pos (by omega), rdB l i hi]) (Ev.bind (szActS_ev _ hx.1 hx.2 a h0 ha) ?_)
        have q' : ¬ cut a (szB l[i]) < 0 := by omega
        refine ev_neg q' (Ev.congr (fun k => ?_) hr)
        rw [cut_ge qq, w64 (by omega) (by omega)]
        rfl
theorem szProg_ev (l0 : List Int) (l : List (List S141)) (h0 : l0.length ≤ 9223372036854775807) (hl : l.length ≤ 9223372036854775807) (h : ∀ b ∈ l, b.length ≤ 9223372036854775807 ∧ ∀ x ∈ b, x.f1.length ≤ 9223372036854775807 ∧ x.f2.length ≤ 9223372036854775807) :
    Ev (fun k => laws_szProg.f k l0 l 1048576) (cut 1048576 (szP l0 l)) := by
  unfold laws_szProg.f szP
  rw [szIntS_eq _ h0 _ (by omega) (by omega), cut_add]
  simp only [Option.bind_some]
  by_cases c : (1048576 : Int) - (l0.length : Int) < 0
  · rw [cut_lt c, if_pos c]
    exact ev_pos (by omega) (Ev.now _)
  · rw [cut_ge c, if_neg c]
    refine ev_neg c (Ev.bind (szActSS_ev l hl h _ (by omega) (by omega)) ?_)
    by_cases d : cut (1048576 - (l0.length : Int)) (l.length + (l.map szB).sum) < 0
    · have : cut (1048576 - (l0.length : Int)) (l.length + (l.map szB).sum) = -1 := by
        unfold cut at d ⊢
        split
        · rfl
        · rw [if_neg (by assumption)] at d
          omega
      rw [this]
      exact ev_pos (by omega) (Ev.now _)
    · exact ev_neg d (Ev.now _)
theorem sum_mem {α : Type} (f : α → Nat) {l : List α} {x : α} (h : x ∈ l) : f x ≤ (l.map f).sum := by
  induction l with
  | nil => cases h
  | cons y l ih =>
    rw [List.map_cons, List.sum_cons]
    rcases List.mem_cons.1 h with h | h
    · subst h; omega
    · have := ih h; omega
theorem small {l0 : List Int} {l : List (List S141)} (h : 0 ≤ cut 1048576 (szP l0 l)) :
    l0.length ≤ 1048576 ∧ l.length ≤ 1048576 ∧ ∀ b ∈ l, b.length ≤ 1048576 ∧ ∀ x ∈ b, x.f1.length ≤ 1048576 ∧ x.f2.length ≤ 1048576 := by
  have hh : szP l0 l ≤ 1048576 := by
    unfold cut at h
    split at h <;> omega
  unfold szP at hh
  refine ⟨by omega, by omega, fun b hb => ?_⟩
  have h1 := sum_mem szB hb
  have h2 : szB b = b.length + (b.map szA).sum := rfl
  refine ⟨by omega, fun x hx => ?_⟩
  have h3 := sum_mem szA hx
  have h4 : szA x = x.f1.length + x.f2.length := rfl
  omega
theorem eqProg_refl (l0 : List Int) (l : List (List S57)) (k : Nat) : laws_eqProg.f k l0 l l0 l = some true := by
  unfold laws_eqProg.f
  simp [laws_eqIntS.f, laws_eqActSS.f]
theorem toB_small {l : List (List S141)} (hl : l.length ≤ 1048576) (h : ∀ b ∈ l, b.length ≤ 1048576 ∧ ∀ x ∈ b, x.f1.length ≤ 1048576 ∧ x.f2.length ≤ 1048576) :
    (toB l).length ≤ 1048576 ∧ ∀ b ∈ toB l, b.length ≤ 1048576 ∧ ∀ x ∈ b, x.f1.length ≤ 1048576 ∧ x.f2.length ≤ 1048576 := by
  refine ⟨by unfold toB; rw [List.length_map]; exact hl, fun b hb => ?_⟩
  obtain ⟨c, hc, rfl⟩ := List.mem_map.1 hb
  refine ⟨by rw [List.length_map]; exact (h c hc).1, fun x hx => ?_⟩
  obtain ⟨y, hy, rfl⟩ := List.mem_map.1 hx
  have := (h c hc).2 y hy
  simp only [toA, List.length_map]
  exact this
def ok169 (x : S169) : Prop := (Lit.int .i64 x.f0).wf = true ∧ (Lit.int .i64 x.f1).wf = true ∧ (Lit.int .i64 x.f2).wf = true
def ok141 (x : S141) : Prop := (Lit.int .i64 x.f0).wf = true ∧ (x.f1.length ≤ 9223372036854775807 ∧ ∀ a ∈ x.f1, ok169 a) ∧ (x.f2.length ≤ 9223372036854775807 ∧ ∀ a ∈ x.f2, (Lit.int .i64 a).wf = true) ∧ (Lit.int .i64 x.f3).wf = true
def ok25 (x : S25) : Prop := (x.f0.length ≤ 9223372036854775807 ∧ ∀ a ∈ x.f0, (Lit.int .i64 a).wf = true) ∧ (x.f1.length ≤ 9223372036854775807 ∧ ∀ a ∈ x.f1, (a.length ≤ 9223372036854775807 ∧ ∀ a_1 ∈ a, ok141 a_1))
theorem ok_lens {x : S25} (h : ok25 x) : x.f0.length ≤ 9223372036854775807 ∧ x.f1.length ≤ 9223372036854775807 ∧ ∀ b ∈ x.f1, b.length ≤ 9223372036854775807 ∧ ∀ y ∈ b, y.f1.length ≤ 9223372036854775807 ∧ y.f2.length ≤ 9223372036854775807 :=
  ⟨h.1.1, h.2.1, fun b hb => ⟨(h.2.2 b hb).1, fun y hy => ⟨((h.2.2 b hb).2 y hy).2.1.1, ((h.2.2 b hb).2 y hy).2.2.1.1⟩⟩⟩
end Go.Proofs.Ytoeepmcaabmjkaa.PProg
namespace Go.Proofs.Ytoeepmcaabmjkaa.PTree
open Go.RowKit Go.Proofs.Ytoeepmcaabmjkaa.QSN Go.Proofs.YtoeepmcaabmjkaaW.PrintWords Go.Proofs.YtoeepmcaabmjkaaW.PrintLast Go.Proofs.Ytoeepmcaabmjkaa.PProg
theorem rdD (l : List S122) (i : Nat) (hi : i < l.length) : rd_T122 l (i : Int) = l[i] := by
  simp [rd_T122, List.getD, hi]
def inB (x lo hi : Int) : Bool := decide (lo ≤ x) && decide (x ≤ hi)
theorem l6In_eq (x lo hi : Int) : spec_l6In.f x lo hi = some (inB x lo hi) := by
  unfold spec_l6In.f inB
  by_cases h : x ≥ lo
  · rw [if_pos h, decide_eq_true h, Bool.true_and]
  · rw [if_neg h, decide_eq_false h, Bool.false_and]
theorem isPlace_eq (x n : Int) : impl_isPlace.f x n = some (inB x 0 (n - 1)) := by
  unfold impl_isPlace.f inB
  by_cases h : 0 ≤ x
  · rw [if_pos h, decide_eq_true h, Bool.true_and]
    congr 1
    exact decide_eq_decide.2 (by omega)
  · rw [if_neg h, decide_eq_false h, Bool.false_and]
theorem isReg_eq (x : Int) : impl_isReg.f x = some (inB x 0 2) := by
  unfold impl_isReg.f
  rw [isPlace_eq]
  rfl
theorem isNum_eq (x : Int) : impl_isNum.f x = some (inB x 0 99) := by
  unfold impl_isNum.f
  rw [isPlace_eq]
  rfl
/-- Is a deed in form, if there are so many cells? -/
def deedB (k a b cells : Int) : Bool :=
  if k = 1 then inB a 0 2 && inB b 0 (cells - 1) else if k = 2 then inB a 0 (cells - 1) && inB b 0 2 else if k = 3 then inB a 0 2 && inB b 0 99
  else if k = 4 then inB a 0 2 && inB b 0 2 else if k = 5 then inB a 0 2 && (b == 0) else false
theorem some_and (p q : Bool) : (if p = true then some q else some false) = some (p && q) := by cases p <;> rfl
theorem l1Deed_eq (k a b c : Int) (h0 : 0 ≤ c) (h1 : c ≤ 3) : spec_l1Deed.f k a b c = some (deedB k a b c) := by
  unfold spec_l1Deed.f deedB
  simp only [l6In_eq, Option.bind_some, some_and, w64 (show -9223372036854775808 ≤ c - 1 by omega) (show c - 1 ≤ 9223372036854775807 by omega)]
  repeat' (first | rfl | split)
theorem deedOk_eq (k a b c : Int) : ((impl_partOfDeed.f k a b).bind fun t => impl_deedOk.f t c) = some (deedB k a b c) := by
  unfold impl_partOfDeed.f impl_deedOk.f deedB
  simp only [Option.bind_some, isReg_eq, isPlace_eq, isNum_eq, some_and]
  by_cases h1 : k = 1
  · subst h1; simp
  by_cases h2 : k = 2
  · subst h2; simp
  by_cases h3 : k = 3
  · subst h3; simp
  by_cases h4 : k = 4
  · subst h4; simp
  by_cases h5 : k = 5
  · subst h5
    by_cases h6 : b = 0
    · subst h6; simp
    · simp [h6]
  · simp [h1, h2, h3, h4, h5]
def dB (cells : Int) (d : S122) : Bool := deedB d.f0 d.f1 d.f2 cells
/-- Are deeds those of a change, if there are so many cells? -/
def okC (l : List S122) (cells : Int) : Bool := (inB cells 0 3 && decide (l.length ≤ 5)) && l.all (dB cells)
theorem implOk_ev (l : List S122) (cells : Int) (hl : l.length ≤ 9223372036854775806) : Ev (fun k => impl_ChangeOk.f k l cells) (okC l cells) := by
  have key : ∀ i, i ≤ l.length → Ev (fun k => impl_ChangeOk.l0 k cells l (l.length : Int) (i : Int)) ((l.drop i).all (dB cells)) := by
    refine down ?_ ?_
    · refine Ev.step (fun k => by rw [impl_ChangeOk.l0, if_neg (by omega)]) ?_
      rw [List.drop_length, List.all_nil]
      exact Ev.now _
    · intro i hi ih
      rw [List.drop_eq_getElem_cons hi, List.all_cons]
      have hd : ∀ (f : Bool → Option Bool), ((impl_partOfDeed.f l[i].f0 l[i].f1 l[i].f2).bind fun t => (impl_deedOk.f t cells).bind f) = f (dB cells l[i]) := by
        intro f
        have := deedOk_eq l[i].f0 l[i].f1 l[i].f2 cells
        unfold dB
        have e : ((impl_partOfDeed.f l[i].f0 l[i].f1 l[i].f2).bind fun t => (impl_deedOk.f t cells).bind f) = (((impl_partOfDeed.f l[i].f0 l[i].f1 l[i].f2).bind fun t => impl_deedOk.f t cells).bind f) := by rw [Option.bind_assoc]
        rw [e, this]
        rfl
      cases hb : dB cells l[i] with
      | true =>
        rw [Bool.true_and]
        refine Ev.step (fun k => ?_) ih
        rw [impl_ChangeOk.l0, if_pos (by omega), if_pos (by omega), if_pos (by omega), rdD l i hi, hd, hb, if_pos rfl, w64 (by omega) (by omega)]
        rfl
      | false =>
        rw [Bool.false_and]
        refine Ev.step (fun k => ?_) (Ev.now false)
        rw [impl_ChangeOk.l0, if_pos (by omega), if_pos (by omega), if_pos (by omega), rdD l i hi, hd, hb, if_neg Bool.false_ne_true]
  have k0 := key 0 (Nat.zero_le _)
  unfold impl_ChangeOk.f okC inB
  by_cases h0 : cells < 0
  · refine ev_pos h0 ?_
    rw [decide_eq_false (p := 0 ≤ cells) (by omega)]
    simp only [Bool.false_and]
    exact Ev.step (fun k => by rw [impl_ChangeOk.j0, if_pos rfl]) (Ev.now _)
  · refine ev_neg h0 ?_
    by_cases h1 : cells > 3
    · refine ev_pos h1 ?_
      rw [decide_eq_false (p := cells ≤ 3) (by omega)]
      simp only [Bool.and_false, Bool.false_and]
      exact Ev.step (fun k => by rw [impl_ChangeOk.j0, if_pos rfl]) (Ev.now _)
    · refine ev_neg h1 ?_
      rw [decide_eq_true (p := 0 ≤ cells) (by omega), decide_eq_true (p := cells ≤ 3) (by omega)]
      simp only [Bool.true_and]
      by_cases h2 : l.length ≤ 5
      · rw [decide_eq_true h2, Bool.true_and, decide_eq_false (p := (l.length : Int) > 5) (by omega)]
        exact Ev.step (fun k => by rw [impl_ChangeOk.j0, if_neg Bool.false_ne_true]; rfl) k0
      · rw [decide_eq_false h2, Bool.false_and, decide_eq_true (p := (l.length : Int) > 5) (by omega)]
        exact Ev.step (fun k => by rw [impl_ChangeOk.j0, if_pos rfl]) (Ev.now _)
theorem ev_eq {α : Type} {f : Nat → Option α} {r : α} (h : ∀ k, f k = some r) : Ev f r := Ev.congr (fun k => h k) (Ev.now r)
/-- Is an act of the body in form? -/
def actB (cells body bodies : Int) (a : S57) : Bool :=
  if a.f0 = 1 ∧ a.f2.length = 0 ∧ a.f3 = 0 then okC a.f1 cells
  else if a.f0 = 2 ∧ a.f1.length = 0 ∧ a.f3 = 0 then kidsOk a.f2 body bodies
  else if a.f0 = 3 ∧ a.f1.length = 0 ∧ a.f2.length = 0 ∧ a.f3 = 0 then true
  else if a.f0 = 4 ∧ a.f1.length = 0 ∧ a.f2.length = 0 then inB a.f3 0 2
  else false
theorem implAct_ev (cells body bodies : Int) (a : S57) (h1 : a.f1.length ≤ 1048576) : Ev (fun k => impl_actOk.f k a.f0 a.f1 a.f2 a.f3 cells body bodies) (actB cells body bodies a) := by
  unfold impl_actOk.f actB
  by_cases c1 : a.f0 = 1 ∧ a.f2.length = 0 ∧ a.f3 = 0
  · rw [if_pos c1]
    exact ev_pos c1 (implOk_ev _ _ (by omega))
  rw [if_neg c1]
  refine ev_neg c1 (ev_eq fun _ => ?_)
  by_cases c2 : a.f0 = 2 ∧ a.f1.length = 0 ∧ a.f3 = 0
  · rw [if_pos c2, if_pos c2]
  rw [if_neg c2, if_neg c2]
  by_cases c3 : a.f0 = 3 ∧ a.f1.length = 0 ∧ a.f2.length = 0 ∧ a.f3 = 0
  · rw [if_pos c3, if_pos c3]
  rw [if_neg c3, if_neg c3]
  by_cases c4 : a.f0 = 4 ∧ a.f1.length = 0 ∧ a.f2.length = 0
  · rw [if_pos c4, if_pos c4, isReg_eq]
  rw [if_neg c4, if_neg c4]
theorem specKids_ev (l : List Int) (body bodies : Int) (hl : l.length ≤ 1048576) (hb0 : 0 ≤ body) (hb1 : body ≤ 1048576) (hn0 : 0 ≤ bodies) (hn1 : bodies ≤ 1048576) : Ev (fun k => spec_l1Kids.f k l body bodies) (kidsOk l body bodies) := by
  have one : ∀ x : Int, inB x (body + 1) (bodies - 1) = kidOk body bodies x := by
    intro x
    unfold inB kidOk
    rw [Bool.eq_iff_iff]
    simp
    omega
  have key : ∀ i, i ≤ l.length → Ev (fun k => spec_l1Kids.l0 k l body bodies (i : Int)) ((l.drop i).all (kidOk body bodies) && (decide (1 ≤ l.length) && decide (l.length ≤ 2))) := by
    refine down ?_ ?_
    · rw [List.drop_length, List.all_nil, Bool.true_and]
      refine Ev.step (fun k => ?_) (Ev.now _)
      rw [spec_l1Kids.l0, if_neg (by omega), l6In_eq, Option.bind_some]
      unfold inB
      congr 1
      rw [Bool.eq_iff_iff]
      simp
      omega
    · intro i hi ih
      rw [List.drop_eq_getElem_cons hi, List.all_cons]
      cases hb : kidOk body bodies l[i] with
      | true =>
        rw [Bool.true_and]
        refine Ev.step (fun k => ?_) ih
        rw [spec_l1Kids.l0, if_pos (by omega), if_pos (by omega), rdI l i hi, w64 (i := body + 1) (by omega) (by omega), w64 (i := bodies - 1) (by omega) (by omega), l6In_eq, one, hb, Option.bind_some, if_pos rfl, w64 (by omega) (by omega)]
        rfl
      | false =>
        rw [Bool.false_and, Bool.false_and]
        refine Ev.step (fun k => ?_) (Ev.now false)
        rw [spec_l1Kids.l0, if_pos (by omega), if_pos (by omega), rdI l i hi, w64 (i := body + 1) (by omega) (by omega), w64 (i := bodies - 1) (by omega) (by omega), l6In_eq, one, hb, Option.bind_some, if_neg Bool.false_ne_true]
  have := key 0 (Nat.zero_le _)
  rw [List.drop_zero] at this
  exact this
theorem specDeeds_ev (l0 : List Int) (l1 : List (List S57)) (k0 : Int) (l : List S122) (l2 : List Int) (r : Int) (hl : l.length ≤ 1048576) (hc : l0.length ≤ 3) : Ev (fun k => spec_l1Act.l0 k 0 l0 l1 k0 l l2 r) (okC l (l0.length : Int)) := by
  have key : ∀ i, i ≤ l.length → Ev (fun k => spec_l1Act.l0 k (i : Int) l0 l1 k0 l l2 r) ((l.drop i).all (dB (l0.length : Int)) && decide (l.length ≤ 5)) := by
    refine down ?_ ?_
    · rw [List.drop_length, List.all_nil, Bool.true_and]
      refine Ev.step (fun k => ?_) (Ev.now _)
      rw [spec_l1Act.l0, if_neg (by omega)]
      congr 1
      exact decide_eq_decide.2 (by omega)
    · intro i hi ih
      rw [List.drop_eq_getElem_cons hi, List.all_cons]
      cases hb : dB (l0.length : Int) l[i] with
      | true =>
        rw [Bool.true_and]
        refine Ev.step (fun k => ?_) ih
        unfold dB at hb
        rw [spec_l1Act.l0, if_pos (by omega), if_pos (by omega), rdD l i hi, l1Deed_eq _ _ _ _ (by omega) (by omega), hb, Option.bind_some, if_pos rfl, w64 (by omega) (by omega)]
        rfl
      | false =>
        rw [Bool.false_and, Bool.false_and]
        refine Ev.step (fun k => ?_) (Ev.now false)
        unfold dB at hb
        rw [spec_l1Act.l0, if_pos (by omega), if_pos (by omega), rdD l i hi, l1Deed_eq _ _ _ _ (by omega) (by omega), hb, Option.bind_some, if_neg Bool.false_ne_true]
  have := key 0 (Nat.zero_le _)
  rw [List.drop_zero] at this
  have e : okC l (l0.length : Int) = (l.all (dB (l0.length : Int)) && decide (l.length ≤ 5)) := by
    unfold okC inB
    rw [decide_eq_true (p := 0 ≤ (l0.length : Int)) (by omega), decide_eq_true (p := (l0.length : Int) ≤ 3) (by omega), Bool.true_and, Bool.true_and, Bool.and_comm]
  rw [e]
  exact this
theorem specAct_ev (l0 : List Int) (l1 : List (List S57)) (body : Int) (a : S57) (hc : l0.length ≤ 3) (hn : l1.length ≤ 4) (hb0 : 0 ≤ body) (hb1 : body ≤ 4) (h1 : a.f1.length ≤ 1048576) (h2 : a.f2.length ≤ 1048576) :
    Ev (fun k => spec_l1Act.f k l0 l1 body a.f0 a.f1 a.f2 a.f3) (actB (l0.length : Int) body (l1.length : Int) a) := by
  obtain ⟨k0, d, m, r⟩ := a
  dsimp only at h1 h2 ⊢
  have bad : ∀ f : Nat → Option Bool, (∀ k, f k = spec_l1Act.j0 k body true l0 l1 k0 d m r) → Ev f false := fun f hf => Ev.congr hf (Ev.step (fun k => by rw [spec_l1Act.j0, if_pos rfl]) (Ev.now false))
  have good : ∀ (f : Nat → Option Bool) (z : Bool), (∀ k, f k = spec_l1Act.j0 k body false l0 l1 k0 d m r) → Ev (fun k => if k0 = 1 then (spec_l1Act.l0 k 0 l0 l1 k0 d m r) else (if k0 = 2 then ((spec_l1Kids.f k m body (l1.length : Int)).bind fun t125 => (some t125)) else (if k0 = 3 then (some true) else (if k0 = 4 then ((spec_l6In.f r 0 2).bind fun t126 => (some t126)) else (some false))))) z → Ev f z :=
    fun f z hf hz => Ev.congr hf (Ev.step (fun k => by rw [spec_l1Act.j0, if_neg Bool.false_ne_true]) hz)
  have e1 : ∀ l : List S122, ((l.length : Int) > 0) = (¬ l.length = 0) := fun l => propext (by omega)
  have e2 : ∀ l : List Int, ((l.length : Int) > 0) = (¬ l.length = 0) := fun l => propext (by omega)
  by_cases k1 : k0 = 1
  · subst k1
    by_cases c : m.length = 0
    · by_cases c' : r = 0
      · refine good _ _ (fun k => by unfold spec_l1Act.f; simp [c, c']) ?_
        have e : actB (l0.length : Int) body (l1.length : Int) ⟨1, d, m, r⟩ = okC d (l0.length : Int) := if_pos ⟨rfl, c, c'⟩
        rw [e]
        exact ev_pos rfl (specDeeds_ev _ _ _ _ _ _ h1 hc)
      · have : actB (l0.length : Int) body (l1.length : Int) ⟨1, d, m, r⟩ = false := by unfold actB; simp [c']
        rw [this]
        exact bad _ (fun k => by unfold spec_l1Act.f; simp [c, bne_iff_ne.2 c'])
    · have : actB (l0.length : Int) body (l1.length : Int) ⟨1, d, m, r⟩ = false := by unfold actB; simp; intro h; rw [h] at c; exact absurd rfl c
      rw [this]
      exact bad _ (fun k => by unfold spec_l1Act.f; simp only [e2, c]; simp)
  by_cases k2 : k0 = 2
  · subst k2
    by_cases c : d.length = 0
    · by_cases c' : r = 0
      · refine good _ _ (fun k => by unfold spec_l1Act.f; simp [c, c']) ?_
        have e : actB (l0.length : Int) body (l1.length : Int) ⟨2, d, m, r⟩ = kidsOk m body (l1.length : Int) := (if_neg (by dsimp only; omega)).trans (if_pos ⟨rfl, c, c'⟩)
        rw [e]
        exact ev_neg (by omega) (ev_pos rfl (Ev.bind (specKids_ev _ _ _ h2 hb0 (by omega) (by omega) (by omega)) (Ev.now _)))
      · have : actB (l0.length : Int) body (l1.length : Int) ⟨2, d, m, r⟩ = false := by unfold actB; simp [c']
        rw [this]
        exact bad _ (fun k => by unfold spec_l1Act.f; simp [c, bne_iff_ne.2 c'])
    · have : actB (l0.length : Int) body (l1.length : Int) ⟨2, d, m, r⟩ = false := by unfold actB; simp; intro h; rw [h] at c; exact absurd rfl c
      rw [this]
      exact bad _ (fun k => by unfold spec_l1Act.f; simp only [e1, c]; simp)
  by_cases cd : d.length = 0
  · by_cases cm : m.length = 0
    · by_cases k4 : k0 = 4
      · subst k4
        refine good _ _ (fun k => by unfold spec_l1Act.f; simp [cd, cm]) ?_
        have e : actB (l0.length : Int) body (l1.length : Int) ⟨4, d, m, r⟩ = inB r 0 2 := (if_neg (by dsimp only; omega)).trans ((if_neg (by dsimp only; omega)).trans ((if_neg (by dsimp only; omega)).trans (if_pos ⟨rfl, cd, cm⟩)))
        rw [e]
        exact ev_neg (by omega) (ev_neg (by omega) (ev_neg (by omega) (ev_pos rfl (ev_eq fun _ => by rw [l6In_eq]; rfl))))
      · by_cases c' : r = 0
        · refine good _ _ (fun k => by unfold spec_l1Act.f; simp [cd, cm, c', k1, k2, k4]) ?_
          refine ev_neg k1 (ev_neg k2 (ev_eq fun _ => ?_))
          by_cases k3 : k0 = 3
          · have e : actB (l0.length : Int) body (l1.length : Int) ⟨k0, d, m, r⟩ = true := (if_neg (by dsimp only; omega)).trans ((if_neg (by dsimp only; omega)).trans (if_pos ⟨k3, cd, cm, c'⟩))
            rw [e, if_pos k3]
          · have e : actB (l0.length : Int) body (l1.length : Int) ⟨k0, d, m, r⟩ = false := (if_neg (by dsimp only; omega)).trans ((if_neg (by dsimp only; omega)).trans ((if_neg (by dsimp only; omega)).trans (if_neg (by dsimp only; omega))))
            rw [e, if_neg k3, if_neg k4]
        · have : actB (l0.length : Int) body (l1.length : Int) ⟨k0, d, m, r⟩ = false := by
            unfold actB
            dsimp only
            rw [if_neg (by omega), if_neg (by omega), if_neg (by omega), if_neg (by omega)]
          rw [this]
          exact bad _ (fun k => by unfold spec_l1Act.f; simp [cd, cm, bne_iff_ne.2 c', k1, k2, k4])
    · have : actB (l0.length : Int) body (l1.length : Int) ⟨k0, d, m, r⟩ = false := by
        unfold actB
        dsimp only
        rw [if_neg (by omega), if_neg (by omega), if_neg (by omega), if_neg (by omega)]
      rw [this]
      exact bad _ (fun k => by unfold spec_l1Act.f; simp only [e2, cd, cm, k1, k2]; simp)
  · have : actB (l0.length : Int) body (l1.length : Int) ⟨k0, d, m, r⟩ = false := by
      unfold actB
      dsimp only
      rw [if_neg (by omega), if_neg (by omega), if_neg (by omega), if_neg (by omega)]
    rw [this]
    exact bad _ (fun k => by unfold spec_l1Act.f; simp only [e1, cd, k1]; simp)
/-- Are a body's acts in form? Are those of all bodies from the i-th on? -/
def bodyB (cells bodies : Int) (i : Nat) (l : List S57) : Bool := decide (l.length ≤ 4) && l.all (actB cells (i : Int) bodies)
def restB (cells bodies : Int) : Nat → List (List S57) → Bool
  | _, [] => true
  | i, l :: ls => bodyB cells bodies i l && restB cells bodies (i + 1) ls
def formB (l0 : List Int) (l1 : List (List S57)) : Bool :=
  (decide (l0.length ≤ 3) && decide (1 ≤ l1.length ∧ l1.length ≤ 4)) && (l0.all (fun x => inB x 0 99) && restB (l0.length : Int) (l1.length : Int) 0 l1)
def Small (l0 : List Int) (l1 : List (List S57)) : Prop := l0.length ≤ 1048576 ∧ l1.length ≤ 1048576 ∧ ∀ b ∈ l1, b.length ≤ 1048576 ∧ ∀ x ∈ b, x.f1.length ≤ 1048576 ∧ x.f2.length ≤ 1048576
theorem inner_ev (cells body bodies : Int) : ∀ l : List S57, (∀ x ∈ l, x.f1.length ≤ 1048576) → Ev (fun k => innerF k cells body bodies l) (l.all (actB cells body bodies))
  | [], _ => Ev.now true
  | a :: l, h => by
    simp only [innerF, List.all_cons]
    refine Ev.bind (implAct_ev cells body bodies a (h a List.mem_cons_self)) ?_
    cases actB cells body bodies a with
    | true =>
      rw [Bool.true_and]
      exact ev_pos rfl (inner_ev cells body bodies l (fun x hx => h x (List.mem_cons_of_mem _ hx)))
    | false => exact ev_neg Bool.false_ne_true (Ev.now _)
theorem outer_ev (cells bodies : Int) : ∀ (ls : List (List S57)) (i : Nat), (∀ b ∈ ls, ∀ x ∈ b, x.f1.length ≤ 1048576) → Ev (fun k => outerF k cells bodies i ls) (restB cells bodies i ls)
  | [], _, _ => Ev.now true
  | l :: ls, i, h => by
    simp only [outerF, restB, bodyB]
    by_cases c : l.length > 4
    · rw [decide_eq_false (by omega), Bool.false_and, Bool.false_and]
      exact ev_pos c (Ev.now _)
    · rw [decide_eq_true (by omega), Bool.true_and]
      refine ev_neg c (Ev.bind (inner_ev cells (i : Int) bodies l (h l List.mem_cons_self)) ?_)
      cases l.all (actB cells (i : Int) bodies) with
      | true =>
        rw [Bool.true_and]
        exact ev_pos rfl (outer_ev cells bodies ls (i + 1) (fun b hb => h b (List.mem_cons_of_mem _ hb)))
      | false => exact ev_neg Bool.false_ne_true (Ev.now _)
theorem allNums_ev (l : List Int) (hl : l.length ≤ 1048576) : Ev (fun k => impl_allNums.f k l) (l.all (fun x => inB x 0 99)) := by
  have key : ∀ i, i ≤ l.length → Ev (fun k => impl_allNums.l0 k l (l.length : Int) (i : Int)) ((l.drop i).all (fun x => inB x 0 99)) := by
    refine down ?_ ?_
    · rw [List.drop_length, List.all_nil]
      exact Ev.step (fun k => by rw [impl_allNums.l0, if_neg (by omega)]) (Ev.now _)
    · intro i hi ih
      rw [List.drop_eq_getElem_cons hi, List.all_cons]
      cases hb : inB l[i] 0 99 with
      | true =>
        rw [Bool.true_and]
        refine Ev.step (fun k => ?_) ih
        rw [impl_allNums.l0, if_pos (by omega), if_pos (by omega), if_pos (by omega), rdI l i hi, isNum_eq, hb, Option.bind_some, if_pos rfl, w64 (by omega) (by omega)]
        rfl
      | false =>
        rw [Bool.false_and]
        refine Ev.step (fun k => ?_) (Ev.now false)
        rw [impl_allNums.l0, if_pos (by omega), if_pos (by omega), if_pos (by omega), rdI l i hi, isNum_eq, hb, Option.bind_some, if_neg Bool.false_ne_true]
  have := key 0 (Nat.zero_le _)
  rw [List.drop_zero] at this
  exact this
theorem specForm_ev (l0 : List Int) (l1 : List (List S57)) (h : Small l0 l1) : Ev (fun k => spec_l1Form.f k l0 l1) (formB l0 l1) := by
  unfold spec_l1Form.f formB
  have bad : Ev (fun k => spec_l1Form.j0 k true l0 l1) false := Ev.step (fun k => by rw [spec_l1Form.j0, if_pos rfl]) (Ev.now false)
  by_cases c : l0.length ≤ 3
  · refine ev_neg (by omega) ?_
    rw [decide_eq_true c, Bool.true_and]
    simp only [l6In_eq, Option.bind_some]
    by_cases d : 1 ≤ l1.length ∧ l1.length ≤ 4
    · have e : inB (l1.length : Int) 1 4 = true := by unfold inB; rw [decide_eq_true (by omega), decide_eq_true (by omega)]; rfl
      rw [e, decide_eq_true d, Bool.true_and]
      refine Ev.step (fun k => by rw [Bool.not_true, spec_l1Form.j0, if_neg Bool.false_ne_true]) ?_
      have acts : ∀ i, (hi : i < l1.length) → l1[i].length ≤ 4 → ∀ R, Ev (fun k => spec_l1Form.l1 k ((i + 1 : Nat) : Int) l0 l1) R → ∀ j, j ≤ l1[i].length → Ev (fun k => spec_l1Form.l2 k (i : Int) (j : Int) l0 l1) ((l1[i].drop j).all (actB (l0.length : Int) (i : Int) (l1.length : Int)) && R) := by
        intro i hi hl R hR
        refine down ?_ ?_
        · rw [List.drop_length, List.all_nil, Bool.true_and]
          refine Ev.step (fun k => ?_) hR
          rw [spec_l1Form.l2, if_pos (by omega), if_pos (by omega), rdBi l1 i hi, if_neg (by omega), w64 (by omega) (by omega)]
          rfl
        · intro j hj ih
          rw [List.drop_eq_getElem_cons hj, List.all_cons]
          have sm := (h.2.2 l1[i] (List.getElem_mem hi)).2 l1[i][j] (List.getElem_mem hj)
          have ha := specAct_ev l0 l1 (i : Int) l1[i][j] c d.2 (by omega) (by omega) sm.1 sm.2
          refine Ev.step (fun k => by rw [spec_l1Form.l2, if_pos (by omega), if_pos (by omega), rdBi l1 i hi, if_pos (by omega), if_pos (by omega), rdAi _ j hj]) (Ev.bind ha ?_)
          cases actB (l0.length : Int) (i : Int) (l1.length : Int) l1[i][j] with
          | true =>
            rw [Bool.true_and]
            refine ev_pos rfl (Ev.congr (fun k => ?_) ih)
            rw [w64 (by omega) (by omega)]
            rfl
          | false =>
            rw [Bool.false_and, Bool.false_and]
            exact ev_neg Bool.false_ne_true (Ev.now _)
      have bods : ∀ i, i ≤ l1.length → Ev (fun k => spec_l1Form.l1 k (i : Int) l0 l1) (restB (l0.length : Int) (l1.length : Int) i (l1.drop i)) := by
        refine down ?_ ?_
        · have e : restB (l0.length : Int) (l1.length : Int) l1.length [] = true := by simp [restB]
          rw [List.drop_length, e]
          exact Ev.step (fun k => by rw [spec_l1Form.l1, if_neg (by omega)]) (Ev.now _)
        · intro i hi ih
          rw [List.drop_eq_getElem_cons hi]
          unfold restB bodyB
          by_cases q : l1[i].length ≤ 4
          · rw [decide_eq_true q, Bool.true_and]
            have := acts i hi q _ ih 0 (Nat.zero_le _)
            rw [List.drop_zero] at this
            refine Ev.step (fun k => ?_) this
            rw [spec_l1Form.l1, if_pos (by omega), if_pos (by omega), rdBi l1 i hi, if_neg (by omega)]
            rfl
          · rw [decide_eq_false q, Bool.false_and, Bool.false_and]
            refine Ev.step (fun k => ?_) (Ev.now false)
            rw [spec_l1Form.l1, if_pos (by omega), if_pos (by omega), rdBi l1 i hi, if_pos (by omega)]
      have key : ∀ i, i ≤ l0.length → Ev (fun k => spec_l1Form.l0 k (i : Int) l0 l1) ((l0.drop i).all (fun x => inB x 0 99) && restB (l0.length : Int) (l1.length : Int) 0 l1) := by
        refine down ?_ ?_
        · rw [List.drop_length, List.all_nil, Bool.true_and]
          have := bods 0 (Nat.zero_le _)
          rw [List.drop_zero] at this
          refine Ev.step (fun k => ?_) this
          rw [spec_l1Form.l0, if_neg (by omega)]
          rfl
        · intro i hi ih
          rw [List.drop_eq_getElem_cons hi, List.all_cons]
          cases hb : inB l0[i] 0 99 with
          | true =>
            rw [Bool.true_and]
            refine Ev.step (fun k => ?_) ih
            rw [spec_l1Form.l0, if_pos (by omega), if_pos (by omega), rdI l0 i hi, l6In_eq, hb, Option.bind_some, if_pos rfl, w64 (by omega) (by omega)]
            rfl
          | false =>
            rw [Bool.false_and, Bool.false_and]
            refine Ev.step (fun k => ?_) (Ev.now false)
            rw [spec_l1Form.l0, if_pos (by omega), if_pos (by omega), rdI l0 i hi, l6In_eq, hb, Option.bind_some, if_neg Bool.false_ne_true]
      have := key 0 (Nat.zero_le _)
      rw [List.drop_zero] at this
      exact this
    · have e : inB (l1.length : Int) 1 4 = false := by
        unfold inB
        rw [← Bool.not_eq_true, Bool.and_eq_true, decide_eq_true_iff, decide_eq_true_iff]
        omega
      rw [e, decide_eq_false d, Bool.false_and]
      exact bad
  · rw [decide_eq_false c, Bool.false_and, Bool.false_and]
    exact ev_pos (by omega) bad
/-- A body's kids, if all is in form: they stand behind it. -/
theorem rest_at {cells bodies : Int} : ∀ {ls : List (List S57)} {i : Nat}, restB cells bodies i ls = true → ∀ j (hj : j < ls.length), bodyB cells bodies (i + j) ls[j] = true
  | [], _, _, j, hj => absurd hj (by simp)
  | l :: ls, i, h, j, hj => by
    unfold restB at h
    rw [Bool.and_eq_true] at h
    match j, hj with
    | 0, _ => exact h.1
    | j + 1, hj =>
      have := rest_at h.2 j (by simp at hj; omega)
      rw [show i + 1 + j = i + (j + 1) by omega] at this
      exact this
theorem kids_behind {cells body bodies : Int} {a : S57} (h : actB cells body bodies a = true) : a.f2.length ≤ 2 ∧ ∀ x ∈ a.f2, body < x ∧ x < bodies := by
  unfold actB at h
  have z : a.f2.length = 0 → a.f2.length ≤ 2 ∧ ∀ x ∈ a.f2, body < x ∧ x < bodies := fun e => ⟨by omega, fun x hx => by rw [List.length_eq_zero_iff.1 e] at hx; cases hx⟩
  split at h
  · rename_i c; exact z c.2.1
  · split at h
    · unfold kidsOk at h
      rw [Bool.and_eq_true, List.all_eq_true, Bool.and_eq_true, decide_eq_true_iff, decide_eq_true_iff] at h
      refine ⟨h.2.2, fun x hx => ?_⟩
      have := h.1 x hx
      unfold kidOk at this
      simp at this
      omega
    · split at h
      · rename_i c; exact z c.2.2.1
      · split at h
        · rename_i c; exact z c.2.2
        · cases h
structure Form (l1 : List (List S57)) : Prop where
  few : 1 ≤ l1.length ∧ l1.length ≤ 4
  acts : ∀ b (hb : b < l1.length), l1[b].length ≤ 4
  kids : ∀ b (hb : b < l1.length), ∀ a ∈ l1[b], a.f2.length ≤ 2 ∧ ∀ x ∈ a.f2, (b : Int) < x ∧ x < (l1.length : Int)
theorem form_of {l0 : List Int} {l1 : List (List S57)} (h : formB l0 l1 = true) : Form l1 := by
  unfold formB at h
  rw [Bool.and_eq_true, Bool.and_eq_true, Bool.and_eq_true, decide_eq_true_iff, decide_eq_true_iff] at h
  have r := fun b hb => rest_at h.2.2 b hb
  refine ⟨h.1.2, fun b hb => ?_, fun b hb a ha => ?_⟩
  · have := r b hb
    unfold bodyB at this
    rw [Bool.and_eq_true, decide_eq_true_iff] at this
    exact this.1
  · have := r b hb
    unfold bodyB at this
    rw [Bool.and_eq_true, List.all_eq_true] at this
    have := kids_behind (this.2 a ha)
    rw [Nat.zero_add] at this
    exact this
/-- The tree of a body: both tell the same. -/
theorem tree_ev {l0 : List Int} {l1 : List (List S57)} (h : Form l1) : ∀ (d b : Nat), b < l1.length → l1.length ≤ b + d → ∃ T : Int, Ev (fun k => spec_l1Tree.f k l0 l1 (b : Int)) T ∧ Ev (fun k => impl_treeOf.f k l0 l1 (b : Int)) T
  | 0, b, hb, hd => absurd hb (by omega)
  | d + 1, b, hb, hd => by
    have hl := h.acts b hb
    have kid : ∀ x : Int, (b : Int) < x → x < (l1.length : Int) → ∃ T : Int, Ev (fun k => spec_l1Tree.f k l0 l1 x) T ∧ Ev (fun k => impl_treeOf.f k l0 l1 x) T := by
      intro x h0 h1
      have := tree_ev (l0 := l0) h d x.toNat (by omega) (by omega)
      rw [Int.toNat_of_nonneg (by omega)] at this
      exact this
    have acts : ∀ i, i ≤ l1[b].length → ∀ s : Int, ∃ T : Int, Ev (fun k => spec_l1Tree.l0 k (b : Int) s (i : Int) l0 l1) T ∧ Ev (fun k => impl_treeOf.l0 k s l1[b] (l1[b].length : Int) (i : Int) l0 l1) T := by
      refine down ?_ ?_
      · intro s
        refine ⟨s, Ev.step (fun k => ?_) (Ev.now _), Ev.step (fun k => ?_) (Ev.now _)⟩
        · rw [spec_l1Tree.l0, if_pos (by omega), if_pos (by omega), rdBi l1 b hb, if_neg (by omega)]
        · rw [impl_treeOf.l0, if_neg (by omega)]
      · intro i hi ih s
        obtain ⟨hk, hx⟩ := h.kids b hb l1[b][i] (List.getElem_mem hi)
        have inner : ∀ j, j ≤ l1[b][i].f2.length → ∀ s : Int, ∃ T : Int, Ev (fun k => spec_l1Tree.l1 k (b : Int) s (i : Int) l1[b][i].f2 (j : Int) l0 l1) T ∧ Ev (fun k => impl_treeOf.l1 k s l1[b] (l1[b].length : Int) (i : Int) l1[b][i].f2 (l1[b][i].f2.length : Int) (j : Int) l0 l1) T := by
          refine down ?_ ?_
          · intro s
            obtain ⟨T, t1, t2⟩ := ih s
            refine ⟨T, Ev.step (fun k => ?_) t1, Ev.step (fun k => ?_) t2⟩
            · rw [spec_l1Tree.l1, if_neg (by omega), w64 (by omega) (by omega)]
              rfl
            · rw [impl_treeOf.l1, if_neg (by omega), w64 (by omega) (by omega)]
              rfl
          · intro j hj ih2 s
            obtain ⟨q0, q1⟩ := hx _ (List.getElem_mem hj)
            obtain ⟨t, u1, u2⟩ := kid _ q0 q1
            obtain ⟨T, t1, t2⟩ := ih2 (wrap64 (s + t))
            refine ⟨T, Ev.step (fun k => by rw [spec_l1Tree.l1, if_pos (by omega), if_pos (by omega), rdI _ j hj]) (Ev.bind u1 (Ev.congr (fun k => ?_) t1)), Ev.step (fun k => by rw [impl_treeOf.l1, if_pos (by omega), if_pos (by omega), if_pos (by omega), rdI _ j hj]) (Ev.bind u2 (Ev.congr (fun k => ?_) t2))⟩
            · rw [w64 (i := (j : Int) + 1) (by omega) (by omega)]
              rfl
            · rw [w64 (i := (j : Int) + 1) (by omega) (by omega)]
              rfl
        obtain ⟨T, t1, t2⟩ := inner 0 (Nat.zero_le _) s
        refine ⟨T, Ev.step (fun k => ?_) t1, Ev.step (fun k => ?_) t2⟩
        · rw [spec_l1Tree.l0, if_pos (by omega), if_pos (by omega), rdBi l1 b hb, if_pos (by omega), if_pos (by omega), rdAi _ i hi]
          rfl
        · rw [impl_treeOf.l0, if_pos (by omega), if_pos (by omega), if_pos (by omega), rdAi _ i hi]
          rfl
    obtain ⟨T, t1, t2⟩ := acts 0 (Nat.zero_le _) 1
    refine ⟨T, Ev.step (fun k => ?_) t1, Ev.step (fun k => ?_) t2⟩
    · rw [spec_l1Tree.f]
      rfl
    · rw [impl_treeOf.f, if_pos (by omega), if_pos (by omega), rdBi l1 b hb]
      rfl
/-- Is a program one? Both tell the same; if it is one, it is in form. -/
theorem ok_ev (l0 : List Int) (l1 : List (List S57)) (h : Small l0 l1) : ∃ R : Bool, Ev (fun k => spec_ProgOk.f k l0 l1) R ∧ Ev (fun k => impl_ProgOk.f k l0 l1) R ∧ (R = true → formB l0 l1 = true) := by
  have sf := specForm_ev l0 l1 h
  cases hf : formB l0 l1 with
  | true =>
    rw [hf] at sf
    have fm := form_of hf
    obtain ⟨T, t1, t2⟩ := tree_ev (l0 := l0) fm 4 0 (by have := fm.few; omega) (by have := fm.few; omega)
    refine ⟨decide (T ≤ 7), ?_, ?_, fun _ => rfl⟩
    · unfold spec_ProgOk.f
      exact Ev.bind sf (ev_pos rfl (Ev.bind t1 (Ev.now _)))
    · unfold formB at hf
      rw [Bool.and_eq_true, Bool.and_eq_true, Bool.and_eq_true, decide_eq_true_iff, decide_eq_true_iff] at hf
      obtain ⟨⟨h3, h4⟩, h5, h6⟩ := hf
      have an := allNums_ev l0 h.1
      have ou := outer_ev (l0.length : Int) (l1.length : Int) l1 0 (fun b hb x hx => ((h.2.2 b hb).2 x hx).1)
      rw [h5] at an
      rw [h6] at ou
      unfold impl_ProgOk.f
      exact ev_neg (by omega) (Ev.bind an (ev_pos rfl (ev_neg (by omega) (Ev.bind ou (ev_pos rfl (Ev.bind t2 (Ev.now _)))))))
  | false =>
    rw [hf] at sf
    refine ⟨false, ?_, ?_, fun q => by cases q⟩
    · unfold spec_ProgOk.f
      exact Ev.bind sf (ev_neg Bool.false_ne_true (Ev.now _))
    · have an := allNums_ev l0 h.1
      have ou := outer_ev (l0.length : Int) (l1.length : Int) l1 0 (fun b hb x hx => ((h.2.2 b hb).2 x hx).1)
      unfold impl_ProgOk.f
      by_cases c : l0.length > 3
      · exact ev_pos c (Ev.now _)
      refine ev_neg c (Ev.bind an ?_)
      cases h5 : l0.all (fun x => inB x 0 99) with
      | false => exact ev_neg Bool.false_ne_true (Ev.now _)
      | true =>
        refine ev_pos rfl ?_
        by_cases c2 : l1.length < 1 ∨ 4 < l1.length
        · exact ev_pos c2 (Ev.now _)
        refine ev_neg c2 (Ev.bind ou ?_)
        cases h6 : restB (l0.length : Int) (l1.length : Int) 0 l1 with
        | false => exact ev_neg Bool.false_ne_true (Ev.now _)
        | true =>
          exfalso
          unfold formB at hf
          rw [h5, h6, decide_eq_true (show l0.length ≤ 3 by omega), decide_eq_true (show 1 ≤ l1.length ∧ l1.length ≤ 4 by omega)] at hf
          cases hf
end Go.Proofs.Ytoeepmcaabmjkaa.PTree
namespace Go.Proofs.Ytoeepmcaabmjkaa.Pure
open Go.RowKit Go.Proofs.Ytoeepmcaabmjkaa.QSN Go.Proofs.YtoeepmcaabmjkaaW.PrintWords Go.Proofs.YtoeepmcaabmjkaaW.PrintLast Go.Proofs.Ytoeepmcaabmjkaa.PProg Go.Proofs.Ytoeepmcaabmjkaa.PTree
/-- Two that come to an end come to it together. -/
theorem ev_and {P Q : Nat → Prop} (h : ∃ K, ∀ k, K ≤ k → P k) (g : ∃ K, ∀ k, K ≤ k → Q k) : ∃ K, ∀ k, K ≤ k → P k ∧ Q k := by
  obtain ⟨K, h⟩ := h
  obtain ⟨L, g⟩ := g
  exact ⟨max K L, fun k hk => ⟨h k (by omega), g k (by omega)⟩⟩
def cellOf (n : Int) : S69 := ⟨n, 0, -1⟩
def firstTask : S66 := ⟨0, 0, -1, List.replicate 3 0, 0, 0, 0, 0, List.replicate 3 0, [], [], 0, 0⟩
theorem cells_at (l : List Int) (i : Nat) (hi : i < l.length) : (l.take i).map cellOf ++ [⟨rd l (i : Int), 0, -1⟩] = (l.take (i + 1)).map cellOf := by
  rw [List.take_succ_eq_append_getElem hi, List.map_append, rdI l i hi]
  rfl
theorem sysNew_agree (l0 : List Int) (l1 : List (List S57)) (h : Small l0 l1) :
    ∃ C T b, C.length ≤ 1048576 ∧ T.length ≤ 1 ∧ cnt66 T ≤ 100 ∧ Ev (fun k => spec_SysNew.f k l0 l1) (C, T, 0, [], b) ∧ Ev (fun k => impl_SysNew.f k l0 l1) (C, T, 0, [], b) := by
  obtain ⟨R, h1, h2, -⟩ := ok_ev l0 l1 h
  have hl := h.1
  cases R with
  | false =>
    refine ⟨[], [], false, Nat.zero_le _, Nat.zero_le _, by decide, ?_, ?_⟩
    · unfold spec_SysNew.f
      exact Ev.bind h1 (ev_neg Bool.false_ne_true (Ev.now _))
    · unfold impl_SysNew.f
      exact Ev.bind h2 (ev_neg Bool.false_ne_true (Ev.now _))
  | true =>
    refine ⟨l0.map cellOf, [firstTask], true, by rw [List.length_map]; omega, Nat.le_refl _, by decide, ?_, ?_⟩
    · have key : ∀ i, i ≤ l0.length → Ev (fun k => spec_SysNew.l0 k (i : Int) l0 l1 ((l0.take i).map cellOf) [firstTask] 0 []) (l0.map cellOf, [firstTask], 0, [], true) := by
        refine down ?_ ?_
        · refine Ev.step (fun k => by rw [spec_SysNew.l0, if_neg (by omega)]) ?_
          rw [List.take_length]
          exact Ev.now _
        · intro i hi ih
          refine Ev.step (fun k => ?_) ih
          rw [spec_SysNew.l0, if_pos (by omega), if_pos (by omega), if_pos (by rw [List.length_map, List.length_take]; omega), w64 (by omega) (by omega), cells_at l0 i hi]
          rfl
      unfold spec_SysNew.f
      refine Ev.bind h1 (ev_pos rfl ?_)
      exact Ev.congr (fun k => rfl) (key 0 (Nat.zero_le _))
    · have key : ∀ i, i ≤ l0.length → Ev (fun k => impl_SysNew.l0 k l0 (l0.length : Int) (i : Int) ((l0.take i).map cellOf) [firstTask] 0) (l0.map cellOf, [firstTask], 0, [], true) := by
        refine down ?_ ?_
        · refine Ev.step (fun k => by rw [impl_SysNew.l0, if_neg (by omega)]) ?_
          rw [List.take_length]
          exact Ev.now _
        · intro i hi ih
          refine Ev.step (fun k => ?_) ih
          rw [impl_SysNew.l0, if_pos (by omega), if_pos (by omega), if_pos (by omega), if_pos (by rw [List.length_map, List.length_take]; omega), w64 (by omega) (by omega), cells_at l0 i hi]
          rfl
      unfold impl_SysNew.f
      refine Ev.bind h2 (ev_pos rfl ?_)
      refine Ev.congr (fun k => ?_) (key 0 (Nat.zero_le _))
      unfold impl_newTask.f
      rw [if_pos (by omega)]
      rfl
theorem cntA_le (l : List S141) : cnt57 (l.map toA) ≤ 3 * szB l := by
  induction l with
  | nil => exact Nat.zero_le _
  | cons x l ih =>
    have e : cnt57 ((x :: l).map toA) = (2 + x.f1.length * 3 + x.f2.length * 1) + cnt57 (l.map toA) := by simp [cnt57, toA]
    have e2 : szB (x :: l) = 1 + (x.f1.length + x.f2.length) + szB l := by simp [szB, szA]; omega
    rw [e, e2]
    omega
theorem cntB_le (l : List (List S141)) : cnt54 (toB l) ≤ 3 * (l.map szB).sum := by
  induction l with
  | nil => exact Nat.zero_le _
  | cons x l ih =>
    have e : cnt54 (toB (x :: l)) = cnt57 (x.map toA) + cnt54 (toB l) := by simp [cnt54, toB]
    have e2 : ((x :: l).map szB).sum = szB x + (l.map szB).sum := by simp
    have := cntA_le x
    rw [e, e2]
    omega
theorem FnExactSysNew (x : S25) (hok : ok25 x) : laws_FnExactSysNew.Good x.f0 x.f1 := by
  unfold laws_FnExactSysNew.Good
  obtain ⟨h0, h1, h2⟩ := ok_lens hok
  have e1 := szProg_ev _ _ h0 h1 h2
  by_cases c : cut 1048576 (szP x.f0 x.f1) < 0
  · obtain ⟨k, hk⟩ := Ev.rounds e1
    exact .inl ⟨k, _, c, hk⟩
  · refine .inr ?_
    have c' : 0 ≤ cut 1048576 (szP x.f0 x.f1) := by omega
    obtain ⟨s0, s1, s2⟩ := small c'
    obtain ⟨s3, s4⟩ := toB_small s1 s2
    have hsz : szP x.f0 x.f1 ≤ 1048576 := by
      by_cases c2 : (1048576 : Int) - (szP x.f0 x.f1 : Int) < 0
      · rw [cut_lt c2] at c'; omega
      · omega
    have hcnt : cnt54 (toB x.f1) ≤ 3145728 := by
      have := cntB_le x.f1
      unfold szP at hsz
      omega
    obtain ⟨C, T, b, hC, hT, hcT, g1, g2⟩ := sysNew_agree x.f0 (toB x.f1) ⟨s0, s3, s4⟩
    have hk2 : laws_markProg.f x.f0 (toB x.f1) 1 = some (1 + (x.f0.length : Int) + (cnt54 (toB x.f1) : Int)) := by
      unfold laws_markProg.f
      rw [mkI_small x.f0.length 1 (by omega) (by omega), mkI_small _ _ (by omega) (by omega)]
    have e2 := toProg_ev _ _ s0 s1 s2
    obtain ⟨K, hK⟩ := ev_and e1 (ev_and e2 (ev_and g1 g2))
    obtain ⟨q1, q2, q3, q4⟩ := hK K (Nat.le_refl _)
    refine ⟨K, _, x.f0, toB x.f1, C, T, b, _, _, c', ?_, ?_, q1, q2, q3, hT, q4, ?_, eqProg_refl _ _ _, hk2, rfl, ?_⟩
    · omega
    · omega
    · unfold laws_eqSys.f
      simp [laws_eqCellS.f, laws_eqTaskS.f, laws_eqEntryS.f]
    · omega
end Go.Proofs.Ytoeepmcaabmjkaa.Pure
namespace Go.Proofs.Ytoeepmcaabmjkaa.Open
open Go.RowKit Go.Proofs.YtoeepmcaabmjkaaW.PrintWords
open Go.ChangeShapes Go.WideShapes
/-- Whatever cells read as data of type t hold some value of kind d, and of that value ok. -/
def Opens (P : Program) (t : TypeId) {α : Type} (d : Kd α) (ok : α → Prop) : Prop :=
  ∀ (H : Type) (enc : TypeId × Value → H) (W : World) (base : Nat) (spare : Nat → Bool) (held : Bool) (fuel : Nat) (cs : List Value) (x : DataW H × List MemPlace),
    DataW.trod enc P W base spare held fuel t cs = some x → ∃ a : α, d.K W a cs ∧ ok a
theorem opens_int {P : Program} {t : TypeId} {k : IntKind} (ht : P.underlying t = some (.int k)) : Opens P t (Kd.int k) (fun n => (Lit.int k n).wf = true) := by
  intro H enc W base spare held fuel cs x h
  obtain ⟨n, hcs, _, hw⟩ := DataW.trod_int ht h
  subst hcs
  exact ⟨n, rfl, hw⟩
theorem cells_get {w : World} {base : Nat} {a : Addr} {n : Nat} {cs : List Value} (h : w.cells? base a n = some cs) : cs.length = n ∧ ∀ (i : Nat) (u : Value), cs[i]? = some u → w.cell? (a.add i) = some u := by
  unfold World.cells? at h
  split at h
  · have hl := mapM_some_length h
    rw [List.length_range] at hl
    refine ⟨hl, fun i u hu => ?_⟩
    have hi : i < n := by
      have := (List.getElem?_eq_some_iff.1 hu).1
      omega
    have := mapM_some_get h i i (by rw [List.getElem?_range hi])
    rw [this, hu]
  · cases h
theorem opens_slice {P : Program} {t e : TypeId} {α : Type} {d : Kd α} {ok : α → Prop} (ht : P.underlying t = some (.slice e)) (hd : Opens P e d ok) (hsz : P.cellsOf e = d.sz) :
    Opens P t (Kd.slice e d) (fun l => l.length ≤ 9223372036854775807 ∧ ∀ a ∈ l, ok a) := by
  intro H enc W base spare held fuel cs x h
  rcases Go.Deep.open_slice ht h with ⟨rfl, rfl⟩ | ⟨a, len, cap, m, n, D, Pl, rfl, hb, hl, hm, hmm, rfl, hx⟩
  · exact ⟨[], ⟨none, 0, rfl, Nat.le_refl _, rfl, Nat.zero_le _, fun h => absurd h (Nat.lt_irrefl _)⟩, Nat.zero_le _, fun a ha => by cases ha⟩
  · have hlm : len ≤ m := by rw [hmm]; split <;> omega
    have key : ∀ i : Nat, i < len → ∃ a' : α, ∃ c : List Value, c.length = d.sz ∧ d.K W a' c ∧ ok a' ∧ ∀ j u, c[j]? = some u → W.cell? (a.add (i * d.sz + j)) = some u := by
      intro i hi
      obtain ⟨cs', h1, h2⟩ := hx i (by omega)
      obtain ⟨a', hk, hok⟩ := hd H enc W base spare held n cs' _ h2
      obtain ⟨g1, g2⟩ := cells_get h1
      refine ⟨a', cs', by rw [g1, hsz], hk, hok, fun j u hu => ?_⟩
      have := g2 j u hu
      rw [Go.Deep.add_add, hsz] at this
      exact this
    have main : ∀ q : Nat, q ≤ len → ∃ l : List α, l.length = q ∧ (∀ a ∈ l, ok a) ∧ ∀ (j : Nat) (p : α), l[j]? = some p → ∃ c : List Value, c.length = d.sz ∧ d.K W p c ∧ ∀ i u, c[i]? = some u → W.cell? (a.add (j * d.sz + i)) = some u := by
      intro q
      induction q with
      | zero => exact fun _ => ⟨[], rfl, (fun a ha => by cases ha), (fun j p hj => by simp at hj)⟩
      | succ q ih =>
        intro hq
        obtain ⟨l, hll, hok, hc⟩ := ih (by omega)
        obtain ⟨a', c, g1, g2, g3, g4⟩ := key q (by omega)
        refine ⟨l ++ [a'], by simp [hll], fun b hb => ?_, fun j p hj => ?_⟩
        · rcases List.mem_append.1 hb with hb | hb
          · exact hok b hb
          · rw [List.mem_singleton.1 hb]; exact g3
        · rcases Nat.lt_or_ge j l.length with hjl | hjl
          · rw [List.getElem?_append_left hjl] at hj
            exact hc j p hj
          · have hj' : j = l.length := by
              have := (List.getElem?_eq_some_iff.1 hj).1
              rw [List.length_append, List.length_singleton] at this
              omega
            subst hj'
            have : a' = p := by simpa using hj
            subst this
            rw [hll]
            exact ⟨c, g1, g2, g4⟩
    obtain ⟨l, hll, hok, hc⟩ := main len (Nat.le_refl _)
    subst hll
    have hmx : l.length ≤ 9223372036854775807 := by
      unfold maxLen at hm
      omega
    exact ⟨l, ⟨some a, cap, rfl, hl, rfl, hmx, fun _ => ⟨a, rfl, hc⟩⟩, hmx, hok⟩
/-- The same of the fields that stand from offset o on. -/
def OpensF (P : Program) (o : Nat) (fs : List Field) {α : Type} (d : Kd α) (ok : α → Prop) : Prop :=
  ∀ (H : Type) (enc : TypeId × Value → H) (W : World) (base : Nat) (spare : Nat → Bool) (held : Bool) (n : Nat) (cs : List Value),
    cs.length = d.sz → (∀ f ∈ fs, ∃ y, DataW.trod enc P W base spare held n f.type ((cs.drop (f.offset - o)).take (P.cellsOf f.type)) = some y) → ∃ a : α, d.K W a cs ∧ ok a
theorem opensF_one {P : Program} {o : Nat} {f : Field} {α : Type} {d : Kd α} {ok : α → Prop} (hd : Opens P f.type d ok) (ho : f.offset = o) (hsz : P.cellsOf f.type = d.sz) : OpensF P o [f] d ok := by
  intro H enc W base spare held n cs hl hf
  obtain ⟨y, hy⟩ := hf f (List.mem_singleton.2 rfl)
  rw [ho, Nat.sub_self, List.drop_zero, hsz, ← hl, List.take_length] at hy
  exact hd H enc W base spare held n cs y hy
theorem opensF_cons {P : Program} {o : Nat} {f : Field} {fs : List Field} {α β : Type} {d : Kd α} {d' : Kd β} {ok : α → Prop} {ok' : β → Prop} (hd : Opens P f.type d ok) (ho : f.offset = o) (hsz : P.cellsOf f.type = d.sz)
    (hr : OpensF P (o + d.sz) fs d' ok') (hfs : ∀ g ∈ fs, o + d.sz ≤ g.offset) : OpensF P o (f :: fs) (Kd.pair d d') (fun p => ok p.1 ∧ ok' p.2) := by
  intro H enc W base spare held n cs hl hf
  have hl' : cs.length = d.sz + d'.sz := hl
  obtain ⟨y, hy⟩ := hf f List.mem_cons_self
  rw [ho, Nat.sub_self, List.drop_zero, hsz] at hy
  obtain ⟨a, hk, hok⟩ := hd H enc W base spare held n _ y hy
  obtain ⟨b, hk', hok'⟩ := hr H enc W base spare held n (cs.drop d.sz) (by rw [List.length_drop]; omega) (fun g hg => by
    obtain ⟨z, hz⟩ := hf g (List.mem_cons_of_mem _ hg)
    refine ⟨z, ?_⟩
    have := hfs g hg
    rw [List.drop_drop, show d.sz + (g.offset - (o + d.sz)) = g.offset - o by omega]
    exact hz)
  exact ⟨(a, b), ⟨_, _, (List.take_append_drop _ _).symm, hk, hk'⟩, hok, hok'⟩
theorem opens_struct {P : Program} {t : TypeId} {fs : Array Field} {α β : Type} {d : Kd α} {ok : α → Prop} (f : β → α) (g : α → β) (hfg : ∀ a, f (g a) = a) (ht : P.underlying t = some (.struct fs)) (hd : OpensF P 0 fs.toList d ok) (hsz : P.cellsOf t = d.sz) :
    Opens P t (Kd.iso d f) (fun b => ok (f b)) := by
  intro H enc W base spare held fuel cs x h
  obtain ⟨xs, n, _, _, hl, hlen, hxs⟩ := DataW.trod_struct ht h
  obtain ⟨a, hk, hok⟩ := hd H enc W base spare held n cs (by rw [hl, hsz]) (fun q hq => by
    obtain ⟨i, hi⟩ := List.mem_iff_getElem?.1 hq
    have hi' : fs[i]? = some q := by rw [← hi, Array.getElem?_toList]
    have hlt : i < xs.length := by
      rw [hlen]
      exact (Array.getElem?_eq_some_iff.1 hi').1
    refine ⟨xs[i], ?_⟩
    have := hxs i q hi'
    rw [List.getElem?_eq_getElem hlt] at this
    simpa using this)
  exact ⟨g a, by show d.K W (f (g a)) cs; rw [hfg]; exact hk, by show ok (f (g a)); rw [hfg]; exact hok⟩
theorem opens_imp {P : Program} {t : TypeId} {α : Type} {d : Kd α} {ok ok' : α → Prop} (h : Opens P t d ok) (hi : ∀ a, ok a → ok' a) : Opens P t d ok' := by
  intro H enc W base spare held fuel cs x hx
  obtain ⟨a, hk, hok⟩ := h H enc W base spare held fuel cs x hx
  exact ⟨a, hk, hi a hok⟩
/-- An argument that is a struct. -/
theorem struct_arg {P : Program} {t : TypeId} {α : Type} {d : Kd α} {ok : α → Prop} (h : Opens P t d ok) {H : Type} {enc : TypeId × Value → H} {W : World} {base : Nat} {spare : Nat → Bool} {held : Bool} {cs : Array Value} {x : DataW H} {ps : List MemPlace}
    (hx : DataW.Trod enc P W base spare held t (.agg cs) x ps) : ∃ a : α, d.K W a cs.toList ∧ ok a := by
  obtain ⟨fuel, hf⟩ := hx
  exact h H enc W base spare held fuel _ _ hf
end Go.Proofs.Ytoeepmcaabmjkaa.Open
