/- The walk of FnExactSysAwait: on the way on which all that it compares is equal it tells true. Written by wip/tools/genexact.py. -/
import Derived.Test.YtpodhdpkdhcnoaaQSCx14
import Derived.Test.YtpodhdpkdhcnoaaQSCx15
import Derived.Test.YtpodhdpkdhcnoaaQSCx16
import Derived.Test.YtpodhdpkdhcnoaaQSCx17
import Derived.Test.YtpodhdpkdhcnoaaQSCx18
import Derived.Test.YtpodhdpkdhcnoaaQSCx2
import Derived.Test.YtpodhdpkdhcnoaaQSCx5
set_option linter.unusedVariables false
set_option linter.unusedSimpArgs false
namespace Go.Proofs.Ytpodhdpkdhcnoaa.QSC
open Go.RowKit Go.Proofs.YtpodhdpkdhcnoaaW.PrintWords Go.Proofs.YtpodhdpkdhcnoaaW.PrintLast Go.Proofs.YtpodhdpkdhcnoaaW.PrintMore
set_option maxHeartbeats 8000000 in
set_option maxRecDepth 100000 in
theorem laws_FnExactSysAwait.main (k : Nat) (A0_0 : Option Addr) (c0_0 : Nat) (l0_0 : List S102) (A0_1 : Option Addr) (c0_1 : Nat) (l0_1 : List S100) (a0_2 : Int) (A0_3 : Option Addr) (c0_3 : Nat) (l0_3 : List S76) (z : Int) (X : List S63) (Y : List S72) (Z : List S78) (R R' : List Int) (k2 m : Int) (w : World) (hr0_0 : Kd.C k102 w A0_0 l0_0.length l0_0) (hc0_0 : l0_0.length ≤ c0_0) (hr0_1 : Kd.C k100 w A0_1 l0_1.length l0_1) (hc0_1 : l0_1.length ≤ c0_1) (hr0_3 : Kd.C k76 w A0_3 l0_3.length l0_3) (hc0_3 : l0_3.length ≤ c0_3) (ht1 : 0 ≤ z) (ht2 : 0 ≤ k2) (ht3 : 0 ≤ m) (h_1 : laws_szSys.f k l0_0 l0_1 a0_2 l0_3 1048576 = some z) (h_2 : laws_toSys.f k l0_0 l0_1 a0_2 l0_3 = some (X, Y, a0_2, Z)) (h_3 : spec_SysAwait.f k X Y a0_2 Z = some R) (h_4 : impl_SysAwait.f k X Y a0_2 Z = some R) (h_5 : laws_eqIntS.f k R R = some true) (h_6 : laws_eqSys.f k X Y a0_2 Z X Y a0_2 Z = some true) (h_7 : laws_markSys.f X Y a0_2 Z 1 = some k2) (h_8 : laws_markIntS.f k R 1 = some (m, R')) (h_9 : laws_heldIntS.f k R' 1 = some m) :
    Calls Try.prog 6 #[.agg #[.slice A0_0 l0_0.length c0_0, .slice A0_1 l0_1.length c0_1, .int .i64 a0_2, .slice A0_3 l0_3.length c0_3]] w fun e w' => e = .returned (.bool true) ∧ Below w.heap.size w w' := by
  have HR0_0 := Aside0.mk hr0_0
  have HC0_0 := Aside0.mk hc0_0
  clear hr0_0 hc0_0
  have HR0_1 := Aside0.mk hr0_1
  have HC0_1 := Aside0.mk hc0_1
  clear hr0_1 hc0_1
  have HR0_3 := Aside0.mk hr0_3
  have HC0_3 := Aside0.mk hc0_3
  clear hr0_3 hc0_3
  have HB := Aside0.mk (Below.refl w.heap.size w)
  have H_1 := Aside0.mk h_1
  clear h_1
  have H_2 := Aside0.mk h_2
  clear h_2
  have H_3 := Aside0.mk h_3
  clear h_3
  have H_4 := Aside0.mk h_4
  clear h_4
  have H_5 := Aside0.mk h_5
  clear h_5
  have H_6 := Aside0.mk h_6
  clear h_6
  have H_7 := Aside0.mk h_7
  clear h_7
  have H_8 := Aside0.mk h_8
  clear h_8
  have H_9 := Aside0.mk h_9
  clear h_9
  have hu26 := Try.underlying26
  go_enter Try.func6, Try.ntmps6
  have hu34 := Try.underlying34
  go_wp2_with fail
  refine (laws_szSys.calls k _ _ l0_0 _ _ l0_1 a0_2 _ _ l0_3 1048576 z _ (by (with_reducible repeat (first | exact (Kd.C_below HR0_0.out HB.out) | apply Kd.C_alloc | apply Kd.C_drewN | apply Kd.C_drew))) HC0_0.out (by (with_reducible repeat (first | exact (Kd.C_below HR0_1.out HB.out) | apply Kd.C_alloc | apply Kd.C_drewN | apply Kd.C_drew))) HC0_1.out (by (with_reducible repeat (first | exact (Kd.C_below HR0_3.out HB.out) | apply Kd.C_alloc | apply Kd.C_drewN | apply Kd.C_drew))) HC0_3.out H_1.out).mono ?_
  rintro e w1 ⟨rfl, hp1_⟩
  have HSn := Aside0.mk (show w.heap.size ≤ w1.heap.size by have h_ := hp1_.size; first | exact h_ | (simp at h_; omega))
  have n_ := Aside0.mk ((hp1_.block _ (blk_lt (heap_alloc_new w (.cells #[.slice A0_0 l0_0.length c0_0, .slice A0_1 l0_1.length c0_1, .int .i64 a0_2, .slice A0_3 l0_3.length c0_3] 26)))).trans (heap_alloc_new w (.cells #[.slice A0_0 l0_0.length c0_0, .slice A0_1 l0_1.length c0_1, .int .i64 a0_2, .slice A0_3 l0_3.length c0_3] 26)))
  have HX2 := n_
  clear n_
  have HTHX2 := Aside0.mk (blk_lt HX2.out)
  have xHX2_0 : w1.cell? ⟨w.heap.size, 0, none⟩ = some (.slice A0_0 l0_0.length c0_0) := (blk_cell HX2.out 0).trans rfl
  have xHX2_1 : w1.cell? ⟨w.heap.size, 1, none⟩ = some (.slice A0_1 l0_1.length c0_1) := (blk_cell HX2.out 1).trans rfl
  have xHX2_2 : w1.cell? ⟨w.heap.size, 2, none⟩ = some (.int .i64 a0_2) := (blk_cell HX2.out 2).trans rfl
  have xHX2_3 : w1.cell? ⟨w.heap.size, 3, none⟩ = some (.slice A0_3 l0_3.length c0_3) := (blk_cell HX2.out 3).trans rfl
  replace HB := Aside0.mk (show Below w.heap.size w w1 from below_then (by repeat (first | (with_reducible first | exact HB.out | apply below_alloc | apply pw_below_drewN | apply below_drew1) | exact HB.out)) (show Below w.heap.size w _ from (by repeat (first | (with_reducible first | exact HB.out | apply below_alloc | apply pw_below_drewN | apply below_drew1) | exact HB.out))).size hp1_)
  clear hp1_
  have HS1 := HSn
  clear HSn
  have t1b := decide_eq_false (show ¬ (z < 0) by omega)
  have t1p := eq_false (show ¬ (z < 0) by omega)
  go_wp2_with fail
  refine (laws_toSys.calls k _ _ l0_0 _ _ l0_1 a0_2 _ _ l0_3 X Y a0_2 Z _ (by (with_reducible repeat (first | exact (Kd.C_below HR0_0.out HB.out) | apply Kd.C_alloc | apply Kd.C_drewN | apply Kd.C_drew))) HC0_0.out (by (with_reducible repeat (first | exact (Kd.C_below HR0_1.out HB.out) | apply Kd.C_alloc | apply Kd.C_drewN | apply Kd.C_drew))) HC0_1.out (by (with_reducible repeat (first | exact (Kd.C_below HR0_3.out HB.out) | apply Kd.C_alloc | apply Kd.C_drewN | apply Kd.C_drew))) HC0_3.out H_2.out).mono ?_
  rintro e w2 ⟨v0_, v1_, v3_, rfl, hp1_, hp2_, hp3_, hp4_⟩
  have HSn := Aside0.mk (show w1.heap.size ≤ w2.heap.size by have h_ := hp4_.size; first | exact h_ | (simp at h_; omega))
  replace HX2 := Aside0.mk ((hp4_.block _ (blk_lt (by (with_reducible repeat (first | exact HX2.out | apply blk_alloc | apply blk_drewN | apply blk_drew))))).trans (by (with_reducible repeat (first | exact HX2.out | apply blk_alloc | apply blk_drewN | apply blk_drew))))
  replace xHX2_0 : w2.cell? ⟨w.heap.size, 0, none⟩ = some (.slice A0_0 l0_0.length c0_0) := (blk_cell HX2.out 0).trans rfl
  replace xHX2_1 : w2.cell? ⟨w.heap.size, 1, none⟩ = some (.slice A0_1 l0_1.length c0_1) := (blk_cell HX2.out 1).trans rfl
  replace xHX2_2 : w2.cell? ⟨w.heap.size, 2, none⟩ = some (.int .i64 a0_2) := (blk_cell HX2.out 2).trans rfl
  replace xHX2_3 : w2.cell? ⟨w.heap.size, 3, none⟩ = some (.slice A0_3 l0_3.length c0_3) := (blk_cell HX2.out 3).trans rfl
  replace HB := Aside0.mk (show Below w.heap.size w w2 from below_then (by repeat (first | (with_reducible first | exact HB.out | apply below_alloc | apply pw_below_drewN | apply below_drew1) | exact HB.out)) (show Below w.heap.size w _ from (by repeat (first | (with_reducible first | exact HB.out | apply below_alloc | apply pw_below_drewN | apply below_drew1) | exact HB.out))).size hp4_)
  have HF4 := Aside0.mk (show Kd.R k63 63 w2 w1.heap.size (fun k_ => w1.heap.size ≤ k_ ∧ k_ < w2.heap.size) v0_ X from Kd.R_lower (Kd.R_mono (Kd.R_bound hp1_) (fun k_ hk => ⟨by have h_ := hk.2.1; first | exact h_ | (simp at h_; omega), hk.2.2.1⟩)) (by first | exact Nat.le_refl _ | (simp; done)))
  obtain ⟨A_5, c_5, e_5⟩ := Kd.R_slice HF4.out
  subst e_5
  have HF6 := Aside0.mk (show Kd.R k72 72 w2 w1.heap.size (fun k_ => w1.heap.size ≤ k_ ∧ k_ < w2.heap.size) v1_ Y from Kd.R_lower (Kd.R_mono (Kd.R_bound (Kd.S_R hp2_)) (fun k_ hk => ⟨by have h_ := hk.2.1; first | exact h_ | (simp at h_; omega), hk.2.2.1⟩)) (by first | exact Nat.le_refl _ | (simp; done)))
  obtain ⟨A_7, c_7, e_7⟩ := Kd.R_slice HF6.out
  subst e_7
  have HF8 := Aside0.mk (show Kd.R k78 78 w2 w1.heap.size (fun k_ => w1.heap.size ≤ k_ ∧ k_ < w2.heap.size) v3_ Z from Kd.R_lower (Kd.R_mono (Kd.R_bound (Kd.S_R hp3_)) (fun k_ hk => ⟨by have h_ := hk.2.1; first | exact h_ | (simp at h_; omega), hk.2.2.1⟩)) (by first | exact Nat.le_refl _ | (simp; done)))
  obtain ⟨A_9, c_9, e_9⟩ := Kd.R_slice HF8.out
  subst e_9
  clear hp3_ hp1_ hp2_ hp4_
  have HS2 := HSn
  clear HSn
  go_wp2_with fail
  refine (spec_SysAwait.calls k _ _ X _ _ Y a0_2 _ _ Z R _ (by (with_reducible repeat (first | exact (Kd.R_reads' HF4.out).2.2 | apply Kd.C_alloc | apply Kd.C_drewN | apply Kd.C_drew))) (Kd.R_reads' HF4.out).2.1 (by (with_reducible repeat (first | exact (Kd.R_reads' HF6.out).2.2 | apply Kd.C_alloc | apply Kd.C_drewN | apply Kd.C_drew))) (Kd.R_reads' HF6.out).2.1 (by (with_reducible repeat (first | exact (Kd.R_reads' HF8.out).2.2 | apply Kd.C_alloc | apply Kd.C_drewN | apply Kd.C_drew))) (Kd.R_reads' HF8.out).2.1 H_3.out).mono ?_
  rintro e w3 ⟨v0_, rfl, hp1_, hp2_⟩
  have HSn := Aside0.mk (show w2.heap.size ≤ w3.heap.size by have h_ := hp2_.size; first | exact h_ | (simp at h_; omega))
  replace HF4 := Aside0.mk (Kd.R_below (by (with_reducible repeat (first | exact HF4.out | apply Kd.R_alloc | apply Kd.R_drewN | apply Kd.R_drew))) hp2_)
  replace HF6 := Aside0.mk (Kd.R_below (by (with_reducible repeat (first | exact HF6.out | apply Kd.R_alloc | apply Kd.R_drewN | apply Kd.R_drew))) hp2_)
  replace HF8 := Aside0.mk (Kd.R_below (by (with_reducible repeat (first | exact HF8.out | apply Kd.R_alloc | apply Kd.R_drewN | apply Kd.R_drew))) hp2_)
  replace HX2 := Aside0.mk ((hp2_.block _ (blk_lt (by (with_reducible repeat (first | exact HX2.out | apply blk_alloc | apply blk_drewN | apply blk_drew))))).trans (by (with_reducible repeat (first | exact HX2.out | apply blk_alloc | apply blk_drewN | apply blk_drew))))
  replace xHX2_0 : w3.cell? ⟨w.heap.size, 0, none⟩ = some (.slice A0_0 l0_0.length c0_0) := (blk_cell HX2.out 0).trans rfl
  replace xHX2_1 : w3.cell? ⟨w.heap.size, 1, none⟩ = some (.slice A0_1 l0_1.length c0_1) := (blk_cell HX2.out 1).trans rfl
  replace xHX2_2 : w3.cell? ⟨w.heap.size, 2, none⟩ = some (.int .i64 a0_2) := (blk_cell HX2.out 2).trans rfl
  replace xHX2_3 : w3.cell? ⟨w.heap.size, 3, none⟩ = some (.slice A0_3 l0_3.length c0_3) := (blk_cell HX2.out 3).trans rfl
  replace HB := Aside0.mk (show Below w.heap.size w w3 from below_then (by repeat (first | (with_reducible first | exact HB.out | apply below_alloc | apply pw_below_drewN | apply below_drew1) | exact HB.out)) (show Below w.heap.size w _ from (by repeat (first | (with_reducible first | exact HB.out | apply below_alloc | apply pw_below_drewN | apply below_drew1) | exact HB.out))).size hp2_)
  have HF11 := Aside0.mk (show Kd.R (Kd.int .i64) 3 w3 w2.heap.size (fun k_ => w2.heap.size ≤ k_ ∧ k_ < w3.heap.size) v0_ R from Kd.R_lower (Kd.R_mono (Kd.R_bound hp1_) (fun k_ hk => ⟨by have h_ := hk.2.1; first | exact h_ | (simp at h_; omega), hk.2.2.1⟩)) (by first | exact Nat.le_refl _ | (simp; done)))
  obtain ⟨A_12, c_12, e_12⟩ := Kd.R_slice HF11.out
  subst e_12
  clear hp1_ hp2_
  have HS3 := HSn
  clear HSn
  clear HF4
  clear HF6
  clear HF8
  go_wp2_with fail
  refine (laws_toSys.calls k _ _ l0_0 _ _ l0_1 a0_2 _ _ l0_3 X Y a0_2 Z _ (by (with_reducible repeat (first | exact (Kd.C_below HR0_0.out HB.out) | apply Kd.C_alloc | apply Kd.C_drewN | apply Kd.C_drew))) HC0_0.out (by (with_reducible repeat (first | exact (Kd.C_below HR0_1.out HB.out) | apply Kd.C_alloc | apply Kd.C_drewN | apply Kd.C_drew))) HC0_1.out (by (with_reducible repeat (first | exact (Kd.C_below HR0_3.out HB.out) | apply Kd.C_alloc | apply Kd.C_drewN | apply Kd.C_drew))) HC0_3.out H_2.out).mono ?_
  rintro e w4 ⟨v0_, v1_, v3_, rfl, hp1_, hp2_, hp3_, hp4_⟩
  have HSn := Aside0.mk (show w3.heap.size ≤ w4.heap.size by have h_ := hp4_.size; first | exact h_ | (simp at h_; omega))
  replace HF11 := Aside0.mk (Kd.R_below (by (with_reducible repeat (first | exact HF11.out | apply Kd.R_alloc | apply Kd.R_drewN | apply Kd.R_drew))) hp4_)
  replace HX2 := Aside0.mk ((hp4_.block _ (blk_lt (by (with_reducible repeat (first | exact HX2.out | apply blk_alloc | apply blk_drewN | apply blk_drew))))).trans (by (with_reducible repeat (first | exact HX2.out | apply blk_alloc | apply blk_drewN | apply blk_drew))))
  replace xHX2_0 : w4.cell? ⟨w.heap.size, 0, none⟩ = some (.slice A0_0 l0_0.length c0_0) := (blk_cell HX2.out 0).trans rfl
  replace xHX2_1 : w4.cell? ⟨w.heap.size, 1, none⟩ = some (.slice A0_1 l0_1.length c0_1) := (blk_cell HX2.out 1).trans rfl
  replace xHX2_2 : w4.cell? ⟨w.heap.size, 2, none⟩ = some (.int .i64 a0_2) := (blk_cell HX2.out 2).trans rfl
  replace xHX2_3 : w4.cell? ⟨w.heap.size, 3, none⟩ = some (.slice A0_3 l0_3.length c0_3) := (blk_cell HX2.out 3).trans rfl
  replace HB := Aside0.mk (show Below w.heap.size w w4 from below_then (by repeat (first | (with_reducible first | exact HB.out | apply below_alloc | apply pw_below_drewN | apply below_drew1) | exact HB.out)) (show Below w.heap.size w _ from (by repeat (first | (with_reducible first | exact HB.out | apply below_alloc | apply pw_below_drewN | apply below_drew1) | exact HB.out))).size hp4_)
  have HF14 := Aside0.mk (show Kd.R k63 63 w4 w3.heap.size (fun k_ => w3.heap.size ≤ k_ ∧ k_ < w4.heap.size) v0_ X from Kd.R_lower (Kd.R_mono (Kd.R_bound hp1_) (fun k_ hk => ⟨by have h_ := hk.2.1; first | exact h_ | (simp at h_; omega), hk.2.2.1⟩)) (by first | exact Nat.le_refl _ | (simp; done)))
  obtain ⟨A_15, c_15, e_15⟩ := Kd.R_slice HF14.out
  subst e_15
  have HF16 := Aside0.mk (show Kd.R k72 72 w4 w3.heap.size (fun k_ => w3.heap.size ≤ k_ ∧ k_ < w4.heap.size) v1_ Y from Kd.R_lower (Kd.R_mono (Kd.R_bound (Kd.S_R hp2_)) (fun k_ hk => ⟨by have h_ := hk.2.1; first | exact h_ | (simp at h_; omega), hk.2.2.1⟩)) (by first | exact Nat.le_refl _ | (simp; done)))
  obtain ⟨A_17, c_17, e_17⟩ := Kd.R_slice HF16.out
  subst e_17
  have HF18 := Aside0.mk (show Kd.R k78 78 w4 w3.heap.size (fun k_ => w3.heap.size ≤ k_ ∧ k_ < w4.heap.size) v3_ Z from Kd.R_lower (Kd.R_mono (Kd.R_bound (Kd.S_R hp3_)) (fun k_ hk => ⟨by have h_ := hk.2.1; first | exact h_ | (simp at h_; omega), hk.2.2.1⟩)) (by first | exact Nat.le_refl _ | (simp; done)))
  obtain ⟨A_19, c_19, e_19⟩ := Kd.R_slice HF18.out
  subst e_19
  clear hp3_ hp1_ hp2_ hp4_
  have HS4 := HSn
  clear HSn
  go_wp2_with fail
  refine (impl_SysAwait.calls k _ _ X _ _ Y a0_2 _ _ Z R _ (by (with_reducible repeat (first | exact (Kd.R_reads' HF14.out).2.2 | apply Kd.C_alloc | apply Kd.C_drewN | apply Kd.C_drew))) (Kd.R_reads' HF14.out).2.1 (by (with_reducible repeat (first | exact (Kd.R_reads' HF16.out).2.2 | apply Kd.C_alloc | apply Kd.C_drewN | apply Kd.C_drew))) (Kd.R_reads' HF16.out).2.1 (by (with_reducible repeat (first | exact (Kd.R_reads' HF18.out).2.2 | apply Kd.C_alloc | apply Kd.C_drewN | apply Kd.C_drew))) (Kd.R_reads' HF18.out).2.1 H_4.out).mono ?_
  rintro e w5 ⟨v0_, rfl, hp1_, hp2_⟩
  have HSn := Aside0.mk (show w4.heap.size ≤ w5.heap.size by have h_ := hp2_.size; first | exact h_ | (simp at h_; omega))
  replace HF11 := Aside0.mk (Kd.R_below (by (with_reducible repeat (first | exact HF11.out | apply Kd.R_alloc | apply Kd.R_drewN | apply Kd.R_drew))) hp2_)
  replace HF14 := Aside0.mk (Kd.R_below (by (with_reducible repeat (first | exact HF14.out | apply Kd.R_alloc | apply Kd.R_drewN | apply Kd.R_drew))) hp2_)
  replace HF16 := Aside0.mk (Kd.R_below (by (with_reducible repeat (first | exact HF16.out | apply Kd.R_alloc | apply Kd.R_drewN | apply Kd.R_drew))) hp2_)
  replace HF18 := Aside0.mk (Kd.R_below (by (with_reducible repeat (first | exact HF18.out | apply Kd.R_alloc | apply Kd.R_drewN | apply Kd.R_drew))) hp2_)
  replace HX2 := Aside0.mk ((hp2_.block _ (blk_lt (by (with_reducible repeat (first | exact HX2.out | apply blk_alloc | apply blk_drewN | apply blk_drew))))).trans (by (with_reducible repeat (first | exact HX2.out | apply blk_alloc | apply blk_drewN | apply blk_drew))))
  replace xHX2_0 : w5.cell? ⟨w.heap.size, 0, none⟩ = some (.slice A0_0 l0_0.length c0_0) := (blk_cell HX2.out 0).trans rfl
  replace xHX2_1 : w5.cell? ⟨w.heap.size, 1, none⟩ = some (.slice A0_1 l0_1.length c0_1) := (blk_cell HX2.out 1).trans rfl
  replace xHX2_2 : w5.cell? ⟨w.heap.size, 2, none⟩ = some (.int .i64 a0_2) := (blk_cell HX2.out 2).trans rfl
  replace xHX2_3 : w5.cell? ⟨w.heap.size, 3, none⟩ = some (.slice A0_3 l0_3.length c0_3) := (blk_cell HX2.out 3).trans rfl
  have n_ := Aside0.mk ((hp2_.block _ (blk_lt (heap_alloc_new w4 (.cells #[.slice A_15 X.length c_15, .slice A_17 Y.length c_17, .int .i64 a0_2, .slice A_19 Z.length c_19] 34)))).trans (heap_alloc_new w4 (.cells #[.slice A_15 X.length c_15, .slice A_17 Y.length c_17, .int .i64 a0_2, .slice A_19 Z.length c_19] 34)))
  have HX21 := n_
  clear n_
  have HTHX21 := Aside0.mk (blk_lt HX21.out)
  have xHX21_0 : w5.cell? ⟨w4.heap.size, 0, none⟩ = some (.slice A_15 X.length c_15) := (blk_cell HX21.out 0).trans rfl
  have xHX21_1 : w5.cell? ⟨w4.heap.size, 1, none⟩ = some (.slice A_17 Y.length c_17) := (blk_cell HX21.out 1).trans rfl
  have xHX21_2 : w5.cell? ⟨w4.heap.size, 2, none⟩ = some (.int .i64 a0_2) := (blk_cell HX21.out 2).trans rfl
  have xHX21_3 : w5.cell? ⟨w4.heap.size, 3, none⟩ = some (.slice A_19 Z.length c_19) := (blk_cell HX21.out 3).trans rfl
  replace HB := Aside0.mk (show Below w.heap.size w w5 from below_then (by repeat (first | (with_reducible first | exact HB.out | apply below_alloc | apply pw_below_drewN | apply below_drew1) | exact HB.out)) (show Below w.heap.size w _ from (by repeat (first | (with_reducible first | exact HB.out | apply below_alloc | apply pw_below_drewN | apply below_drew1) | exact HB.out))).size hp2_)
  have HF22 := Aside0.mk (show Kd.R (Kd.int .i64) 3 w5 w4.heap.size (fun k_ => w4.heap.size + 1 ≤ k_ ∧ k_ < w5.heap.size) v0_ R from Kd.R_lower (Kd.R_mono (Kd.R_bound hp1_) (fun k_ hk => ⟨by have h_ := hk.2.1; first | exact h_ | (simp at h_; omega), hk.2.2.1⟩)) (by first | exact Nat.le_refl _ | (simp; done)))
  obtain ⟨A_23, c_23, e_23⟩ := Kd.R_slice HF22.out
  subst e_23
  clear hp1_ hp2_
  have HS5 := HSn
  clear HSn
  go_wp2_with fail
  refine (laws_eqIntS.calls k _ _ R _ _ R true _ (by (with_reducible repeat (first | exact (Kd.R_reads' HF22.out).2.2 | apply Kd.C_alloc | apply Kd.C_drewN | apply Kd.C_drew))) (Kd.R_reads' HF22.out).2.1 (by (with_reducible repeat (first | exact (Kd.R_reads' HF11.out).2.2 | apply Kd.C_alloc | apply Kd.C_drewN | apply Kd.C_drew))) (Kd.R_reads' HF11.out).2.1 H_5.out).mono ?_
  rintro e w6 ⟨rfl, hp1_⟩
  have hb_ := hp1_.below
  clear hp1_
  have HSn := Aside0.mk (show w5.heap.size ≤ w6.heap.size by have h_ := hb_.size; first | exact h_ | (simp at h_; omega))
  replace HF11 := Aside0.mk (Kd.R_below (by (with_reducible repeat (first | exact HF11.out | apply Kd.R_alloc | apply Kd.R_drewN | apply Kd.R_drew))) hb_)
  replace HF14 := Aside0.mk (Kd.R_below (by (with_reducible repeat (first | exact HF14.out | apply Kd.R_alloc | apply Kd.R_drewN | apply Kd.R_drew))) hb_)
  replace HF16 := Aside0.mk (Kd.R_below (by (with_reducible repeat (first | exact HF16.out | apply Kd.R_alloc | apply Kd.R_drewN | apply Kd.R_drew))) hb_)
  replace HF18 := Aside0.mk (Kd.R_below (by (with_reducible repeat (first | exact HF18.out | apply Kd.R_alloc | apply Kd.R_drewN | apply Kd.R_drew))) hb_)
  replace HF22 := Aside0.mk (Kd.R_below (by (with_reducible repeat (first | exact HF22.out | apply Kd.R_alloc | apply Kd.R_drewN | apply Kd.R_drew))) hb_)
  replace HX2 := Aside0.mk ((hb_.block _ (blk_lt (by (with_reducible repeat (first | exact HX2.out | apply blk_alloc | apply blk_drewN | apply blk_drew))))).trans (by (with_reducible repeat (first | exact HX2.out | apply blk_alloc | apply blk_drewN | apply blk_drew))))
  replace xHX2_0 : w6.cell? ⟨w.heap.size, 0, none⟩ = some (.slice A0_0 l0_0.length c0_0) := (blk_cell HX2.out 0).trans rfl
  replace xHX2_1 : w6.cell? ⟨w.heap.size, 1, none⟩ = some (.slice A0_1 l0_1.length c0_1) := (blk_cell HX2.out 1).trans rfl
  replace xHX2_2 : w6.cell? ⟨w.heap.size, 2, none⟩ = some (.int .i64 a0_2) := (blk_cell HX2.out 2).trans rfl
  replace xHX2_3 : w6.cell? ⟨w.heap.size, 3, none⟩ = some (.slice A0_3 l0_3.length c0_3) := (blk_cell HX2.out 3).trans rfl
  replace HX21 := Aside0.mk ((hb_.block _ (blk_lt (by (with_reducible repeat (first | exact HX21.out | apply blk_alloc | apply blk_drewN | apply blk_drew))))).trans (by (with_reducible repeat (first | exact HX21.out | apply blk_alloc | apply blk_drewN | apply blk_drew))))
  replace xHX21_0 : w6.cell? ⟨w4.heap.size, 0, none⟩ = some (.slice A_15 X.length c_15) := (blk_cell HX21.out 0).trans rfl
  replace xHX21_1 : w6.cell? ⟨w4.heap.size, 1, none⟩ = some (.slice A_17 Y.length c_17) := (blk_cell HX21.out 1).trans rfl
  replace xHX21_2 : w6.cell? ⟨w4.heap.size, 2, none⟩ = some (.int .i64 a0_2) := (blk_cell HX21.out 2).trans rfl
  replace xHX21_3 : w6.cell? ⟨w4.heap.size, 3, none⟩ = some (.slice A_19 Z.length c_19) := (blk_cell HX21.out 3).trans rfl
  replace HB := Aside0.mk (show Below w.heap.size w w6 from below_then (by repeat (first | (with_reducible first | exact HB.out | apply below_alloc | apply pw_below_drewN | apply below_drew1) | exact HB.out)) (show Below w.heap.size w _ from (by repeat (first | (with_reducible first | exact HB.out | apply below_alloc | apply pw_below_drewN | apply below_drew1) | exact HB.out))).size hb_)
  clear  hb_
  have HS6 := HSn
  clear HSn
  go_upto_region 10 with (fail)
  go_cut [31] (fun v_ wc => v_ = .bool false ∧ Aside0 (Below w6.heap.size w6 wc))
  case first =>
    go_region_with (first | (go_at_call 12; refine (laws_toSys.calls k _ _ l0_0 _ _ l0_1 a0_2 _ _ l0_3 X Y a0_2 Z _ (by (with_reducible repeat (first | exact (Kd.C_below HR0_0.out HB.out) | apply Kd.C_alloc | apply Kd.C_drewN | apply Kd.C_drew))) HC0_0.out (by (with_reducible repeat (first | exact (Kd.C_below HR0_1.out HB.out) | apply Kd.C_alloc | apply Kd.C_drewN | apply Kd.C_drew))) HC0_1.out (by (with_reducible repeat (first | exact (Kd.C_below HR0_3.out HB.out) | apply Kd.C_alloc | apply Kd.C_drewN | apply Kd.C_drew))) HC0_3.out H_2.out).mono ?_; rintro e wq ⟨v0_, v1_, v3_, rfl, hp0_, hp1_, hp3_, hq_⟩; obtain ⟨Aq0, cq0, eq0⟩ := Kd.R_slice hp0_; subst eq0; obtain ⟨Aq1, cq1, eq1⟩ := Kd.R_slice (Kd.S_R hp1_); subst eq1; obtain ⟨Aq3, cq3, eq3⟩ := Kd.R_slice (Kd.S_R hp3_); subst eq3; have HQ0 := Aside0.mk (Kd.R_reads' hp0_); have HQ1 := Aside0.mk (Kd.R_reads' (Kd.S_R hp1_)); have HQ3 := Aside0.mk (Kd.R_reads' (Kd.S_R hp3_)); clear hp0_ hp1_ hp3_; have HQB := Aside0.mk hq_; clear hq_; have HQX := Aside0.mk ((HQB.out.block _ (blk_lt HX21.out)).trans HX21.out); have xq0_ : wq.cell? ⟨w4.heap.size, 0, none⟩ = some (.slice A_15 X.length c_15) := (blk_cell HQX.out 0).trans rfl; have xq1_ : wq.cell? ⟨w4.heap.size, 1, none⟩ = some (.slice A_17 Y.length c_17) := (blk_cell HQX.out 1).trans rfl; have xq2_ : wq.cell? ⟨w4.heap.size, 2, none⟩ = some (.int .i64 a0_2) := (blk_cell HQX.out 2).trans rfl; have xq3_ : wq.cell? ⟨w4.heap.size, 3, none⟩ = some (.slice A_19 Z.length c_19) := (blk_cell HQX.out 3).trans rfl) | (go_at_call 15; refine (laws_eqSys.calls k _ _ X _ _ Y a0_2 _ _ Z _ _ X _ _ Y a0_2 _ _ Z true _ (by (with_reducible repeat (first | apply Kd.C_alloc | apply Kd.C_drewN | apply Kd.C_drew)); refine Kd.C_below ?_ HQB.out; (with_reducible repeat (first | exact (Kd.R_reads' HF14.out).2.2 | apply Kd.C_alloc | apply Kd.C_drewN | apply Kd.C_drew))) (Kd.R_reads' HF14.out).2.1 (by (with_reducible repeat (first | apply Kd.C_alloc | apply Kd.C_drewN | apply Kd.C_drew)); refine Kd.C_below ?_ HQB.out; (with_reducible repeat (first | exact (Kd.R_reads' HF16.out).2.2 | apply Kd.C_alloc | apply Kd.C_drewN | apply Kd.C_drew))) (Kd.R_reads' HF16.out).2.1 (by (with_reducible repeat (first | apply Kd.C_alloc | apply Kd.C_drewN | apply Kd.C_drew)); refine Kd.C_below ?_ HQB.out; (with_reducible repeat (first | exact (Kd.R_reads' HF18.out).2.2 | apply Kd.C_alloc | apply Kd.C_drewN | apply Kd.C_drew))) (Kd.R_reads' HF18.out).2.1 (by (with_reducible repeat (first | exact HQ0.out.2.2 | apply Kd.C_alloc | apply Kd.C_drewN | apply Kd.C_drew))) HQ0.out.2.1 (by (with_reducible repeat (first | exact HQ1.out.2.2 | apply Kd.C_alloc | apply Kd.C_drewN | apply Kd.C_drew))) HQ1.out.2.1 (by (with_reducible repeat (first | exact HQ3.out.2.2 | apply Kd.C_alloc | apply Kd.C_drewN | apply Kd.C_drew))) HQ3.out.2.1 H_6.out).mono ?_; rintro e wr ⟨rfl, hr_⟩; have HRB := Aside0.mk hr_; clear hr_))
    all_goals go_wp2_with fail
    all_goals go_meet
    all_goals exact ⟨rfl, ⟨below_step (below_step (show Below w6.heap.size w6 w6.drew from below_drew (Below.refl _ _)) HQB.out) HRB.out⟩⟩
  case rest =>
    obtain ⟨rfl, HC_⟩ := hcut
    have hb_ := HC_.out
    clear HC_
    have HSn := Aside0.mk (show w6.heap.size ≤ wc.heap.size by have h_ := hb_.size; first | exact h_ | (simp at h_; omega))
    replace HF11 := Aside0.mk (Kd.R_below (by (with_reducible repeat (first | exact HF11.out | apply Kd.R_alloc | apply Kd.R_drewN | apply Kd.R_drew))) hb_)
    replace HF14 := Aside0.mk (Kd.R_below (by (with_reducible repeat (first | exact HF14.out | apply Kd.R_alloc | apply Kd.R_drewN | apply Kd.R_drew))) hb_)
    replace HF16 := Aside0.mk (Kd.R_below (by (with_reducible repeat (first | exact HF16.out | apply Kd.R_alloc | apply Kd.R_drewN | apply Kd.R_drew))) hb_)
    replace HF18 := Aside0.mk (Kd.R_below (by (with_reducible repeat (first | exact HF18.out | apply Kd.R_alloc | apply Kd.R_drewN | apply Kd.R_drew))) hb_)
    replace HF22 := Aside0.mk (Kd.R_below (by (with_reducible repeat (first | exact HF22.out | apply Kd.R_alloc | apply Kd.R_drewN | apply Kd.R_drew))) hb_)
    replace HX2 := Aside0.mk ((hb_.block _ (blk_lt (by (with_reducible repeat (first | exact HX2.out | apply blk_alloc | apply blk_drewN | apply blk_drew))))).trans (by (with_reducible repeat (first | exact HX2.out | apply blk_alloc | apply blk_drewN | apply blk_drew))))
    replace xHX2_0 : wc.cell? ⟨w.heap.size, 0, none⟩ = some (.slice A0_0 l0_0.length c0_0) := (blk_cell HX2.out 0).trans rfl
    replace xHX2_1 : wc.cell? ⟨w.heap.size, 1, none⟩ = some (.slice A0_1 l0_1.length c0_1) := (blk_cell HX2.out 1).trans rfl
    replace xHX2_2 : wc.cell? ⟨w.heap.size, 2, none⟩ = some (.int .i64 a0_2) := (blk_cell HX2.out 2).trans rfl
    replace xHX2_3 : wc.cell? ⟨w.heap.size, 3, none⟩ = some (.slice A0_3 l0_3.length c0_3) := (blk_cell HX2.out 3).trans rfl
    replace HX21 := Aside0.mk ((hb_.block _ (blk_lt (by (with_reducible repeat (first | exact HX21.out | apply blk_alloc | apply blk_drewN | apply blk_drew))))).trans (by (with_reducible repeat (first | exact HX21.out | apply blk_alloc | apply blk_drewN | apply blk_drew))))
    replace xHX21_0 : wc.cell? ⟨w4.heap.size, 0, none⟩ = some (.slice A_15 X.length c_15) := (blk_cell HX21.out 0).trans rfl
    replace xHX21_1 : wc.cell? ⟨w4.heap.size, 1, none⟩ = some (.slice A_17 Y.length c_17) := (blk_cell HX21.out 1).trans rfl
    replace xHX21_2 : wc.cell? ⟨w4.heap.size, 2, none⟩ = some (.int .i64 a0_2) := (blk_cell HX21.out 2).trans rfl
    replace xHX21_3 : wc.cell? ⟨w4.heap.size, 3, none⟩ = some (.slice A_19 Z.length c_19) := (blk_cell HX21.out 3).trans rfl
    replace HB := Aside0.mk (show Below w.heap.size w wc from below_then (by repeat (first | (with_reducible first | exact HB.out | apply below_alloc | apply pw_below_drewN | apply below_drew1) | exact HB.out)) (show Below w.heap.size w _ from (by repeat (first | (with_reducible first | exact HB.out | apply below_alloc | apply pw_below_drewN | apply below_drew1) | exact HB.out))).size hb_)
    have HS7 := HSn
    clear HSn
    clear hb_
    go_wp2_with fail
    refine (laws_markSys.calls (fun k_ => w3.heap.size ≤ k_ ∧ k_ < w4.heap.size) _ X (fun k_ => w3.heap.size ≤ k_ ∧ k_ < w4.heap.size) _ Y a0_2 (fun k_ => w3.heap.size ≤ k_ ∧ k_ < w4.heap.size) _ Z 1 k2 w _ (by repeat (first | (with_reducible first | exact HB.out | apply below_alloc | apply pw_below_drewN | apply below_drew1) | exact HB.out)) (Kd.R_lower (by (with_reducible repeat (first | exact HF14.out | apply Kd.R_alloc | apply Kd.R_drewN | apply Kd.R_drew))) (by have := HS1.out; have := HS2.out; have := HS3.out; have := HS4.out; have := HS5.out; have := HS6.out; have := HS7.out; have := HB.out.size; omega)) (Kd.R_lower (by (with_reducible repeat (first | exact HF16.out | apply Kd.R_alloc | apply Kd.R_drewN | apply Kd.R_drew))) (by have := HS1.out; have := HS2.out; have := HS3.out; have := HS4.out; have := HS5.out; have := HS6.out; have := HS7.out; have := HB.out.size; omega)) (Kd.R_lower (by (with_reducible repeat (first | exact HF18.out | apply Kd.R_alloc | apply Kd.R_drewN | apply Kd.R_drew))) (by have := HS1.out; have := HS2.out; have := HS3.out; have := HS4.out; have := HS5.out; have := HS6.out; have := HS7.out; have := HB.out.size; omega)) H_7.out).mono ?_
    rintro e w8 ⟨rfl, hp1_, hp2_⟩
    have HSn := Aside0.mk (show wc.heap.size ≤ w8.heap.size by have h_ := hp2_.1; first | exact h_ | (simp at h_; omega))
    replace HF11 := Aside0.mk (Kd.R_step (by (with_reducible repeat (first | exact HF11.out | apply Kd.R_alloc | apply Kd.R_drewN | apply Kd.R_drew))) (fun k_ ho_ hl_ => hp2_.2 k_ hl_ (fun hq_ => by have h1_ := ho_; have h2_ := hq_; (try dsimp only at h1_); (try dsimp only at h2_); have := HS1.out; have := HS2.out; have := HS3.out; have := HS4.out; have := HS5.out; have := HS6.out; have := HS7.out; have := HTHX2.out; have := HTHX21.out; omega)))
    clear HF14
    clear HF16
    clear HF18
    replace HF22 := Aside0.mk (Kd.R_step (by (with_reducible repeat (first | exact HF22.out | apply Kd.R_alloc | apply Kd.R_drewN | apply Kd.R_drew))) (fun k_ ho_ hl_ => hp2_.2 k_ hl_ (fun hq_ => by have h1_ := ho_; have h2_ := hq_; (try dsimp only at h1_); (try dsimp only at h2_); have := HS1.out; have := HS2.out; have := HS3.out; have := HS4.out; have := HS5.out; have := HS6.out; have := HS7.out; have := HTHX2.out; have := HTHX21.out; omega)))
    replace HX2 := Aside0.mk ((hp2_.2 _ (blk_lt (by (with_reducible repeat (first | exact HX2.out | apply blk_alloc | apply blk_drewN | apply blk_drew)))) (fun hq_ => by have h2_ := hq_; (try dsimp only at h2_); have := HS1.out; have := HS2.out; have := HS3.out; have := HS4.out; have := HS5.out; have := HS6.out; have := HS7.out; have := HTHX2.out; have := HTHX21.out; omega)).trans (by (with_reducible repeat (first | exact HX2.out | apply blk_alloc | apply blk_drewN | apply blk_drew))))
    replace xHX2_0 : w8.cell? ⟨w.heap.size, 0, none⟩ = some (.slice A0_0 l0_0.length c0_0) := (blk_cell HX2.out 0).trans rfl
    replace xHX2_1 : w8.cell? ⟨w.heap.size, 1, none⟩ = some (.slice A0_1 l0_1.length c0_1) := (blk_cell HX2.out 1).trans rfl
    replace xHX2_2 : w8.cell? ⟨w.heap.size, 2, none⟩ = some (.int .i64 a0_2) := (blk_cell HX2.out 2).trans rfl
    replace xHX2_3 : w8.cell? ⟨w.heap.size, 3, none⟩ = some (.slice A0_3 l0_3.length c0_3) := (blk_cell HX2.out 3).trans rfl
    replace HX21 := Aside0.mk ((hp2_.2 _ (blk_lt (by (with_reducible repeat (first | exact HX21.out | apply blk_alloc | apply blk_drewN | apply blk_drew)))) (fun hq_ => by have h2_ := hq_; (try dsimp only at h2_); have := HS1.out; have := HS2.out; have := HS3.out; have := HS4.out; have := HS5.out; have := HS6.out; have := HS7.out; have := HTHX2.out; have := HTHX21.out; omega)).trans (by (with_reducible repeat (first | exact HX21.out | apply blk_alloc | apply blk_drewN | apply blk_drew))))
    replace xHX21_0 : w8.cell? ⟨w4.heap.size, 0, none⟩ = some (.slice A_15 X.length c_15) := (blk_cell HX21.out 0).trans rfl
    replace xHX21_1 : w8.cell? ⟨w4.heap.size, 1, none⟩ = some (.slice A_17 Y.length c_17) := (blk_cell HX21.out 1).trans rfl
    replace xHX21_2 : w8.cell? ⟨w4.heap.size, 2, none⟩ = some (.int .i64 a0_2) := (blk_cell HX21.out 2).trans rfl
    replace xHX21_3 : w8.cell? ⟨w4.heap.size, 3, none⟩ = some (.slice A_19 Z.length c_19) := (blk_cell HX21.out 3).trans rfl
    replace HB := Aside0.mk hp1_
    clear hp1_ hp2_
    have HS8 := HSn
    clear HSn
    have t2b := decide_eq_false (show ¬ (k2 < 0) by omega)
    have t2p := eq_false (show ¬ (k2 < 0) by omega)
    go_wp2_with fail
    refine (laws_eqIntS.calls k _ _ R _ _ R true _ (by (with_reducible repeat (first | exact (Kd.R_reads' HF22.out).2.2 | apply Kd.C_alloc | apply Kd.C_drewN | apply Kd.C_drew))) (Kd.R_reads' HF22.out).2.1 (by (with_reducible repeat (first | exact (Kd.R_reads' HF11.out).2.2 | apply Kd.C_alloc | apply Kd.C_drewN | apply Kd.C_drew))) (Kd.R_reads' HF11.out).2.1 H_5.out).mono ?_
    rintro e w9 ⟨rfl, hp1_⟩
    have hb_ := hp1_.below
    clear hp1_
    have HSn := Aside0.mk (show w8.heap.size ≤ w9.heap.size by have h_ := hb_.size; first | exact h_ | (simp at h_; omega))
    replace HF11 := Aside0.mk (Kd.R_below (by (with_reducible repeat (first | exact HF11.out | apply Kd.R_alloc | apply Kd.R_drewN | apply Kd.R_drew))) hb_)
    replace HF22 := Aside0.mk (Kd.R_below (by (with_reducible repeat (first | exact HF22.out | apply Kd.R_alloc | apply Kd.R_drewN | apply Kd.R_drew))) hb_)
    replace HX2 := Aside0.mk ((hb_.block _ (blk_lt (by (with_reducible repeat (first | exact HX2.out | apply blk_alloc | apply blk_drewN | apply blk_drew))))).trans (by (with_reducible repeat (first | exact HX2.out | apply blk_alloc | apply blk_drewN | apply blk_drew))))
    replace xHX2_0 : w9.cell? ⟨w.heap.size, 0, none⟩ = some (.slice A0_0 l0_0.length c0_0) := (blk_cell HX2.out 0).trans rfl
    replace xHX2_1 : w9.cell? ⟨w.heap.size, 1, none⟩ = some (.slice A0_1 l0_1.length c0_1) := (blk_cell HX2.out 1).trans rfl
    replace xHX2_2 : w9.cell? ⟨w.heap.size, 2, none⟩ = some (.int .i64 a0_2) := (blk_cell HX2.out 2).trans rfl
    replace xHX2_3 : w9.cell? ⟨w.heap.size, 3, none⟩ = some (.slice A0_3 l0_3.length c0_3) := (blk_cell HX2.out 3).trans rfl
    replace HX21 := Aside0.mk ((hb_.block _ (blk_lt (by (with_reducible repeat (first | exact HX21.out | apply blk_alloc | apply blk_drewN | apply blk_drew))))).trans (by (with_reducible repeat (first | exact HX21.out | apply blk_alloc | apply blk_drewN | apply blk_drew))))
    replace xHX21_0 : w9.cell? ⟨w4.heap.size, 0, none⟩ = some (.slice A_15 X.length c_15) := (blk_cell HX21.out 0).trans rfl
    replace xHX21_1 : w9.cell? ⟨w4.heap.size, 1, none⟩ = some (.slice A_17 Y.length c_17) := (blk_cell HX21.out 1).trans rfl
    replace xHX21_2 : w9.cell? ⟨w4.heap.size, 2, none⟩ = some (.int .i64 a0_2) := (blk_cell HX21.out 2).trans rfl
    replace xHX21_3 : w9.cell? ⟨w4.heap.size, 3, none⟩ = some (.slice A_19 Z.length c_19) := (blk_cell HX21.out 3).trans rfl
    replace HB := Aside0.mk (show Below w.heap.size w w9 from below_then (by repeat (first | (with_reducible first | exact HB.out | apply below_alloc | apply pw_below_drewN | apply below_drew1) | exact HB.out)) (show Below w.heap.size w _ from (by repeat (first | (with_reducible first | exact HB.out | apply below_alloc | apply pw_below_drewN | apply below_drew1) | exact HB.out))).size hb_)
    clear  hb_
    have HS9 := HSn
    clear HSn
    go_wp2_with fail
    refine (laws_markIntS.calls k (fun k_ => w4.heap.size + 1 ≤ k_ ∧ k_ < w5.heap.size) _ R 1 m R' w _ (by repeat (first | (with_reducible first | exact HB.out | apply below_alloc | apply pw_below_drewN | apply below_drew1) | exact HB.out)) (Kd.R_lower (by (with_reducible repeat (first | exact HF22.out | apply Kd.R_alloc | apply Kd.R_drewN | apply Kd.R_drew))) (by have := HS1.out; have := HS2.out; have := HS3.out; have := HS4.out; have := HS5.out; have := HS6.out; have := HS7.out; have := HS8.out; have := HS9.out; have := HB.out.size; omega)) H_8.out).mono ?_
    rintro e w10 ⟨rfl, hp1_, hp2_, hp3_⟩
    have HSn := Aside0.mk (show w9.heap.size ≤ w10.heap.size by have h_ := hp3_.1; first | exact h_ | (simp at h_; omega))
    replace HF11 := Aside0.mk (Kd.R_step (by (with_reducible repeat (first | exact HF11.out | apply Kd.R_alloc | apply Kd.R_drewN | apply Kd.R_drew))) (fun k_ ho_ hl_ => hp3_.2 k_ hl_ (fun hq_ => by have h1_ := ho_; have h2_ := hq_; (try dsimp only at h1_); (try dsimp only at h2_); have := HS1.out; have := HS2.out; have := HS3.out; have := HS4.out; have := HS5.out; have := HS6.out; have := HS7.out; have := HS8.out; have := HS9.out; have := HTHX2.out; have := HTHX21.out; omega)))
    clear HF22
    replace HX2 := Aside0.mk ((hp3_.2 _ (blk_lt (by (with_reducible repeat (first | exact HX2.out | apply blk_alloc | apply blk_drewN | apply blk_drew)))) (fun hq_ => by have h2_ := hq_; (try dsimp only at h2_); have := HS1.out; have := HS2.out; have := HS3.out; have := HS4.out; have := HS5.out; have := HS6.out; have := HS7.out; have := HS8.out; have := HS9.out; have := HTHX2.out; have := HTHX21.out; omega)).trans (by (with_reducible repeat (first | exact HX2.out | apply blk_alloc | apply blk_drewN | apply blk_drew))))
    replace xHX2_0 : w10.cell? ⟨w.heap.size, 0, none⟩ = some (.slice A0_0 l0_0.length c0_0) := (blk_cell HX2.out 0).trans rfl
    replace xHX2_1 : w10.cell? ⟨w.heap.size, 1, none⟩ = some (.slice A0_1 l0_1.length c0_1) := (blk_cell HX2.out 1).trans rfl
    replace xHX2_2 : w10.cell? ⟨w.heap.size, 2, none⟩ = some (.int .i64 a0_2) := (blk_cell HX2.out 2).trans rfl
    replace xHX2_3 : w10.cell? ⟨w.heap.size, 3, none⟩ = some (.slice A0_3 l0_3.length c0_3) := (blk_cell HX2.out 3).trans rfl
    replace HX21 := Aside0.mk ((hp3_.2 _ (blk_lt (by (with_reducible repeat (first | exact HX21.out | apply blk_alloc | apply blk_drewN | apply blk_drew)))) (fun hq_ => by have h2_ := hq_; (try dsimp only at h2_); have := HS1.out; have := HS2.out; have := HS3.out; have := HS4.out; have := HS5.out; have := HS6.out; have := HS7.out; have := HS8.out; have := HS9.out; have := HTHX2.out; have := HTHX21.out; omega)).trans (by (with_reducible repeat (first | exact HX21.out | apply blk_alloc | apply blk_drewN | apply blk_drew))))
    replace xHX21_0 : w10.cell? ⟨w4.heap.size, 0, none⟩ = some (.slice A_15 X.length c_15) := (blk_cell HX21.out 0).trans rfl
    replace xHX21_1 : w10.cell? ⟨w4.heap.size, 1, none⟩ = some (.slice A_17 Y.length c_17) := (blk_cell HX21.out 1).trans rfl
    replace xHX21_2 : w10.cell? ⟨w4.heap.size, 2, none⟩ = some (.int .i64 a0_2) := (blk_cell HX21.out 2).trans rfl
    replace xHX21_3 : w10.cell? ⟨w4.heap.size, 3, none⟩ = some (.slice A_19 Z.length c_19) := (blk_cell HX21.out 3).trans rfl
    replace HB := Aside0.mk hp2_
    have HF28 := Aside0.mk hp1_
    clear hp3_ hp1_ hp2_
    have HS10 := HSn
    clear HSn
    go_wp2_with fail
    have eL_ := (Kd.R_reads' HF28.out).1
    have hc_ := laws_heldIntS.calls k A_23 c_23 R' 1 m w10 (by (with_reducible repeat (first | exact (Kd.R_reads' HF28.out).2.2 | apply Kd.C_alloc | apply Kd.C_drewN | apply Kd.C_drew))) (by have h_ := Kd.R_reads' HF28.out; omega) H_9.out
    rw [← eL_] at hc_
    clear eL_
    refine hc_.mono ?_
    clear hc_
    rintro e w11 ⟨rfl, hp1_⟩
    have hb_ := hp1_.below
    clear hp1_
    have HSn := Aside0.mk (show w10.heap.size ≤ w11.heap.size by have h_ := hb_.size; first | exact h_ | (simp at h_; omega))
    replace HF11 := Aside0.mk (Kd.R_below (by (with_reducible repeat (first | exact HF11.out | apply Kd.R_alloc | apply Kd.R_drewN | apply Kd.R_drew))) hb_)
    replace HF28 := Aside0.mk (Kd.R_below (by (with_reducible repeat (first | exact HF28.out | apply Kd.R_alloc | apply Kd.R_drewN | apply Kd.R_drew))) hb_)
    replace HX2 := Aside0.mk ((hb_.block _ (blk_lt (by (with_reducible repeat (first | exact HX2.out | apply blk_alloc | apply blk_drewN | apply blk_drew))))).trans (by (with_reducible repeat (first | exact HX2.out | apply blk_alloc | apply blk_drewN | apply blk_drew))))
    replace xHX2_0 : w11.cell? ⟨w.heap.size, 0, none⟩ = some (.slice A0_0 l0_0.length c0_0) := (blk_cell HX2.out 0).trans rfl
    replace xHX2_1 : w11.cell? ⟨w.heap.size, 1, none⟩ = some (.slice A0_1 l0_1.length c0_1) := (blk_cell HX2.out 1).trans rfl
    replace xHX2_2 : w11.cell? ⟨w.heap.size, 2, none⟩ = some (.int .i64 a0_2) := (blk_cell HX2.out 2).trans rfl
    replace xHX2_3 : w11.cell? ⟨w.heap.size, 3, none⟩ = some (.slice A0_3 l0_3.length c0_3) := (blk_cell HX2.out 3).trans rfl
    replace HX21 := Aside0.mk ((hb_.block _ (blk_lt (by (with_reducible repeat (first | exact HX21.out | apply blk_alloc | apply blk_drewN | apply blk_drew))))).trans (by (with_reducible repeat (first | exact HX21.out | apply blk_alloc | apply blk_drewN | apply blk_drew))))
    replace xHX21_0 : w11.cell? ⟨w4.heap.size, 0, none⟩ = some (.slice A_15 X.length c_15) := (blk_cell HX21.out 0).trans rfl
    replace xHX21_1 : w11.cell? ⟨w4.heap.size, 1, none⟩ = some (.slice A_17 Y.length c_17) := (blk_cell HX21.out 1).trans rfl
    replace xHX21_2 : w11.cell? ⟨w4.heap.size, 2, none⟩ = some (.int .i64 a0_2) := (blk_cell HX21.out 2).trans rfl
    replace xHX21_3 : w11.cell? ⟨w4.heap.size, 3, none⟩ = some (.slice A_19 Z.length c_19) := (blk_cell HX21.out 3).trans rfl
    replace HB := Aside0.mk (show Below w.heap.size w w11 from below_then (by repeat (first | (with_reducible first | exact HB.out | apply below_alloc | apply pw_below_drewN | apply below_drew1) | exact HB.out)) (show Below w.heap.size w _ from (by repeat (first | (with_reducible first | exact HB.out | apply below_alloc | apply pw_below_drewN | apply below_drew1) | exact HB.out))).size hb_)
    clear  hb_
    have HS11 := HSn
    clear HSn
    have t3b := decide_eq_false (show ¬ (m < 0) by omega)
    have t3p := eq_false (show ¬ (m < 0) by omega)
    go_wp2_with fail
    refine (laws_toSys.calls k _ _ l0_0 _ _ l0_1 a0_2 _ _ l0_3 X Y a0_2 Z _ (by (with_reducible repeat (first | exact (Kd.C_below HR0_0.out HB.out) | apply Kd.C_alloc | apply Kd.C_drewN | apply Kd.C_drew))) HC0_0.out (by (with_reducible repeat (first | exact (Kd.C_below HR0_1.out HB.out) | apply Kd.C_alloc | apply Kd.C_drewN | apply Kd.C_drew))) HC0_1.out (by (with_reducible repeat (first | exact (Kd.C_below HR0_3.out HB.out) | apply Kd.C_alloc | apply Kd.C_drewN | apply Kd.C_drew))) HC0_3.out H_2.out).mono ?_
    rintro e w12 ⟨v0_, v1_, v3_, rfl, hp1_, hp2_, hp3_, hp4_⟩
    have HSn := Aside0.mk (show w11.heap.size ≤ w12.heap.size by have h_ := hp4_.size; first | exact h_ | (simp at h_; omega))
    replace HF11 := Aside0.mk (Kd.R_below (by (with_reducible repeat (first | exact HF11.out | apply Kd.R_alloc | apply Kd.R_drewN | apply Kd.R_drew))) hp4_)
    replace HF28 := Aside0.mk (Kd.R_below (by (with_reducible repeat (first | exact HF28.out | apply Kd.R_alloc | apply Kd.R_drewN | apply Kd.R_drew))) hp4_)
    replace HX2 := Aside0.mk ((hp4_.block _ (blk_lt (by (with_reducible repeat (first | exact HX2.out | apply blk_alloc | apply blk_drewN | apply blk_drew))))).trans (by (with_reducible repeat (first | exact HX2.out | apply blk_alloc | apply blk_drewN | apply blk_drew))))
    replace xHX2_0 : w12.cell? ⟨w.heap.size, 0, none⟩ = some (.slice A0_0 l0_0.length c0_0) := (blk_cell HX2.out 0).trans rfl
    replace xHX2_1 : w12.cell? ⟨w.heap.size, 1, none⟩ = some (.slice A0_1 l0_1.length c0_1) := (blk_cell HX2.out 1).trans rfl
    replace xHX2_2 : w12.cell? ⟨w.heap.size, 2, none⟩ = some (.int .i64 a0_2) := (blk_cell HX2.out 2).trans rfl
    replace xHX2_3 : w12.cell? ⟨w.heap.size, 3, none⟩ = some (.slice A0_3 l0_3.length c0_3) := (blk_cell HX2.out 3).trans rfl
    replace HX21 := Aside0.mk ((hp4_.block _ (blk_lt (by (with_reducible repeat (first | exact HX21.out | apply blk_alloc | apply blk_drewN | apply blk_drew))))).trans (by (with_reducible repeat (first | exact HX21.out | apply blk_alloc | apply blk_drewN | apply blk_drew))))
    replace xHX21_0 : w12.cell? ⟨w4.heap.size, 0, none⟩ = some (.slice A_15 X.length c_15) := (blk_cell HX21.out 0).trans rfl
    replace xHX21_1 : w12.cell? ⟨w4.heap.size, 1, none⟩ = some (.slice A_17 Y.length c_17) := (blk_cell HX21.out 1).trans rfl
    replace xHX21_2 : w12.cell? ⟨w4.heap.size, 2, none⟩ = some (.int .i64 a0_2) := (blk_cell HX21.out 2).trans rfl
    replace xHX21_3 : w12.cell? ⟨w4.heap.size, 3, none⟩ = some (.slice A_19 Z.length c_19) := (blk_cell HX21.out 3).trans rfl
    replace HB := Aside0.mk (show Below w.heap.size w w12 from below_then (by repeat (first | (with_reducible first | exact HB.out | apply below_alloc | apply pw_below_drewN | apply below_drew1) | exact HB.out)) (show Below w.heap.size w _ from (by repeat (first | (with_reducible first | exact HB.out | apply below_alloc | apply pw_below_drewN | apply below_drew1) | exact HB.out))).size hp4_)
    have HF31 := Aside0.mk (show Kd.R k63 63 w12 w11.heap.size (fun k_ => w11.heap.size ≤ k_ ∧ k_ < w12.heap.size) v0_ X from Kd.R_lower (Kd.R_mono (Kd.R_bound hp1_) (fun k_ hk => ⟨by have h_ := hk.2.1; first | exact h_ | (simp at h_; omega), hk.2.2.1⟩)) (by first | exact Nat.le_refl _ | (simp; done)))
    obtain ⟨A_32, c_32, e_32⟩ := Kd.R_slice HF31.out
    subst e_32
    have HF33 := Aside0.mk (show Kd.R k72 72 w12 w11.heap.size (fun k_ => w11.heap.size ≤ k_ ∧ k_ < w12.heap.size) v1_ Y from Kd.R_lower (Kd.R_mono (Kd.R_bound (Kd.S_R hp2_)) (fun k_ hk => ⟨by have h_ := hk.2.1; first | exact h_ | (simp at h_; omega), hk.2.2.1⟩)) (by first | exact Nat.le_refl _ | (simp; done)))
    obtain ⟨A_34, c_34, e_34⟩ := Kd.R_slice HF33.out
    subst e_34
    have HF35 := Aside0.mk (show Kd.R k78 78 w12 w11.heap.size (fun k_ => w11.heap.size ≤ k_ ∧ k_ < w12.heap.size) v3_ Z from Kd.R_lower (Kd.R_mono (Kd.R_bound (Kd.S_R hp3_)) (fun k_ hk => ⟨by have h_ := hk.2.1; first | exact h_ | (simp at h_; omega), hk.2.2.1⟩)) (by first | exact Nat.le_refl _ | (simp; done)))
    obtain ⟨A_36, c_36, e_36⟩ := Kd.R_slice HF35.out
    subst e_36
    clear hp3_ hp1_ hp2_ hp4_
    have HS12 := HSn
    clear HSn
    go_wp2_with fail
    refine (impl_SysAwait.calls k _ _ X _ _ Y a0_2 _ _ Z R _ (by (with_reducible repeat (first | exact (Kd.R_reads' HF31.out).2.2 | apply Kd.C_alloc | apply Kd.C_drewN | apply Kd.C_drew))) (Kd.R_reads' HF31.out).2.1 (by (with_reducible repeat (first | exact (Kd.R_reads' HF33.out).2.2 | apply Kd.C_alloc | apply Kd.C_drewN | apply Kd.C_drew))) (Kd.R_reads' HF33.out).2.1 (by (with_reducible repeat (first | exact (Kd.R_reads' HF35.out).2.2 | apply Kd.C_alloc | apply Kd.C_drewN | apply Kd.C_drew))) (Kd.R_reads' HF35.out).2.1 H_4.out).mono ?_
    rintro e w13 ⟨v0_, rfl, hp1_, hp2_⟩
    have HSn := Aside0.mk (show w12.heap.size ≤ w13.heap.size by have h_ := hp2_.size; first | exact h_ | (simp at h_; omega))
    replace HF11 := Aside0.mk (Kd.R_below (by (with_reducible repeat (first | exact HF11.out | apply Kd.R_alloc | apply Kd.R_drewN | apply Kd.R_drew))) hp2_)
    replace HF28 := Aside0.mk (Kd.R_below (by (with_reducible repeat (first | exact HF28.out | apply Kd.R_alloc | apply Kd.R_drewN | apply Kd.R_drew))) hp2_)
    replace HF31 := Aside0.mk (Kd.R_below (by (with_reducible repeat (first | exact HF31.out | apply Kd.R_alloc | apply Kd.R_drewN | apply Kd.R_drew))) hp2_)
    replace HF33 := Aside0.mk (Kd.R_below (by (with_reducible repeat (first | exact HF33.out | apply Kd.R_alloc | apply Kd.R_drewN | apply Kd.R_drew))) hp2_)
    replace HF35 := Aside0.mk (Kd.R_below (by (with_reducible repeat (first | exact HF35.out | apply Kd.R_alloc | apply Kd.R_drewN | apply Kd.R_drew))) hp2_)
    replace HX2 := Aside0.mk ((hp2_.block _ (blk_lt (by (with_reducible repeat (first | exact HX2.out | apply blk_alloc | apply blk_drewN | apply blk_drew))))).trans (by (with_reducible repeat (first | exact HX2.out | apply blk_alloc | apply blk_drewN | apply blk_drew))))
    replace xHX2_0 : w13.cell? ⟨w.heap.size, 0, none⟩ = some (.slice A0_0 l0_0.length c0_0) := (blk_cell HX2.out 0).trans rfl
    replace xHX2_1 : w13.cell? ⟨w.heap.size, 1, none⟩ = some (.slice A0_1 l0_1.length c0_1) := (blk_cell HX2.out 1).trans rfl
    replace xHX2_2 : w13.cell? ⟨w.heap.size, 2, none⟩ = some (.int .i64 a0_2) := (blk_cell HX2.out 2).trans rfl
    replace xHX2_3 : w13.cell? ⟨w.heap.size, 3, none⟩ = some (.slice A0_3 l0_3.length c0_3) := (blk_cell HX2.out 3).trans rfl
    replace HX21 := Aside0.mk ((hp2_.block _ (blk_lt (by (with_reducible repeat (first | exact HX21.out | apply blk_alloc | apply blk_drewN | apply blk_drew))))).trans (by (with_reducible repeat (first | exact HX21.out | apply blk_alloc | apply blk_drewN | apply blk_drew))))
    replace xHX21_0 : w13.cell? ⟨w4.heap.size, 0, none⟩ = some (.slice A_15 X.length c_15) := (blk_cell HX21.out 0).trans rfl
    replace xHX21_1 : w13.cell? ⟨w4.heap.size, 1, none⟩ = some (.slice A_17 Y.length c_17) := (blk_cell HX21.out 1).trans rfl
    replace xHX21_2 : w13.cell? ⟨w4.heap.size, 2, none⟩ = some (.int .i64 a0_2) := (blk_cell HX21.out 2).trans rfl
    replace xHX21_3 : w13.cell? ⟨w4.heap.size, 3, none⟩ = some (.slice A_19 Z.length c_19) := (blk_cell HX21.out 3).trans rfl
    replace HB := Aside0.mk (show Below w.heap.size w w13 from below_then (by repeat (first | (with_reducible first | exact HB.out | apply below_alloc | apply pw_below_drewN | apply below_drew1) | exact HB.out)) (show Below w.heap.size w _ from (by repeat (first | (with_reducible first | exact HB.out | apply below_alloc | apply pw_below_drewN | apply below_drew1) | exact HB.out))).size hp2_)
    have HF38 := Aside0.mk (show Kd.R (Kd.int .i64) 3 w13 w12.heap.size (fun k_ => w12.heap.size ≤ k_ ∧ k_ < w13.heap.size) v0_ R from Kd.R_lower (Kd.R_mono (Kd.R_bound hp1_) (fun k_ hk => ⟨by have h_ := hk.2.1; first | exact h_ | (simp at h_; omega), hk.2.2.1⟩)) (by first | exact Nat.le_refl _ | (simp; done)))
    obtain ⟨A_39, c_39, e_39⟩ := Kd.R_slice HF38.out
    subst e_39
    clear hp1_ hp2_
    have HS13 := HSn
    clear HSn
    go_wp2_with fail
    refine (laws_eqIntS.calls k _ _ R _ _ R true _ (by (with_reducible repeat (first | exact (Kd.R_reads' HF38.out).2.2 | apply Kd.C_alloc | apply Kd.C_drewN | apply Kd.C_drew))) (Kd.R_reads' HF38.out).2.1 (by (with_reducible repeat (first | exact (Kd.R_reads' HF11.out).2.2 | apply Kd.C_alloc | apply Kd.C_drewN | apply Kd.C_drew))) (Kd.R_reads' HF11.out).2.1 H_5.out).mono ?_
    rintro e w14 ⟨rfl, hp1_⟩
    have hb_ := hp1_.below
    clear hp1_
    have HSn := Aside0.mk (show w13.heap.size ≤ w14.heap.size by have h_ := hb_.size; first | exact h_ | (simp at h_; omega))
    replace HF11 := Aside0.mk (Kd.R_below (by (with_reducible repeat (first | exact HF11.out | apply Kd.R_alloc | apply Kd.R_drewN | apply Kd.R_drew))) hb_)
    replace HF28 := Aside0.mk (Kd.R_below (by (with_reducible repeat (first | exact HF28.out | apply Kd.R_alloc | apply Kd.R_drewN | apply Kd.R_drew))) hb_)
    replace HF31 := Aside0.mk (Kd.R_below (by (with_reducible repeat (first | exact HF31.out | apply Kd.R_alloc | apply Kd.R_drewN | apply Kd.R_drew))) hb_)
    replace HF33 := Aside0.mk (Kd.R_below (by (with_reducible repeat (first | exact HF33.out | apply Kd.R_alloc | apply Kd.R_drewN | apply Kd.R_drew))) hb_)
    replace HF35 := Aside0.mk (Kd.R_below (by (with_reducible repeat (first | exact HF35.out | apply Kd.R_alloc | apply Kd.R_drewN | apply Kd.R_drew))) hb_)
    replace HF38 := Aside0.mk (Kd.R_below (by (with_reducible repeat (first | exact HF38.out | apply Kd.R_alloc | apply Kd.R_drewN | apply Kd.R_drew))) hb_)
    replace HX2 := Aside0.mk ((hb_.block _ (blk_lt (by (with_reducible repeat (first | exact HX2.out | apply blk_alloc | apply blk_drewN | apply blk_drew))))).trans (by (with_reducible repeat (first | exact HX2.out | apply blk_alloc | apply blk_drewN | apply blk_drew))))
    replace xHX2_0 : w14.cell? ⟨w.heap.size, 0, none⟩ = some (.slice A0_0 l0_0.length c0_0) := (blk_cell HX2.out 0).trans rfl
    replace xHX2_1 : w14.cell? ⟨w.heap.size, 1, none⟩ = some (.slice A0_1 l0_1.length c0_1) := (blk_cell HX2.out 1).trans rfl
    replace xHX2_2 : w14.cell? ⟨w.heap.size, 2, none⟩ = some (.int .i64 a0_2) := (blk_cell HX2.out 2).trans rfl
    replace xHX2_3 : w14.cell? ⟨w.heap.size, 3, none⟩ = some (.slice A0_3 l0_3.length c0_3) := (blk_cell HX2.out 3).trans rfl
    replace HX21 := Aside0.mk ((hb_.block _ (blk_lt (by (with_reducible repeat (first | exact HX21.out | apply blk_alloc | apply blk_drewN | apply blk_drew))))).trans (by (with_reducible repeat (first | exact HX21.out | apply blk_alloc | apply blk_drewN | apply blk_drew))))
    replace xHX21_0 : w14.cell? ⟨w4.heap.size, 0, none⟩ = some (.slice A_15 X.length c_15) := (blk_cell HX21.out 0).trans rfl
    replace xHX21_1 : w14.cell? ⟨w4.heap.size, 1, none⟩ = some (.slice A_17 Y.length c_17) := (blk_cell HX21.out 1).trans rfl
    replace xHX21_2 : w14.cell? ⟨w4.heap.size, 2, none⟩ = some (.int .i64 a0_2) := (blk_cell HX21.out 2).trans rfl
    replace xHX21_3 : w14.cell? ⟨w4.heap.size, 3, none⟩ = some (.slice A_19 Z.length c_19) := (blk_cell HX21.out 3).trans rfl
    replace HB := Aside0.mk (show Below w.heap.size w w14 from below_then (by repeat (first | (with_reducible first | exact HB.out | apply below_alloc | apply pw_below_drewN | apply below_drew1) | exact HB.out)) (show Below w.heap.size w _ from (by repeat (first | (with_reducible first | exact HB.out | apply below_alloc | apply pw_below_drewN | apply below_drew1) | exact HB.out))).size hb_)
    clear  hb_
    have HS14 := HSn
    clear HSn
    go_wp2_with fail
    have eL_ := (Kd.R_reads' HF28.out).1
    have hc_ := laws_heldIntS.calls k A_23 c_23 R' 1 m w14 (by (with_reducible repeat (first | exact (Kd.R_reads' HF28.out).2.2 | apply Kd.C_alloc | apply Kd.C_drewN | apply Kd.C_drew))) (by have h_ := Kd.R_reads' HF28.out; omega) H_9.out
    rw [← eL_] at hc_
    clear eL_
    refine hc_.mono ?_
    clear hc_
    rintro e w15 ⟨rfl, hp1_⟩
    have hb_ := hp1_.below
    clear hp1_
    have HSn := Aside0.mk (show w14.heap.size ≤ w15.heap.size by have h_ := hb_.size; first | exact h_ | (simp at h_; omega))
    replace HF11 := Aside0.mk (Kd.R_below (by (with_reducible repeat (first | exact HF11.out | apply Kd.R_alloc | apply Kd.R_drewN | apply Kd.R_drew))) hb_)
    replace HF28 := Aside0.mk (Kd.R_below (by (with_reducible repeat (first | exact HF28.out | apply Kd.R_alloc | apply Kd.R_drewN | apply Kd.R_drew))) hb_)
    replace HF31 := Aside0.mk (Kd.R_below (by (with_reducible repeat (first | exact HF31.out | apply Kd.R_alloc | apply Kd.R_drewN | apply Kd.R_drew))) hb_)
    replace HF33 := Aside0.mk (Kd.R_below (by (with_reducible repeat (first | exact HF33.out | apply Kd.R_alloc | apply Kd.R_drewN | apply Kd.R_drew))) hb_)
    replace HF35 := Aside0.mk (Kd.R_below (by (with_reducible repeat (first | exact HF35.out | apply Kd.R_alloc | apply Kd.R_drewN | apply Kd.R_drew))) hb_)
    replace HF38 := Aside0.mk (Kd.R_below (by (with_reducible repeat (first | exact HF38.out | apply Kd.R_alloc | apply Kd.R_drewN | apply Kd.R_drew))) hb_)
    replace HX2 := Aside0.mk ((hb_.block _ (blk_lt (by (with_reducible repeat (first | exact HX2.out | apply blk_alloc | apply blk_drewN | apply blk_drew))))).trans (by (with_reducible repeat (first | exact HX2.out | apply blk_alloc | apply blk_drewN | apply blk_drew))))
    replace xHX2_0 : w15.cell? ⟨w.heap.size, 0, none⟩ = some (.slice A0_0 l0_0.length c0_0) := (blk_cell HX2.out 0).trans rfl
    replace xHX2_1 : w15.cell? ⟨w.heap.size, 1, none⟩ = some (.slice A0_1 l0_1.length c0_1) := (blk_cell HX2.out 1).trans rfl
    replace xHX2_2 : w15.cell? ⟨w.heap.size, 2, none⟩ = some (.int .i64 a0_2) := (blk_cell HX2.out 2).trans rfl
    replace xHX2_3 : w15.cell? ⟨w.heap.size, 3, none⟩ = some (.slice A0_3 l0_3.length c0_3) := (blk_cell HX2.out 3).trans rfl
    replace HX21 := Aside0.mk ((hb_.block _ (blk_lt (by (with_reducible repeat (first | exact HX21.out | apply blk_alloc | apply blk_drewN | apply blk_drew))))).trans (by (with_reducible repeat (first | exact HX21.out | apply blk_alloc | apply blk_drewN | apply blk_drew))))
    replace xHX21_0 : w15.cell? ⟨w4.heap.size, 0, none⟩ = some (.slice A_15 X.length c_15) := (blk_cell HX21.out 0).trans rfl
    replace xHX21_1 : w15.cell? ⟨w4.heap.size, 1, none⟩ = some (.slice A_17 Y.length c_17) := (blk_cell HX21.out 1).trans rfl
    replace xHX21_2 : w15.cell? ⟨w4.heap.size, 2, none⟩ = some (.int .i64 a0_2) := (blk_cell HX21.out 2).trans rfl
    replace xHX21_3 : w15.cell? ⟨w4.heap.size, 3, none⟩ = some (.slice A_19 Z.length c_19) := (blk_cell HX21.out 3).trans rfl
    replace HB := Aside0.mk (show Below w.heap.size w w15 from below_then (by repeat (first | (with_reducible first | exact HB.out | apply below_alloc | apply pw_below_drewN | apply below_drew1) | exact HB.out)) (show Below w.heap.size w _ from (by repeat (first | (with_reducible first | exact HB.out | apply below_alloc | apply pw_below_drewN | apply below_drew1) | exact HB.out))).size hb_)
    clear  hb_
    have HS15 := HSn
    clear HSn
    go_wp2
    go_ret
    exact ⟨rfl, (by repeat (first | (with_reducible first | exact HB.out | apply below_alloc | apply pw_below_drewN | apply below_drew1) | exact HB.out))⟩
set_option maxHeartbeats 8000000 in
set_option maxRecDepth 100000 in
theorem laws_FnExactSysAwait.way0 (k : Nat) (A0_0 : Option Addr) (c0_0 : Nat) (l0_0 : List S102) (A0_1 : Option Addr) (c0_1 : Nat) (l0_1 : List S100) (a0_2 : Int) (A0_3 : Option Addr) (c0_3 : Nat) (l0_3 : List S76) (z : Int)  (w : World) (hr0_0 : Kd.C k102 w A0_0 l0_0.length l0_0) (hc0_0 : l0_0.length ≤ c0_0) (hr0_1 : Kd.C k100 w A0_1 l0_1.length l0_1) (hc0_1 : l0_1.length ≤ c0_1) (hr0_3 : Kd.C k76 w A0_3 l0_3.length l0_3) (hc0_3 : l0_3.length ≤ c0_3) (ht1 : z < 0) (h_1 : laws_szSys.f k l0_0 l0_1 a0_2 l0_3 1048576 = some z) :
    Calls Try.prog 6 #[.agg #[.slice A0_0 l0_0.length c0_0, .slice A0_1 l0_1.length c0_1, .int .i64 a0_2, .slice A0_3 l0_3.length c0_3]] w fun e w' => e = .returned (.bool true) ∧ Below w.heap.size w w' := by
  have HR0_0 := Aside0.mk hr0_0
  have HC0_0 := Aside0.mk hc0_0
  clear hr0_0 hc0_0
  have HR0_1 := Aside0.mk hr0_1
  have HC0_1 := Aside0.mk hc0_1
  clear hr0_1 hc0_1
  have HR0_3 := Aside0.mk hr0_3
  have HC0_3 := Aside0.mk hc0_3
  clear hr0_3 hc0_3
  have HB := Aside0.mk (Below.refl w.heap.size w)
  have H_1 := Aside0.mk h_1
  clear h_1
  have hu26 := Try.underlying26
  go_enter Try.func6, Try.ntmps6
  go_wp2_with fail
  refine (laws_szSys.calls k _ _ l0_0 _ _ l0_1 a0_2 _ _ l0_3 1048576 z _ (by (with_reducible repeat (first | exact (Kd.C_below HR0_0.out HB.out) | apply Kd.C_alloc | apply Kd.C_drewN | apply Kd.C_drew))) HC0_0.out (by (with_reducible repeat (first | exact (Kd.C_below HR0_1.out HB.out) | apply Kd.C_alloc | apply Kd.C_drewN | apply Kd.C_drew))) HC0_1.out (by (with_reducible repeat (first | exact (Kd.C_below HR0_3.out HB.out) | apply Kd.C_alloc | apply Kd.C_drewN | apply Kd.C_drew))) HC0_3.out H_1.out).mono ?_
  rintro e w1 ⟨rfl, hp1_⟩
  have HSn := Aside0.mk (show w.heap.size ≤ w1.heap.size by have h_ := hp1_.size; first | exact h_ | (simp at h_; omega))
  have n_ := Aside0.mk ((hp1_.block _ (blk_lt (heap_alloc_new w (.cells #[.slice A0_0 l0_0.length c0_0, .slice A0_1 l0_1.length c0_1, .int .i64 a0_2, .slice A0_3 l0_3.length c0_3] 26)))).trans (heap_alloc_new w (.cells #[.slice A0_0 l0_0.length c0_0, .slice A0_1 l0_1.length c0_1, .int .i64 a0_2, .slice A0_3 l0_3.length c0_3] 26)))
  have HX2 := n_
  clear n_
  have HTHX2 := Aside0.mk (blk_lt HX2.out)
  have xHX2_0 : w1.cell? ⟨w.heap.size, 0, none⟩ = some (.slice A0_0 l0_0.length c0_0) := (blk_cell HX2.out 0).trans rfl
  have xHX2_1 : w1.cell? ⟨w.heap.size, 1, none⟩ = some (.slice A0_1 l0_1.length c0_1) := (blk_cell HX2.out 1).trans rfl
  have xHX2_2 : w1.cell? ⟨w.heap.size, 2, none⟩ = some (.int .i64 a0_2) := (blk_cell HX2.out 2).trans rfl
  have xHX2_3 : w1.cell? ⟨w.heap.size, 3, none⟩ = some (.slice A0_3 l0_3.length c0_3) := (blk_cell HX2.out 3).trans rfl
  replace HB := Aside0.mk (show Below w.heap.size w w1 from below_then (by repeat (first | (with_reducible first | exact HB.out | apply below_alloc | apply pw_below_drewN | apply below_drew1) | exact HB.out)) (show Below w.heap.size w _ from (by repeat (first | (with_reducible first | exact HB.out | apply below_alloc | apply pw_below_drewN | apply below_drew1) | exact HB.out))).size hp1_)
  clear hp1_
  have HS1 := HSn
  clear HSn
  have t1b := decide_eq_true (show z < 0 by omega)
  have t1p := eq_true (show z < 0 by omega)
  go_wp2
  go_ret
  exact ⟨rfl, (by repeat (first | (with_reducible first | exact HB.out | apply below_alloc | apply pw_below_drewN | apply below_drew1) | exact HB.out))⟩
def laws_FnExactSysAwait.Good (l0_0 : List S102) (l0_1 : List S100) (a0_2 : Int) (l0_3 : List S76) : Prop :=
  (∃ k : Nat, ∃ z : Int, (z < 0) ∧ (laws_szSys.f k l0_0 l0_1 a0_2 l0_3 1048576 = some z))
  ∨ (∃ k : Nat, ∃ z : Int, ∃ X : List S63, ∃ Y : List S72, ∃ Z : List S78, ∃ R R' : List Int, ∃ k2 m : Int, (0 ≤ z) ∧ (0 ≤ k2) ∧ (0 ≤ m) ∧ (laws_szSys.f k l0_0 l0_1 a0_2 l0_3 1048576 = some z) ∧ (laws_toSys.f k l0_0 l0_1 a0_2 l0_3 = some (X, Y, a0_2, Z)) ∧ (spec_SysAwait.f k X Y a0_2 Z = some R) ∧ (impl_SysAwait.f k X Y a0_2 Z = some R) ∧ (laws_eqIntS.f k R R = some true) ∧ (laws_eqSys.f k X Y a0_2 Z X Y a0_2 Z = some true) ∧ (laws_markSys.f X Y a0_2 Z 1 = some k2) ∧ (laws_markIntS.f k R 1 = some (m, R')) ∧ (laws_heldIntS.f k R' 1 = some m))
theorem laws_FnExactSysAwait.all (A0_0 : Option Addr) (c0_0 : Nat) (l0_0 : List S102) (A0_1 : Option Addr) (c0_1 : Nat) (l0_1 : List S100) (a0_2 : Int) (A0_3 : Option Addr) (c0_3 : Nat) (l0_3 : List S76) (w : World) (hr0_0 : Kd.C k102 w A0_0 l0_0.length l0_0) (hc0_0 : l0_0.length ≤ c0_0) (hr0_1 : Kd.C k100 w A0_1 l0_1.length l0_1) (hc0_1 : l0_1.length ≤ c0_1) (hr0_3 : Kd.C k76 w A0_3 l0_3.length l0_3) (hc0_3 : l0_3.length ≤ c0_3) (h : laws_FnExactSysAwait.Good l0_0 l0_1 a0_2 l0_3) :
    Calls Try.prog 6 #[.agg #[.slice A0_0 l0_0.length c0_0, .slice A0_1 l0_1.length c0_1, .int .i64 a0_2, .slice A0_3 l0_3.length c0_3]] w fun e w' => e = .returned (.bool true) ∧ Below w.heap.size w w' := by
  rcases h with ⟨k, z, ht1, h_1⟩ | ⟨k, z, X, Y, Z, R, R', k2, m, ht1, ht2, ht3, h_1, h_2, h_3, h_4, h_5, h_6, h_7, h_8, h_9⟩
  · exact laws_FnExactSysAwait.way0 k A0_0 c0_0 l0_0 A0_1 c0_1 l0_1 a0_2 A0_3 c0_3 l0_3 z w hr0_0 hc0_0 hr0_1 hc0_1 hr0_3 hc0_3 ht1 h_1
  · exact laws_FnExactSysAwait.main k A0_0 c0_0 l0_0 A0_1 c0_1 l0_1 a0_2 A0_3 c0_3 l0_3 z X Y Z R R' k2 m w hr0_0 hc0_0 hr0_1 hc0_1 hr0_3 hc0_3 ht1 ht2 ht3 h_1 h_2 h_3 h_4 h_5 h_6 h_7 h_8 h_9
end Go.Proofs.Ytpodhdpkdhcnoaa.QSC
