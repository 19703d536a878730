/- The walk of FnExactLogReplay: on the way on which all that it compares is equal it tells true. Written by wip/tools/genexact.py. -/
import Derived.Test.YtkcoclfpcjfeiaaQCx1
import Derived.Test.YtkcoclfpcjfeiaaQCx10
import Derived.Test.YtkcoclfpcjfeiaaQCx11
import Derived.Test.YtkcoclfpcjfeiaaQCx2
import Derived.Test.YtkcoclfpcjfeiaaQCx5
import Derived.Test.YtkcoclfpcjfeiaaQCx6
import Derived.Test.YtkcoclfpcjfeiaaQCx8
set_option linter.unusedVariables false
set_option linter.unusedSimpArgs false
namespace Go.Proofs.Ytkcoclfpcjfeiaa.QC
open Go.RowKit Go.Proofs.YtkcoclfpcjfeiaaW.PrintWords Go.Proofs.YtkcoclfpcjfeiaaW.PrintLast Go.Proofs.YtkcoclfpcjfeiaaW.PrintMore
set_option maxHeartbeats 8000000 in
set_option maxRecDepth 100000 in
theorem laws_FnExactLogReplay.main (k : Nat) (A0 : Option Addr) (c0 : Nat) (l0 : List Int) (A1 : Option Addr) (c1 : Nat) (l1 : List S88) (z : Int) (X : List S91) (R R' L' : List Int) (b : Bool) (k1 k2 m : Int) (w : World) (hr0 : Kd.C (Kd.int .i64) w A0 l0.length l0) (hc0 : l0.length ≤ c0) (hr1 : Kd.C k88 w A1 l1.length l1) (hc1 : l1.length ≤ c1) (ht1 : l0.length ≤ 1048576) (ht2 : 0 ≤ z) (ht3 : 0 ≤ k2) (ht4 : 0 ≤ m) (h_1 : laws_szEntryS.f k l1 1048576 = some z) (h_2 : laws_toIntS.f k l0 = some l0) (h_3 : laws_toEntryS.f k l1 = some X) (h_4 : spec_LogReplay.f k l0 X = some (R, b)) (h_5 : impl_LogReplay.f k l0 X = some (R, b)) (h_6 : laws_eqIntS.f k R R = some true) (h_7 : laws_eqIntS.f k l0 l0 = some true) (h_8 : laws_eqEntryS.f k X X = some true) (h_9 : laws_markIntS.f k l0 1 = some (k1, L')) (h_10 : laws_markEntryS.f X k1 = some k2) (h_11 : laws_markIntS.f k R 1 = some (m, R')) (h_12 : laws_heldIntS.f k R' 1 = some m) :
    Calls Try.prog 8 #[.slice A0 l0.length c0, .slice A1 l1.length c1] w fun e w' => e = .returned (.bool true) ∧ Below w.heap.size w w' := by
  have HR0 := Aside0.mk hr0
  have HC0 := Aside0.mk hc0
  clear hr0 hc0
  have HR1 := Aside0.mk hr1
  have HC1 := Aside0.mk hc1
  clear hr1 hc1
  have HB := Aside0.mk (Below.refl w.heap.size w)
  have H_1 := Aside0.mk h_1
  clear h_1
  have H_2 := Aside0.mk h_2
  clear h_2
  have H_3 := Aside0.mk h_3
  clear h_3
  have H_4 := Aside0.mk h_4
  clear h_4
  have H_5 := Aside0.mk h_5
  clear h_5
  have H_6 := Aside0.mk h_6
  clear h_6
  have H_7 := Aside0.mk h_7
  clear h_7
  have H_8 := Aside0.mk h_8
  clear h_8
  have H_9 := Aside0.mk h_9
  clear h_9
  have H_10 := Aside0.mk h_10
  clear h_10
  have H_11 := Aside0.mk h_11
  clear h_11
  have H_12 := Aside0.mk h_12
  clear h_12
  go_enter Try.func8, Try.ntmps8
  have t1b := decide_eq_false (show ¬ ((1048576 : Int) < (l0.length : Int)) by omega)
  have t1n := decide_eq_false (show ¬ (1048576 < l0.length) by omega)
  go_wp2_with fail
  refine (laws_szEntryS.calls k _ _ l1 1048576 z _ (by (with_reducible repeat (first | exact (Kd.C_below HR1.out HB.out) | apply Kd.C_alloc | apply Kd.C_drewN | apply Kd.C_drew))) HC1.out H_1.out).mono ?_
  rintro e w1 ⟨rfl, hp1_⟩
  have HSn := Aside0.mk (show w.heap.size ≤ w1.heap.size by have h_ := hp1_.size; first | exact h_ | (simp at h_; omega))
  have n_ := Aside0.mk (show Below w.heap.size w w1 from below_then (by repeat (first | (with_reducible first | exact HB.out | apply below_alloc | apply pw_below_drewN | apply below_drew1) | exact HB.out)) (show Below w.heap.size w _ from (by repeat (first | (with_reducible first | exact HB.out | apply below_alloc | apply pw_below_drewN | apply below_drew1) | exact HB.out))).size hp1_)
  clear HB
  have HB := n_
  clear n_
  clear hp1_
  have HS1 := HSn
  clear HSn
  have t2b := decide_eq_false (show ¬ (z < 0) by omega)
  have t2p := eq_false (show ¬ (z < 0) by omega)
  go_wp2_with fail
  refine (laws_toIntS.calls k _ _ l0 l0 _ (by (with_reducible repeat (first | exact (Kd.C_below HR0.out HB.out) | apply Kd.C_alloc | apply Kd.C_drewN | apply Kd.C_drew))) HC0.out H_2.out).mono ?_
  rintro e w2 ⟨v0_, rfl, hp1_, hp2_⟩
  have HSn := Aside0.mk (show w1.heap.size ≤ w2.heap.size by have h_ := hp2_.size; first | exact h_ | (simp at h_; omega))
  have n_ := Aside0.mk (show Below w.heap.size w w2 from below_then (by repeat (first | (with_reducible first | exact HB.out | apply below_alloc | apply pw_below_drewN | apply below_drew1) | exact HB.out)) (show Below w.heap.size w _ from (by repeat (first | (with_reducible first | exact HB.out | apply below_alloc | apply pw_below_drewN | apply below_drew1) | exact HB.out))).size hp2_)
  clear HB
  have HB := n_
  clear n_
  have HF3 := Aside0.mk (show Kd.R (Kd.int .i64) 3 w2 w1.heap.size (fun k_ => w1.heap.size ≤ k_ ∧ k_ < w2.heap.size) v0_ l0 from Kd.R_mono (Kd.R_bound (Kd.R_lower hp1_ (by first | exact Nat.le_refl _ | (simp; done)))) (fun k_ hk => ⟨hk.2.1, hk.2.2.1⟩))
  obtain ⟨A_4, c_4, e_4⟩ := Kd.R_slice HF3.out
  subst e_4
  clear hp2_ hp1_
  have HS2 := HSn
  clear HSn
  go_wp2_with fail
  refine (laws_toEntryS.calls k _ _ l1 X _ (by (with_reducible repeat (first | exact (Kd.C_below HR1.out HB.out) | apply Kd.C_alloc | apply Kd.C_drewN | apply Kd.C_drew))) HC1.out H_3.out).mono ?_
  rintro e w3 ⟨v0_, rfl, hp1_, hp2_⟩
  have HSn := Aside0.mk (show w2.heap.size ≤ w3.heap.size by have h_ := hp2_.size; first | exact h_ | (simp at h_; omega))
  have n_ := Aside0.mk (Kd.R_below (by (with_reducible repeat (first | exact HF3.out | apply Kd.R_alloc | apply Kd.R_drewN | apply Kd.R_drew))) hp2_)
  clear HF3
  have HF3 := n_
  clear n_
  have n_ := Aside0.mk (show Below w.heap.size w w3 from below_then (by repeat (first | (with_reducible first | exact HB.out | apply below_alloc | apply pw_below_drewN | apply below_drew1) | exact HB.out)) (show Below w.heap.size w _ from (by repeat (first | (with_reducible first | exact HB.out | apply below_alloc | apply pw_below_drewN | apply below_drew1) | exact HB.out))).size hp2_)
  clear HB
  have HB := n_
  clear n_
  have HF6 := Aside0.mk (show Kd.R k91 91 w3 w2.heap.size (fun k_ => w2.heap.size ≤ k_ ∧ k_ < w3.heap.size) v0_ X from Kd.R_mono (Kd.R_bound (Kd.R_lower (Kd.S_R hp1_) (by first | exact Nat.le_refl _ | (simp; done)))) (fun k_ hk => ⟨hk.2.1, hk.2.2.1⟩))
  obtain ⟨A_7, c_7, e_7⟩ := Kd.R_slice HF6.out
  subst e_7
  clear hp2_ hp1_
  have HS3 := HSn
  clear HSn
  go_wp2_with fail
  refine (spec_LogReplay.calls k _ _ l0 _ _ X R b _ (by (with_reducible repeat (first | exact (Kd.R_reads' HF3.out).2.2 | apply Kd.C_alloc | apply Kd.C_drewN | apply Kd.C_drew))) (Kd.R_reads' HF3.out).2.1 (by (with_reducible repeat (first | exact (Kd.R_reads' HF6.out).2.2 | apply Kd.C_alloc | apply Kd.C_drewN | apply Kd.C_drew))) (Kd.R_reads' HF6.out).2.1 H_4.out).mono ?_
  rintro e w4 ⟨v0_, rfl, hp1_, hp2_⟩
  have HSn := Aside0.mk (show w3.heap.size ≤ w4.heap.size by have h_ := hp2_.size; first | exact h_ | (simp at h_; omega))
  have n_ := Aside0.mk (Kd.R_below (by (with_reducible repeat (first | exact HF3.out | apply Kd.R_alloc | apply Kd.R_drewN | apply Kd.R_drew))) hp2_)
  clear HF3
  have HF3 := n_
  clear n_
  have n_ := Aside0.mk (Kd.R_below (by (with_reducible repeat (first | exact HF6.out | apply Kd.R_alloc | apply Kd.R_drewN | apply Kd.R_drew))) hp2_)
  clear HF6
  have HF6 := n_
  clear n_
  have n_ := Aside0.mk (show Below w.heap.size w w4 from below_then (by repeat (first | (with_reducible first | exact HB.out | apply below_alloc | apply pw_below_drewN | apply below_drew1) | exact HB.out)) (show Below w.heap.size w _ from (by repeat (first | (with_reducible first | exact HB.out | apply below_alloc | apply pw_below_drewN | apply below_drew1) | exact HB.out))).size hp2_)
  clear HB
  have HB := n_
  clear n_
  have HF9 := Aside0.mk (show Kd.R (Kd.int .i64) 3 w4 w3.heap.size (fun k_ => w3.heap.size ≤ k_ ∧ k_ < w4.heap.size) v0_ R from Kd.R_mono (Kd.R_bound (Kd.R_lower hp1_ (by first | exact Nat.le_refl _ | (simp; done)))) (fun k_ hk => ⟨hk.2.1, hk.2.2.1⟩))
  obtain ⟨A_10, c_10, e_10⟩ := Kd.R_slice HF9.out
  subst e_10
  clear hp2_ hp1_
  have HS4 := HSn
  clear HSn
  go_wp2_with fail
  refine (laws_toIntS.calls k _ _ l0 l0 _ (by (with_reducible repeat (first | exact (Kd.C_below HR0.out HB.out) | apply Kd.C_alloc | apply Kd.C_drewN | apply Kd.C_drew))) HC0.out H_2.out).mono ?_
  rintro e w5 ⟨v0_, rfl, hp1_, hp2_⟩
  have HSn := Aside0.mk (show w4.heap.size ≤ w5.heap.size by have h_ := hp2_.size; first | exact h_ | (simp at h_; omega))
  have n_ := Aside0.mk (Kd.R_below (by (with_reducible repeat (first | exact HF3.out | apply Kd.R_alloc | apply Kd.R_drewN | apply Kd.R_drew))) hp2_)
  clear HF3
  have HF3 := n_
  clear n_
  have n_ := Aside0.mk (Kd.R_below (by (with_reducible repeat (first | exact HF6.out | apply Kd.R_alloc | apply Kd.R_drewN | apply Kd.R_drew))) hp2_)
  clear HF6
  have HF6 := n_
  clear n_
  have n_ := Aside0.mk (Kd.R_below (by (with_reducible repeat (first | exact HF9.out | apply Kd.R_alloc | apply Kd.R_drewN | apply Kd.R_drew))) hp2_)
  clear HF9
  have HF9 := n_
  clear n_
  have n_ := Aside0.mk (show Below w.heap.size w w5 from below_then (by repeat (first | (with_reducible first | exact HB.out | apply below_alloc | apply pw_below_drewN | apply below_drew1) | exact HB.out)) (show Below w.heap.size w _ from (by repeat (first | (with_reducible first | exact HB.out | apply below_alloc | apply pw_below_drewN | apply below_drew1) | exact HB.out))).size hp2_)
  clear HB
  have HB := n_
  clear n_
  have HF12 := Aside0.mk (show Kd.R (Kd.int .i64) 3 w5 w4.heap.size (fun k_ => w4.heap.size ≤ k_ ∧ k_ < w5.heap.size) v0_ l0 from Kd.R_mono (Kd.R_bound (Kd.R_lower hp1_ (by first | exact Nat.le_refl _ | (simp; done)))) (fun k_ hk => ⟨hk.2.1, hk.2.2.1⟩))
  obtain ⟨A_13, c_13, e_13⟩ := Kd.R_slice HF12.out
  subst e_13
  clear hp2_ hp1_
  have HS5 := HSn
  clear HSn
  go_wp2_with fail
  refine (laws_toEntryS.calls k _ _ l1 X _ (by (with_reducible repeat (first | exact (Kd.C_below HR1.out HB.out) | apply Kd.C_alloc | apply Kd.C_drewN | apply Kd.C_drew))) HC1.out H_3.out).mono ?_
  rintro e w6 ⟨v0_, rfl, hp1_, hp2_⟩
  have HSn := Aside0.mk (show w5.heap.size ≤ w6.heap.size by have h_ := hp2_.size; first | exact h_ | (simp at h_; omega))
  have n_ := Aside0.mk (Kd.R_below (by (with_reducible repeat (first | exact HF3.out | apply Kd.R_alloc | apply Kd.R_drewN | apply Kd.R_drew))) hp2_)
  clear HF3
  have HF3 := n_
  clear n_
  have n_ := Aside0.mk (Kd.R_below (by (with_reducible repeat (first | exact HF6.out | apply Kd.R_alloc | apply Kd.R_drewN | apply Kd.R_drew))) hp2_)
  clear HF6
  have HF6 := n_
  clear n_
  have n_ := Aside0.mk (Kd.R_below (by (with_reducible repeat (first | exact HF9.out | apply Kd.R_alloc | apply Kd.R_drewN | apply Kd.R_drew))) hp2_)
  clear HF9
  have HF9 := n_
  clear n_
  have n_ := Aside0.mk (Kd.R_below (by (with_reducible repeat (first | exact HF12.out | apply Kd.R_alloc | apply Kd.R_drewN | apply Kd.R_drew))) hp2_)
  clear HF12
  have HF12 := n_
  clear n_
  have n_ := Aside0.mk (show Below w.heap.size w w6 from below_then (by repeat (first | (with_reducible first | exact HB.out | apply below_alloc | apply pw_below_drewN | apply below_drew1) | exact HB.out)) (show Below w.heap.size w _ from (by repeat (first | (with_reducible first | exact HB.out | apply below_alloc | apply pw_below_drewN | apply below_drew1) | exact HB.out))).size hp2_)
  clear HB
  have HB := n_
  clear n_
  have HF15 := Aside0.mk (show Kd.R k91 91 w6 w5.heap.size (fun k_ => w5.heap.size ≤ k_ ∧ k_ < w6.heap.size) v0_ X from Kd.R_mono (Kd.R_bound (Kd.R_lower (Kd.S_R hp1_) (by first | exact Nat.le_refl _ | (simp; done)))) (fun k_ hk => ⟨hk.2.1, hk.2.2.1⟩))
  obtain ⟨A_16, c_16, e_16⟩ := Kd.R_slice HF15.out
  subst e_16
  clear hp2_ hp1_
  have HS6 := HSn
  clear HSn
  go_wp2_with fail
  refine (impl_LogReplay.calls k _ _ l0 _ _ X R b _ (by (with_reducible repeat (first | exact (Kd.R_reads' HF12.out).2.2 | apply Kd.C_alloc | apply Kd.C_drewN | apply Kd.C_drew))) (Kd.R_reads' HF12.out).2.1 (by (with_reducible repeat (first | exact (Kd.R_reads' HF15.out).2.2 | apply Kd.C_alloc | apply Kd.C_drewN | apply Kd.C_drew))) (Kd.R_reads' HF15.out).2.1 H_5.out).mono ?_
  rintro e w7 ⟨v0_, rfl, hp1_, hp2_⟩
  have HSn := Aside0.mk (show w6.heap.size ≤ w7.heap.size by have h_ := hp2_.size; first | exact h_ | (simp at h_; omega))
  have n_ := Aside0.mk (Kd.R_below (by (with_reducible repeat (first | exact HF3.out | apply Kd.R_alloc | apply Kd.R_drewN | apply Kd.R_drew))) hp2_)
  clear HF3
  have HF3 := n_
  clear n_
  have n_ := Aside0.mk (Kd.R_below (by (with_reducible repeat (first | exact HF6.out | apply Kd.R_alloc | apply Kd.R_drewN | apply Kd.R_drew))) hp2_)
  clear HF6
  have HF6 := n_
  clear n_
  have n_ := Aside0.mk (Kd.R_below (by (with_reducible repeat (first | exact HF9.out | apply Kd.R_alloc | apply Kd.R_drewN | apply Kd.R_drew))) hp2_)
  clear HF9
  have HF9 := n_
  clear n_
  have n_ := Aside0.mk (Kd.R_below (by (with_reducible repeat (first | exact HF12.out | apply Kd.R_alloc | apply Kd.R_drewN | apply Kd.R_drew))) hp2_)
  clear HF12
  have HF12 := n_
  clear n_
  have n_ := Aside0.mk (Kd.R_below (by (with_reducible repeat (first | exact HF15.out | apply Kd.R_alloc | apply Kd.R_drewN | apply Kd.R_drew))) hp2_)
  clear HF15
  have HF15 := n_
  clear n_
  have n_ := Aside0.mk (show Below w.heap.size w w7 from below_then (by repeat (first | (with_reducible first | exact HB.out | apply below_alloc | apply pw_below_drewN | apply below_drew1) | exact HB.out)) (show Below w.heap.size w _ from (by repeat (first | (with_reducible first | exact HB.out | apply below_alloc | apply pw_below_drewN | apply below_drew1) | exact HB.out))).size hp2_)
  clear HB
  have HB := n_
  clear n_
  have HF18 := Aside0.mk (show Kd.R (Kd.int .i64) 3 w7 w6.heap.size (fun k_ => w6.heap.size ≤ k_ ∧ k_ < w7.heap.size) v0_ R from Kd.R_mono (Kd.R_bound (Kd.R_lower hp1_ (by first | exact Nat.le_refl _ | (simp; done)))) (fun k_ hk => ⟨hk.2.1, hk.2.2.1⟩))
  obtain ⟨A_19, c_19, e_19⟩ := Kd.R_slice HF18.out
  subst e_19
  clear hp2_ hp1_
  have HS7 := HSn
  clear HSn
  go_wp2_with fail
  refine (laws_eqIntS.calls k _ _ R _ _ R true _ (by (with_reducible repeat (first | exact (Kd.R_reads' HF18.out).2.2 | apply Kd.C_alloc | apply Kd.C_drewN | apply Kd.C_drew))) (Kd.R_reads' HF18.out).2.1 (by (with_reducible repeat (first | exact (Kd.R_reads' HF9.out).2.2 | apply Kd.C_alloc | apply Kd.C_drewN | apply Kd.C_drew))) (Kd.R_reads' HF9.out).2.1 H_6.out).mono ?_
  rintro e w8 ⟨rfl, hp1_⟩
  have hb_ := hp1_.below
  clear hp1_
  have HSn := Aside0.mk (show w7.heap.size ≤ w8.heap.size by have h_ := hb_.size; first | exact h_ | (simp at h_; omega))
  have n_ := Aside0.mk (Kd.R_below (by (with_reducible repeat (first | exact HF3.out | apply Kd.R_alloc | apply Kd.R_drewN | apply Kd.R_drew))) hb_)
  clear HF3
  have HF3 := n_
  clear n_
  have n_ := Aside0.mk (Kd.R_below (by (with_reducible repeat (first | exact HF6.out | apply Kd.R_alloc | apply Kd.R_drewN | apply Kd.R_drew))) hb_)
  clear HF6
  have HF6 := n_
  clear n_
  have n_ := Aside0.mk (Kd.R_below (by (with_reducible repeat (first | exact HF9.out | apply Kd.R_alloc | apply Kd.R_drewN | apply Kd.R_drew))) hb_)
  clear HF9
  have HF9 := n_
  clear n_
  have n_ := Aside0.mk (Kd.R_below (by (with_reducible repeat (first | exact HF12.out | apply Kd.R_alloc | apply Kd.R_drewN | apply Kd.R_drew))) hb_)
  clear HF12
  have HF12 := n_
  clear n_
  have n_ := Aside0.mk (Kd.R_below (by (with_reducible repeat (first | exact HF15.out | apply Kd.R_alloc | apply Kd.R_drewN | apply Kd.R_drew))) hb_)
  clear HF15
  have HF15 := n_
  clear n_
  have n_ := Aside0.mk (Kd.R_below (by (with_reducible repeat (first | exact HF18.out | apply Kd.R_alloc | apply Kd.R_drewN | apply Kd.R_drew))) hb_)
  clear HF18
  have HF18 := n_
  clear n_
  have n_ := Aside0.mk (show Below w.heap.size w w8 from below_then (by repeat (first | (with_reducible first | exact HB.out | apply below_alloc | apply pw_below_drewN | apply below_drew1) | exact HB.out)) (show Below w.heap.size w _ from (by repeat (first | (with_reducible first | exact HB.out | apply below_alloc | apply pw_below_drewN | apply below_drew1) | exact HB.out))).size hb_)
  clear HB
  have HB := n_
  clear n_
  clear  hb_
  have HS8 := HSn
  clear HSn
  go_wp2_with fail
  refine (laws_toIntS.calls k _ _ l0 l0 _ (by (with_reducible repeat (first | exact (Kd.C_below HR0.out HB.out) | apply Kd.C_alloc | apply Kd.C_drewN | apply Kd.C_drew))) HC0.out H_2.out).mono ?_
  rintro e w9 ⟨v0_, rfl, hp1_, hp2_⟩
  have HSn := Aside0.mk (show w8.heap.size ≤ w9.heap.size by have h_ := hp2_.size; first | exact h_ | (simp at h_; omega))
  have n_ := Aside0.mk (Kd.R_below (by (with_reducible repeat (first | exact HF3.out | apply Kd.R_alloc | apply Kd.R_drewN | apply Kd.R_drew))) hp2_)
  clear HF3
  have HF3 := n_
  clear n_
  have n_ := Aside0.mk (Kd.R_below (by (with_reducible repeat (first | exact HF6.out | apply Kd.R_alloc | apply Kd.R_drewN | apply Kd.R_drew))) hp2_)
  clear HF6
  have HF6 := n_
  clear n_
  have n_ := Aside0.mk (Kd.R_below (by (with_reducible repeat (first | exact HF9.out | apply Kd.R_alloc | apply Kd.R_drewN | apply Kd.R_drew))) hp2_)
  clear HF9
  have HF9 := n_
  clear n_
  have n_ := Aside0.mk (Kd.R_below (by (with_reducible repeat (first | exact HF12.out | apply Kd.R_alloc | apply Kd.R_drewN | apply Kd.R_drew))) hp2_)
  clear HF12
  have HF12 := n_
  clear n_
  have n_ := Aside0.mk (Kd.R_below (by (with_reducible repeat (first | exact HF15.out | apply Kd.R_alloc | apply Kd.R_drewN | apply Kd.R_drew))) hp2_)
  clear HF15
  have HF15 := n_
  clear n_
  have n_ := Aside0.mk (Kd.R_below (by (with_reducible repeat (first | exact HF18.out | apply Kd.R_alloc | apply Kd.R_drewN | apply Kd.R_drew))) hp2_)
  clear HF18
  have HF18 := n_
  clear n_
  have n_ := Aside0.mk (show Below w.heap.size w w9 from below_then (by repeat (first | (with_reducible first | exact HB.out | apply below_alloc | apply pw_below_drewN | apply below_drew1) | exact HB.out)) (show Below w.heap.size w _ from (by repeat (first | (with_reducible first | exact HB.out | apply below_alloc | apply pw_below_drewN | apply below_drew1) | exact HB.out))).size hp2_)
  clear HB
  have HB := n_
  clear n_
  have HF22 := Aside0.mk (show Kd.R (Kd.int .i64) 3 w9 w8.heap.size (fun k_ => w8.heap.size ≤ k_ ∧ k_ < w9.heap.size) v0_ l0 from Kd.R_mono (Kd.R_bound (Kd.R_lower hp1_ (by first | exact Nat.le_refl _ | (simp; done)))) (fun k_ hk => ⟨hk.2.1, hk.2.2.1⟩))
  obtain ⟨A_23, c_23, e_23⟩ := Kd.R_slice HF22.out
  subst e_23
  clear hp2_ hp1_
  have HS9 := HSn
  clear HSn
  go_wp2_with fail
  refine (laws_eqIntS.calls k _ _ l0 _ _ l0 true _ (by (with_reducible repeat (first | exact (Kd.R_reads' HF12.out).2.2 | apply Kd.C_alloc | apply Kd.C_drewN | apply Kd.C_drew))) (Kd.R_reads' HF12.out).2.1 (by (with_reducible repeat (first | exact (Kd.R_reads' HF22.out).2.2 | apply Kd.C_alloc | apply Kd.C_drewN | apply Kd.C_drew))) (Kd.R_reads' HF22.out).2.1 H_7.out).mono ?_
  rintro e w10 ⟨rfl, hp1_⟩
  have hb_ := hp1_.below
  clear hp1_
  have HSn := Aside0.mk (show w9.heap.size ≤ w10.heap.size by have h_ := hb_.size; first | exact h_ | (simp at h_; omega))
  have n_ := Aside0.mk (Kd.R_below (by (with_reducible repeat (first | exact HF3.out | apply Kd.R_alloc | apply Kd.R_drewN | apply Kd.R_drew))) hb_)
  clear HF3
  have HF3 := n_
  clear n_
  have n_ := Aside0.mk (Kd.R_below (by (with_reducible repeat (first | exact HF6.out | apply Kd.R_alloc | apply Kd.R_drewN | apply Kd.R_drew))) hb_)
  clear HF6
  have HF6 := n_
  clear n_
  have n_ := Aside0.mk (Kd.R_below (by (with_reducible repeat (first | exact HF9.out | apply Kd.R_alloc | apply Kd.R_drewN | apply Kd.R_drew))) hb_)
  clear HF9
  have HF9 := n_
  clear n_
  have n_ := Aside0.mk (Kd.R_below (by (with_reducible repeat (first | exact HF12.out | apply Kd.R_alloc | apply Kd.R_drewN | apply Kd.R_drew))) hb_)
  clear HF12
  have HF12 := n_
  clear n_
  have n_ := Aside0.mk (Kd.R_below (by (with_reducible repeat (first | exact HF15.out | apply Kd.R_alloc | apply Kd.R_drewN | apply Kd.R_drew))) hb_)
  clear HF15
  have HF15 := n_
  clear n_
  have n_ := Aside0.mk (Kd.R_below (by (with_reducible repeat (first | exact HF18.out | apply Kd.R_alloc | apply Kd.R_drewN | apply Kd.R_drew))) hb_)
  clear HF18
  have HF18 := n_
  clear n_
  have n_ := Aside0.mk (Kd.R_below (by (with_reducible repeat (first | exact HF22.out | apply Kd.R_alloc | apply Kd.R_drewN | apply Kd.R_drew))) hb_)
  clear HF22
  have HF22 := n_
  clear n_
  have n_ := Aside0.mk (show Below w.heap.size w w10 from below_then (by repeat (first | (with_reducible first | exact HB.out | apply below_alloc | apply pw_below_drewN | apply below_drew1) | exact HB.out)) (show Below w.heap.size w _ from (by repeat (first | (with_reducible first | exact HB.out | apply below_alloc | apply pw_below_drewN | apply below_drew1) | exact HB.out))).size hb_)
  clear HB
  have HB := n_
  clear n_
  clear  hb_
  have HS10 := HSn
  clear HSn
  go_wp2_with fail
  refine (laws_toEntryS.calls k _ _ l1 X _ (by (with_reducible repeat (first | exact (Kd.C_below HR1.out HB.out) | apply Kd.C_alloc | apply Kd.C_drewN | apply Kd.C_drew))) HC1.out H_3.out).mono ?_
  rintro e w11 ⟨v0_, rfl, hp1_, hp2_⟩
  have HSn := Aside0.mk (show w10.heap.size ≤ w11.heap.size by have h_ := hp2_.size; first | exact h_ | (simp at h_; omega))
  have n_ := Aside0.mk (Kd.R_below (by (with_reducible repeat (first | exact HF3.out | apply Kd.R_alloc | apply Kd.R_drewN | apply Kd.R_drew))) hp2_)
  clear HF3
  have HF3 := n_
  clear n_
  have n_ := Aside0.mk (Kd.R_below (by (with_reducible repeat (first | exact HF6.out | apply Kd.R_alloc | apply Kd.R_drewN | apply Kd.R_drew))) hp2_)
  clear HF6
  have HF6 := n_
  clear n_
  have n_ := Aside0.mk (Kd.R_below (by (with_reducible repeat (first | exact HF9.out | apply Kd.R_alloc | apply Kd.R_drewN | apply Kd.R_drew))) hp2_)
  clear HF9
  have HF9 := n_
  clear n_
  have n_ := Aside0.mk (Kd.R_below (by (with_reducible repeat (first | exact HF12.out | apply Kd.R_alloc | apply Kd.R_drewN | apply Kd.R_drew))) hp2_)
  clear HF12
  have HF12 := n_
  clear n_
  have n_ := Aside0.mk (Kd.R_below (by (with_reducible repeat (first | exact HF15.out | apply Kd.R_alloc | apply Kd.R_drewN | apply Kd.R_drew))) hp2_)
  clear HF15
  have HF15 := n_
  clear n_
  have n_ := Aside0.mk (Kd.R_below (by (with_reducible repeat (first | exact HF18.out | apply Kd.R_alloc | apply Kd.R_drewN | apply Kd.R_drew))) hp2_)
  clear HF18
  have HF18 := n_
  clear n_
  have n_ := Aside0.mk (Kd.R_below (by (with_reducible repeat (first | exact HF22.out | apply Kd.R_alloc | apply Kd.R_drewN | apply Kd.R_drew))) hp2_)
  clear HF22
  have HF22 := n_
  clear n_
  have n_ := Aside0.mk (show Below w.heap.size w w11 from below_then (by repeat (first | (with_reducible first | exact HB.out | apply below_alloc | apply pw_below_drewN | apply below_drew1) | exact HB.out)) (show Below w.heap.size w _ from (by repeat (first | (with_reducible first | exact HB.out | apply below_alloc | apply pw_below_drewN | apply below_drew1) | exact HB.out))).size hp2_)
  clear HB
  have HB := n_
  clear n_
  have HF26 := Aside0.mk (show Kd.R k91 91 w11 w10.heap.size (fun k_ => w10.heap.size ≤ k_ ∧ k_ < w11.heap.size) v0_ X from Kd.R_mono (Kd.R_bound (Kd.R_lower (Kd.S_R hp1_) (by first | exact Nat.le_refl _ | (simp; done)))) (fun k_ hk => ⟨hk.2.1, hk.2.2.1⟩))
  obtain ⟨A_27, c_27, e_27⟩ := Kd.R_slice HF26.out
  subst e_27
  clear hp2_ hp1_
  have HS11 := HSn
  clear HSn
  go_wp2_with fail
  refine (laws_eqEntryS.calls k _ _ X _ _ X true _ (by (with_reducible repeat (first | exact (Kd.R_reads' HF15.out).2.2 | apply Kd.C_alloc | apply Kd.C_drewN | apply Kd.C_drew))) (Kd.R_reads' HF15.out).2.1 (by (with_reducible repeat (first | exact (Kd.R_reads' HF26.out).2.2 | apply Kd.C_alloc | apply Kd.C_drewN | apply Kd.C_drew))) (Kd.R_reads' HF26.out).2.1 H_8.out).mono ?_
  rintro e w12 ⟨rfl, hp1_⟩
  have HSn := Aside0.mk (show w11.heap.size ≤ w12.heap.size by have h_ := hp1_.size; first | exact h_ | (simp at h_; omega))
  have n_ := Aside0.mk (Kd.R_below (by (with_reducible repeat (first | exact HF3.out | apply Kd.R_alloc | apply Kd.R_drewN | apply Kd.R_drew))) hp1_)
  clear HF3
  have HF3 := n_
  clear n_
  have n_ := Aside0.mk (Kd.R_below (by (with_reducible repeat (first | exact HF6.out | apply Kd.R_alloc | apply Kd.R_drewN | apply Kd.R_drew))) hp1_)
  clear HF6
  have HF6 := n_
  clear n_
  have n_ := Aside0.mk (Kd.R_below (by (with_reducible repeat (first | exact HF9.out | apply Kd.R_alloc | apply Kd.R_drewN | apply Kd.R_drew))) hp1_)
  clear HF9
  have HF9 := n_
  clear n_
  have n_ := Aside0.mk (Kd.R_below (by (with_reducible repeat (first | exact HF12.out | apply Kd.R_alloc | apply Kd.R_drewN | apply Kd.R_drew))) hp1_)
  clear HF12
  have HF12 := n_
  clear n_
  have n_ := Aside0.mk (Kd.R_below (by (with_reducible repeat (first | exact HF15.out | apply Kd.R_alloc | apply Kd.R_drewN | apply Kd.R_drew))) hp1_)
  clear HF15
  have HF15 := n_
  clear n_
  have n_ := Aside0.mk (Kd.R_below (by (with_reducible repeat (first | exact HF18.out | apply Kd.R_alloc | apply Kd.R_drewN | apply Kd.R_drew))) hp1_)
  clear HF18
  have HF18 := n_
  clear n_
  have n_ := Aside0.mk (Kd.R_below (by (with_reducible repeat (first | exact HF22.out | apply Kd.R_alloc | apply Kd.R_drewN | apply Kd.R_drew))) hp1_)
  clear HF22
  have HF22 := n_
  clear n_
  have n_ := Aside0.mk (Kd.R_below (by (with_reducible repeat (first | exact HF26.out | apply Kd.R_alloc | apply Kd.R_drewN | apply Kd.R_drew))) hp1_)
  clear HF26
  have HF26 := n_
  clear n_
  have n_ := Aside0.mk (show Below w.heap.size w w12 from below_then (by repeat (first | (with_reducible first | exact HB.out | apply below_alloc | apply pw_below_drewN | apply below_drew1) | exact HB.out)) (show Below w.heap.size w _ from (by repeat (first | (with_reducible first | exact HB.out | apply below_alloc | apply pw_below_drewN | apply below_drew1) | exact HB.out))).size hp1_)
  clear HB
  have HB := n_
  clear n_
  clear hp1_
  have HS12 := HSn
  clear HSn
  go_wp2_with fail
  refine (laws_markIntS.calls k (fun k_ => w4.heap.size ≤ k_ ∧ k_ < w5.heap.size) _ l0 1 k1 L' w _ (by repeat (first | (with_reducible first | exact HB.out | apply below_alloc | apply pw_below_drewN | apply below_drew1) | exact HB.out)) (Kd.R_lower (by (with_reducible repeat (first | exact HF12.out | apply Kd.R_alloc | apply Kd.R_drewN | apply Kd.R_drew))) (by have := HS1.out; have := HS2.out; have := HS3.out; have := HS4.out; have := HS5.out; have := HS6.out; have := HS7.out; have := HS8.out; have := HS9.out; have := HS10.out; have := HS11.out; have := HS12.out; have := HB.out.size; omega)) H_9.out).mono ?_
  rintro e w13 ⟨rfl, hp1_, hp2_, hp3_⟩
  have HSn := Aside0.mk (show w12.heap.size ≤ w13.heap.size by have h_ := hp3_.1; first | exact h_ | (simp at h_; omega))
  have n_ := Aside0.mk (Kd.R_step (by (with_reducible repeat (first | exact HF3.out | apply Kd.R_alloc | apply Kd.R_drewN | apply Kd.R_drew))) (fun k_ ho_ hl_ => hp3_.2 k_ hl_ (fun hq_ => by have h1_ := ho_; have h2_ := hq_; have := HS1.out; have := HS2.out; have := HS3.out; have := HS4.out; have := HS5.out; have := HS6.out; have := HS7.out; have := HS8.out; have := HS9.out; have := HS10.out; have := HS11.out; have := HS12.out; omega)))
  clear HF3
  have HF3 := n_
  clear n_
  have n_ := Aside0.mk (Kd.R_step (by (with_reducible repeat (first | exact HF6.out | apply Kd.R_alloc | apply Kd.R_drewN | apply Kd.R_drew))) (fun k_ ho_ hl_ => hp3_.2 k_ hl_ (fun hq_ => by have h1_ := ho_; have h2_ := hq_; have := HS1.out; have := HS2.out; have := HS3.out; have := HS4.out; have := HS5.out; have := HS6.out; have := HS7.out; have := HS8.out; have := HS9.out; have := HS10.out; have := HS11.out; have := HS12.out; omega)))
  clear HF6
  have HF6 := n_
  clear n_
  have n_ := Aside0.mk (Kd.R_step (by (with_reducible repeat (first | exact HF9.out | apply Kd.R_alloc | apply Kd.R_drewN | apply Kd.R_drew))) (fun k_ ho_ hl_ => hp3_.2 k_ hl_ (fun hq_ => by have h1_ := ho_; have h2_ := hq_; have := HS1.out; have := HS2.out; have := HS3.out; have := HS4.out; have := HS5.out; have := HS6.out; have := HS7.out; have := HS8.out; have := HS9.out; have := HS10.out; have := HS11.out; have := HS12.out; omega)))
  clear HF9
  have HF9 := n_
  clear n_
  clear HF12
  have n_ := Aside0.mk (Kd.R_step (by (with_reducible repeat (first | exact HF15.out | apply Kd.R_alloc | apply Kd.R_drewN | apply Kd.R_drew))) (fun k_ ho_ hl_ => hp3_.2 k_ hl_ (fun hq_ => by have h1_ := ho_; have h2_ := hq_; have := HS1.out; have := HS2.out; have := HS3.out; have := HS4.out; have := HS5.out; have := HS6.out; have := HS7.out; have := HS8.out; have := HS9.out; have := HS10.out; have := HS11.out; have := HS12.out; omega)))
  clear HF15
  have HF15 := n_
  clear n_
  have n_ := Aside0.mk (Kd.R_step (by (with_reducible repeat (first | exact HF18.out | apply Kd.R_alloc | apply Kd.R_drewN | apply Kd.R_drew))) (fun k_ ho_ hl_ => hp3_.2 k_ hl_ (fun hq_ => by have h1_ := ho_; have h2_ := hq_; have := HS1.out; have := HS2.out; have := HS3.out; have := HS4.out; have := HS5.out; have := HS6.out; have := HS7.out; have := HS8.out; have := HS9.out; have := HS10.out; have := HS11.out; have := HS12.out; omega)))
  clear HF18
  have HF18 := n_
  clear n_
  have n_ := Aside0.mk (Kd.R_step (by (with_reducible repeat (first | exact HF22.out | apply Kd.R_alloc | apply Kd.R_drewN | apply Kd.R_drew))) (fun k_ ho_ hl_ => hp3_.2 k_ hl_ (fun hq_ => by have h1_ := ho_; have h2_ := hq_; have := HS1.out; have := HS2.out; have := HS3.out; have := HS4.out; have := HS5.out; have := HS6.out; have := HS7.out; have := HS8.out; have := HS9.out; have := HS10.out; have := HS11.out; have := HS12.out; omega)))
  clear HF22
  have HF22 := n_
  clear n_
  have n_ := Aside0.mk (Kd.R_step (by (with_reducible repeat (first | exact HF26.out | apply Kd.R_alloc | apply Kd.R_drewN | apply Kd.R_drew))) (fun k_ ho_ hl_ => hp3_.2 k_ hl_ (fun hq_ => by have h1_ := ho_; have h2_ := hq_; have := HS1.out; have := HS2.out; have := HS3.out; have := HS4.out; have := HS5.out; have := HS6.out; have := HS7.out; have := HS8.out; have := HS9.out; have := HS10.out; have := HS11.out; have := HS12.out; omega)))
  clear HF26
  have HF26 := n_
  clear n_
  have n_ := Aside0.mk hp2_
  clear HB
  have HB := n_
  clear n_
  have HF30 := Aside0.mk hp1_
  clear hp2_ hp3_ hp1_
  have HS13 := HSn
  clear HSn
  clear HF30
  go_wp2_with fail
  refine (laws_markEntryS.calls (fun k_ => w5.heap.size ≤ k_ ∧ k_ < w6.heap.size) _ X k1 k2 w _ (by repeat (first | (with_reducible first | exact HB.out | apply below_alloc | apply pw_below_drewN | apply below_drew1) | exact HB.out)) (Kd.R_lower (by (with_reducible repeat (first | exact HF15.out | apply Kd.R_alloc | apply Kd.R_drewN | apply Kd.R_drew))) (by have := HS1.out; have := HS2.out; have := HS3.out; have := HS4.out; have := HS5.out; have := HS6.out; have := HS7.out; have := HS8.out; have := HS9.out; have := HS10.out; have := HS11.out; have := HS12.out; have := HS13.out; have := HB.out.size; omega)) H_10.out).mono ?_
  rintro e w14 ⟨rfl, hp1_, hp2_⟩
  have HSn := Aside0.mk (show w13.heap.size ≤ w14.heap.size by have h_ := hp2_.1; first | exact h_ | (simp at h_; omega))
  have n_ := Aside0.mk (Kd.R_step (by (with_reducible repeat (first | exact HF3.out | apply Kd.R_alloc | apply Kd.R_drewN | apply Kd.R_drew))) (fun k_ ho_ hl_ => hp2_.2 k_ hl_ (fun hq_ => by have h1_ := ho_; have h2_ := hq_; have := HS1.out; have := HS2.out; have := HS3.out; have := HS4.out; have := HS5.out; have := HS6.out; have := HS7.out; have := HS8.out; have := HS9.out; have := HS10.out; have := HS11.out; have := HS12.out; have := HS13.out; omega)))
  clear HF3
  have HF3 := n_
  clear n_
  have n_ := Aside0.mk (Kd.R_step (by (with_reducible repeat (first | exact HF6.out | apply Kd.R_alloc | apply Kd.R_drewN | apply Kd.R_drew))) (fun k_ ho_ hl_ => hp2_.2 k_ hl_ (fun hq_ => by have h1_ := ho_; have h2_ := hq_; have := HS1.out; have := HS2.out; have := HS3.out; have := HS4.out; have := HS5.out; have := HS6.out; have := HS7.out; have := HS8.out; have := HS9.out; have := HS10.out; have := HS11.out; have := HS12.out; have := HS13.out; omega)))
  clear HF6
  have HF6 := n_
  clear n_
  have n_ := Aside0.mk (Kd.R_step (by (with_reducible repeat (first | exact HF9.out | apply Kd.R_alloc | apply Kd.R_drewN | apply Kd.R_drew))) (fun k_ ho_ hl_ => hp2_.2 k_ hl_ (fun hq_ => by have h1_ := ho_; have h2_ := hq_; have := HS1.out; have := HS2.out; have := HS3.out; have := HS4.out; have := HS5.out; have := HS6.out; have := HS7.out; have := HS8.out; have := HS9.out; have := HS10.out; have := HS11.out; have := HS12.out; have := HS13.out; omega)))
  clear HF9
  have HF9 := n_
  clear n_
  clear HF15
  have n_ := Aside0.mk (Kd.R_step (by (with_reducible repeat (first | exact HF18.out | apply Kd.R_alloc | apply Kd.R_drewN | apply Kd.R_drew))) (fun k_ ho_ hl_ => hp2_.2 k_ hl_ (fun hq_ => by have h1_ := ho_; have h2_ := hq_; have := HS1.out; have := HS2.out; have := HS3.out; have := HS4.out; have := HS5.out; have := HS6.out; have := HS7.out; have := HS8.out; have := HS9.out; have := HS10.out; have := HS11.out; have := HS12.out; have := HS13.out; omega)))
  clear HF18
  have HF18 := n_
  clear n_
  have n_ := Aside0.mk (Kd.R_step (by (with_reducible repeat (first | exact HF22.out | apply Kd.R_alloc | apply Kd.R_drewN | apply Kd.R_drew))) (fun k_ ho_ hl_ => hp2_.2 k_ hl_ (fun hq_ => by have h1_ := ho_; have h2_ := hq_; have := HS1.out; have := HS2.out; have := HS3.out; have := HS4.out; have := HS5.out; have := HS6.out; have := HS7.out; have := HS8.out; have := HS9.out; have := HS10.out; have := HS11.out; have := HS12.out; have := HS13.out; omega)))
  clear HF22
  have HF22 := n_
  clear n_
  have n_ := Aside0.mk (Kd.R_step (by (with_reducible repeat (first | exact HF26.out | apply Kd.R_alloc | apply Kd.R_drewN | apply Kd.R_drew))) (fun k_ ho_ hl_ => hp2_.2 k_ hl_ (fun hq_ => by have h1_ := ho_; have h2_ := hq_; have := HS1.out; have := HS2.out; have := HS3.out; have := HS4.out; have := HS5.out; have := HS6.out; have := HS7.out; have := HS8.out; have := HS9.out; have := HS10.out; have := HS11.out; have := HS12.out; have := HS13.out; omega)))
  clear HF26
  have HF26 := n_
  clear n_
  have n_ := Aside0.mk hp1_
  clear HB
  have HB := n_
  clear n_
  clear hp2_ hp1_
  have HS14 := HSn
  clear HSn
  have t3b := decide_eq_false (show ¬ (k2 < 0) by omega)
  have t3p := eq_false (show ¬ (k2 < 0) by omega)
  go_wp2_with fail
  refine (laws_eqIntS.calls k _ _ R _ _ R true _ (by (with_reducible repeat (first | exact (Kd.R_reads' HF18.out).2.2 | apply Kd.C_alloc | apply Kd.C_drewN | apply Kd.C_drew))) (Kd.R_reads' HF18.out).2.1 (by (with_reducible repeat (first | exact (Kd.R_reads' HF9.out).2.2 | apply Kd.C_alloc | apply Kd.C_drewN | apply Kd.C_drew))) (Kd.R_reads' HF9.out).2.1 H_6.out).mono ?_
  rintro e w15 ⟨rfl, hp1_⟩
  have hb_ := hp1_.below
  clear hp1_
  have HSn := Aside0.mk (show w14.heap.size ≤ w15.heap.size by have h_ := hb_.size; first | exact h_ | (simp at h_; omega))
  have n_ := Aside0.mk (Kd.R_below (by (with_reducible repeat (first | exact HF3.out | apply Kd.R_alloc | apply Kd.R_drewN | apply Kd.R_drew))) hb_)
  clear HF3
  have HF3 := n_
  clear n_
  have n_ := Aside0.mk (Kd.R_below (by (with_reducible repeat (first | exact HF6.out | apply Kd.R_alloc | apply Kd.R_drewN | apply Kd.R_drew))) hb_)
  clear HF6
  have HF6 := n_
  clear n_
  have n_ := Aside0.mk (Kd.R_below (by (with_reducible repeat (first | exact HF9.out | apply Kd.R_alloc | apply Kd.R_drewN | apply Kd.R_drew))) hb_)
  clear HF9
  have HF9 := n_
  clear n_
  have n_ := Aside0.mk (Kd.R_below (by (with_reducible repeat (first | exact HF18.out | apply Kd.R_alloc | apply Kd.R_drewN | apply Kd.R_drew))) hb_)
  clear HF18
  have HF18 := n_
  clear n_
  have n_ := Aside0.mk (Kd.R_below (by (with_reducible repeat (first | exact HF22.out | apply Kd.R_alloc | apply Kd.R_drewN | apply Kd.R_drew))) hb_)
  clear HF22
  have HF22 := n_
  clear n_
  have n_ := Aside0.mk (Kd.R_below (by (with_reducible repeat (first | exact HF26.out | apply Kd.R_alloc | apply Kd.R_drewN | apply Kd.R_drew))) hb_)
  clear HF26
  have HF26 := n_
  clear n_
  have n_ := Aside0.mk (show Below w.heap.size w w15 from below_then (by repeat (first | (with_reducible first | exact HB.out | apply below_alloc | apply pw_below_drewN | apply below_drew1) | exact HB.out)) (show Below w.heap.size w _ from (by repeat (first | (with_reducible first | exact HB.out | apply below_alloc | apply pw_below_drewN | apply below_drew1) | exact HB.out))).size hb_)
  clear HB
  have HB := n_
  clear n_
  clear  hb_
  have HS15 := HSn
  clear HSn
  go_wp2_with fail
  refine (laws_markIntS.calls k (fun k_ => w6.heap.size ≤ k_ ∧ k_ < w7.heap.size) _ R 1 m R' w _ (by repeat (first | (with_reducible first | exact HB.out | apply below_alloc | apply pw_below_drewN | apply below_drew1) | exact HB.out)) (Kd.R_lower (by (with_reducible repeat (first | exact HF18.out | apply Kd.R_alloc | apply Kd.R_drewN | apply Kd.R_drew))) (by have := HS1.out; have := HS2.out; have := HS3.out; have := HS4.out; have := HS5.out; have := HS6.out; have := HS7.out; have := HS8.out; have := HS9.out; have := HS10.out; have := HS11.out; have := HS12.out; have := HS13.out; have := HS14.out; have := HS15.out; have := HB.out.size; omega)) H_11.out).mono ?_
  rintro e w16 ⟨rfl, hp1_, hp2_, hp3_⟩
  have HSn := Aside0.mk (show w15.heap.size ≤ w16.heap.size by have h_ := hp3_.1; first | exact h_ | (simp at h_; omega))
  have n_ := Aside0.mk (Kd.R_step (by (with_reducible repeat (first | exact HF3.out | apply Kd.R_alloc | apply Kd.R_drewN | apply Kd.R_drew))) (fun k_ ho_ hl_ => hp3_.2 k_ hl_ (fun hq_ => by have h1_ := ho_; have h2_ := hq_; have := HS1.out; have := HS2.out; have := HS3.out; have := HS4.out; have := HS5.out; have := HS6.out; have := HS7.out; have := HS8.out; have := HS9.out; have := HS10.out; have := HS11.out; have := HS12.out; have := HS13.out; have := HS14.out; have := HS15.out; omega)))
  clear HF3
  have HF3 := n_
  clear n_
  have n_ := Aside0.mk (Kd.R_step (by (with_reducible repeat (first | exact HF6.out | apply Kd.R_alloc | apply Kd.R_drewN | apply Kd.R_drew))) (fun k_ ho_ hl_ => hp3_.2 k_ hl_ (fun hq_ => by have h1_ := ho_; have h2_ := hq_; have := HS1.out; have := HS2.out; have := HS3.out; have := HS4.out; have := HS5.out; have := HS6.out; have := HS7.out; have := HS8.out; have := HS9.out; have := HS10.out; have := HS11.out; have := HS12.out; have := HS13.out; have := HS14.out; have := HS15.out; omega)))
  clear HF6
  have HF6 := n_
  clear n_
  have n_ := Aside0.mk (Kd.R_step (by (with_reducible repeat (first | exact HF9.out | apply Kd.R_alloc | apply Kd.R_drewN | apply Kd.R_drew))) (fun k_ ho_ hl_ => hp3_.2 k_ hl_ (fun hq_ => by have h1_ := ho_; have h2_ := hq_; have := HS1.out; have := HS2.out; have := HS3.out; have := HS4.out; have := HS5.out; have := HS6.out; have := HS7.out; have := HS8.out; have := HS9.out; have := HS10.out; have := HS11.out; have := HS12.out; have := HS13.out; have := HS14.out; have := HS15.out; omega)))
  clear HF9
  have HF9 := n_
  clear n_
  clear HF18
  have n_ := Aside0.mk (Kd.R_step (by (with_reducible repeat (first | exact HF22.out | apply Kd.R_alloc | apply Kd.R_drewN | apply Kd.R_drew))) (fun k_ ho_ hl_ => hp3_.2 k_ hl_ (fun hq_ => by have h1_ := ho_; have h2_ := hq_; have := HS1.out; have := HS2.out; have := HS3.out; have := HS4.out; have := HS5.out; have := HS6.out; have := HS7.out; have := HS8.out; have := HS9.out; have := HS10.out; have := HS11.out; have := HS12.out; have := HS13.out; have := HS14.out; have := HS15.out; omega)))
  clear HF22
  have HF22 := n_
  clear n_
  have n_ := Aside0.mk (Kd.R_step (by (with_reducible repeat (first | exact HF26.out | apply Kd.R_alloc | apply Kd.R_drewN | apply Kd.R_drew))) (fun k_ ho_ hl_ => hp3_.2 k_ hl_ (fun hq_ => by have h1_ := ho_; have h2_ := hq_; have := HS1.out; have := HS2.out; have := HS3.out; have := HS4.out; have := HS5.out; have := HS6.out; have := HS7.out; have := HS8.out; have := HS9.out; have := HS10.out; have := HS11.out; have := HS12.out; have := HS13.out; have := HS14.out; have := HS15.out; omega)))
  clear HF26
  have HF26 := n_
  clear n_
  have n_ := Aside0.mk hp2_
  clear HB
  have HB := n_
  clear n_
  have HF34 := Aside0.mk hp1_
  clear hp2_ hp3_ hp1_
  have HS16 := HSn
  clear HSn
  go_wp2_with fail
  have eL_ := (Kd.R_reads' HF34.out).1
  have hc_ := laws_heldIntS.calls k A_19 c_19 R' 1 m w16 (by (with_reducible repeat (first | exact (Kd.R_reads' HF34.out).2.2 | apply Kd.C_alloc | apply Kd.C_drewN | apply Kd.C_drew))) (by have h_ := Kd.R_reads' HF34.out; omega) H_12.out
  rw [← eL_] at hc_
  clear eL_
  refine hc_.mono ?_
  clear hc_
  rintro e w17 ⟨rfl, hp1_⟩
  have hb_ := hp1_.below
  clear hp1_
  have HSn := Aside0.mk (show w16.heap.size ≤ w17.heap.size by have h_ := hb_.size; first | exact h_ | (simp at h_; omega))
  have n_ := Aside0.mk (Kd.R_below (by (with_reducible repeat (first | exact HF3.out | apply Kd.R_alloc | apply Kd.R_drewN | apply Kd.R_drew))) hb_)
  clear HF3
  have HF3 := n_
  clear n_
  have n_ := Aside0.mk (Kd.R_below (by (with_reducible repeat (first | exact HF6.out | apply Kd.R_alloc | apply Kd.R_drewN | apply Kd.R_drew))) hb_)
  clear HF6
  have HF6 := n_
  clear n_
  have n_ := Aside0.mk (Kd.R_below (by (with_reducible repeat (first | exact HF9.out | apply Kd.R_alloc | apply Kd.R_drewN | apply Kd.R_drew))) hb_)
  clear HF9
  have HF9 := n_
  clear n_
  have n_ := Aside0.mk (Kd.R_below (by (with_reducible repeat (first | exact HF22.out | apply Kd.R_alloc | apply Kd.R_drewN | apply Kd.R_drew))) hb_)
  clear HF22
  have HF22 := n_
  clear n_
  have n_ := Aside0.mk (Kd.R_below (by (with_reducible repeat (first | exact HF26.out | apply Kd.R_alloc | apply Kd.R_drewN | apply Kd.R_drew))) hb_)
  clear HF26
  have HF26 := n_
  clear n_
  have n_ := Aside0.mk (Kd.R_below (by (with_reducible repeat (first | exact HF34.out | apply Kd.R_alloc | apply Kd.R_drewN | apply Kd.R_drew))) hb_)
  clear HF34
  have HF34 := n_
  clear n_
  have n_ := Aside0.mk (show Below w.heap.size w w17 from below_then (by repeat (first | (with_reducible first | exact HB.out | apply below_alloc | apply pw_below_drewN | apply below_drew1) | exact HB.out)) (show Below w.heap.size w _ from (by repeat (first | (with_reducible first | exact HB.out | apply below_alloc | apply pw_below_drewN | apply below_drew1) | exact HB.out))).size hb_)
  clear HB
  have HB := n_
  clear n_
  clear  hb_
  have HS17 := HSn
  clear HSn
  have t4b := decide_eq_false (show ¬ (m < 0) by omega)
  have t4p := eq_false (show ¬ (m < 0) by omega)
  go_wp2_with fail
  refine (laws_toIntS.calls k _ _ l0 l0 _ (by (with_reducible repeat (first | exact (Kd.C_below HR0.out HB.out) | apply Kd.C_alloc | apply Kd.C_drewN | apply Kd.C_drew))) HC0.out H_2.out).mono ?_
  rintro e w18 ⟨v0_, rfl, hp1_, hp2_⟩
  have HSn := Aside0.mk (show w17.heap.size ≤ w18.heap.size by have h_ := hp2_.size; first | exact h_ | (simp at h_; omega))
  have n_ := Aside0.mk (Kd.R_below (by (with_reducible repeat (first | exact HF3.out | apply Kd.R_alloc | apply Kd.R_drewN | apply Kd.R_drew))) hp2_)
  clear HF3
  have HF3 := n_
  clear n_
  have n_ := Aside0.mk (Kd.R_below (by (with_reducible repeat (first | exact HF6.out | apply Kd.R_alloc | apply Kd.R_drewN | apply Kd.R_drew))) hp2_)
  clear HF6
  have HF6 := n_
  clear n_
  have n_ := Aside0.mk (Kd.R_below (by (with_reducible repeat (first | exact HF9.out | apply Kd.R_alloc | apply Kd.R_drewN | apply Kd.R_drew))) hp2_)
  clear HF9
  have HF9 := n_
  clear n_
  have n_ := Aside0.mk (Kd.R_below (by (with_reducible repeat (first | exact HF22.out | apply Kd.R_alloc | apply Kd.R_drewN | apply Kd.R_drew))) hp2_)
  clear HF22
  have HF22 := n_
  clear n_
  have n_ := Aside0.mk (Kd.R_below (by (with_reducible repeat (first | exact HF26.out | apply Kd.R_alloc | apply Kd.R_drewN | apply Kd.R_drew))) hp2_)
  clear HF26
  have HF26 := n_
  clear n_
  have n_ := Aside0.mk (Kd.R_below (by (with_reducible repeat (first | exact HF34.out | apply Kd.R_alloc | apply Kd.R_drewN | apply Kd.R_drew))) hp2_)
  clear HF34
  have HF34 := n_
  clear n_
  have n_ := Aside0.mk (show Below w.heap.size w w18 from below_then (by repeat (first | (with_reducible first | exact HB.out | apply below_alloc | apply pw_below_drewN | apply below_drew1) | exact HB.out)) (show Below w.heap.size w _ from (by repeat (first | (with_reducible first | exact HB.out | apply below_alloc | apply pw_below_drewN | apply below_drew1) | exact HB.out))).size hp2_)
  clear HB
  have HB := n_
  clear n_
  have HF37 := Aside0.mk (show Kd.R (Kd.int .i64) 3 w18 w17.heap.size (fun k_ => w17.heap.size ≤ k_ ∧ k_ < w18.heap.size) v0_ l0 from Kd.R_mono (Kd.R_bound (Kd.R_lower hp1_ (by first | exact Nat.le_refl _ | (simp; done)))) (fun k_ hk => ⟨hk.2.1, hk.2.2.1⟩))
  obtain ⟨A_38, c_38, e_38⟩ := Kd.R_slice HF37.out
  subst e_38
  clear hp2_ hp1_
  have HS18 := HSn
  clear HSn
  go_wp2_with fail
  refine (laws_toEntryS.calls k _ _ l1 X _ (by (with_reducible repeat (first | exact (Kd.C_below HR1.out HB.out) | apply Kd.C_alloc | apply Kd.C_drewN | apply Kd.C_drew))) HC1.out H_3.out).mono ?_
  rintro e w19 ⟨v0_, rfl, hp1_, hp2_⟩
  have HSn := Aside0.mk (show w18.heap.size ≤ w19.heap.size by have h_ := hp2_.size; first | exact h_ | (simp at h_; omega))
  have n_ := Aside0.mk (Kd.R_below (by (with_reducible repeat (first | exact HF3.out | apply Kd.R_alloc | apply Kd.R_drewN | apply Kd.R_drew))) hp2_)
  clear HF3
  have HF3 := n_
  clear n_
  have n_ := Aside0.mk (Kd.R_below (by (with_reducible repeat (first | exact HF6.out | apply Kd.R_alloc | apply Kd.R_drewN | apply Kd.R_drew))) hp2_)
  clear HF6
  have HF6 := n_
  clear n_
  have n_ := Aside0.mk (Kd.R_below (by (with_reducible repeat (first | exact HF9.out | apply Kd.R_alloc | apply Kd.R_drewN | apply Kd.R_drew))) hp2_)
  clear HF9
  have HF9 := n_
  clear n_
  have n_ := Aside0.mk (Kd.R_below (by (with_reducible repeat (first | exact HF22.out | apply Kd.R_alloc | apply Kd.R_drewN | apply Kd.R_drew))) hp2_)
  clear HF22
  have HF22 := n_
  clear n_
  have n_ := Aside0.mk (Kd.R_below (by (with_reducible repeat (first | exact HF26.out | apply Kd.R_alloc | apply Kd.R_drewN | apply Kd.R_drew))) hp2_)
  clear HF26
  have HF26 := n_
  clear n_
  have n_ := Aside0.mk (Kd.R_below (by (with_reducible repeat (first | exact HF34.out | apply Kd.R_alloc | apply Kd.R_drewN | apply Kd.R_drew))) hp2_)
  clear HF34
  have HF34 := n_
  clear n_
  have n_ := Aside0.mk (Kd.R_below (by (with_reducible repeat (first | exact HF37.out | apply Kd.R_alloc | apply Kd.R_drewN | apply Kd.R_drew))) hp2_)
  clear HF37
  have HF37 := n_
  clear n_
  have n_ := Aside0.mk (show Below w.heap.size w w19 from below_then (by repeat (first | (with_reducible first | exact HB.out | apply below_alloc | apply pw_below_drewN | apply below_drew1) | exact HB.out)) (show Below w.heap.size w _ from (by repeat (first | (with_reducible first | exact HB.out | apply below_alloc | apply pw_below_drewN | apply below_drew1) | exact HB.out))).size hp2_)
  clear HB
  have HB := n_
  clear n_
  have HF40 := Aside0.mk (show Kd.R k91 91 w19 w18.heap.size (fun k_ => w18.heap.size ≤ k_ ∧ k_ < w19.heap.size) v0_ X from Kd.R_mono (Kd.R_bound (Kd.R_lower (Kd.S_R hp1_) (by first | exact Nat.le_refl _ | (simp; done)))) (fun k_ hk => ⟨hk.2.1, hk.2.2.1⟩))
  obtain ⟨A_41, c_41, e_41⟩ := Kd.R_slice HF40.out
  subst e_41
  clear hp2_ hp1_
  have HS19 := HSn
  clear HSn
  go_wp2_with fail
  refine (impl_LogReplay.calls k _ _ l0 _ _ X R b _ (by (with_reducible repeat (first | exact (Kd.R_reads' HF37.out).2.2 | apply Kd.C_alloc | apply Kd.C_drewN | apply Kd.C_drew))) (Kd.R_reads' HF37.out).2.1 (by (with_reducible repeat (first | exact (Kd.R_reads' HF40.out).2.2 | apply Kd.C_alloc | apply Kd.C_drewN | apply Kd.C_drew))) (Kd.R_reads' HF40.out).2.1 H_5.out).mono ?_
  rintro e w20 ⟨v0_, rfl, hp1_, hp2_⟩
  have HSn := Aside0.mk (show w19.heap.size ≤ w20.heap.size by have h_ := hp2_.size; first | exact h_ | (simp at h_; omega))
  have n_ := Aside0.mk (Kd.R_below (by (with_reducible repeat (first | exact HF3.out | apply Kd.R_alloc | apply Kd.R_drewN | apply Kd.R_drew))) hp2_)
  clear HF3
  have HF3 := n_
  clear n_
  have n_ := Aside0.mk (Kd.R_below (by (with_reducible repeat (first | exact HF6.out | apply Kd.R_alloc | apply Kd.R_drewN | apply Kd.R_drew))) hp2_)
  clear HF6
  have HF6 := n_
  clear n_
  have n_ := Aside0.mk (Kd.R_below (by (with_reducible repeat (first | exact HF9.out | apply Kd.R_alloc | apply Kd.R_drewN | apply Kd.R_drew))) hp2_)
  clear HF9
  have HF9 := n_
  clear n_
  have n_ := Aside0.mk (Kd.R_below (by (with_reducible repeat (first | exact HF22.out | apply Kd.R_alloc | apply Kd.R_drewN | apply Kd.R_drew))) hp2_)
  clear HF22
  have HF22 := n_
  clear n_
  have n_ := Aside0.mk (Kd.R_below (by (with_reducible repeat (first | exact HF26.out | apply Kd.R_alloc | apply Kd.R_drewN | apply Kd.R_drew))) hp2_)
  clear HF26
  have HF26 := n_
  clear n_
  have n_ := Aside0.mk (Kd.R_below (by (with_reducible repeat (first | exact HF34.out | apply Kd.R_alloc | apply Kd.R_drewN | apply Kd.R_drew))) hp2_)
  clear HF34
  have HF34 := n_
  clear n_
  have n_ := Aside0.mk (Kd.R_below (by (with_reducible repeat (first | exact HF37.out | apply Kd.R_alloc | apply Kd.R_drewN | apply Kd.R_drew))) hp2_)
  clear HF37
  have HF37 := n_
  clear n_
  have n_ := Aside0.mk (Kd.R_below (by (with_reducible repeat (first | exact HF40.out | apply Kd.R_alloc | apply Kd.R_drewN | apply Kd.R_drew))) hp2_)
  clear HF40
  have HF40 := n_
  clear n_
  have n_ := Aside0.mk (show Below w.heap.size w w20 from below_then (by repeat (first | (with_reducible first | exact HB.out | apply below_alloc | apply pw_below_drewN | apply below_drew1) | exact HB.out)) (show Below w.heap.size w _ from (by repeat (first | (with_reducible first | exact HB.out | apply below_alloc | apply pw_below_drewN | apply below_drew1) | exact HB.out))).size hp2_)
  clear HB
  have HB := n_
  clear n_
  have HF43 := Aside0.mk (show Kd.R (Kd.int .i64) 3 w20 w19.heap.size (fun k_ => w19.heap.size ≤ k_ ∧ k_ < w20.heap.size) v0_ R from Kd.R_mono (Kd.R_bound (Kd.R_lower hp1_ (by first | exact Nat.le_refl _ | (simp; done)))) (fun k_ hk => ⟨hk.2.1, hk.2.2.1⟩))
  obtain ⟨A_44, c_44, e_44⟩ := Kd.R_slice HF43.out
  subst e_44
  clear hp2_ hp1_
  have HS20 := HSn
  clear HSn
  go_wp2_with fail
  refine (laws_eqIntS.calls k _ _ R _ _ R true _ (by (with_reducible repeat (first | exact (Kd.R_reads' HF43.out).2.2 | apply Kd.C_alloc | apply Kd.C_drewN | apply Kd.C_drew))) (Kd.R_reads' HF43.out).2.1 (by (with_reducible repeat (first | exact (Kd.R_reads' HF9.out).2.2 | apply Kd.C_alloc | apply Kd.C_drewN | apply Kd.C_drew))) (Kd.R_reads' HF9.out).2.1 H_6.out).mono ?_
  rintro e w21 ⟨rfl, hp1_⟩
  have hb_ := hp1_.below
  clear hp1_
  have HSn := Aside0.mk (show w20.heap.size ≤ w21.heap.size by have h_ := hb_.size; first | exact h_ | (simp at h_; omega))
  have n_ := Aside0.mk (Kd.R_below (by (with_reducible repeat (first | exact HF3.out | apply Kd.R_alloc | apply Kd.R_drewN | apply Kd.R_drew))) hb_)
  clear HF3
  have HF3 := n_
  clear n_
  have n_ := Aside0.mk (Kd.R_below (by (with_reducible repeat (first | exact HF6.out | apply Kd.R_alloc | apply Kd.R_drewN | apply Kd.R_drew))) hb_)
  clear HF6
  have HF6 := n_
  clear n_
  have n_ := Aside0.mk (Kd.R_below (by (with_reducible repeat (first | exact HF9.out | apply Kd.R_alloc | apply Kd.R_drewN | apply Kd.R_drew))) hb_)
  clear HF9
  have HF9 := n_
  clear n_
  have n_ := Aside0.mk (Kd.R_below (by (with_reducible repeat (first | exact HF22.out | apply Kd.R_alloc | apply Kd.R_drewN | apply Kd.R_drew))) hb_)
  clear HF22
  have HF22 := n_
  clear n_
  have n_ := Aside0.mk (Kd.R_below (by (with_reducible repeat (first | exact HF26.out | apply Kd.R_alloc | apply Kd.R_drewN | apply Kd.R_drew))) hb_)
  clear HF26
  have HF26 := n_
  clear n_
  have n_ := Aside0.mk (Kd.R_below (by (with_reducible repeat (first | exact HF34.out | apply Kd.R_alloc | apply Kd.R_drewN | apply Kd.R_drew))) hb_)
  clear HF34
  have HF34 := n_
  clear n_
  have n_ := Aside0.mk (Kd.R_below (by (with_reducible repeat (first | exact HF37.out | apply Kd.R_alloc | apply Kd.R_drewN | apply Kd.R_drew))) hb_)
  clear HF37
  have HF37 := n_
  clear n_
  have n_ := Aside0.mk (Kd.R_below (by (with_reducible repeat (first | exact HF40.out | apply Kd.R_alloc | apply Kd.R_drewN | apply Kd.R_drew))) hb_)
  clear HF40
  have HF40 := n_
  clear n_
  have n_ := Aside0.mk (Kd.R_below (by (with_reducible repeat (first | exact HF43.out | apply Kd.R_alloc | apply Kd.R_drewN | apply Kd.R_drew))) hb_)
  clear HF43
  have HF43 := n_
  clear n_
  have n_ := Aside0.mk (show Below w.heap.size w w21 from below_then (by repeat (first | (with_reducible first | exact HB.out | apply below_alloc | apply pw_below_drewN | apply below_drew1) | exact HB.out)) (show Below w.heap.size w _ from (by repeat (first | (with_reducible first | exact HB.out | apply below_alloc | apply pw_below_drewN | apply below_drew1) | exact HB.out))).size hb_)
  clear HB
  have HB := n_
  clear n_
  clear  hb_
  have HS21 := HSn
  clear HSn
  go_wp2_with fail
  have eL_ := (Kd.R_reads' HF34.out).1
  have hc_ := laws_heldIntS.calls k A_19 c_19 R' 1 m w21 (by (with_reducible repeat (first | exact (Kd.R_reads' HF34.out).2.2 | apply Kd.C_alloc | apply Kd.C_drewN | apply Kd.C_drew))) (by have h_ := Kd.R_reads' HF34.out; omega) H_12.out
  rw [← eL_] at hc_
  clear eL_
  refine hc_.mono ?_
  clear hc_
  rintro e w22 ⟨rfl, hp1_⟩
  have hb_ := hp1_.below
  clear hp1_
  have HSn := Aside0.mk (show w21.heap.size ≤ w22.heap.size by have h_ := hb_.size; first | exact h_ | (simp at h_; omega))
  have n_ := Aside0.mk (Kd.R_below (by (with_reducible repeat (first | exact HF3.out | apply Kd.R_alloc | apply Kd.R_drewN | apply Kd.R_drew))) hb_)
  clear HF3
  have HF3 := n_
  clear n_
  have n_ := Aside0.mk (Kd.R_below (by (with_reducible repeat (first | exact HF6.out | apply Kd.R_alloc | apply Kd.R_drewN | apply Kd.R_drew))) hb_)
  clear HF6
  have HF6 := n_
  clear n_
  have n_ := Aside0.mk (Kd.R_below (by (with_reducible repeat (first | exact HF9.out | apply Kd.R_alloc | apply Kd.R_drewN | apply Kd.R_drew))) hb_)
  clear HF9
  have HF9 := n_
  clear n_
  have n_ := Aside0.mk (Kd.R_below (by (with_reducible repeat (first | exact HF22.out | apply Kd.R_alloc | apply Kd.R_drewN | apply Kd.R_drew))) hb_)
  clear HF22
  have HF22 := n_
  clear n_
  have n_ := Aside0.mk (Kd.R_below (by (with_reducible repeat (first | exact HF26.out | apply Kd.R_alloc | apply Kd.R_drewN | apply Kd.R_drew))) hb_)
  clear HF26
  have HF26 := n_
  clear n_
  have n_ := Aside0.mk (Kd.R_below (by (with_reducible repeat (first | exact HF34.out | apply Kd.R_alloc | apply Kd.R_drewN | apply Kd.R_drew))) hb_)
  clear HF34
  have HF34 := n_
  clear n_
  have n_ := Aside0.mk (Kd.R_below (by (with_reducible repeat (first | exact HF37.out | apply Kd.R_alloc | apply Kd.R_drewN | apply Kd.R_drew))) hb_)
  clear HF37
  have HF37 := n_
  clear n_
  have n_ := Aside0.mk (Kd.R_below (by (with_reducible repeat (first | exact HF40.out | apply Kd.R_alloc | apply Kd.R_drewN | apply Kd.R_drew))) hb_)
  clear HF40
  have HF40 := n_
  clear n_
  have n_ := Aside0.mk (Kd.R_below (by (with_reducible repeat (first | exact HF43.out | apply Kd.R_alloc | apply Kd.R_drewN | apply Kd.R_drew))) hb_)
  clear HF43
  have HF43 := n_
  clear n_
  have n_ := Aside0.mk (show Below w.heap.size w w22 from below_then (by repeat (first | (with_reducible first | exact HB.out | apply below_alloc | apply pw_below_drewN | apply below_drew1) | exact HB.out)) (show Below w.heap.size w _ from (by repeat (first | (with_reducible first | exact HB.out | apply below_alloc | apply pw_below_drewN | apply below_drew1) | exact HB.out))).size hb_)
  clear HB
  have HB := n_
  clear n_
  clear  hb_
  have HS22 := HSn
  clear HSn
  go_wp2
  go_ret
  exact ⟨rfl, (by repeat (first | (with_reducible first | exact HB.out | apply below_alloc | apply pw_below_drewN | apply below_drew1) | exact HB.out))⟩
set_option maxHeartbeats 8000000 in
set_option maxRecDepth 100000 in
theorem laws_FnExactLogReplay.way0 (k : Nat) (A0 : Option Addr) (c0 : Nat) (l0 : List Int) (A1 : Option Addr) (c1 : Nat) (l1 : List S88)  (w : World) (hr0 : Kd.C (Kd.int .i64) w A0 l0.length l0) (hc0 : l0.length ≤ c0) (hr1 : Kd.C k88 w A1 l1.length l1) (hc1 : l1.length ≤ c1) (ht1 : 1048576 < l0.length) :
    Calls Try.prog 8 #[.slice A0 l0.length c0, .slice A1 l1.length c1] w fun e w' => e = .returned (.bool true) ∧ Below w.heap.size w w' := by
  have HR0 := Aside0.mk hr0
  have HC0 := Aside0.mk hc0
  clear hr0 hc0
  have HR1 := Aside0.mk hr1
  have HC1 := Aside0.mk hc1
  clear hr1 hc1
  have HB := Aside0.mk (Below.refl w.heap.size w)
  go_enter Try.func8, Try.ntmps8
  have t1b := decide_eq_true (show ((1048576 : Int) < (l0.length : Int)) by omega)
  have t1n := decide_eq_true (show (1048576 < l0.length) by omega)
  go_wp2
  go_ret
  exact ⟨rfl, (by repeat (first | (with_reducible first | exact HB.out | apply below_alloc | apply pw_below_drewN | apply below_drew1) | exact HB.out))⟩
set_option maxHeartbeats 8000000 in
set_option maxRecDepth 100000 in
theorem laws_FnExactLogReplay.way1 (k : Nat) (A0 : Option Addr) (c0 : Nat) (l0 : List Int) (A1 : Option Addr) (c1 : Nat) (l1 : List S88) (z : Int)  (w : World) (hr0 : Kd.C (Kd.int .i64) w A0 l0.length l0) (hc0 : l0.length ≤ c0) (hr1 : Kd.C k88 w A1 l1.length l1) (hc1 : l1.length ≤ c1) (ht1 : l0.length ≤ 1048576) (ht2 : z < 0) (h_1 : laws_szEntryS.f k l1 1048576 = some z) :
    Calls Try.prog 8 #[.slice A0 l0.length c0, .slice A1 l1.length c1] w fun e w' => e = .returned (.bool true) ∧ Below w.heap.size w w' := by
  have HR0 := Aside0.mk hr0
  have HC0 := Aside0.mk hc0
  clear hr0 hc0
  have HR1 := Aside0.mk hr1
  have HC1 := Aside0.mk hc1
  clear hr1 hc1
  have HB := Aside0.mk (Below.refl w.heap.size w)
  have H_1 := Aside0.mk h_1
  clear h_1
  go_enter Try.func8, Try.ntmps8
  have t1b := decide_eq_false (show ¬ ((1048576 : Int) < (l0.length : Int)) by omega)
  have t1n := decide_eq_false (show ¬ (1048576 < l0.length) by omega)
  go_wp2_with fail
  refine (laws_szEntryS.calls k _ _ l1 1048576 z _ (by (with_reducible repeat (first | exact (Kd.C_below HR1.out HB.out) | apply Kd.C_alloc | apply Kd.C_drewN | apply Kd.C_drew))) HC1.out H_1.out).mono ?_
  rintro e w1 ⟨rfl, hp1_⟩
  have HSn := Aside0.mk (show w.heap.size ≤ w1.heap.size by have h_ := hp1_.size; first | exact h_ | (simp at h_; omega))
  have n_ := Aside0.mk (show Below w.heap.size w w1 from below_then (by repeat (first | (with_reducible first | exact HB.out | apply below_alloc | apply pw_below_drewN | apply below_drew1) | exact HB.out)) (show Below w.heap.size w _ from (by repeat (first | (with_reducible first | exact HB.out | apply below_alloc | apply pw_below_drewN | apply below_drew1) | exact HB.out))).size hp1_)
  clear HB
  have HB := n_
  clear n_
  clear hp1_
  have HS1 := HSn
  clear HSn
  have t2b := decide_eq_true (show z < 0 by omega)
  have t2p := eq_true (show z < 0 by omega)
  go_wp2
  go_ret
  exact ⟨rfl, (by repeat (first | (with_reducible first | exact HB.out | apply below_alloc | apply pw_below_drewN | apply below_drew1) | exact HB.out))⟩
def laws_FnExactLogReplay.Good (l0 : List Int) (l1 : List S88) : Prop :=
  (∃ k : Nat, (1048576 < l0.length))
  ∨ (∃ k : Nat, ∃ z : Int, (l0.length ≤ 1048576) ∧ (z < 0) ∧ (laws_szEntryS.f k l1 1048576 = some z))
  ∨ (∃ k : Nat, ∃ z : Int, ∃ X : List S91, ∃ R R' L' : List Int, ∃ b : Bool, ∃ k1 k2 m : Int, (l0.length ≤ 1048576) ∧ (0 ≤ z) ∧ (0 ≤ k2) ∧ (0 ≤ m) ∧ (laws_szEntryS.f k l1 1048576 = some z) ∧ (laws_toIntS.f k l0 = some l0) ∧ (laws_toEntryS.f k l1 = some X) ∧ (spec_LogReplay.f k l0 X = some (R, b)) ∧ (impl_LogReplay.f k l0 X = some (R, b)) ∧ (laws_eqIntS.f k R R = some true) ∧ (laws_eqIntS.f k l0 l0 = some true) ∧ (laws_eqEntryS.f k X X = some true) ∧ (laws_markIntS.f k l0 1 = some (k1, L')) ∧ (laws_markEntryS.f X k1 = some k2) ∧ (laws_markIntS.f k R 1 = some (m, R')) ∧ (laws_heldIntS.f k R' 1 = some m))
theorem laws_FnExactLogReplay.all (A0 : Option Addr) (c0 : Nat) (l0 : List Int) (A1 : Option Addr) (c1 : Nat) (l1 : List S88) (w : World) (hr0 : Kd.C (Kd.int .i64) w A0 l0.length l0) (hc0 : l0.length ≤ c0) (hr1 : Kd.C k88 w A1 l1.length l1) (hc1 : l1.length ≤ c1) (h : laws_FnExactLogReplay.Good l0 l1) :
    Calls Try.prog 8 #[.slice A0 l0.length c0, .slice A1 l1.length c1] w fun e w' => e = .returned (.bool true) ∧ Below w.heap.size w w' := by
  rcases h with ⟨k, ht1⟩ | ⟨k, z, ht1, ht2, h_1⟩ | ⟨k, z, X, R, R', L', b, k1, k2, m, ht1, ht2, ht3, ht4, h_1, h_2, h_3, h_4, h_5, h_6, h_7, h_8, h_9, h_10, h_11, h_12⟩
  · exact laws_FnExactLogReplay.way0 k A0 c0 l0 A1 c1 l1  w hr0 hc0 hr1 hc1 ht1
  · exact laws_FnExactLogReplay.way1 k A0 c0 l0 A1 c1 l1 z w hr0 hc0 hr1 hc1 ht1 ht2 h_1
  · exact laws_FnExactLogReplay.main k A0 c0 l0 A1 c1 l1 z X R R' L' b k1 k2 m w hr0 hc0 hr1 hc1 ht1 ht2 ht3 ht4 h_1 h_2 h_3 h_4 h_5 h_6 h_7 h_8 h_9 h_10 h_11 h_12
end Go.Proofs.Ytkcoclfpcjfeiaa.QC
