/- The walk of FnExactLogTask: on the way on which all that it compares is equal it tells true. Written by wip/tools/genexact.py. -/
import Derived.Test.YtoeepmcaabmjkaaLTA
import Derived.Test.YtoeepmcaabmjkaaQLTx1
import Derived.Test.YtoeepmcaabmjkaaQLTx2
import Derived.Test.YtoeepmcaabmjkaaQLTx3
import Derived.Test.YtoeepmcaabmjkaaQLTx7
import Derived.Test.YtoeepmcaabmjkaaQLTx8
set_option linter.unusedVariables false
set_option linter.unusedSimpArgs false
namespace Go.Proofs.Ytoeepmcaabmjkaa.QLT
open Go.RowKit Go.Proofs.YtoeepmcaabmjkaaW.PrintWords Go.Proofs.YtoeepmcaabmjkaaW.PrintLast Go.Proofs.YtoeepmcaabmjkaaW.PrintMore
set_option maxHeartbeats 8000000 in
set_option maxRecDepth 100000 in
theorem laws_FnExactLogTask.main (k : Nat) (A0 : Option Addr) (c0 : Nat) (l0 : List S82) (a1 : Int) (z : Int) (X R : List S84) (k2 m : Int) (w : World) (hr0 : Kd.C k82 w A0 l0.length l0) (hc0 : l0.length ≤ c0) (ht1 : 0 ≤ z) (ht2 : 0 ≤ k2) (ht3 : 0 ≤ m) (h_1 : laws_szEntryS.f k l0 1048576 = some z) (h_2 : laws_toEntryS.f k l0 = some X) (h_3 : spec_LogTask.f k X a1 = some R) (h_4 : impl_LogTask.f k X a1 = some R) (h_5 : laws_eqEntryS.f k R R = some true) (h_6 : laws_eqEntryS.f k X X = some true) (h_7 : laws_markEntryS.f X 1 = some k2) (h_8 : m = 1 + (cnt84 R : Int)) (h_9 : m ≤ 9223372036854775807) :
    Calls Try.prog 4 #[.slice A0 l0.length c0, .int .i64 a1] w fun e w' => e = .returned (.bool true) ∧ Below w.heap.size w w' := by
  have HR0 := Aside0.mk hr0
  have HC0 := Aside0.mk hc0
  clear hr0 hc0
  have HB := Aside0.mk (Below.refl w.heap.size w)
  have H_1 := Aside0.mk h_1
  clear h_1
  have H_2 := Aside0.mk h_2
  clear h_2
  have H_3 := Aside0.mk h_3
  clear h_3
  have H_4 := Aside0.mk h_4
  clear h_4
  have H_5 := Aside0.mk h_5
  clear h_5
  have H_6 := Aside0.mk h_6
  clear h_6
  have H_7 := Aside0.mk h_7
  clear h_7
  have H_8 := Aside0.mk h_8
  clear h_8
  have H_9 := Aside0.mk h_9
  clear h_9
  go_enter Try.func4, Try.ntmps4
  go_wp2_with fail
  refine (laws_szEntryS.calls k _ _ l0 1048576 z _ (by (with_reducible repeat (first | exact (Kd.C_below HR0.out HB.out) | apply Kd.C_alloc | apply Kd.C_drewN | apply Kd.C_drew))) HC0.out H_1.out).mono ?_
  rintro e w1 ⟨rfl, hp1_⟩
  have HSn := Aside0.mk (show w.heap.size ≤ w1.heap.size by have h_ := hp1_.size; first | exact h_ | (simp at h_; omega))
  replace HB := Aside0.mk (show Below w.heap.size w w1 from below_then (by repeat (first | (with_reducible first | exact HB.out | apply below_alloc | apply pw_below_drewN | apply below_drew1) | exact HB.out)) (show Below w.heap.size w _ from (by repeat (first | (with_reducible first | exact HB.out | apply below_alloc | apply pw_below_drewN | apply below_drew1) | exact HB.out))).size hp1_)
  clear hp1_
  have HS1 := HSn
  clear HSn
  have t1b := decide_eq_false (show ¬ (z < 0) by omega)
  have t1p := eq_false (show ¬ (z < 0) by omega)
  go_wp2_with fail
  refine (laws_toEntryS.calls k _ _ l0 X _ (by (with_reducible repeat (first | exact (Kd.C_below HR0.out HB.out) | apply Kd.C_alloc | apply Kd.C_drewN | apply Kd.C_drew))) HC0.out H_2.out).mono ?_
  rintro e w2 ⟨v0_, rfl, hp1_, hp2_⟩
  have HSn := Aside0.mk (show w1.heap.size ≤ w2.heap.size by have h_ := hp2_.size; first | exact h_ | (simp at h_; omega))
  replace HB := Aside0.mk (show Below w.heap.size w w2 from below_then (by repeat (first | (with_reducible first | exact HB.out | apply below_alloc | apply pw_below_drewN | apply below_drew1) | exact HB.out)) (show Below w.heap.size w _ from (by repeat (first | (with_reducible first | exact HB.out | apply below_alloc | apply pw_below_drewN | apply below_drew1) | exact HB.out))).size hp2_)
  have HF3 := Aside0.mk (show Kd.R k84 84 w2 w1.heap.size (fun k_ => w1.heap.size ≤ k_ ∧ k_ < w2.heap.size) v0_ X from Kd.R_lower (Kd.R_mono (Kd.R_bound (Kd.S_R hp1_)) (fun k_ hk => ⟨by have h_ := hk.2.1; first | exact h_ | (simp at h_; omega), hk.2.2.1⟩)) (by first | exact Nat.le_refl _ | (simp; done)))
  obtain ⟨A_4, c_4, e_4⟩ := Kd.R_slice HF3.out
  subst e_4
  clear hp1_ hp2_
  have HS2 := HSn
  clear HSn
  go_wp2_with fail
  refine (spec_LogTask.calls k _ _ X a1 R _ (by (with_reducible repeat (first | exact (Kd.R_reads' HF3.out).2.2 | apply Kd.C_alloc | apply Kd.C_drewN | apply Kd.C_drew))) (Kd.R_reads' HF3.out).2.1 H_3.out).mono ?_
  rintro e w3 ⟨v0_, rfl, hp1_, hp2_⟩
  have HSn := Aside0.mk (show w2.heap.size ≤ w3.heap.size by have h_ := hp2_.size; first | exact h_ | (simp at h_; omega))
  replace HF3 := Aside0.mk (Kd.R_below (by (with_reducible repeat (first | exact HF3.out | apply Kd.R_alloc | apply Kd.R_drewN | apply Kd.R_drew))) hp2_)
  replace HB := Aside0.mk (show Below w.heap.size w w3 from below_then (by repeat (first | (with_reducible first | exact HB.out | apply below_alloc | apply pw_below_drewN | apply below_drew1) | exact HB.out)) (show Below w.heap.size w _ from (by repeat (first | (with_reducible first | exact HB.out | apply below_alloc | apply pw_below_drewN | apply below_drew1) | exact HB.out))).size hp2_)
  have HF6 := Aside0.mk (show Kd.R k84 84 w3 w2.heap.size (fun k_ => w2.heap.size ≤ k_ ∧ k_ < w3.heap.size) v0_ R from Kd.R_lower (Kd.R_mono (Kd.R_bound (Kd.S_R hp1_)) (fun k_ hk => ⟨by have h_ := hk.2.1; first | exact h_ | (simp at h_; omega), hk.2.2.1⟩)) (by first | exact Nat.le_refl _ | (simp; done)))
  obtain ⟨A_7, c_7, e_7⟩ := Kd.R_slice HF6.out
  subst e_7
  clear hp1_ hp2_
  have HS3 := HSn
  clear HSn
  clear HF3
  go_wp2_with fail
  refine (laws_toEntryS.calls k _ _ l0 X _ (by (with_reducible repeat (first | exact (Kd.C_below HR0.out HB.out) | apply Kd.C_alloc | apply Kd.C_drewN | apply Kd.C_drew))) HC0.out H_2.out).mono ?_
  rintro e w4 ⟨v0_, rfl, hp1_, hp2_⟩
  have HSn := Aside0.mk (show w3.heap.size ≤ w4.heap.size by have h_ := hp2_.size; first | exact h_ | (simp at h_; omega))
  replace HF6 := Aside0.mk (Kd.R_below (by (with_reducible repeat (first | exact HF6.out | apply Kd.R_alloc | apply Kd.R_drewN | apply Kd.R_drew))) hp2_)
  replace HB := Aside0.mk (show Below w.heap.size w w4 from below_then (by repeat (first | (with_reducible first | exact HB.out | apply below_alloc | apply pw_below_drewN | apply below_drew1) | exact HB.out)) (show Below w.heap.size w _ from (by repeat (first | (with_reducible first | exact HB.out | apply below_alloc | apply pw_below_drewN | apply below_drew1) | exact HB.out))).size hp2_)
  have HF9 := Aside0.mk (show Kd.R k84 84 w4 w3.heap.size (fun k_ => w3.heap.size ≤ k_ ∧ k_ < w4.heap.size) v0_ X from Kd.R_lower (Kd.R_mono (Kd.R_bound (Kd.S_R hp1_)) (fun k_ hk => ⟨by have h_ := hk.2.1; first | exact h_ | (simp at h_; omega), hk.2.2.1⟩)) (by first | exact Nat.le_refl _ | (simp; done)))
  obtain ⟨A_10, c_10, e_10⟩ := Kd.R_slice HF9.out
  subst e_10
  clear hp1_ hp2_
  have HS4 := HSn
  clear HSn
  go_wp2_with fail
  refine (impl_LogTask.callsA k _ _ X a1 R _ (by (with_reducible repeat (first | exact (Kd.R_reads' HF9.out).2.2 | apply Kd.C_alloc | apply Kd.C_drewN | apply Kd.C_drew))) (Kd.R_reads' HF9.out).2.1 H_4.out).mono ?_
  rintro e w5 ⟨v0_, rfl, hp1_, hp2_⟩
  have HSn := Aside0.mk (show w4.heap.size ≤ w5.heap.size by have h_ := hp2_.size; first | exact h_ | (simp at h_; omega))
  replace HF6 := Aside0.mk (Kd.R_below (by (with_reducible repeat (first | exact HF6.out | apply Kd.R_alloc | apply Kd.R_drewN | apply Kd.R_drew))) hp2_)
  replace HF9 := Aside0.mk (Kd.R_below (by (with_reducible repeat (first | exact HF9.out | apply Kd.R_alloc | apply Kd.R_drewN | apply Kd.R_drew))) hp2_)
  replace HB := Aside0.mk (show Below w.heap.size w w5 from below_then (by repeat (first | (with_reducible first | exact HB.out | apply below_alloc | apply pw_below_drewN | apply below_drew1) | exact HB.out)) (show Below w.heap.size w _ from (by repeat (first | (with_reducible first | exact HB.out | apply below_alloc | apply pw_below_drewN | apply below_drew1) | exact HB.out))).size hp2_)
  have HF12a := Aside0.mk (show Kd.S k84a 84 w5 w4.heap.size (fun k_ => w4.heap.size ≤ k_ ∧ k_ < w5.heap.size) v0_ R from Kd.S_lower (Kd.S_mono (Kd.S_bound hp1_) (fun k_ hk => ⟨by have h_ := hk.2.1; first | exact h_ | (simp at h_; omega), hk.2.2.1⟩)) (by first | exact Nat.le_refl _ | (simp; done)))
  have HF12 := Aside0.mk (show Kd.R k84 84 w5 w4.heap.size (fun k_ => w4.heap.size ≤ k_ ∧ k_ < w5.heap.size) v0_ R from Kd.R_lower (Kd.R_mono (Kd.R_bound (k84a_R (Kd.S_R hp1_))) (fun k_ hk => ⟨by have h_ := hk.2.1; first | exact h_ | (simp at h_; omega), hk.2.2.1⟩)) (by first | exact Nat.le_refl _ | (simp; done)))
  obtain ⟨A_13, c_13, e_13⟩ := Kd.R_slice HF12.out
  subst e_13
  clear hp1_ hp2_
  have HS5 := HSn
  clear HSn
  go_wp2_with fail
  refine (laws_eqEntryS.calls k _ _ R _ _ R true _ (by (with_reducible repeat (first | exact (Kd.R_reads' HF12.out).2.2 | apply Kd.C_alloc | apply Kd.C_drewN | apply Kd.C_drew))) (Kd.R_reads' HF12.out).2.1 (by (with_reducible repeat (first | exact (Kd.R_reads' HF6.out).2.2 | apply Kd.C_alloc | apply Kd.C_drewN | apply Kd.C_drew))) (Kd.R_reads' HF6.out).2.1 H_5.out).mono ?_
  rintro e w6 ⟨rfl, hp1_⟩
  have HSn := Aside0.mk (show w5.heap.size ≤ w6.heap.size by have h_ := hp1_.size; first | exact h_ | (simp at h_; omega))
  replace HF6 := Aside0.mk (Kd.R_below (by (with_reducible repeat (first | exact HF6.out | apply Kd.R_alloc | apply Kd.R_drewN | apply Kd.R_drew))) hp1_)
  replace HF9 := Aside0.mk (Kd.R_below (by (with_reducible repeat (first | exact HF9.out | apply Kd.R_alloc | apply Kd.R_drewN | apply Kd.R_drew))) hp1_)
  replace HF12a := Aside0.mk (Kd.S_below (by (with_reducible repeat (first | exact HF12a.out | apply Kd.S_alloc | apply Kd.S_drewN | apply Kd.S_drew))) hp1_)
  replace HF12 := Aside0.mk (Kd.R_below (by (with_reducible repeat (first | exact HF12.out | apply Kd.R_alloc | apply Kd.R_drewN | apply Kd.R_drew))) hp1_)
  replace HB := Aside0.mk (show Below w.heap.size w w6 from below_then (by repeat (first | (with_reducible first | exact HB.out | apply below_alloc | apply pw_below_drewN | apply below_drew1) | exact HB.out)) (show Below w.heap.size w _ from (by repeat (first | (with_reducible first | exact HB.out | apply below_alloc | apply pw_below_drewN | apply below_drew1) | exact HB.out))).size hp1_)
  clear hp1_
  have HS6 := HSn
  clear HSn
  go_wp2_with fail
  refine (laws_toEntryS.calls k _ _ l0 X _ (by (with_reducible repeat (first | exact (Kd.C_below HR0.out HB.out) | apply Kd.C_alloc | apply Kd.C_drewN | apply Kd.C_drew))) HC0.out H_2.out).mono ?_
  rintro e w7 ⟨v0_, rfl, hp1_, hp2_⟩
  have HSn := Aside0.mk (show w6.heap.size ≤ w7.heap.size by have h_ := hp2_.size; first | exact h_ | (simp at h_; omega))
  replace HF6 := Aside0.mk (Kd.R_below (by (with_reducible repeat (first | exact HF6.out | apply Kd.R_alloc | apply Kd.R_drewN | apply Kd.R_drew))) hp2_)
  replace HF9 := Aside0.mk (Kd.R_below (by (with_reducible repeat (first | exact HF9.out | apply Kd.R_alloc | apply Kd.R_drewN | apply Kd.R_drew))) hp2_)
  replace HF12a := Aside0.mk (Kd.S_below (by (with_reducible repeat (first | exact HF12a.out | apply Kd.S_alloc | apply Kd.S_drewN | apply Kd.S_drew))) hp2_)
  replace HF12 := Aside0.mk (Kd.R_below (by (with_reducible repeat (first | exact HF12.out | apply Kd.R_alloc | apply Kd.R_drewN | apply Kd.R_drew))) hp2_)
  replace HB := Aside0.mk (show Below w.heap.size w w7 from below_then (by repeat (first | (with_reducible first | exact HB.out | apply below_alloc | apply pw_below_drewN | apply below_drew1) | exact HB.out)) (show Below w.heap.size w _ from (by repeat (first | (with_reducible first | exact HB.out | apply below_alloc | apply pw_below_drewN | apply below_drew1) | exact HB.out))).size hp2_)
  have HF16 := Aside0.mk (show Kd.R k84 84 w7 w6.heap.size (fun k_ => w6.heap.size ≤ k_ ∧ k_ < w7.heap.size) v0_ X from Kd.R_lower (Kd.R_mono (Kd.R_bound (Kd.S_R hp1_)) (fun k_ hk => ⟨by have h_ := hk.2.1; first | exact h_ | (simp at h_; omega), hk.2.2.1⟩)) (by first | exact Nat.le_refl _ | (simp; done)))
  obtain ⟨A_17, c_17, e_17⟩ := Kd.R_slice HF16.out
  subst e_17
  clear hp1_ hp2_
  have HS7 := HSn
  clear HSn
  go_wp2_with fail
  refine (laws_eqEntryS.calls k _ _ X _ _ X true _ (by (with_reducible repeat (first | exact (Kd.R_reads' HF9.out).2.2 | apply Kd.C_alloc | apply Kd.C_drewN | apply Kd.C_drew))) (Kd.R_reads' HF9.out).2.1 (by (with_reducible repeat (first | exact (Kd.R_reads' HF16.out).2.2 | apply Kd.C_alloc | apply Kd.C_drewN | apply Kd.C_drew))) (Kd.R_reads' HF16.out).2.1 H_6.out).mono ?_
  rintro e w8 ⟨rfl, hp1_⟩
  have HSn := Aside0.mk (show w7.heap.size ≤ w8.heap.size by have h_ := hp1_.size; first | exact h_ | (simp at h_; omega))
  replace HF6 := Aside0.mk (Kd.R_below (by (with_reducible repeat (first | exact HF6.out | apply Kd.R_alloc | apply Kd.R_drewN | apply Kd.R_drew))) hp1_)
  replace HF9 := Aside0.mk (Kd.R_below (by (with_reducible repeat (first | exact HF9.out | apply Kd.R_alloc | apply Kd.R_drewN | apply Kd.R_drew))) hp1_)
  replace HF12a := Aside0.mk (Kd.S_below (by (with_reducible repeat (first | exact HF12a.out | apply Kd.S_alloc | apply Kd.S_drewN | apply Kd.S_drew))) hp1_)
  replace HF12 := Aside0.mk (Kd.R_below (by (with_reducible repeat (first | exact HF12.out | apply Kd.R_alloc | apply Kd.R_drewN | apply Kd.R_drew))) hp1_)
  replace HF16 := Aside0.mk (Kd.R_below (by (with_reducible repeat (first | exact HF16.out | apply Kd.R_alloc | apply Kd.R_drewN | apply Kd.R_drew))) hp1_)
  replace HB := Aside0.mk (show Below w.heap.size w w8 from below_then (by repeat (first | (with_reducible first | exact HB.out | apply below_alloc | apply pw_below_drewN | apply below_drew1) | exact HB.out)) (show Below w.heap.size w _ from (by repeat (first | (with_reducible first | exact HB.out | apply below_alloc | apply pw_below_drewN | apply below_drew1) | exact HB.out))).size hp1_)
  clear hp1_
  have HS8 := HSn
  clear HSn
  clear HF16
  go_wp2_with fail
  refine (laws_markEntryS.calls (fun k_ => w3.heap.size ≤ k_ ∧ k_ < w4.heap.size) _ X 1 k2 w _ (by repeat (first | (with_reducible first | exact HB.out | apply below_alloc | apply pw_below_drewN | apply below_drew1) | exact HB.out)) (Kd.R_lower (by (with_reducible repeat (first | exact HF9.out | apply Kd.R_alloc | apply Kd.R_drewN | apply Kd.R_drew))) (by have := HS1.out; have := HS2.out; have := HS3.out; have := HS4.out; have := HS5.out; have := HS6.out; have := HS7.out; have := HS8.out; have := HB.out.size; omega)) H_7.out).mono ?_
  rintro e w9 ⟨rfl, hp1_, hp2_⟩
  have HSn := Aside0.mk (show w8.heap.size ≤ w9.heap.size by have h_ := hp2_.1; first | exact h_ | (simp at h_; omega))
  replace HF6 := Aside0.mk (Kd.R_step (by (with_reducible repeat (first | exact HF6.out | apply Kd.R_alloc | apply Kd.R_drewN | apply Kd.R_drew))) (fun k_ ho_ hl_ => hp2_.2 k_ hl_ (fun hq_ => by have h1_ := ho_; have h2_ := hq_; (try dsimp only at h1_); (try dsimp only at h2_); have := HS1.out; have := HS2.out; have := HS3.out; have := HS4.out; have := HS5.out; have := HS6.out; have := HS7.out; have := HS8.out; omega)))
  clear HF9
  replace HF12a := Aside0.mk (Kd.S_step (by (with_reducible repeat (first | exact HF12a.out | apply Kd.S_alloc | apply Kd.S_drewN | apply Kd.S_drew))) (fun k_ ho_ hl_ => hp2_.2 k_ hl_ (fun hq_ => by have h1_ := ho_; have h2_ := hq_; (try dsimp only at h1_); (try dsimp only at h2_); have := HS1.out; have := HS2.out; have := HS3.out; have := HS4.out; have := HS5.out; have := HS6.out; have := HS7.out; have := HS8.out; omega)))
  replace HF12 := Aside0.mk (Kd.R_step (by (with_reducible repeat (first | exact HF12.out | apply Kd.R_alloc | apply Kd.R_drewN | apply Kd.R_drew))) (fun k_ ho_ hl_ => hp2_.2 k_ hl_ (fun hq_ => by have h1_ := ho_; have h2_ := hq_; (try dsimp only at h1_); (try dsimp only at h2_); have := HS1.out; have := HS2.out; have := HS3.out; have := HS4.out; have := HS5.out; have := HS6.out; have := HS7.out; have := HS8.out; omega)))
  replace HB := Aside0.mk hp1_
  clear hp1_ hp2_
  have HS9 := HSn
  clear HSn
  have t2b := decide_eq_false (show ¬ (k2 < 0) by omega)
  have t2p := eq_false (show ¬ (k2 < 0) by omega)
  go_wp2_with fail
  refine (laws_eqEntryS.calls k _ _ R _ _ R true _ (by (with_reducible repeat (first | exact (Kd.R_reads' HF12.out).2.2 | apply Kd.C_alloc | apply Kd.C_drewN | apply Kd.C_drew))) (Kd.R_reads' HF12.out).2.1 (by (with_reducible repeat (first | exact (Kd.R_reads' HF6.out).2.2 | apply Kd.C_alloc | apply Kd.C_drewN | apply Kd.C_drew))) (Kd.R_reads' HF6.out).2.1 H_5.out).mono ?_
  rintro e w10 ⟨rfl, hp1_⟩
  have HSn := Aside0.mk (show w9.heap.size ≤ w10.heap.size by have h_ := hp1_.size; first | exact h_ | (simp at h_; omega))
  replace HF6 := Aside0.mk (Kd.R_below (by (with_reducible repeat (first | exact HF6.out | apply Kd.R_alloc | apply Kd.R_drewN | apply Kd.R_drew))) hp1_)
  replace HF12a := Aside0.mk (Kd.S_below (by (with_reducible repeat (first | exact HF12a.out | apply Kd.S_alloc | apply Kd.S_drewN | apply Kd.S_drew))) hp1_)
  replace HF12 := Aside0.mk (Kd.R_below (by (with_reducible repeat (first | exact HF12.out | apply Kd.R_alloc | apply Kd.R_drewN | apply Kd.R_drew))) hp1_)
  replace HB := Aside0.mk (show Below w.heap.size w w10 from below_then (by repeat (first | (with_reducible first | exact HB.out | apply below_alloc | apply pw_below_drewN | apply below_drew1) | exact HB.out)) (show Below w.heap.size w _ from (by repeat (first | (with_reducible first | exact HB.out | apply below_alloc | apply pw_below_drewN | apply below_drew1) | exact HB.out))).size hp1_)
  clear hp1_
  have HS10 := HSn
  clear HSn
  obtain ⟨-, F_, hF_, hs_, hL_, hN_⟩ := ok84a HF12a.out
  have hc_ := markEntryS_ft _ A_13 F_ c_13 1 w10 hs_
  rw [hF_, hL_, mkI_small _ _ (by decide) (by rw [← H_8.out]; exact H_9.out), ← H_8.out] at hc_
  go_wp2_with fail
  refine hc_.mono ?_
  clear hc_
  rintro e w11 ⟨rfl, hj_, hi_⟩
  have HHELD := Aside0.mk (show HoldsN w11 (foot84 A_13 F_) 1 from Holds.bare (by rw [hj_]; exact jot_holds _ _ _ hN_ (fun a_ ha_ => (hs_.foot a_ ha_).2)) (by decide) (by rw [hL_, ← H_8.out]; exact H_9.out))
  have HOK := Aside0.mk (hs_.step hi_)
  have HFl := Aside0.mk hF_
  have HLl := Aside0.mk hL_
  have HSn := Aside0.mk (show w10.heap.size ≤ w11.heap.size by rw [hi_.size]; exact Nat.le_refl _)
  have hk_ := hi_.kept
  replace HF6 := Aside0.mk (Kd.R_step (by (with_reducible repeat (first | exact HF6.out | apply Kd.R_alloc | apply Kd.R_drewN | apply Kd.R_drew))) (fun k_ ho_ hl_ => hk_.2 k_ hl_ (fun hq_ => by have h1_ := ho_; have h2_ := hq_.1; (try dsimp only at h1_); (try dsimp only at h2_); have := HS1.out; have := HS2.out; have := HS3.out; have := HS4.out; have := HS5.out; have := HS6.out; have := HS7.out; have := HS8.out; have := HS9.out; have := HS10.out; omega)))
  clear HF12a
  clear HF12
  replace HB := Aside0.mk (show Below w.heap.size w w11 from hi_.below HB.out (fun k_ hk => by have h2_ := hk.1; (try dsimp only at h2_); have := HS1.out; have := HS2.out; have := HS3.out; have := HS4.out; have := HS5.out; have := HS6.out; have := HS7.out; have := HS8.out; have := HS9.out; have := HS10.out; have h3_ := HB.out.size; omega))
  clear hj_ hi_ hk_ hN_ hs_ hF_ hL_
  have HS11 := HSn
  clear HSn
  have hc_ := heldEntryS_ft _ A_13 F_ c_13 1 w11 HOK.out HHELD.out (by decide) (by rw [HLl.out, ← H_8.out]; exact H_9.out)
  rw [HFl.out, HLl.out, ← H_8.out] at hc_
  go_wp2_with fail
  refine hc_.mono ?_
  clear hc_
  rintro e w_ ⟨rfl, rfl⟩
  have t3b := decide_eq_false (show ¬ (m < 0) by omega)
  have t3p := eq_false (show ¬ (m < 0) by omega)
  go_wp2_with fail
  refine (laws_toEntryS.calls k _ _ l0 X _ (by (with_reducible repeat (first | exact (Kd.C_below HR0.out HB.out) | apply Kd.C_alloc | apply Kd.C_drewN | apply Kd.C_drew))) HC0.out H_2.out).mono ?_
  rintro e w12 ⟨v0_, rfl, hp1_, hp2_⟩
  have HSn := Aside0.mk (show w11.heap.size ≤ w12.heap.size by have h_ := hp2_.size; first | exact h_ | (simp at h_; omega))
  replace HF6 := Aside0.mk (Kd.R_below (by (with_reducible repeat (first | exact HF6.out | apply Kd.R_alloc | apply Kd.R_drewN | apply Kd.R_drew))) hp2_)
  replace HHELD := Aside0.mk (HoldsN.below HHELD.out hp2_)
  replace HOK := Aside0.mk (F84.Ok.below HOK.out hp2_)
  replace HB := Aside0.mk (show Below w.heap.size w w12 from below_then (by repeat (first | (with_reducible first | exact HB.out | apply below_alloc | apply pw_below_drewN | apply below_drew1) | exact HB.out)) (show Below w.heap.size w _ from (by repeat (first | (with_reducible first | exact HB.out | apply below_alloc | apply pw_below_drewN | apply below_drew1) | exact HB.out))).size hp2_)
  have HF22 := Aside0.mk (show Kd.R k84 84 w12 w11.heap.size (fun k_ => w11.heap.size ≤ k_ ∧ k_ < w12.heap.size) v0_ X from Kd.R_lower (Kd.R_mono (Kd.R_bound (Kd.S_R hp1_)) (fun k_ hk => ⟨by have h_ := hk.2.1; first | exact h_ | (simp at h_; omega), hk.2.2.1⟩)) (by first | exact Nat.le_refl _ | (simp; done)))
  obtain ⟨A_23, c_23, e_23⟩ := Kd.R_slice HF22.out
  subst e_23
  clear hp1_ hp2_
  have HS12 := HSn
  clear HSn
  go_wp2_with fail
  refine (impl_LogTask.calls k _ _ X a1 R _ (by (with_reducible repeat (first | exact (Kd.R_reads' HF22.out).2.2 | apply Kd.C_alloc | apply Kd.C_drewN | apply Kd.C_drew))) (Kd.R_reads' HF22.out).2.1 H_4.out).mono ?_
  rintro e w13 ⟨v0_, rfl, hp1_, hp2_⟩
  have HSn := Aside0.mk (show w12.heap.size ≤ w13.heap.size by have h_ := hp2_.size; first | exact h_ | (simp at h_; omega))
  replace HF6 := Aside0.mk (Kd.R_below (by (with_reducible repeat (first | exact HF6.out | apply Kd.R_alloc | apply Kd.R_drewN | apply Kd.R_drew))) hp2_)
  replace HF22 := Aside0.mk (Kd.R_below (by (with_reducible repeat (first | exact HF22.out | apply Kd.R_alloc | apply Kd.R_drewN | apply Kd.R_drew))) hp2_)
  replace HHELD := Aside0.mk (HoldsN.below HHELD.out hp2_)
  replace HOK := Aside0.mk (F84.Ok.below HOK.out hp2_)
  replace HB := Aside0.mk (show Below w.heap.size w w13 from below_then (by repeat (first | (with_reducible first | exact HB.out | apply below_alloc | apply pw_below_drewN | apply below_drew1) | exact HB.out)) (show Below w.heap.size w _ from (by repeat (first | (with_reducible first | exact HB.out | apply below_alloc | apply pw_below_drewN | apply below_drew1) | exact HB.out))).size hp2_)
  have HF25 := Aside0.mk (show Kd.R k84 84 w13 w12.heap.size (fun k_ => w12.heap.size ≤ k_ ∧ k_ < w13.heap.size) v0_ R from Kd.R_lower (Kd.R_mono (Kd.R_bound (Kd.S_R hp1_)) (fun k_ hk => ⟨by have h_ := hk.2.1; first | exact h_ | (simp at h_; omega), hk.2.2.1⟩)) (by first | exact Nat.le_refl _ | (simp; done)))
  obtain ⟨A_26, c_26, e_26⟩ := Kd.R_slice HF25.out
  subst e_26
  clear hp1_ hp2_
  have HS13 := HSn
  clear HSn
  go_wp2_with fail
  refine (laws_eqEntryS.calls k _ _ R _ _ R true _ (by (with_reducible repeat (first | exact (Kd.R_reads' HF25.out).2.2 | apply Kd.C_alloc | apply Kd.C_drewN | apply Kd.C_drew))) (Kd.R_reads' HF25.out).2.1 (by (with_reducible repeat (first | exact (Kd.R_reads' HF6.out).2.2 | apply Kd.C_alloc | apply Kd.C_drewN | apply Kd.C_drew))) (Kd.R_reads' HF6.out).2.1 H_5.out).mono ?_
  rintro e w14 ⟨rfl, hp1_⟩
  have HSn := Aside0.mk (show w13.heap.size ≤ w14.heap.size by have h_ := hp1_.size; first | exact h_ | (simp at h_; omega))
  replace HF6 := Aside0.mk (Kd.R_below (by (with_reducible repeat (first | exact HF6.out | apply Kd.R_alloc | apply Kd.R_drewN | apply Kd.R_drew))) hp1_)
  replace HF22 := Aside0.mk (Kd.R_below (by (with_reducible repeat (first | exact HF22.out | apply Kd.R_alloc | apply Kd.R_drewN | apply Kd.R_drew))) hp1_)
  replace HF25 := Aside0.mk (Kd.R_below (by (with_reducible repeat (first | exact HF25.out | apply Kd.R_alloc | apply Kd.R_drewN | apply Kd.R_drew))) hp1_)
  replace HHELD := Aside0.mk (HoldsN.below HHELD.out hp1_)
  replace HOK := Aside0.mk (F84.Ok.below HOK.out hp1_)
  replace HB := Aside0.mk (show Below w.heap.size w w14 from below_then (by repeat (first | (with_reducible first | exact HB.out | apply below_alloc | apply pw_below_drewN | apply below_drew1) | exact HB.out)) (show Below w.heap.size w _ from (by repeat (first | (with_reducible first | exact HB.out | apply below_alloc | apply pw_below_drewN | apply below_drew1) | exact HB.out))).size hp1_)
  clear hp1_
  have HS14 := HSn
  clear HSn
  have hc_ := heldEntryS_ft _ A_13 F_ c_13 1 w14 HOK.out HHELD.out (by decide) (by rw [HLl.out, ← H_8.out]; exact H_9.out)
  rw [HFl.out, HLl.out, ← H_8.out] at hc_
  go_wp2_with fail
  refine hc_.mono ?_
  clear hc_
  rintro e w_ ⟨rfl, rfl⟩
  go_wp2
  go_ret
  exact ⟨rfl, (by repeat (first | (with_reducible first | exact HB.out | apply below_alloc | apply pw_below_drewN | apply below_drew1) | exact HB.out))⟩
set_option maxHeartbeats 8000000 in
set_option maxRecDepth 100000 in
theorem laws_FnExactLogTask.way0 (k : Nat) (A0 : Option Addr) (c0 : Nat) (l0 : List S82) (a1 : Int) (z : Int)  (w : World) (hr0 : Kd.C k82 w A0 l0.length l0) (hc0 : l0.length ≤ c0) (ht1 : z < 0) (h_1 : laws_szEntryS.f k l0 1048576 = some z) :
    Calls Try.prog 4 #[.slice A0 l0.length c0, .int .i64 a1] w fun e w' => e = .returned (.bool true) ∧ Below w.heap.size w w' := by
  have HR0 := Aside0.mk hr0
  have HC0 := Aside0.mk hc0
  clear hr0 hc0
  have HB := Aside0.mk (Below.refl w.heap.size w)
  have H_1 := Aside0.mk h_1
  clear h_1
  go_enter Try.func4, Try.ntmps4
  go_wp2_with fail
  refine (laws_szEntryS.calls k _ _ l0 1048576 z _ (by (with_reducible repeat (first | exact (Kd.C_below HR0.out HB.out) | apply Kd.C_alloc | apply Kd.C_drewN | apply Kd.C_drew))) HC0.out H_1.out).mono ?_
  rintro e w1 ⟨rfl, hp1_⟩
  have HSn := Aside0.mk (show w.heap.size ≤ w1.heap.size by have h_ := hp1_.size; first | exact h_ | (simp at h_; omega))
  replace HB := Aside0.mk (show Below w.heap.size w w1 from below_then (by repeat (first | (with_reducible first | exact HB.out | apply below_alloc | apply pw_below_drewN | apply below_drew1) | exact HB.out)) (show Below w.heap.size w _ from (by repeat (first | (with_reducible first | exact HB.out | apply below_alloc | apply pw_below_drewN | apply below_drew1) | exact HB.out))).size hp1_)
  clear hp1_
  have HS1 := HSn
  clear HSn
  have t1b := decide_eq_true (show z < 0 by omega)
  have t1p := eq_true (show z < 0 by omega)
  go_wp2
  go_ret
  exact ⟨rfl, (by repeat (first | (with_reducible first | exact HB.out | apply below_alloc | apply pw_below_drewN | apply below_drew1) | exact HB.out))⟩
def laws_FnExactLogTask.Good (l0 : List S82) (a1 : Int) : Prop :=
  (∃ k : Nat, ∃ z : Int, (z < 0) ∧ (laws_szEntryS.f k l0 1048576 = some z))
  ∨ (∃ k : Nat, ∃ z : Int, ∃ X R : List S84, ∃ k2 m : Int, (0 ≤ z) ∧ (0 ≤ k2) ∧ (0 ≤ m) ∧ (laws_szEntryS.f k l0 1048576 = some z) ∧ (laws_toEntryS.f k l0 = some X) ∧ (spec_LogTask.f k X a1 = some R) ∧ (impl_LogTask.f k X a1 = some R) ∧ (laws_eqEntryS.f k R R = some true) ∧ (laws_eqEntryS.f k X X = some true) ∧ (laws_markEntryS.f X 1 = some k2) ∧ (m = 1 + (cnt84 R : Int)) ∧ (m ≤ 9223372036854775807))
theorem laws_FnExactLogTask.all (A0 : Option Addr) (c0 : Nat) (l0 : List S82) (a1 : Int) (w : World) (hr0 : Kd.C k82 w A0 l0.length l0) (hc0 : l0.length ≤ c0) (h : laws_FnExactLogTask.Good l0 a1) :
    Calls Try.prog 4 #[.slice A0 l0.length c0, .int .i64 a1] w fun e w' => e = .returned (.bool true) ∧ Below w.heap.size w w' := by
  rcases h with ⟨k, z, ht1, h_1⟩ | ⟨k, z, X, R, k2, m, ht1, ht2, ht3, h_1, h_2, h_3, h_4, h_5, h_6, h_7, h_8, h_9⟩
  · exact laws_FnExactLogTask.way0 k A0 c0 l0 a1 z w hr0 hc0 ht1 h_1
  · exact laws_FnExactLogTask.main k A0 c0 l0 a1 z X R k2 m w hr0 hc0 ht1 ht2 ht3 h_1 h_2 h_3 h_4 h_5 h_6 h_7 h_8 h_9
end Go.Proofs.Ytoeepmcaabmjkaa.QLT
