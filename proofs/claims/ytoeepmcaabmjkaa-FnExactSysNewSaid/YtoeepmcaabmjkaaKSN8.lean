/- Part 8 of what FnExactSysNew leans on: contracts of Go functions, and plain lemmas, each under its own premises. Put together by wip/tools/pack.py. -/
import Derived.Test.YtoeepmcaabmjkaaKSN0
import Derived.Test.YtoeepmcaabmjkaaKSN1
import Derived.Test.YtoeepmcaabmjkaaKSN2
import Derived.Test.YtoeepmcaabmjkaaKSN3
import Derived.Test.YtoeepmcaabmjkaaKSN4
import Derived.Test.YtoeepmcaabmjkaaKSN5
import Derived.Test.YtoeepmcaabmjkaaKSN6
import Derived.Test.YtoeepmcaabmjkaaKSN7
namespace Go.Proofs.Ytoeepmcaabmjkaa.QSN
open Go.RowKit Go.Proofs.YtoeepmcaabmjkaaW.PrintWords Go.Proofs.YtoeepmcaabmjkaaW.PrintLast Go.Proofs.YtoeepmcaabmjkaaW.PrintMore
attribute [local go_sem] max2_int min2_int max_two min_two max_three min_three max_four min_four   -- for this text's walks alone
set_option linter.unusedVariables false
set_option linter.unusedSimpArgs false
def spec_SysNew.l0 : Nat → Int → List Int → List (List (S57)) → List (S69) → List (S66) → Int → List (S84) → Option ((List (S69)) × (List (S66)) × Int × (List (S84)) × Bool)
  | 0, _, _, _, _, _, _, _ => none
  | k + 1, x5, x146000, x146001, x179000, x179001, x179002, x179003 => if x5 < (x146000.length : Int) then (if 0 ≤ x5 then (if x179000.length < 5864062014805 then (spec_SysNew.l0 k (wrap64 (x5 + 1)) x146000 x146001 (x179000 ++ [(⟨rd x146000 x5, 0, (-1)⟩ : S69)]) x179001 x179002 x179003) else (none)) else (none)) else (some (x179000, x179001, x179002, x179003, true))
def spec_SysNew.f (k : Nat) (l0_0 : List Int) (l0_1 : List (List (S57))) : Option ((List (S69)) × (List (S66)) × Int × (List (S84)) × Bool) := (spec_ProgOk.f k l0_0 l0_1).bind fun t147 => (if t147 = true then ((spec_l11Task.f 0 (-1)).bind fun bt151 => (spec_SysNew.l0 k 0 l0_0 l0_1 (([] : List (S69))) (([(⟨bt151.1, bt151.2.1, bt151.2.2.1, bt151.2.2.2.1, bt151.2.2.2.2.1, bt151.2.2.2.2.2.1, bt151.2.2.2.2.2.2.1, bt151.2.2.2.2.2.2.2.1, bt151.2.2.2.2.2.2.2.2.1, bt151.2.2.2.2.2.2.2.2.2.1, bt151.2.2.2.2.2.2.2.2.2.2.1, bt151.2.2.2.2.2.2.2.2.2.2.2.1, bt151.2.2.2.2.2.2.2.2.2.2.2.2⟩ : S66)] : List (S66))) 0 (([] : List (S84))))) else (some (([] : List (S69)), ([] : List (S66)), 0, ([] : List (S84)), false)))
def spec_SysNew.T7 : Bool × List (List Nat × List Nat) := (true, [([], []), ([0], [0]), ([], []), ([2], [2]), ([], []), ([3, 4], [3, 4]), ([5], [5]), ([6], [6]), ([7], [7]), ([1, 8], [1, 8]), ([0, 1, 2, 3, 4, 5, 6, 7, 8, 9], []), ([10, 9, 9, 0, 1, 2, 3, 4, 5, 6, 7, 8, 9], [9, 10])])
def spec_SysNew.B7 : List Nat := [0, 1, 0, 4, 0, 28, 60, 124, 252, 511, 1023, 2047]
theorem spec_SysNew.tab7 : rtab .any (opsOf Try.f10 7) = spec_SysNew.T7 := by kernel_rfl
theorem spec_SysNew.bits7 : waitsOk spec_SysNew.T7.2 spec_SysNew.B7 = true := by kernel_rfl
set_option maxHeartbeats 8000000 in
set_option maxRecDepth 100000 in
theorem spec_SysNew.calls (k : Nat) (A0_0 : Option Addr) (c0_0 : Nat) (l0_0 : List Int) (A0_1 : Option Addr) (c0_1 : Nat) (l0_1 : List (List (S57))) (r1 : List (S69)) (r2 : List (S66)) (r3 : Int) (r4 : List (S84)) (r5 : Bool) (w : World) (hr0_0 : Kd.C (Kd.int .i64) w A0_0 l0_0.length l0_0) (hc0_0 : l0_0.length ≤ c0_0) (hr0_1 : Kd.C (Kd.slice 57 k57) w A0_1 l0_1.length l0_1) (hc0_1 : l0_1.length ≤ c0_1) (h : spec_SysNew.f k l0_0 l0_1 = some (r1, r2, r3, r4, r5)) :
    Calls Try.prog 10 #[.agg #[.slice A0_0 l0_0.length c0_0, .slice A0_1 l0_1.length c0_1]] w fun e w' => ∃ v0_ v1_ v3_ : Value, e = .returned (.tuple #[.agg #[v0_, v1_, .int .i64 r3, v3_], .bool r5]) ∧ Kd.R k69 69 w' w.heap.size (fun k_ => (w.heap.size ≤ k_)) v0_ r1 ∧ Kd.N k66 66 w' w.heap.size (fun k_ => (w.heap.size ≤ k_) ∧ some k_ ≠ (v0_ : Value).ownBlock ∧ some k_ ≠ (v3_ : Value).ownBlock) v1_ r2 ∧ Kd.N k84 84 w' w.heap.size (fun k_ => (w.heap.size ≤ k_) ∧ some k_ ≠ (v0_ : Value).ownBlock ∧ some k_ ≠ (v1_ : Value).ownBlock) v3_ r4 ∧ Below w.heap.size w w' := by
  have hu36 := Try.underlying36
  have hu31 := Try.underlying31
  have hu69 := Try.underlying69
  have HR0_0 := Aside0.mk hr0_0
  have HC0_0 := Aside0.mk hc0_0
  clear hr0_0 hc0_0
  have HR0_1 := Aside0.mk hr0_1
  have HC0_1 := Aside0.mk hc0_1
  clear hr0_1 hc0_1
  have HB := Aside0.mk (Below.refl w.heap.size w)
  have H : ((spec_ProgOk.f k l0_0 l0_1).bind fun t147 => (if t147 = true then ((spec_l11Task.f 0 (-1)).bind fun bt151 => (spec_SysNew.l0 k 0 l0_0 l0_1 (([] : List (S69))) (([(⟨bt151.1, bt151.2.1, bt151.2.2.1, bt151.2.2.2.1, bt151.2.2.2.2.1, bt151.2.2.2.2.2.1, bt151.2.2.2.2.2.2.1, bt151.2.2.2.2.2.2.2.1, bt151.2.2.2.2.2.2.2.2.1, bt151.2.2.2.2.2.2.2.2.2.1, bt151.2.2.2.2.2.2.2.2.2.2.1, bt151.2.2.2.2.2.2.2.2.2.2.2.1, bt151.2.2.2.2.2.2.2.2.2.2.2.2⟩ : S66)] : List (S66))) 0 (([] : List (S84))))) else (some (([] : List (S69)), ([] : List (S66)), 0, ([] : List (S84)), false)))) = some (r1, r2, r3, r4, r5) := h
  clear h
  replace H := Option.bind_eq_some_iff.mp H
  obtain ⟨t147, A20, H⟩ := H
  replace H : (if t147 = true then ((spec_l11Task.f 0 (-1)).bind fun bt151 => (spec_SysNew.l0 k 0 l0_0 l0_1 (([] : List (S69))) (([(⟨bt151.1, bt151.2.1, bt151.2.2.1, bt151.2.2.2.1, bt151.2.2.2.2.1, bt151.2.2.2.2.2.1, bt151.2.2.2.2.2.2.1, bt151.2.2.2.2.2.2.2.1, bt151.2.2.2.2.2.2.2.2.1, bt151.2.2.2.2.2.2.2.2.2.1, bt151.2.2.2.2.2.2.2.2.2.2.1, bt151.2.2.2.2.2.2.2.2.2.2.2.1, bt151.2.2.2.2.2.2.2.2.2.2.2.2⟩ : S66)] : List (S66))) 0 (([] : List (S84))))) else (some (([] : List (S69)), ([] : List (S66)), 0, ([] : List (S84)), false))) = some (r1, r2, r3, r4, r5) := H
  have A2 := Aside0.mk A20
  clear A20
  by_cases c3 : t147 = true
  · subst c3
    have H1 : ((spec_l11Task.f 0 (-1)).bind fun bt151 => (spec_SysNew.l0 k 0 l0_0 l0_1 (([] : List (S69))) (([(⟨bt151.1, bt151.2.1, bt151.2.2.1, bt151.2.2.2.1, bt151.2.2.2.2.1, bt151.2.2.2.2.2.1, bt151.2.2.2.2.2.2.1, bt151.2.2.2.2.2.2.2.1, bt151.2.2.2.2.2.2.2.2.1, bt151.2.2.2.2.2.2.2.2.2.1, bt151.2.2.2.2.2.2.2.2.2.2.1, bt151.2.2.2.2.2.2.2.2.2.2.2.1, bt151.2.2.2.2.2.2.2.2.2.2.2.2⟩ : S66)] : List (S66))) 0 (([] : List (S84))))) = some (r1, r2, r3, r4, r5) := by rw [if_pos rfl] at H; exact H
    clear H
    have H := H1
    clear H1
    obtain ⟨y148, hy148⟩ : ∃ y_ : List (S69), y_ = (([] : List (S69))) := ⟨_, rfl⟩
    replace H : ((spec_l11Task.f 0 (-1)).bind fun bt151 => (spec_SysNew.l0 k 0 l0_0 l0_1 y148 (([(⟨bt151.1, bt151.2.1, bt151.2.2.1, bt151.2.2.2.1, bt151.2.2.2.2.1, bt151.2.2.2.2.2.1, bt151.2.2.2.2.2.2.1, bt151.2.2.2.2.2.2.2.1, bt151.2.2.2.2.2.2.2.2.1, bt151.2.2.2.2.2.2.2.2.2.1, bt151.2.2.2.2.2.2.2.2.2.2.1, bt151.2.2.2.2.2.2.2.2.2.2.2.1, bt151.2.2.2.2.2.2.2.2.2.2.2.2⟩ : S66)] : List (S66))) 0 (([] : List (S84))))) = some (r1, r2, r3, r4, r5) := by first | (rw [hy148]; with_reducible exact H) | (have H2_ := (Option.bind_some _ _).symm.trans H; rw [hy148]; with_reducible exact H2_) | (have H2_ := (Option.bind_some _ _).symm.trans H; with_reducible exact H2_) | with_reducible exact H | (rw [hy148]; exact H) | exact H
    have Ny148 := Aside0.mk hy148
    clear hy148
    replace H := Option.bind_eq_some_iff.mp H
    obtain ⟨⟨t151, t152, t153, t154, t157, t158, t159, t160, t161, t164, t167, t170, t171⟩, A40, H⟩ := H
    replace H : (spec_SysNew.l0 k 0 l0_0 l0_1 y148 (([(⟨t151, t152, t153, t154, t157, t158, t159, t160, t161, t164, t167, t170, t171⟩ : S66)] : List (S66))) 0 (([] : List (S84)))) = some (r1, r2, r3, r4, r5) := H
    have A4 := Aside0.mk A40
    clear A40
    obtain ⟨y172, hy172⟩ : ∃ y_ : List (S66), y_ = (([(⟨t151, t152, t153, t154, t157, t158, t159, t160, t161, t164, t167, t170, t171⟩ : S66)] : List (S66))) := ⟨_, rfl⟩
    replace H : (spec_SysNew.l0 k 0 l0_0 l0_1 y148 y172 0 (([] : List (S84)))) = some (r1, r2, r3, r4, r5) := by first | (rw [hy172]; with_reducible exact H) | (have H2_ := (Option.bind_some _ _).symm.trans H; rw [hy172]; with_reducible exact H2_) | (have H2_ := (Option.bind_some _ _).symm.trans H; with_reducible exact H2_) | with_reducible exact H | (rw [hy172]; exact H) | exact H
    have Ny172 := Aside0.mk hy172
    clear hy172
    obtain ⟨y175, hy175⟩ : ∃ y_ : List (S84), y_ = (([] : List (S84))) := ⟨_, rfl⟩
    replace H : (spec_SysNew.l0 k 0 l0_0 l0_1 y148 y172 0 y175) = some (r1, r2, r3, r4, r5) := by first | (rw [hy175]; with_reducible exact H) | (have H2_ := (Option.bind_some _ _).symm.trans H; rw [hy175]; with_reducible exact H2_) | (have H2_ := (Option.bind_some _ _).symm.trans H; with_reducible exact H2_) | with_reducible exact H | (rw [hy175]; exact H) | exact H
    have Ny175 := Aside0.mk hy175
    clear hy175
    have H' := Aside0.mk H
    clear H
    go_enter Try.func10, Try.ntmps10
    go_wp2_with (first | ((with_reducible refine gate_dst (N := 1) rfl ?_); refine box_event ?hg (N := 1) ?hd (cs := #[.slice A0_0 l0_0.length c0_0, .slice A0_1 l0_1.length c0_1]) (t := 36) ?hr ?_; (case hd => rfl); (case hg => rfl); (case hr => first | (go_simp; done) | (go_simp; rfl)); intro gb145 hg w5 hbox hb; have n0_ := Aside0.mk (below_step (by repeat (first | (with_reducible first | exact HB.out | apply below_alloc | apply pw_below_drewN | apply below_drew1) | exact HB.out)) hb); have n1_ := Aside0.mk (hbox); have n2_ := Aside0.mk ((by rw [hg]; exact (below_size (by repeat (first | (with_reducible first | exact HB.out | apply below_alloc | apply pw_below_drewN | apply below_drew1) | exact HB.out))) : w.heap.size ≤ gb145)); have n3_ := Aside0.mk ((by rw [hg]; exact (below_size (by repeat (first | (with_reducible first | exact HB.out | apply below_alloc | apply pw_below_drewN | apply below_drew1) | exact HB.out))) : w.heap.size ≤ gb145)); clear HB; have HB := n0_; have BK145 := n1_; have GW145 := n2_; have GE145 := n3_; clear n0_ n1_ n2_ n3_; clear hb hbox hg) | ((with_reducible refine gate_dst (N := 2) rfl ?_); refine box_event ?hg (N := 2) ?hd (cs := #[.slice none 0 0, .slice none 0 0, .int .i64 0, .slice none 0 0]) (t := 31) ?hr ?_; (case hd => rfl); (case hg => rfl); (case hr => first | (go_simp; done) | (go_simp; rfl)); intro gb146 hg w6 hbox hb; have n0_ := Aside0.mk (blk_below (g := gb145) (o := .cells #[.slice A0_0 l0_0.length c0_0, .slice A0_1 l0_1.length c0_1] 36 (0, 0)) (by (with_reducible repeat (first | refine blk_drewN ?_ _ | refine blk_drew ?_ | refine blk_alloc ?_ _)); exact BK145.out) hb); have n1_ := Aside0.mk (below_step (by repeat (first | (with_reducible first | exact HB.out | apply below_alloc | apply pw_below_drewN | apply below_drew1 | refine below_set ?_ GE145.out) | exact HB.out)) hb); have n2_ := Aside0.mk (hbox); have n3_ := Aside0.mk ((by rw [hg]; exact (below_size (by repeat (first | (with_reducible first | exact HB.out | apply below_alloc | apply pw_below_drewN | apply below_drew1 | refine below_set ?_ GE145.out) | exact HB.out))) : w.heap.size ≤ gb146)); have n4_ := Aside0.mk ((by rw [hg]; exact (below_size (by repeat (first | (with_reducible first | exact HB.out | apply below_alloc | apply pw_below_drewN | apply below_drew1 | refine below_set ?_ GE145.out) | exact HB.out))) : w.heap.size ≤ gb146)); have n5_ := Aside0.mk ((by rw [hg]; exact Nat.ne_of_lt (blk_lt (g := gb145) (o := .cells #[.slice A0_0 l0_0.length c0_0, .slice A0_1 l0_1.length c0_1] 36 (0, 0)) (by (with_reducible repeat (first | refine blk_drewN ?_ _ | refine blk_drew ?_ | refine blk_alloc ?_ _)); exact BK145.out)) : gb145 ≠ gb146)); have n6_ := Aside0.mk ((by rw [hg]; exact Nat.ne_of_gt (blk_lt (g := gb145) (o := .cells #[.slice A0_0 l0_0.length c0_0, .slice A0_1 l0_1.length c0_1] 36 (0, 0)) (by (with_reducible repeat (first | refine blk_drewN ?_ _ | refine blk_drew ?_ | refine blk_alloc ?_ _)); exact BK145.out)) : gb146 ≠ gb145)); clear BK145; clear HB; have BK145 := n0_; have HB := n1_; have BK146 := n2_; have GW146 := n3_; have GE146 := n4_; have NB145_146 := n5_; have NB146_145 := n6_; clear n0_ n1_ n2_ n3_ n4_ n5_ n6_; clear hb hbox hg; have hnb7 := NB145_146.out; have hnc7 := NB146_145.out; have hcz8_0 : w6.cell? ⟨gb145, 0, none⟩ = some (.slice A0_0 l0_0.length c0_0) := (blk_cell BK145.out 0).trans rfl; have hcz8_1 : w6.cell? ⟨gb145, 1, none⟩ = some (.slice A0_1 l0_1.length c0_1) := (blk_cell BK145.out 1).trans rfl; have hfz8_0 := blk_frozen BK145.out 0; have hfz8_1 := blk_frozen BK145.out 1) | ((with_reducible refine gate_callee (f := 27) rfl ?_); refine goesL_ (some 7) rfl rfl Try.func27 (by kernel_rfl) rfl #[.agg #[.slice A0_0 l0_0.length c0_0, .slice A0_1 l0_1.length c0_1]] rfl (by (try simp only [List.map_toArray, List.map_cons, List.map_nil]); first | done | rfl | (simp only [List.length_drop, List.length_take]; rfl)) ?_; (with_reducible refine (spec_ProgOk.calls k _ _ l0_0 _ _ l0_1 true _ ?side1 ?side2 ?side3 ?side4 A2.out).mono ?_); (case side1 => repeat (first | exact (Kd.C_below HR0_0.out HB.out) | (with_reducible refine Kd.C_alloc ?_ _) | (with_reducible refine Kd.C_drewN ?_ _) | (with_reducible refine Kd.C_drew ?_))); (case side2 => exact HC0_0.out); (case side3 => repeat (first | exact (Kd.C_below HR0_1.out HB.out) | (with_reducible refine Kd.C_alloc ?_ _) | (with_reducible refine Kd.C_drewN ?_ _) | (with_reducible refine Kd.C_drew ?_))); (case side4 => exact HC0_1.out); rintro e w9 ⟨rfl, hb⟩; refine ⟨_, rfl, ?_⟩; have n0_ := Aside0.mk (blk_below (g := gb145) (o := .cells #[.slice A0_0 l0_0.length c0_0, .slice A0_1 l0_1.length c0_1] 36 (0, 0)) (by (with_reducible repeat (first | refine blk_drewN ?_ _ | refine blk_drew ?_ | refine blk_alloc ?_ _)); exact BK145.out) hb); have n1_ := Aside0.mk (blk_below (g := gb146) (o := .cells #[.slice none 0 0, .slice none 0 0, .int .i64 0, .slice none 0 0] 31 (0, 0)) (by (with_reducible repeat (first | refine blk_drewN ?_ _ | refine blk_drew ?_ | refine blk_alloc ?_ _)); exact BK146.out) hb); have n2_ := Aside0.mk (below_step (by repeat (first | (with_reducible first | exact HB.out | apply below_alloc | apply pw_below_drewN | apply below_drew1 | refine below_set ?_ GE145.out | refine below_set ?_ GE146.out) | exact HB.out)) hb); clear BK145; clear BK146; clear HB; have BK145 := n0_; have BK146 := n1_; have HB := n2_; clear n0_ n1_ n2_; (try clear hb); (try clear hb2); (try clear hk); (try clear hi)) | ((with_reducible refine gate_dst (N := 10) rfl ?_); refine Kd.R_lit k69 _ 69 ?hg (N := 10) ?hd (xs := ([] : List (S69))) (inner := []) (ok := fun _ => True) (okp := fun _ => True) ?hr ?hp (fun _ hk => hk) trivial (Below.refl _ _) (Nat.le_refl _) (by simp) ?_; (case hd => rfl); (case hg => rfl); (case hr => first | (go_simp; done) | (go_simp; rfl)); (case hp => exact (Reps.none _ _)); intro v149 w10 ho11 hb hg_ hnew_; clear hg_ hnew_; (first | rw [← Ny148.out] at ho11 | (simp only [Int.reduceToNat] at ho11; rw [← Ny148.out] at ho11)); have n0_ := Aside0.mk (Kd.R_lower (Kd.R_newM (M := fun k_ => (w.heap.size ≤ k_)) ho11 (below_size (by repeat (first | (with_reducible first | exact HB.out | apply below_alloc | apply pw_below_drewN | apply below_drew1 | refine below_set ?_ GE145.out | refine below_set ?_ GE146.out) | exact HB.out))) (fun k_ h_ => h_)) (below_size (by repeat (first | (with_reducible first | exact HB.out | apply below_alloc | apply pw_below_drewN | apply below_drew1 | refine below_set ?_ GE145.out | refine below_set ?_ GE146.out) | exact HB.out)))); have n1_ := Aside0.mk (blk_below (g := gb145) (o := .cells #[.slice A0_0 l0_0.length c0_0, .slice A0_1 l0_1.length c0_1] 36 (0, 0)) (by (with_reducible repeat (first | refine blk_drewN ?_ _ | refine blk_drew ?_ | refine blk_alloc ?_ _)); exact BK145.out) hb); have n2_ := Aside0.mk (blk_below (g := gb146) (o := .cells #[.slice none 0 0, .slice none 0 0, .int .i64 0, .slice none 0 0] 31 (0, 0)) (by (with_reducible repeat (first | refine blk_drewN ?_ _ | refine blk_drew ?_ | refine blk_alloc ?_ _)); exact BK146.out) hb); have n3_ := Aside0.mk (below_step (by repeat (first | (with_reducible first | exact HB.out | apply below_alloc | apply pw_below_drewN | apply below_drew1 | refine below_set ?_ GE145.out | refine below_set ?_ GE146.out) | exact HB.out)) hb); clear BK145; clear BK146; clear HB; have HO150 := n0_; have BK145 := n1_; have BK146 := n2_; have HB := n3_; clear n0_ n1_ n2_ n3_; clear hb ho11) | ((with_reducible refine gate_callee (f := 35) rfl ?_); refine goesL_ (some 11) rfl rfl Try.func35 (by kernel_rfl) rfl #[.int .i64 0, .int .i64 (-1)] rfl (by (try simp only [List.map_toArray, List.map_cons, List.map_nil]); first | done | rfl | (simp only [List.length_drop, List.length_take]; rfl)) ?_; (with_reducible refine (spec_l11Task.calls 0 (-1) t151 t152 t153 t154 t157 t158 t159 t160 t161 t164 t167 t170 t171 _ A4.out).mono ?_); rintro e w12 ⟨v155, v162, v165, v168, rfl, ho0, ho1, ho2, ho3, hb⟩; refine ⟨_, rfl, ?_⟩; have n0_ := Aside0.mk (Kd.R_below (by (with_reducible repeat (first | apply Kd.R_alloc | apply Kd.R_drewN | apply Kd.R_drew)); exact HO150.out) hb); have n1_ := Aside0.mk (Kd.R_lower (Kd.R_newM (M := fun k_ => (w.heap.size ≤ k_)) ho0 (below_size (by repeat (first | (with_reducible first | exact HB.out | apply below_alloc | apply pw_below_drewN | apply below_drew1 | refine below_set ?_ GE145.out | refine below_set ?_ GE146.out) | exact HB.out))) (fun k_ h_ => h_)) (below_size (by repeat (first | (with_reducible first | exact HB.out | apply below_alloc | apply pw_below_drewN | apply below_drew1 | refine below_set ?_ GE145.out | refine below_set ?_ GE146.out) | exact HB.out)))); have n2_ := Aside0.mk (Kd.R_lower (Kd.R_newM (M := fun k_ => (w.heap.size ≤ k_)) ho1 (below_size (by repeat (first | (with_reducible first | exact HB.out | apply below_alloc | apply pw_below_drewN | apply below_drew1 | refine below_set ?_ GE145.out | refine below_set ?_ GE146.out) | exact HB.out))) (fun k_ h_ => h_)) (below_size (by repeat (first | (with_reducible first | exact HB.out | apply below_alloc | apply pw_below_drewN | apply below_drew1 | refine below_set ?_ GE145.out | refine below_set ?_ GE146.out) | exact HB.out)))); have n3_ := Aside0.mk (Kd.R_lower (Kd.R_newM (M := fun k_ => (w.heap.size ≤ k_)) ho2 (below_size (by repeat (first | (with_reducible first | exact HB.out | apply below_alloc | apply pw_below_drewN | apply below_drew1 | refine below_set ?_ GE145.out | refine below_set ?_ GE146.out) | exact HB.out))) (fun k_ h_ => h_)) (below_size (by repeat (first | (with_reducible first | exact HB.out | apply below_alloc | apply pw_below_drewN | apply below_drew1 | refine below_set ?_ GE145.out | refine below_set ?_ GE146.out) | exact HB.out)))); have n4_ := Aside0.mk (Kd.R_lower (Kd.R_newM (M := fun k_ => (w.heap.size ≤ k_)) ho3 (below_size (by repeat (first | (with_reducible first | exact HB.out | apply below_alloc | apply pw_below_drewN | apply below_drew1 | refine below_set ?_ GE145.out | refine below_set ?_ GE146.out) | exact HB.out))) (fun k_ h_ => h_)) (below_size (by repeat (first | (with_reducible first | exact HB.out | apply below_alloc | apply pw_below_drewN | apply below_drew1 | refine below_set ?_ GE145.out | refine below_set ?_ GE146.out) | exact HB.out)))); have n5_ := Aside0.mk (blk_below (g := gb145) (o := .cells #[.slice A0_0 l0_0.length c0_0, .slice A0_1 l0_1.length c0_1] 36 (0, 0)) (by (with_reducible repeat (first | refine blk_drewN ?_ _ | refine blk_drew ?_ | refine blk_alloc ?_ _)); exact BK145.out) hb); have n6_ := Aside0.mk (blk_below (g := gb146) (o := .cells #[.slice none 0 0, .slice none 0 0, .int .i64 0, .slice none 0 0] 31 (0, 0)) (by (with_reducible repeat (first | refine blk_drewN ?_ _ | refine blk_drew ?_ | refine blk_alloc ?_ _)); exact BK146.out) hb); have n7_ := Aside0.mk (below_step (by repeat (first | (with_reducible first | exact HB.out | apply below_alloc | apply pw_below_drewN | apply below_drew1 | refine below_set ?_ GE145.out | refine below_set ?_ GE146.out) | exact HB.out)) hb); clear HO150; clear BK145; clear BK146; clear HB; have HO150 := n0_; have HO156 := n1_; have HO163 := n2_; have HO166 := n3_; have HO169 := n4_; have BK145 := n5_; have BK146 := n6_; have HB := n7_; clear n0_ n1_ n2_ n3_ n4_ n5_ n6_ n7_; (try clear hb); (try clear hb2); (try clear hk); (try clear hi); (try clear ho0); (try clear ho1); (try clear ho2); (try clear ho3); obtain ⟨Ao13, co13, eo13⟩ := Kd.R_slice HO156.out; subst eo13; obtain ⟨Ao14, co14, eo14⟩ := Kd.R_slice HO163.out; subst eo14; obtain ⟨Ao15, co15, eo15⟩ := Kd.R_slice HO166.out; subst eo15; obtain ⟨Ao16, co16, eo16⟩ := Kd.R_slice HO169.out; subst eo16) | ((with_reducible refine gate_dst (N := 12) rfl ?_); refine Kd.N_lit k66 _ 66 ?hg (N' := 12) ?hd (xs := ([(⟨t151, t152, t153, t154, t157, t158, t159, t160, t161, t164, t167, t170, t171⟩ : S66)] : List (S66))) (inner := [.int .i64 t151, .int .i64 t152, .int .i64 t153, .slice Ao13 t154.length co13, .int .i64 t157, .int .i64 t158, .int .i64 t159, .int .i64 t160, .slice Ao14 t161.length co14, .slice Ao15 t164.length co15, .slice Ao16 t167.length co16, .int .i64 t170, .int .i64 t171]) (ok := (fun k_ => (w.heap.size ≤ k_) ∧ some k_ ≠ (v149 : Value).ownBlock ∧ k_ ≠ gb145 ∧ k_ ≠ gb146)) (okp := (fun k_ => (w.heap.size ≤ k_) ∧ some k_ ≠ (v149 : Value).ownBlock ∧ k_ ≠ gb145 ∧ k_ ≠ gb146)) ?hr ?hp (fun _ hk => hk) ((show ∀ k_, w12.heap.size ≤ k_ → (fun k_ => (w.heap.size ≤ k_) ∧ some k_ ≠ (v149 : Value).ownBlock ∧ k_ ≠ gb145 ∧ k_ ≠ gb146) k_ from fun k_ hk => ⟨(Nat.le_trans (below_size (by repeat (first | (with_reducible first | exact HB.out | apply below_alloc | apply pw_below_drewN | apply below_drew1 | refine below_set ?_ GE145.out | refine below_set ?_ GE146.out) | exact HB.out))) hk), Kd.fresh' (Kd.R_lt (by (with_reducible repeat (first | apply Kd.R_alloc | apply Kd.R_drewN | apply Kd.R_drew)); exact HO150.out)) k_ hk, Kd.freshB (g := gb145) (o := .cells #[.slice A0_0 l0_0.length c0_0, .slice A0_1 l0_1.length c0_1] 36 (0, 0)) (by (with_reducible repeat (first | refine blk_drewN ?_ _ | refine blk_drew ?_ | refine blk_alloc ?_ _)); exact BK145.out) k_ hk, Kd.freshB (g := gb146) (o := .cells #[.slice none 0 0, .slice none 0 0, .int .i64 0, .slice none 0 0] 31 (0, 0)) (by (with_reducible repeat (first | refine blk_drewN ?_ _ | refine blk_drew ?_ | refine blk_alloc ?_ _)); exact BK146.out) k_ hk⟩) _ (Nat.le_refl _)) (Below.refl _ _) (Nat.le_refl _) (by simp) ?_; (case hd => rfl); (case hg => rfl); (case hr => first | (go_simp; done) | (go_simp; rfl)); (case hp => exact (Reps.front (show Kd.FK k66 _ _ (⟨t151, t152, t153, t154, t157, t158, t159, t160, t161, t164, t167, t170, t171⟩ : S66) [.int .i64 t151, .int .i64 t152, .int .i64 t153, .slice Ao13 t154.length co13, .int .i64 t157, .int .i64 t158, .int .i64 t159, .int .i64 t160, .slice Ao14 t161.length co14, .slice Ao15 t164.length co15, .slice Ao16 t167.length co16, .int .i64 t170, .int .i64 t171] from (k66_mkF _ _ (⟨t151, t152, t153, t154, t157, t158, t159, t160, t161, t164, t167, t170, t171⟩ : S66) (Kd.R_reads' (Kd.R_mono (ok' := (fun k_ => (w.heap.size ≤ k_) ∧ some k_ ≠ (v149 : Value).ownBlock ∧ k_ ≠ gb145 ∧ k_ ≠ gb146)) (Kd.R_types (Kd.R_types (Kd.R_apart' (HO156.out) (Kd.R_typed HO150.out) (by decide)) BK145.out (by decide)) BK146.out (by decide)) (fun k_ hk => ⟨hk.1.1.1.1, ⟨hk.1.1.2, ⟨hk.1.2, hk.2⟩⟩⟩))).2.1 (Kd.R_F (Kd.R_mono (ok' := (fun k_ => (w.heap.size ≤ k_) ∧ some k_ ≠ (v149 : Value).ownBlock ∧ k_ ≠ gb145 ∧ k_ ≠ gb146)) (Kd.R_types (Kd.R_types (Kd.R_apart' (HO156.out) (Kd.R_typed HO150.out) (by decide)) BK145.out (by decide)) BK146.out (by decide)) (fun k_ hk => ⟨hk.1.1.1.1, ⟨hk.1.1.2, ⟨hk.1.2, hk.2⟩⟩⟩))) (Kd.R_reads' (Kd.R_mono (ok' := (fun k_ => (w.heap.size ≤ k_) ∧ some k_ ≠ (v149 : Value).ownBlock ∧ k_ ≠ gb145 ∧ k_ ≠ gb146)) (Kd.R_types (Kd.R_types (Kd.R_apart' (HO163.out) (Kd.R_typed HO150.out) (by decide)) BK145.out (by decide)) BK146.out (by decide)) (fun k_ hk => ⟨hk.1.1.1.1, ⟨hk.1.1.2, ⟨hk.1.2, hk.2⟩⟩⟩))).2.1 (Kd.R_F (Kd.R_mono (ok' := (fun k_ => (w.heap.size ≤ k_) ∧ some k_ ≠ (v149 : Value).ownBlock ∧ k_ ≠ gb145 ∧ k_ ≠ gb146)) (Kd.R_types (Kd.R_types (Kd.R_apart' (HO163.out) (Kd.R_typed HO150.out) (by decide)) BK145.out (by decide)) BK146.out (by decide)) (fun k_ hk => ⟨hk.1.1.1.1, ⟨hk.1.1.2, ⟨hk.1.2, hk.2⟩⟩⟩))) (Kd.R_reads' (Kd.R_mono (ok' := (fun k_ => (w.heap.size ≤ k_) ∧ some k_ ≠ (v149 : Value).ownBlock ∧ k_ ≠ gb145 ∧ k_ ≠ gb146)) (Kd.R_types (Kd.R_types (Kd.R_apart' (HO166.out) (Kd.R_typed HO150.out) (by decide)) BK145.out (by decide)) BK146.out (by decide)) (fun k_ hk => ⟨hk.1.1.1.1, ⟨hk.1.1.2, ⟨hk.1.2, hk.2⟩⟩⟩))).2.1 (Kd.R_F (Kd.R_mono (ok' := (fun k_ => (w.heap.size ≤ k_) ∧ some k_ ≠ (v149 : Value).ownBlock ∧ k_ ≠ gb145 ∧ k_ ≠ gb146)) (Kd.R_types (Kd.R_types (Kd.R_apart' (HO166.out) (Kd.R_typed HO150.out) (by decide)) BK145.out (by decide)) BK146.out (by decide)) (fun k_ hk => ⟨hk.1.1.1.1, ⟨hk.1.1.2, ⟨hk.1.2, hk.2⟩⟩⟩))) (Kd.R_reads' (Kd.R_mono (ok' := (fun k_ => (w.heap.size ≤ k_) ∧ some k_ ≠ (v149 : Value).ownBlock ∧ k_ ≠ gb145 ∧ k_ ≠ gb146)) (Kd.R_types (Kd.R_types (Kd.R_apart' (HO169.out) (Kd.R_typed HO150.out) (by decide)) BK145.out (by decide)) BK146.out (by decide)) (fun k_ hk => ⟨hk.1.1.1.1, ⟨hk.1.1.2, ⟨hk.1.2, hk.2⟩⟩⟩))).2.1 (Kd.R_F (Kd.R_mono (ok' := (fun k_ => (w.heap.size ≤ k_) ∧ some k_ ≠ (v149 : Value).ownBlock ∧ k_ ≠ gb145 ∧ k_ ≠ gb146)) (Kd.R_types (Kd.R_types (Kd.R_apart' (HO169.out) (Kd.R_typed HO150.out) (by decide)) BK145.out (by decide)) BK146.out (by decide)) (fun k_ hk => ⟨hk.1.1.1.1, ⟨hk.1.1.2, ⟨hk.1.2, hk.2⟩⟩⟩))))) rfl (Reps.none _ _) rfl)); intro v173 w17 ho18 hb hg_ hnew_; clear hg_ hnew_; (first | rw [← Ny172.out] at ho18 | (simp only [Int.reduceToNat] at ho18; rw [← Ny172.out] at ho18)); have n0_ := Aside0.mk (Kd.R_below (by (with_reducible repeat (first | apply Kd.R_alloc | apply Kd.R_drewN | apply Kd.R_drew)); exact HO150.out) hb); have n1_ := Aside0.mk (Kd.N_lower ho18 (below_size (by repeat (first | (with_reducible first | exact HB.out | apply below_alloc | apply pw_below_drewN | apply below_drew1 | refine below_set ?_ GE145.out | refine below_set ?_ GE146.out) | exact HB.out)))); have n2_ := Aside0.mk (blk_below (g := gb145) (o := .cells #[.slice A0_0 l0_0.length c0_0, .slice A0_1 l0_1.length c0_1] 36 (0, 0)) (by (with_reducible repeat (first | refine blk_drewN ?_ _ | refine blk_drew ?_ | refine blk_alloc ?_ _)); exact BK145.out) hb); have n3_ := Aside0.mk (blk_below (g := gb146) (o := .cells #[.slice none 0 0, .slice none 0 0, .int .i64 0, .slice none 0 0] 31 (0, 0)) (by (with_reducible repeat (first | refine blk_drewN ?_ _ | refine blk_drew ?_ | refine blk_alloc ?_ _)); exact BK146.out) hb); have n4_ := Aside0.mk (below_step (by repeat (first | (with_reducible first | exact HB.out | apply below_alloc | apply pw_below_drewN | apply below_drew1 | refine below_set ?_ GE145.out | refine below_set ?_ GE146.out) | exact HB.out)) hb); clear HO150; clear BK145; clear BK146; clear HB; clear HO156; clear HO163; clear HO166; clear HO169; have HO150 := n0_; have HO174 := n1_; have BK145 := n2_; have BK146 := n3_; have HB := n4_; clear n0_ n1_ n2_ n3_ n4_; clear hb ho18) | ((with_reducible refine gate_dst (N := 13) rfl ?_); refine Kd.N_lit k84 _ 84 ?hg (N' := 13) ?hd (xs := ([] : List (S84))) (inner := []) (ok := (fun k_ => (w.heap.size ≤ k_) ∧ some k_ ≠ (v149 : Value).ownBlock ∧ some k_ ≠ (v173 : Value).ownBlock ∧ k_ ≠ gb145 ∧ k_ ≠ gb146)) (okp := (fun k_ => (w.heap.size ≤ k_) ∧ some k_ ≠ (v149 : Value).ownBlock ∧ some k_ ≠ (v173 : Value).ownBlock ∧ k_ ≠ gb145 ∧ k_ ≠ gb146)) ?hr ?hp (fun _ hk => hk) ((show ∀ k_, w17.heap.size ≤ k_ → (fun k_ => (w.heap.size ≤ k_) ∧ some k_ ≠ (v149 : Value).ownBlock ∧ some k_ ≠ (v173 : Value).ownBlock ∧ k_ ≠ gb145 ∧ k_ ≠ gb146) k_ from fun k_ hk => ⟨(Nat.le_trans (below_size (by repeat (first | (with_reducible first | exact HB.out | apply below_alloc | apply pw_below_drewN | apply below_drew1 | refine below_set ?_ GE145.out | refine below_set ?_ GE146.out) | exact HB.out))) hk), Kd.fresh' (Kd.R_lt (by (with_reducible repeat (first | apply Kd.R_alloc | apply Kd.R_drewN | apply Kd.R_drew)); exact HO150.out)) k_ hk, Kd.fresh' (Kd.N_lt (by (with_reducible repeat (first | apply Kd.N_alloc | apply Kd.N_drewN | apply Kd.N_drew)); exact HO174.out)) k_ hk, Kd.freshB (g := gb145) (o := .cells #[.slice A0_0 l0_0.length c0_0, .slice A0_1 l0_1.length c0_1] 36 (0, 0)) (by (with_reducible repeat (first | refine blk_drewN ?_ _ | refine blk_drew ?_ | refine blk_alloc ?_ _)); exact BK145.out) k_ hk, Kd.freshB (g := gb146) (o := .cells #[.slice none 0 0, .slice none 0 0, .int .i64 0, .slice none 0 0] 31 (0, 0)) (by (with_reducible repeat (first | refine blk_drewN ?_ _ | refine blk_drew ?_ | refine blk_alloc ?_ _)); exact BK146.out) k_ hk⟩) _ (Nat.le_refl _)) (Below.refl _ _) (Nat.le_refl _) (by simp) ?_; (case hd => rfl); (case hg => rfl); (case hr => first | (go_simp; done) | (go_simp; rfl)); (case hp => exact (Reps.none _ _)); intro v176 w19 ho20 hb hg_ hnew_; clear hg_ hnew_; (first | rw [← Ny175.out] at ho20 | (simp only [Int.reduceToNat] at ho20; rw [← Ny175.out] at ho20)); have n0_ := Aside0.mk (Kd.R_below (by (with_reducible repeat (first | apply Kd.R_alloc | apply Kd.R_drewN | apply Kd.R_drew)); exact HO150.out) hb); have n1_ := Aside0.mk (Kd.N_elder' (by (with_reducible repeat (first | apply Kd.N_alloc | apply Kd.N_drewN | apply Kd.N_drew)); exact HO174.out) (Kd.N_base ho20) hb); have n2_ := Aside0.mk (Kd.N_lower ho20 (below_size (by repeat (first | (with_reducible first | exact HB.out | apply below_alloc | apply pw_below_drewN | apply below_drew1 | refine below_set ?_ GE145.out | refine below_set ?_ GE146.out) | exact HB.out)))); have n3_ := Aside0.mk (blk_below (g := gb145) (o := .cells #[.slice A0_0 l0_0.length c0_0, .slice A0_1 l0_1.length c0_1] 36 (0, 0)) (by (with_reducible repeat (first | refine blk_drewN ?_ _ | refine blk_drew ?_ | refine blk_alloc ?_ _)); exact BK145.out) hb); have n4_ := Aside0.mk (blk_below (g := gb146) (o := .cells #[.slice none 0 0, .slice none 0 0, .int .i64 0, .slice none 0 0] 31 (0, 0)) (by (with_reducible repeat (first | refine blk_drewN ?_ _ | refine blk_drew ?_ | refine blk_alloc ?_ _)); exact BK146.out) hb); have n5_ := Aside0.mk (below_step (by repeat (first | (with_reducible first | exact HB.out | apply below_alloc | apply pw_below_drewN | apply below_drew1 | refine below_set ?_ GE145.out | refine below_set ?_ GE146.out) | exact HB.out)) hb); clear HO150; clear HO174; clear BK145; clear BK146; clear HB; have HO150 := n0_; have HO174 := n1_; have HO177 := n2_; have BK145 := n3_; have BK146 := n4_; have HB := n5_; clear n0_ n1_ n2_ n3_ n4_ n5_; clear hb ho20; obtain ⟨Ao21, co21, eo21⟩ := Kd.N_slice HO177.out; subst eo21; obtain ⟨Ao22, co22, eo22⟩ := Kd.N_slice HO174.out; subst eo22; obtain ⟨Ao23, co23, eo23⟩ := Kd.R_slice HO150.out; subst eo23) | ((with_reducible refine gate_dst (N := 4) rfl ?_); refine box_event ?hg (N := 4) ?hd (cs := #[.slice none 0 0, .slice none 0 0, .int .i64 0, .slice none 0 0]) (t := 31) ?hr ?_; (case hd => rfl); (case hg => rfl); (case hr => first | (go_simp; done) | (go_simp; rfl)); intro gb178 hg w24 hbox hb; have n0_ := Aside0.mk (Kd.R_below (by (with_reducible repeat (first | apply Kd.R_alloc | apply Kd.R_drewN | apply Kd.R_drew)); exact HO150.out) hb); have n1_ := Aside0.mk (Kd.N_below (Kd.N_elderB (by (with_reducible repeat (first | apply Kd.N_alloc | apply Kd.N_drewN | apply Kd.N_drew)); exact HO174.out) gb178 (Nat.le_of_eq hg.symm)) hb); have n2_ := Aside0.mk (Kd.N_below (Kd.N_elderB (by (with_reducible repeat (first | apply Kd.N_alloc | apply Kd.N_drewN | apply Kd.N_drew)); exact HO177.out) gb178 (Nat.le_of_eq hg.symm)) hb); have n3_ := Aside0.mk (blk_below (g := gb145) (o := .cells #[.slice A0_0 l0_0.length c0_0, .slice A0_1 l0_1.length c0_1] 36 (0, 0)) (by (with_reducible repeat (first | refine blk_drewN ?_ _ | refine blk_drew ?_ | refine blk_alloc ?_ _)); exact BK145.out) hb); have n4_ := Aside0.mk (blk_below (g := gb146) (o := .cells #[.slice none 0 0, .slice none 0 0, .int .i64 0, .slice none 0 0] 31 (0, 0)) (by (with_reducible repeat (first | refine blk_drewN ?_ _ | refine blk_drew ?_ | refine blk_alloc ?_ _)); exact BK146.out) hb); have n5_ := Aside0.mk (below_step (by repeat (first | (with_reducible first | exact HB.out | apply below_alloc | apply pw_below_drewN | apply below_drew1 | refine below_set ?_ GE145.out | refine below_set ?_ GE146.out) | exact HB.out)) hb); have n6_ := Aside0.mk (hbox); have n7_ := Aside0.mk ((by rw [hg]; exact (below_size (by repeat (first | (with_reducible first | exact HB.out | apply below_alloc | apply pw_below_drewN | apply below_drew1 | refine below_set ?_ GE145.out | refine below_set ?_ GE146.out) | exact HB.out))) : w.heap.size ≤ gb178)); have n8_ := Aside0.mk ((by rw [hg]; exact (below_size (by repeat (first | (with_reducible first | exact HB.out | apply below_alloc | apply pw_below_drewN | apply below_drew1 | refine below_set ?_ GE145.out | refine below_set ?_ GE146.out) | exact HB.out))) : w.heap.size ≤ gb178)); have n9_ := Aside0.mk ((by rw [hg]; exact Nat.ne_of_lt (blk_lt (g := gb145) (o := .cells #[.slice A0_0 l0_0.length c0_0, .slice A0_1 l0_1.length c0_1] 36 (0, 0)) (by (with_reducible repeat (first | refine blk_drewN ?_ _ | refine blk_drew ?_ | refine blk_alloc ?_ _)); exact BK145.out)) : gb145 ≠ gb178)); have n10_ := Aside0.mk ((by rw [hg]; exact Nat.ne_of_gt (blk_lt (g := gb145) (o := .cells #[.slice A0_0 l0_0.length c0_0, .slice A0_1 l0_1.length c0_1] 36 (0, 0)) (by (with_reducible repeat (first | refine blk_drewN ?_ _ | refine blk_drew ?_ | refine blk_alloc ?_ _)); exact BK145.out)) : gb178 ≠ gb145)); have n11_ := Aside0.mk ((by rw [hg]; exact Nat.ne_of_lt (blk_lt (g := gb146) (o := .cells #[.slice none 0 0, .slice none 0 0, .int .i64 0, .slice none 0 0] 31 (0, 0)) (by (with_reducible repeat (first | refine blk_drewN ?_ _ | refine blk_drew ?_ | refine blk_alloc ?_ _)); exact BK146.out)) : gb146 ≠ gb178)); have n12_ := Aside0.mk ((by rw [hg]; exact Nat.ne_of_gt (blk_lt (g := gb146) (o := .cells #[.slice none 0 0, .slice none 0 0, .int .i64 0, .slice none 0 0] 31 (0, 0)) (by (with_reducible repeat (first | refine blk_drewN ?_ _ | refine blk_drew ?_ | refine blk_alloc ?_ _)); exact BK146.out)) : gb178 ≠ gb146)); clear HO150; clear HO174; clear HO177; clear BK145; clear BK146; clear HB; have HO150 := n0_; have HO174 := n1_; have HO177 := n2_; have BK145 := n3_; have BK146 := n4_; have HB := n5_; have BK178 := n6_; have GW178 := n7_; have GE178 := n8_; have NB145_178 := n9_; have NB178_145 := n10_; have NB146_178 := n11_; have NB178_146 := n12_; clear n0_ n1_ n2_ n3_ n4_ n5_ n6_ n7_ n8_ n9_ n10_ n11_ n12_; clear hb hbox hg; have hnb25 := NB178_145.out; have hnc25 := NB145_178.out; have hnb26 := NB178_146.out; have hnc26 := NB146_178.out; have hcz27_0 : w24.cell? ⟨gb178, 0, none⟩ = some (.slice none 0 0) := (blk_cell BK178.out 0).trans rfl; have hcz27_1 : w24.cell? ⟨gb178, 1, none⟩ = some (.slice none 0 0) := (blk_cell BK178.out 1).trans rfl; have hcz27_2 : w24.cell? ⟨gb178, 2, none⟩ = some (.int .i64 0) := (blk_cell BK178.out 2).trans rfl; have hcz27_3 : w24.cell? ⟨gb178, 3, none⟩ = some (.slice none 0 0) := (blk_cell BK178.out 3).trans rfl; have hfz27_0 := blk_frozen BK178.out 0; have hfz27_1 := blk_frozen BK178.out 1; have hfz27_2 := blk_frozen BK178.out 2; have hfz27_3 := blk_frozen BK178.out 3))
    go_loopg [5] k (fun kq v5 w' => ∃ (x5_1 : Int) (x179000_1 : List (S69)) (u179000 : Value), v5 = .int .i64 x5_1 ∧ Aside0 (spec_SysNew.l0 kq x5_1 l0_0 l0_1 x179000_1 y172 0 y175 = some (r1, r2, r3, r4, r5)) ∧ Aside0 (kq ≤ k) ∧ Aside0 (Kd.R k69 69 w' w.heap.size (fun k_ => (w.heap.size ≤ k_)) u179000 x179000_1) ∧ Aside0 (Kd.N k66 66 w' w.heap.size (fun k_ => (w.heap.size ≤ k_) ∧ some k_ ≠ (u179000 : Value).ownBlock ∧ some k_ ≠ ((.slice Ao21 y175.length co21) : Value).ownBlock ∧ k_ ≠ gb145 ∧ k_ ≠ gb146 ∧ k_ ≠ gb178) (.slice Ao22 y172.length co22) y172) ∧ Aside0 (Kd.N k84 84 w' w.heap.size (fun k_ => (w.heap.size ≤ k_) ∧ some k_ ≠ (u179000 : Value).ownBlock ∧ some k_ ≠ ((.slice Ao22 y172.length co22) : Value).ownBlock ∧ k_ ≠ gb145 ∧ k_ ≠ gb146 ∧ k_ ≠ gb178) (.slice Ao21 y175.length co21) y175) ∧ Aside0 (w'.heap[gb145]? = some (.cells #[(.slice A0_0 l0_0.length c0_0), (.slice A0_1 l0_1.length c0_1)] 36 (0, 0))) ∧ Aside0 (w'.heap[gb146]? = some (.cells #[(.slice none 0 0), (.slice none 0 0), .int .i64 0, (.slice none 0 0)] 31 (0, 0))) ∧ Aside0 (w'.heap[gb178]? = some (.cells #[u179000, (.slice Ao22 y172.length co22), .int .i64 0, (.slice Ao21 y175.length co21)] 31 (0, 0))) ∧ Aside0 (Below w.heap.size w w'))
    case atStart => exact ⟨(0), (y148), (.slice Ao23 y148.length co23), (by first | rfl | (simp; done) | (simp [*]; done)), H', ⟨Nat.le_refl _⟩, ⟨by (with_reducible repeat (first | apply Kd.R_alloc | apply Kd.R_drewN | apply Kd.R_drew)); exact Kd.R_mono (Kd.R_far (p := ⟨gb178, 3, none⟩) (Kd.R_far (p := ⟨gb178, 2, none⟩) (Kd.R_far (p := ⟨gb178, 1, none⟩) (Kd.R_far (p := ⟨gb178, 0, none⟩) (Kd.R_types HO150.out BK178.out (by decide)) (fun _ hk => hk.2) (.slice Ao23 y148.length co23)) (fun _ hk => hk.2) (.slice Ao22 y172.length co22)) (fun _ hk => hk.2) (.int .i64 0)) (fun _ hk => hk.2) (.slice Ao21 y175.length co21)) (fun _ hk => hk.1.1)⟩, ⟨by (with_reducible repeat (first | apply Kd.N_alloc | apply Kd.N_drewN | apply Kd.N_drew)); exact Kd.N_mono (Kd.N_far (p := ⟨gb178, 3, none⟩) (Kd.N_far (p := ⟨gb178, 2, none⟩) (Kd.N_far (p := ⟨gb178, 1, none⟩) (Kd.N_far (p := ⟨gb178, 0, none⟩) (Kd.N_mono HO174.out (fun k_ hk => (⟨hk, hk.2⟩ : _ ∧ k_ ≠ gb178))) (fun _ hk => hk.2) (.slice Ao23 y148.length co23)) (fun _ hk => hk.2) (.slice Ao22 y172.length co22)) (fun _ hk => hk.2) (.int .i64 0)) (fun _ hk => hk.2) (.slice Ao21 y175.length co21)) (fun _ hk => ⟨hk.1.1.1.1, ⟨hk.1.1.1.2.1, ⟨hk.1.1.2, ⟨hk.1.1.1.2.2.1, ⟨hk.1.1.1.2.2.2, hk.1.2⟩⟩⟩⟩⟩)⟩, ⟨by (with_reducible repeat (first | apply Kd.N_alloc | apply Kd.N_drewN | apply Kd.N_drew)); exact Kd.N_mono (Kd.N_far (p := ⟨gb178, 3, none⟩) (Kd.N_far (p := ⟨gb178, 2, none⟩) (Kd.N_far (p := ⟨gb178, 1, none⟩) (Kd.N_far (p := ⟨gb178, 0, none⟩) (Kd.N_mono HO177.out (fun k_ hk => (⟨hk, hk.2⟩ : _ ∧ k_ ≠ gb178))) (fun _ hk => hk.2) (.slice Ao23 y148.length co23)) (fun _ hk => hk.2) (.slice Ao22 y172.length co22)) (fun _ hk => hk.2) (.int .i64 0)) (fun _ hk => hk.2) (.slice Ao21 y175.length co21)) (fun _ hk => ⟨hk.1.1.1, ⟨hk.1.1.2.1, ⟨hk.1.1.2.2.1, ⟨hk.1.1.2.2.2.1, ⟨hk.1.1.2.2.2.2, hk.1.2⟩⟩⟩⟩⟩)⟩, ⟨by (with_reducible repeat (first | refine blk_drewN ?_ _ | refine blk_drew ?_ | refine blk_alloc ?_ _)); refine blk_far ?_ NB145_178.out _; (with_reducible repeat (first | refine blk_drewN ?_ _ | refine blk_drew ?_ | refine blk_alloc ?_ _)); refine blk_far ?_ NB145_178.out _; (with_reducible repeat (first | refine blk_drewN ?_ _ | refine blk_drew ?_ | refine blk_alloc ?_ _)); refine blk_far ?_ NB145_178.out _; (with_reducible repeat (first | refine blk_drewN ?_ _ | refine blk_drew ?_ | refine blk_alloc ?_ _)); refine blk_far ?_ NB145_178.out _; (with_reducible repeat (first | refine blk_drewN ?_ _ | refine blk_drew ?_ | refine blk_alloc ?_ _)); exact BK145.out⟩, ⟨by (with_reducible repeat (first | refine blk_drewN ?_ _ | refine blk_drew ?_ | refine blk_alloc ?_ _)); refine blk_far ?_ NB146_178.out _; (with_reducible repeat (first | refine blk_drewN ?_ _ | refine blk_drew ?_ | refine blk_alloc ?_ _)); refine blk_far ?_ NB146_178.out _; (with_reducible repeat (first | refine blk_drewN ?_ _ | refine blk_drew ?_ | refine blk_alloc ?_ _)); refine blk_far ?_ NB146_178.out _; (with_reducible repeat (first | refine blk_drewN ?_ _ | refine blk_drew ?_ | refine blk_alloc ?_ _)); refine blk_far ?_ NB146_178.out _; (with_reducible repeat (first | refine blk_drewN ?_ _ | refine blk_drew ?_ | refine blk_alloc ?_ _)); exact BK146.out⟩, ⟨by (with_reducible repeat (first | refine blk_drewN ?_ _ | refine blk_drew ?_ | refine blk_alloc ?_ _)); refine blk_put (cs := #[.slice Ao23 y148.length co23, .slice Ao22 y172.length co22, .int .i64 0, .slice none 0 0]) ?_ 3 _ rfl; (with_reducible repeat (first | refine blk_drewN ?_ _ | refine blk_drew ?_ | refine blk_alloc ?_ _)); refine blk_put (cs := #[.slice Ao23 y148.length co23, .slice Ao22 y172.length co22, .int .i64 0, .slice none 0 0]) ?_ 2 _ rfl; (with_reducible repeat (first | refine blk_drewN ?_ _ | refine blk_drew ?_ | refine blk_alloc ?_ _)); refine blk_put (cs := #[.slice Ao23 y148.length co23, .slice none 0 0, .int .i64 0, .slice none 0 0]) ?_ 1 _ rfl; (with_reducible repeat (first | refine blk_drewN ?_ _ | refine blk_drew ?_ | refine blk_alloc ?_ _)); refine blk_put (cs := #[.slice none 0 0, .slice none 0 0, .int .i64 0, .slice none 0 0]) ?_ 0 _ rfl; (with_reducible repeat (first | refine blk_drewN ?_ _ | refine blk_drew ?_ | refine blk_alloc ?_ _)); exact BK178.out⟩, ⟨by repeat (first | (with_reducible first | exact HB.out | apply below_alloc | apply pw_below_drewN | apply below_drew1 | refine below_set ?_ GE145.out | refine below_set ?_ GE146.out | refine below_set ?_ GE178.out) | exact HB.out)⟩⟩
    case round =>
      clear H'
      try clear c1
      try clear c2
      try clear p2
      try clear c3
      try clear c7
      try clear c10
      try clear c25
      try clear c26
      try clear c27
      try clear hcz27_0
      try clear hcz27_1
      try clear hcz27_2
      try clear hcz27_3
      try clear hcz8_0
      try clear hcz8_1
      try clear hfz27_0
      try clear hfz27_1
      try clear hfz27_2
      try clear hfz27_3
      try clear hfz8_0
      try clear hfz8_1
      obtain ⟨x5_1, x179000_1, u179000, rfl, HA, HK1, HO_179000, HO_179001, HO_179003, BK145, BK146, BK178, HB⟩ := hrel
      cases gk with
      | zero => exact absurd HA.out (by simp [spec_SysNew.l0])
      | succ k1 =>
        have H := HA.out
        clear HA
        simp only [spec_SysNew.l0] at H
        by_cases c28 : x5_1 < (l0_0.length : Int)
        · rw [if_pos c28] at H
          have c28b0 : decide (x5_1 < (l0_0.length : Int)) = true := decide_eq_true c28
          clear c28
          by_cases c29 : 0 ≤ x5_1
          · rw [if_pos c29] at H
            have c29b0 : decide (0 ≤ x5_1) = true := decide_eq_true c29
            clear c29
            by_cases c30 : x179000_1.length < 5864062014805
            · rw [if_pos c30] at H
              have LMc30 := Aside0.mk c30
              clear c30
              obtain ⟨y180, hy180⟩ : ∃ y_ : List (S69), y_ = (x179000_1 ++ [(⟨rd l0_0 x5_1, 0, (-1)⟩ : S69)]) := ⟨_, rfl⟩
              replace H : (spec_SysNew.l0 k1 (wrap64 (x5_1 + 1)) l0_0 l0_1 y180 y172 0 y175) = some (r1, r2, r3, r4, r5) := by first | (rw [hy180]; with_reducible exact H) | (have H2_ := (Option.bind_some _ _).symm.trans H; rw [hy180]; with_reducible exact H2_) | (have H2_ := (Option.bind_some _ _).symm.trans H; with_reducible exact H2_) | with_reducible exact H | (rw [hy180]; exact H) | exact H
              have Ny180 := Aside0.mk hy180
              clear hy180
              have H' := Aside0.mk H
              clear H
              have hnb31 := NB145_146.out
              have hnc31 := NB146_145.out
              have hnb32 := NB145_178.out
              have hnc32 := NB178_145.out
              have hcz33_0 : wr.cell? ⟨gb145, 0, none⟩ = some (.slice A0_0 l0_0.length c0_0) := (blk_cell BK145.out 0).trans rfl
              have hcz33_1 : wr.cell? ⟨gb145, 1, none⟩ = some (.slice A0_1 l0_1.length c0_1) := (blk_cell BK145.out 1).trans rfl
              have hfz33_0 := blk_frozen BK145.out 0
              have hfz33_1 := blk_frozen BK145.out 1
              try go_wp2
              have n0_ := Aside0.mk (Kd.R_drew HO_179000.out)
              have n1_ := Aside0.mk (Kd.N_drew HO_179001.out)
              have n2_ := Aside0.mk (Kd.N_drew HO_179003.out)
              have n3_ := Aside0.mk (blk_drew BK145.out)
              have n4_ := Aside0.mk (blk_drew BK146.out)
              have n5_ := Aside0.mk (blk_drew BK178.out)
              have n6_ := Aside0.mk (below_drew1 HB.out)
              clear HO_179000
              clear HO_179001
              clear HO_179003
              clear BK145
              clear BK146
              clear BK178
              clear HB
              have HO_179000 := n0_
              have HO_179001 := n1_
              have HO_179003 := n2_
              have BK145 := n3_
              have BK146 := n4_
              have BK178 := n5_
              have HB := n6_
              clear n0_ n1_ n2_ n3_ n4_ n5_ n6_
              have p179 : 0 ≤ (x5_1 : Int) := of_decide_eq_true (by first | (with_reducible assumption) | assumption)
              have q179 : x5_1 < (l0_0.length : Int) := of_decide_eq_true (by first | (with_reducible assumption) | assumption)
              obtain ⟨ad179, e179, hx179_0⟩ := Kd.at_int HR0_0.out x5_1 p179 q179
              have hw179_0 := hx179_0
              cases e179
              replace hx179_0 := (HB.out.cell (World.block_lt_of_cell? w _ hx179_0)).trans hx179_0
              replace p179 := eq_true p179
              replace q179 := eq_true q179
              refine start_ (n := 12) (S := fun w' => w'.cell? ⟨gb178, 0, none⟩ = some (u179000) ∧ w'.cell? ⟨gb178, 1, none⟩ = some (.slice Ao22 y172.length co22) ∧ w'.cell? ⟨gb178, 2, none⟩ = some (.int .i64 0) ∧ w'.cell? ⟨gb178, 3, none⟩ = some (.slice Ao21 y175.length co21) ∧ w'.cell? ⟨gb145, 0, none⟩ = some (.slice (some ad179) l0_0.length c0_0) ∧ w'.cell? ⟨gb145, 1, none⟩ = some (.slice A0_1 l0_1.length c0_1) ∧ w'.cell? (ad179.add (x5_1).toNat) = some (.int .i64 (rd l0_0 x5_1))) (ds := [11]) #[false, false, false, false, false, false, false, false, false, false, false, false] (by kernel_rfl) rfl rfl ⟨(blk_cell BK178.out 0).trans rfl, (blk_cell BK178.out 1).trans rfl, (blk_cell BK178.out 2).trans rfl, (blk_cell BK178.out 3).trans rfl, (blk_cell BK145.out 0).trans rfl, (blk_cell BK145.out 1).trans rfl, ((HB.out.cell (World.block_lt_of_cell? w _ hw179_0)).trans hw179_0)⟩ (fun hHeld => ?_); refine with_tabW spec_SysNew.tab7 spec_SysNew.bits7 (fun HT_ HW_ => ?_)
              generalize wr.drew = w34 at HO_179000 HO_179001 HO_179003 BK145 BK146 BK178 HB hx179_0 hHeld ⊢
              refine pure_ (i := 0) (N := some 22) (v := ?_) (a' := ?_) #[true, false, false, false, false, false, false, false, false, false, false, false] rfl rfl (any_of HT_.out (by kernel_rfl)) (fun _ _ _ h => h) (Or.inl ⟨by rfl, ?_⟩) ?_ ?_
              rotate_left
              · intro w'
                go_simp
                with_reducible rfl
              rotate_left
              · simp only [Act.put, List.setIfInBounds_toArray, List.set_cons_zero, List.set_cons_succ, i64_w, i32_w]
                rfl
              refine pure_ (i := 2) (N := some 24) (v := ?_) (a' := ?_) #[true, false, true, false, false, false, false, false, false, false, false, false] rfl rfl (any_of HT_.out (by kernel_rfl)) (fun _ _ _ h => h) (Or.inl ⟨by rfl, ?_⟩) ?_ ?_
              rotate_left
              · intro w'
                go_simp
                with_reducible rfl
              rotate_left
              · simp only [Act.put, List.setIfInBounds_toArray, List.set_cons_zero, List.set_cons_succ, i64_w, i32_w]
                rfl
              refine pure_ (i := 4) (N := some 26) (v := ?_) (a' := ?_) #[true, false, true, false, true, false, false, false, false, false, false, false] rfl rfl (any_of HT_.out (by kernel_rfl)) (fun _ _ _ h => h) (Or.inl ⟨by rfl, ?_⟩) ?_ ?_
              rotate_left
              · intro w'
                go_simp
                with_reducible rfl
              rotate_left
              · simp only [Act.put, List.setIfInBounds_toArray, List.set_cons_zero, List.set_cons_succ, i64_w, i32_w]
                rfl
              refine take_ (i := 1) (N := some 23) (v := ?_) (a' := ?_) #[true, true, true, false, true, false, false, false, false, false, false, false] rfl rfl (take_ofW HT_.out HW_.out (by kernel_rfl)) (fun _ _ _ h => h) (Or.inl ⟨by rfl, ?_⟩) hHeld ?_ ?_
              rotate_left
              · rintro w' ⟨s0, s1, s2, s3, s4, s5, s6⟩
                go_simp
                with_reducible rfl
              rotate_left
              · simp only [Act.put, List.setIfInBounds_toArray, List.set_cons_zero, List.set_cons_succ, i64_w, i32_w]
                rfl
              refine take_ (i := 3) (N := some 25) (v := ?_) (a' := ?_) #[true, true, true, true, true, false, false, false, false, false, false, false] rfl rfl (take_ofW HT_.out HW_.out (by kernel_rfl)) (fun _ _ _ h => h) (Or.inl ⟨by rfl, ?_⟩) hHeld ?_ ?_
              rotate_left
              · rintro w' ⟨s0, s1, s2, s3, s4, s5, s6⟩
                go_simp
                with_reducible rfl
              rotate_left
              · simp only [Act.put, List.setIfInBounds_toArray, List.set_cons_zero, List.set_cons_succ, i64_w, i32_w]
                rfl
              refine pure_ (i := 5) (N := some 27) (v := ?_) (a' := ?_) #[true, true, true, true, true, true, false, false, false, false, false, false] rfl rfl (any_of HT_.out (by kernel_rfl)) (fun _ _ _ h => h) (Or.inl ⟨by rfl, ?_⟩) ?_ ?_
              rotate_left
              · intro w'
                go_simp
                with_reducible rfl
              rotate_left
              · simp only [Act.put, List.setIfInBounds_toArray, List.set_cons_zero, List.set_cons_succ, i64_w, i32_w]
                rfl
              refine take_ (i := 6) (N := some 28) (v := ?_) (a' := ?_) #[true, true, true, true, true, true, true, false, false, false, false, false] rfl rfl (take_ofW HT_.out HW_.out (by kernel_rfl)) (fun _ _ _ h => h) (Or.inl ⟨by rfl, ?_⟩) hHeld ?_ ?_
              rotate_left
              · rintro w' ⟨s0, s1, s2, s3, s4, s5, s6⟩
                go_simp
                with_reducible rfl
              rotate_left
              · simp only [Act.put, List.setIfInBounds_toArray, List.set_cons_zero, List.set_cons_succ, i64_w, i32_w]
                rfl
              refine pure_ (i := 7) (N := some 29) (v := ?_) (a' := ?_) #[true, true, true, true, true, true, true, true, false, false, false, false] rfl rfl (any_of HT_.out (by kernel_rfl)) (fun _ _ _ h => h) (Or.inl ⟨by rfl, ?_⟩) ?_ ?_
              rotate_left
              · intro w'
                go_simp
                with_reducible rfl
              rotate_left
              · simp only [Act.put, List.setIfInBounds_toArray, List.set_cons_zero, List.set_cons_succ, i64_w, i32_w]
                rfl
              refine one_ (i := 8) (N := some 30) #[true, true, true, true, true, true, true, true, true, false, false, false] rfl rfl (one_of HT_.out (by kernel_rfl)) (by decide) (fun K hK => ?_)
              refine value_ (w1 := ?_) (v := ?_) (by rfl) rfl ?_ ?_
              rotate_left 2
              · go_simp
                constructor
                · rfl
                · rfl
              refine hK.out _ _ ⟨(blk_cell (blk_alloc BK178.out _) 0).trans rfl, (blk_cell (blk_alloc BK178.out _) 1).trans rfl, (blk_cell (blk_alloc BK178.out _) 2).trans rfl, (blk_cell (blk_alloc BK178.out _) 3).trans rfl, (blk_cell (blk_alloc BK145.out _) 0).trans rfl, (blk_cell (blk_alloc BK145.out _) 1).trans rfl, (World.cell?_alloc_lt _ _ _ (World.block_lt_of_cell? _ _ (((HB.out.cell (World.block_lt_of_cell? w _ hw179_0)).trans hw179_0)))).trans (((HB.out.cell (World.block_lt_of_cell? w _ hw179_0)).trans hw179_0))⟩ (fun hHeld => ?_)
              clear hK K
              refine norm_ (a' := ?_) ?_ ?_
              rotate_left
              · show Act.put _ (some 30) _ = _
                simp only [Act.put, List.setIfInBounds_toArray, List.set_cons_zero, List.set_cons_succ, i64_w, i32_w]
                rfl
              refine one_ (i := 9) (N := some 31) #[true, true, true, true, true, true, true, true, true, true, false, false] rfl rfl (one_of HT_.out (by kernel_rfl)) (by decide) (fun K hK => ?_)
              refine Kd.R_append_step k69 (w0 := w) w.heap.size (by rfl) (.tmp 23) (.tmp 30) 27 69 (.agg #[(.int .i64 0), (.int .i64 0), (.int .i64 0)]) 24 rfl Try.underlying27 info69 rfl (by decide) (by omega) u179000 x179000_1 (⟨rd l0_0 x5_1, 0, (-1)⟩ : S69) [.int .i64 (rd l0_0 x5_1), .int .i64 0, .int .i64 (-1)] (fun k_ => (w.heap.size ≤ k_)) (fun _ => False) rfl rfl ?aP (fun _ hk => hk.elim) ?aF ?aO ?aB ?aS ?aL ?_
              (case aP => exact k69_mkM _ _ _ (⟨rd l0_0 x5_1, 0, (-1)⟩ : S69))
              (case aB => exact (by repeat (first | (with_reducible first | exact HB.out | apply below_alloc | apply pw_below_drewN | apply below_drew1 | refine below_set ?_ GE145.out | refine below_set ?_ GE146.out | refine below_set ?_ GE178.out) | exact HB.out)))
              (case aF => exact (fun k_ hk => (Nat.le_trans (below_size (by repeat (first | (with_reducible first | exact HB.out | apply below_alloc | apply pw_below_drewN | apply below_drew1 | refine below_set ?_ GE145.out | refine below_set ?_ GE146.out | refine below_set ?_ GE178.out) | exact HB.out))) hk)))
              (case aO => exact (by (with_reducible repeat (first | apply Kd.R_alloc | apply Kd.R_drewN | apply Kd.R_drew)); exact HO_179000.out))
              (case aS => exact (below_size (by repeat (first | (with_reducible first | exact HB.out | apply below_alloc | apply pw_below_drewN | apply below_drew1 | refine below_set ?_ GE145.out | refine below_set ?_ GE146.out | refine below_set ?_ GE178.out) | exact HB.out))))
              (case aL => have := LMc30.out; omega)
              intro v181 w35 ho hb hg hat
              rw [← Ny180.out] at ho
              have n0_ := Aside0.mk (Kd.N_afterv (ok := (fun k_ => (w.heap.size ≤ k_) ∧ some k_ ≠ (.slice Ao21 y175.length co21 : Value).ownBlock ∧ k_ ≠ gb145 ∧ k_ ≠ gb146 ∧ k_ ≠ gb178)) (by (with_reducible repeat (first | apply Kd.N_alloc | apply Kd.N_drewN | apply Kd.N_drew)); exact Kd.N_mono HO_179001.out (fun _ hk => ⟨⟨hk.1, ⟨hk.2.2.1, ⟨hk.2.2.2.1, ⟨hk.2.2.2.2.1, hk.2.2.2.2.2⟩⟩⟩⟩, hk.2.1⟩)) hg hat)
              have n1_ := Aside0.mk (Kd.N_afterv (ok := (fun k_ => (w.heap.size ≤ k_) ∧ some k_ ≠ (.slice Ao22 y172.length co22 : Value).ownBlock ∧ k_ ≠ gb145 ∧ k_ ≠ gb146 ∧ k_ ≠ gb178)) (by (with_reducible repeat (first | apply Kd.N_alloc | apply Kd.N_drewN | apply Kd.N_drew)); exact Kd.N_mono HO_179003.out (fun _ hk => ⟨⟨hk.1, ⟨hk.2.2.1, ⟨hk.2.2.2.1, ⟨hk.2.2.2.2.1, hk.2.2.2.2.2⟩⟩⟩⟩, hk.2.1⟩)) hg hat)
              have n2_ := Aside0.mk (blk_grown (g := gb145) (o := .cells #[.slice (some ad179) l0_0.length c0_0, .slice A0_1 l0_1.length c0_1] 36 (0, 0)) (by (with_reducible repeat (first | refine blk_drewN ?_ _ | refine blk_drew ?_ | refine blk_alloc ?_ _)); exact BK145.out) hg (Kd.R_ne HO_179000.out BK145.out (by decide)))
              have n3_ := Aside0.mk (blk_grown (g := gb146) (o := .cells #[.slice none 0 0, .slice none 0 0, .int .i64 0, .slice none 0 0] 31 (0, 0)) (by (with_reducible repeat (first | refine blk_drewN ?_ _ | refine blk_drew ?_ | refine blk_alloc ?_ _)); exact BK146.out) hg (Kd.R_ne HO_179000.out BK146.out (by decide)))
              have n4_ := Aside0.mk (blk_grown (g := gb178) (o := .cells #[u179000, .slice Ao22 y172.length co22, .int .i64 0, .slice Ao21 y175.length co21] 31 (0, 0)) (by (with_reducible repeat (first | refine blk_drewN ?_ _ | refine blk_drew ?_ | refine blk_alloc ?_ _)); exact BK178.out) hg (Kd.R_ne HO_179000.out BK178.out (by decide)))
              have n5_ := Aside0.mk (hb)
              have n6_ := Aside0.mk (ho)
              clear HO_179001
              clear HO_179003
              clear BK145
              clear BK146
              clear BK178
              clear HB
              clear HO_179000
              have HO_179001 := n0_
              have HO_179003 := n1_
              have BK145 := n2_
              have BK146 := n3_
              have BK178 := n4_
              have HB := n5_
              have HO182 := n6_
              clear n0_ n1_ n2_ n3_ n4_ n5_ n6_
              clear ho hb hg hat
              obtain ⟨Ao36, co36, eo36⟩ := Kd.R_slice HO182.out
              (first | subst eo36 | (injection eo36 with f1_ f2_ f3_; have f4_ := f1_.symm; have f5_ := f3_.symm; clear f1_ f2_ f3_; subst f4_; subst f5_))
              refine hK.out _ _ ⟨(blk_cell BK178.out 0).trans rfl, (blk_cell BK178.out 1).trans rfl, (blk_cell BK178.out 2).trans rfl, (blk_cell BK178.out 3).trans rfl, (blk_cell BK145.out 0).trans rfl, (blk_cell BK145.out 1).trans rfl, ((HB.out.cell (World.block_lt_of_cell? w _ hw179_0)).trans hw179_0)⟩ (fun hHeld => ?_)
              clear hK K
              refine norm_ (a' := ?_) ?_ ?_
              rotate_left
              · show Act.put _ (some 31) _ = _
                simp only [Act.put, List.setIfInBounds_toArray, List.set_cons_zero, List.set_cons_succ, i64_w, i32_w]
                rfl
              refine pure_ (i := 10) (N := some 32) (v := ?_) (a' := ?_) #[true, true, true, true, true, true, true, true, true, true, true, false] rfl rfl (any_of HT_.out (by kernel_rfl)) (fun _ _ _ h => h) (Or.inl ⟨by rfl, ?_⟩) ?_ ?_
              rotate_left
              · intro w'
                go_simp
                with_reducible rfl
              rotate_left
              · simp only [Act.put, List.setIfInBounds_toArray, List.set_cons_zero, List.set_cons_succ, i64_w, i32_w]
                rfl
              refine last_ (i := 11) (N := none) #[true, true, true, true, true, true, true, true, true, true, true, true] rfl rfl (one_of HT_.out (by kernel_rfl)) (by decide) (fun K hK => ?_)
              have hs37 : w35.cell? ⟨gb178, 0, none⟩ = some (u179000) := (blk_cell BK178.out 0).trans rfl
              have hfs37 := blk_frozen BK178.out 0
              have hns37_0 := NB145_178.out
              have hns37_1 := NB146_178.out
              have hms37_0 := NB178_145.out
              have hms37_1 := NB178_146.out
              refine skip_ (w1 := ?_) (by rfl) rfl ?_ ?_
              rotate_left
              · go_simp
                rfl
              refine hK.out _ _ ?_
              clear hK K
              refine done_ (done_of HT_.out (by kernel_rfl)) ?_
              try go_wp2
              go_roundg k1
              case measure => have := HK1.out; omega
              case rel => exact ⟨(wrap64 (x5_1 + 1)), (y180), (.slice Ao36 y180.length co36), (by first | rfl | (simp; done) | (simp [*]; done)), H', ⟨by have := HK1.out; omega⟩, ⟨by (with_reducible repeat (first | apply Kd.R_alloc | apply Kd.R_drewN | apply Kd.R_drew)); exact Kd.R_mono (Kd.R_far (p := ⟨gb178, 0, none⟩) (Kd.R_types HO182.out BK178.out (by decide)) (fun _ hk => hk.2) (.slice Ao36 y180.length co36)) (fun _ hk => hk.1)⟩, ⟨by (with_reducible repeat (first | apply Kd.N_alloc | apply Kd.N_drewN | apply Kd.N_drew)); exact Kd.N_mono (Kd.N_far (p := ⟨gb178, 0, none⟩) (Kd.N_mono HO_179001.out (fun k_ hk => (⟨hk, hk.1.2.2.2.2⟩ : _ ∧ k_ ≠ gb178))) (fun _ hk => hk.2) (.slice Ao36 y180.length co36)) (fun _ hk => ⟨hk.1.1.1, ⟨hk.1.2, ⟨hk.1.1.2.1, ⟨hk.1.1.2.2.1, ⟨hk.1.1.2.2.2.1, hk.1.1.2.2.2.2⟩⟩⟩⟩⟩)⟩, ⟨by (with_reducible repeat (first | apply Kd.N_alloc | apply Kd.N_drewN | apply Kd.N_drew)); exact Kd.N_mono (Kd.N_far (p := ⟨gb178, 0, none⟩) (Kd.N_mono HO_179003.out (fun k_ hk => (⟨hk, hk.1.2.2.2.2⟩ : _ ∧ k_ ≠ gb178))) (fun _ hk => hk.2) (.slice Ao36 y180.length co36)) (fun _ hk => ⟨hk.1.1.1, ⟨hk.1.2, ⟨hk.1.1.2.1, ⟨hk.1.1.2.2.1, ⟨hk.1.1.2.2.2.1, hk.1.1.2.2.2.2⟩⟩⟩⟩⟩)⟩, ⟨by (with_reducible repeat (first | refine blk_drewN ?_ _ | refine blk_drew ?_ | refine blk_alloc ?_ _)); refine blk_far ?_ NB145_178.out _; (with_reducible repeat (first | refine blk_drewN ?_ _ | refine blk_drew ?_ | refine blk_alloc ?_ _)); exact BK145.out⟩, ⟨by (with_reducible repeat (first | refine blk_drewN ?_ _ | refine blk_drew ?_ | refine blk_alloc ?_ _)); refine blk_far ?_ NB146_178.out _; (with_reducible repeat (first | refine blk_drewN ?_ _ | refine blk_drew ?_ | refine blk_alloc ?_ _)); exact BK146.out⟩, ⟨by (with_reducible repeat (first | refine blk_drewN ?_ _ | refine blk_drew ?_ | refine blk_alloc ?_ _)); refine blk_put (cs := #[u179000, .slice Ao22 y172.length co22, .int .i64 0, .slice Ao21 y175.length co21]) ?_ 0 _ rfl; (with_reducible repeat (first | refine blk_drewN ?_ _ | refine blk_drew ?_ | refine blk_alloc ?_ _)); exact BK178.out⟩, ⟨by repeat (first | (with_reducible first | exact HB.out | apply below_alloc | apply pw_below_drewN | apply below_drew1 | refine below_set ?_ GE145.out | refine below_set ?_ GE146.out | refine below_set ?_ GE178.out) | exact HB.out)⟩⟩
            · rw [if_neg c30] at H
              exact absurd H (by simp)
          · rw [if_neg c29] at H
            exact absurd H (by simp)
        · rw [if_neg c28] at H
          have c28b0 : decide (x5_1 < (l0_0.length : Int)) = false := decide_eq_false c28
          clear c28
          simp only [Option.some.injEq, Prod.mk.injEq] at H
          obtain ⟨rfl, rfl, rfl, rfl, rfl⟩ := H
          have hnb38 := NB145_146.out
          have hnc38 := NB146_145.out
          have hnb39 := NB145_178.out
          have hnc39 := NB178_145.out
          have hcz40_0 : wr.cell? ⟨gb145, 0, none⟩ = some (.slice A0_0 l0_0.length c0_0) := (blk_cell BK145.out 0).trans rfl
          have hcz40_1 : wr.cell? ⟨gb145, 1, none⟩ = some (.slice A0_1 l0_1.length c0_1) := (blk_cell BK145.out 1).trans rfl
          have hfz40_0 := blk_frozen BK145.out 0
          have hfz40_1 := blk_frozen BK145.out 1
          have hnb41 := NB178_146.out
          have hnc41 := NB146_178.out
          have hcz42_0 : wr.cell? ⟨gb178, 0, none⟩ = some (u179000) := (blk_cell BK178.out 0).trans rfl
          have hcz42_1 : wr.cell? ⟨gb178, 1, none⟩ = some (.slice Ao22 y172.length co22) := (blk_cell BK178.out 1).trans rfl
          have hcz42_2 : wr.cell? ⟨gb178, 2, none⟩ = some (.int .i64 0) := (blk_cell BK178.out 2).trans rfl
          have hcz42_3 : wr.cell? ⟨gb178, 3, none⟩ = some (.slice Ao21 y175.length co21) := (blk_cell BK178.out 3).trans rfl
          have hfz42_0 := blk_frozen BK178.out 0
          have hfz42_1 := blk_frozen BK178.out 1
          have hfz42_2 := blk_frozen BK178.out 2
          have hfz42_3 := blk_frozen BK178.out 3
          obtain ⟨Ao43, co43, eo43⟩ := Kd.R_slice HO_179000.out
          subst eo43
          have hcz44_0 : wr.cell? ⟨gb146, 0, none⟩ = some (.slice none 0 0) := (blk_cell BK146.out 0).trans rfl
          have hcz44_1 : wr.cell? ⟨gb146, 1, none⟩ = some (.slice none 0 0) := (blk_cell BK146.out 1).trans rfl
          have hcz44_2 : wr.cell? ⟨gb146, 2, none⟩ = some (.int .i64 0) := (blk_cell BK146.out 2).trans rfl
          have hcz44_3 : wr.cell? ⟨gb146, 3, none⟩ = some (.slice none 0 0) := (blk_cell BK146.out 3).trans rfl
          have hfz44_0 := blk_frozen BK146.out 0
          have hfz44_1 := blk_frozen BK146.out 1
          have hfz44_2 := blk_frozen BK146.out 2
          have hfz44_3 := blk_frozen BK146.out 3
          go_wp2
          refine bodyPost_ret (results_ct rfl _ _ gb146 31 #[.slice Ao43 x179000_1.length co43, .slice Ao22 y172.length co22, .int .i64 0, .slice Ao21 y175.length co21] (0, 0) _ rfl (by (with_reducible repeat (first | refine blk_drewN ?_ _ | refine blk_drew ?_ | refine blk_alloc ?_ _)); refine blk_put (cs := #[.slice Ao43 x179000_1.length co43, .slice Ao22 y172.length co22, .int .i64 0, .slice none 0 0]) ?_ 3 _ rfl; (with_reducible repeat (first | refine blk_drewN ?_ _ | refine blk_drew ?_ | refine blk_alloc ?_ _)); refine blk_put (cs := #[.slice Ao43 x179000_1.length co43, .slice Ao22 y172.length co22, .int .i64 0, .slice none 0 0]) ?_ 2 _ rfl; (with_reducible repeat (first | refine blk_drewN ?_ _ | refine blk_drew ?_ | refine blk_alloc ?_ _)); refine blk_put (cs := #[.slice Ao43 x179000_1.length co43, .slice none 0 0, .int .i64 0, .slice none 0 0]) ?_ 1 _ rfl; (with_reducible repeat (first | refine blk_drewN ?_ _ | refine blk_drew ?_ | refine blk_alloc ?_ _)); refine blk_put (cs := #[.slice none 0 0, .slice none 0 0, .int .i64 0, .slice none 0 0]) ?_ 0 _ rfl; (with_reducible repeat (first | refine blk_drewN ?_ _ | refine blk_drew ?_ | refine blk_alloc ?_ _)); exact BK146.out) Try.underlying31 rfl (by kernel_rfl)) rfl ?_
          exact ⟨_, _, _, by first | rfl | (simp [errW_none, errW_some] <;> rfl) | (simp [*, errW_none, errW_some] <;> rfl), by (with_reducible repeat (first | apply Kd.R_alloc | apply Kd.R_drewN | apply Kd.R_drew)); exact Kd.R_mono (Kd.R_far (p := ⟨gb146, 3, none⟩) (Kd.R_far (p := ⟨gb146, 2, none⟩) (Kd.R_far (p := ⟨gb146, 1, none⟩) (Kd.R_far (p := ⟨gb146, 0, none⟩) (Kd.R_types HO_179000.out BK146.out (by decide)) (fun _ hk => hk.2) (.slice Ao43 x179000_1.length co43)) (fun _ hk => hk.2) (.slice Ao22 y172.length co22)) (fun _ hk => hk.2) (.int .i64 0)) (fun _ hk => hk.2) (.slice Ao21 y175.length co21)) (fun _ hk => hk.1), by (with_reducible repeat (first | apply Kd.N_alloc | apply Kd.N_drewN | apply Kd.N_drew)); exact Kd.N_mono (Kd.N_far (p := ⟨gb146, 3, none⟩) (Kd.N_far (p := ⟨gb146, 2, none⟩) (Kd.N_far (p := ⟨gb146, 1, none⟩) (Kd.N_far (p := ⟨gb146, 0, none⟩) (Kd.N_mono HO_179001.out (fun k_ hk => (⟨hk, hk.2.2.2.2.1⟩ : _ ∧ k_ ≠ gb146))) (fun _ hk => hk.2) (.slice Ao43 x179000_1.length co43)) (fun _ hk => hk.2) (.slice Ao22 y172.length co22)) (fun _ hk => hk.2) (.int .i64 0)) (fun _ hk => hk.2) (.slice Ao21 y175.length co21)) (fun _ hk => ⟨hk.1.1, ⟨hk.1.2.1, hk.1.2.2.1⟩⟩), by (with_reducible repeat (first | apply Kd.N_alloc | apply Kd.N_drewN | apply Kd.N_drew)); exact Kd.N_mono (Kd.N_far (p := ⟨gb146, 3, none⟩) (Kd.N_far (p := ⟨gb146, 2, none⟩) (Kd.N_far (p := ⟨gb146, 1, none⟩) (Kd.N_far (p := ⟨gb146, 0, none⟩) (Kd.N_mono HO_179003.out (fun k_ hk => (⟨hk, hk.2.2.2.2.1⟩ : _ ∧ k_ ≠ gb146))) (fun _ hk => hk.2) (.slice Ao43 x179000_1.length co43)) (fun _ hk => hk.2) (.slice Ao22 y172.length co22)) (fun _ hk => hk.2) (.int .i64 0)) (fun _ hk => hk.2) (.slice Ao21 y175.length co21)) (fun _ hk => ⟨hk.1.1, ⟨hk.1.2.1, hk.1.2.2.1⟩⟩), by repeat (first | (with_reducible first | exact HB.out | apply below_alloc | apply pw_below_drewN | apply below_drew1 | refine below_set ?_ GE145.out | refine below_set ?_ GE146.out | refine below_set ?_ GE178.out) | exact HB.out)⟩
  · replace c3 := Bool.eq_false_iff.mpr c3
    subst c3
    have H1 : (some (([] : List (S69)), ([] : List (S66)), 0, ([] : List (S84)), false)) = some (r1, r2, r3, r4, r5) := by rw [if_neg (show ¬ (false = true) by decide)] at H; exact H
    clear H
    have H := H1
    clear H1
    simp only [Option.some.injEq, Prod.mk.injEq] at H
    obtain ⟨rfl, rfl, rfl, rfl, rfl⟩ := H
    go_enter Try.func10, Try.ntmps10
    go_wp2_with (first | ((with_reducible refine gate_dst (N := 1) rfl ?_); refine box_event ?hg (N := 1) ?hd (cs := #[.slice A0_0 l0_0.length c0_0, .slice A0_1 l0_1.length c0_1]) (t := 36) ?hr ?_; (case hd => rfl); (case hg => rfl); (case hr => first | (go_simp; done) | (go_simp; rfl)); intro gb145 hg w45 hbox hb; have n0_ := Aside0.mk (below_step (by repeat (first | (with_reducible first | exact HB.out | apply below_alloc | apply pw_below_drewN | apply below_drew1) | exact HB.out)) hb); have n1_ := Aside0.mk (hbox); have n2_ := Aside0.mk ((by rw [hg]; exact (below_size (by repeat (first | (with_reducible first | exact HB.out | apply below_alloc | apply pw_below_drewN | apply below_drew1) | exact HB.out))) : w.heap.size ≤ gb145)); have n3_ := Aside0.mk ((by rw [hg]; exact (below_size (by repeat (first | (with_reducible first | exact HB.out | apply below_alloc | apply pw_below_drewN | apply below_drew1) | exact HB.out))) : w.heap.size ≤ gb145)); clear HB; have HB := n0_; have BK145 := n1_; have GW145 := n2_; have GE145 := n3_; clear n0_ n1_ n2_ n3_; clear hb hbox hg) | ((with_reducible refine gate_dst (N := 2) rfl ?_); refine box_event ?hg (N := 2) ?hd (cs := #[.slice none 0 0, .slice none 0 0, .int .i64 0, .slice none 0 0]) (t := 31) ?hr ?_; (case hd => rfl); (case hg => rfl); (case hr => first | (go_simp; done) | (go_simp; rfl)); intro gb146 hg w46 hbox hb; have n0_ := Aside0.mk (blk_below (g := gb145) (o := .cells #[.slice A0_0 l0_0.length c0_0, .slice A0_1 l0_1.length c0_1] 36 (0, 0)) (by (with_reducible repeat (first | refine blk_drewN ?_ _ | refine blk_drew ?_ | refine blk_alloc ?_ _)); exact BK145.out) hb); have n1_ := Aside0.mk (below_step (by repeat (first | (with_reducible first | exact HB.out | apply below_alloc | apply pw_below_drewN | apply below_drew1 | refine below_set ?_ GE145.out) | exact HB.out)) hb); have n2_ := Aside0.mk (hbox); have n3_ := Aside0.mk ((by rw [hg]; exact (below_size (by repeat (first | (with_reducible first | exact HB.out | apply below_alloc | apply pw_below_drewN | apply below_drew1 | refine below_set ?_ GE145.out) | exact HB.out))) : w.heap.size ≤ gb146)); have n4_ := Aside0.mk ((by rw [hg]; exact (below_size (by repeat (first | (with_reducible first | exact HB.out | apply below_alloc | apply pw_below_drewN | apply below_drew1 | refine below_set ?_ GE145.out) | exact HB.out))) : w.heap.size ≤ gb146)); have n5_ := Aside0.mk ((by rw [hg]; exact Nat.ne_of_lt (blk_lt (g := gb145) (o := .cells #[.slice A0_0 l0_0.length c0_0, .slice A0_1 l0_1.length c0_1] 36 (0, 0)) (by (with_reducible repeat (first | refine blk_drewN ?_ _ | refine blk_drew ?_ | refine blk_alloc ?_ _)); exact BK145.out)) : gb145 ≠ gb146)); have n6_ := Aside0.mk ((by rw [hg]; exact Nat.ne_of_gt (blk_lt (g := gb145) (o := .cells #[.slice A0_0 l0_0.length c0_0, .slice A0_1 l0_1.length c0_1] 36 (0, 0)) (by (with_reducible repeat (first | refine blk_drewN ?_ _ | refine blk_drew ?_ | refine blk_alloc ?_ _)); exact BK145.out)) : gb146 ≠ gb145)); clear BK145; clear HB; have BK145 := n0_; have HB := n1_; have BK146 := n2_; have GW146 := n3_; have GE146 := n4_; have NB145_146 := n5_; have NB146_145 := n6_; clear n0_ n1_ n2_ n3_ n4_ n5_ n6_; clear hb hbox hg; have hnb47 := NB145_146.out; have hnc47 := NB146_145.out; have hcz48_0 : w46.cell? ⟨gb145, 0, none⟩ = some (.slice A0_0 l0_0.length c0_0) := (blk_cell BK145.out 0).trans rfl; have hcz48_1 : w46.cell? ⟨gb145, 1, none⟩ = some (.slice A0_1 l0_1.length c0_1) := (blk_cell BK145.out 1).trans rfl; have hfz48_0 := blk_frozen BK145.out 0; have hfz48_1 := blk_frozen BK145.out 1) | ((with_reducible refine gate_callee (f := 27) rfl ?_); refine goesL_ (some 7) rfl rfl Try.func27 (by kernel_rfl) rfl #[.agg #[.slice A0_0 l0_0.length c0_0, .slice A0_1 l0_1.length c0_1]] rfl (by (try simp only [List.map_toArray, List.map_cons, List.map_nil]); first | done | rfl | (simp only [List.length_drop, List.length_take]; rfl)) ?_; (with_reducible refine (spec_ProgOk.calls k _ _ l0_0 _ _ l0_1 false _ ?side1 ?side2 ?side3 ?side4 A2.out).mono ?_); (case side1 => repeat (first | exact (Kd.C_below HR0_0.out HB.out) | (with_reducible refine Kd.C_alloc ?_ _) | (with_reducible refine Kd.C_drewN ?_ _) | (with_reducible refine Kd.C_drew ?_))); (case side2 => exact HC0_0.out); (case side3 => repeat (first | exact (Kd.C_below HR0_1.out HB.out) | (with_reducible refine Kd.C_alloc ?_ _) | (with_reducible refine Kd.C_drewN ?_ _) | (with_reducible refine Kd.C_drew ?_))); (case side4 => exact HC0_1.out); rintro e w49 ⟨rfl, hb⟩; refine ⟨_, rfl, ?_⟩; have n0_ := Aside0.mk (blk_below (g := gb145) (o := .cells #[.slice A0_0 l0_0.length c0_0, .slice A0_1 l0_1.length c0_1] 36 (0, 0)) (by (with_reducible repeat (first | refine blk_drewN ?_ _ | refine blk_drew ?_ | refine blk_alloc ?_ _)); exact BK145.out) hb); have n1_ := Aside0.mk (blk_below (g := gb146) (o := .cells #[.slice none 0 0, .slice none 0 0, .int .i64 0, .slice none 0 0] 31 (0, 0)) (by (with_reducible repeat (first | refine blk_drewN ?_ _ | refine blk_drew ?_ | refine blk_alloc ?_ _)); exact BK146.out) hb); have n2_ := Aside0.mk (below_step (by repeat (first | (with_reducible first | exact HB.out | apply below_alloc | apply pw_below_drewN | apply below_drew1 | refine below_set ?_ GE145.out | refine below_set ?_ GE146.out) | exact HB.out)) hb); clear BK145; clear BK146; clear HB; have BK145 := n0_; have BK146 := n1_; have HB := n2_; clear n0_ n1_ n2_; (try clear hb); (try clear hb2); (try clear hk); (try clear hi); have hcz50_0 : w49.cell? ⟨gb146, 0, none⟩ = some (.slice none 0 0) := (blk_cell BK146.out 0).trans rfl; have hcz50_1 : w49.cell? ⟨gb146, 1, none⟩ = some (.slice none 0 0) := (blk_cell BK146.out 1).trans rfl; have hcz50_2 : w49.cell? ⟨gb146, 2, none⟩ = some (.int .i64 0) := (blk_cell BK146.out 2).trans rfl; have hcz50_3 : w49.cell? ⟨gb146, 3, none⟩ = some (.slice none 0 0) := (blk_cell BK146.out 3).trans rfl; have hfz50_0 := blk_frozen BK146.out 0; have hfz50_1 := blk_frozen BK146.out 1; have hfz50_2 := blk_frozen BK146.out 2; have hfz50_3 := blk_frozen BK146.out 3))
    refine bodyPost_ret (results_ct rfl _ _ gb146 31 #[.slice none 0 0, .slice none 0 0, .int .i64 0, .slice none 0 0] (0, 0) _ rfl (by (with_reducible repeat (first | refine blk_drewN ?_ _ | refine blk_drew ?_ | refine blk_alloc ?_ _)); refine blk_put (cs := #[.slice none 0 0, .slice none 0 0, .int .i64 0, .slice none 0 0]) ?_ 3 _ rfl; (with_reducible repeat (first | refine blk_drewN ?_ _ | refine blk_drew ?_ | refine blk_alloc ?_ _)); refine blk_put (cs := #[.slice none 0 0, .slice none 0 0, .int .i64 0, .slice none 0 0]) ?_ 2 _ rfl; (with_reducible repeat (first | refine blk_drewN ?_ _ | refine blk_drew ?_ | refine blk_alloc ?_ _)); refine blk_put (cs := #[.slice none 0 0, .slice none 0 0, .int .i64 0, .slice none 0 0]) ?_ 1 _ rfl; (with_reducible repeat (first | refine blk_drewN ?_ _ | refine blk_drew ?_ | refine blk_alloc ?_ _)); refine blk_put (cs := #[.slice none 0 0, .slice none 0 0, .int .i64 0, .slice none 0 0]) ?_ 0 _ rfl; (with_reducible repeat (first | refine blk_drewN ?_ _ | refine blk_drew ?_ | refine blk_alloc ?_ _)); exact BK146.out) Try.underlying31 rfl (by kernel_rfl)) rfl ?_
    exact ⟨_, _, _, by first | rfl | (simp [errW_none, errW_some] <;> rfl) | (simp [*, errW_none, errW_some] <;> rfl), by first | exact Kd.R_nil _ _ _ _ _ | exact Kd.N_nil _ _ _ _ _ | exact Kd.V_nil _ _ _ _ _ | exact Kd.Q_nil _ _ _ _ _ | exact Kd.S_nil _ _ _ _ _, by first | exact Kd.S_nil _ _ _ _ _ | exact Kd.N_nil _ _ _ _ _ | exact Kd.V_nil _ _ _ _ _ | exact Kd.Q_nil _ _ _ _ _ | exact Kd.R_nil _ _ _ _ _, by first | exact Kd.S_nil _ _ _ _ _ | exact Kd.N_nil _ _ _ _ _ | exact Kd.V_nil _ _ _ _ _ | exact Kd.Q_nil _ _ _ _ _ | exact Kd.R_nil _ _ _ _ _, by repeat (first | (with_reducible first | exact HB.out | apply below_alloc | apply pw_below_drewN | apply below_drew1 | refine below_set ?_ GE145.out | refine below_set ?_ GE146.out) | exact HB.out)⟩
end Go.Proofs.Ytoeepmcaabmjkaa.QSN
namespace Go.Proofs.Ytoeepmcaabmjkaa.QSN
open Go.RowKit Go.Proofs.YtoeepmcaabmjkaaW.PrintWords Go.Proofs.YtoeepmcaabmjkaaW.PrintLast Go.Proofs.YtoeepmcaabmjkaaW.PrintMore
attribute [local go_sem] max2_int min2_int max_two min_two max_three min_three max_four min_four   -- for this text's walks alone
set_option linter.unusedVariables false
set_option linter.unusedSimpArgs false
def cnt66 (l : List S66) : Nat := (l.map fun x => 9 + x.f3.length * 1 + x.f8.length * 1 + x.f9.length * 2 + x.f10.length * 2).sum
theorem ft66_len (g : Nat) : ∀ (F : List F66) (l : List S66) (i : Nat), F.length = l.length → (∀ (j : Nat) q x, F[j]? = some q → l[j]? = some x → ∀ g i, (one66 g i q).length = 9 + x.f3.length * 1 + x.f8.length * 1 + x.f9.length * 2 + x.f10.length * 2) → (ft66 g i F).length = cnt66 l
  | [], [], _, _, _ => rfl
  | [], _ :: _, _, h, _ => by simp at h
  | _ :: _, [], _, h, _ => by simp at h
  | q :: F, x :: l, i, h, hh => by
    show (one66 g i q ++ ft66 g (i + 1) F).length = _
    rw [List.length_append, ft66_len g F l (i + 1) (by simpa using h) (fun j q x h1 h2 => hh (j + 1) q x (by simpa using h1) (by simpa using h2)), hh 0 q x rfl rfl g i]
    simp [cnt66]
end Go.Proofs.Ytoeepmcaabmjkaa.QSN
set_option linter.unusedVariables false
set_option linter.unusedSimpArgs false
namespace Go.Proofs.Ytoeepmcaabmjkaa.QSN
open Go.RowKit Go.Proofs.YtoeepmcaabmjkaaW.PrintWords Go.Proofs.YtoeepmcaabmjkaaW.PrintLast Go.Proofs.YtoeepmcaabmjkaaW.PrintMore
theorem foot_blk {α : Type} {d : Kd α} {e : Nat} {w : World} {base n c m : Nat} {P : Nat → Prop} {A : Option Addr} {l : List α} (h : d.R e w base P (.slice A n c) l) : ∀ a ∈ footR A m, P a.block := by
  intro a ha
  obtain ⟨ad, j, rfl, _, rfl⟩ := footR_mem ha
  exact h.1 ad.block (by simp [Value.ownBlock])
def k66a : Kd S66 where
  sz := k66.sz
  E := k66.E
  K := k66.K
  M := fun w base ok x cs => ∃ v3 v8 v9 v10 P3 P8 P9 P10, (∀ k : Nat, P3 k → ok k) ∧ (∀ k : Nat, P8 k → ok k) ∧ (∀ k : Nat, P9 k → ok k) ∧ (∀ k : Nat, P10 k → ok k) ∧ (∀ k, P3 k → ¬ P8 k) ∧ (∀ k, P3 k → ¬ P9 k) ∧ (∀ k, P3 k → ¬ P10 k) ∧ (∀ k, P8 k → ¬ P9 k) ∧ (∀ k, P8 k → ¬ P10 k) ∧ (∀ k, P9 k → ¬ P10 k) ∧ cs = [.int .i64 x.f0, .int .i64 x.f1, .int .i64 x.f2, v3, .int .i64 x.f4, .int .i64 x.f5, .int .i64 x.f6, .int .i64 x.f7, v8, v9, v10, .int .i64 x.f11, .int .i64 x.f12] ∧ Kd.R (Kd.int .i64) 3 w base P3 v3 x.f3 ∧ Kd.R (Kd.int .i64) 3 w base P8 v8 x.f8 ∧ Kd.R k115 115 w base P9 v9 x.f9 ∧ Kd.R k115 115 w base P10 v10 x.f10
  K_len := fun h => k66.K_len h
  K_one := fun h => k66.K_one h
  K_below := fun hb h => k66.K_below hb h
  K_of_M := fun ⟨v3, v8, v9, v10, P3, P8, P9, P10, h3, h8, h9, h10, a3_8, a3_9, a3_10, a8_9, a8_10, a9_10, e, g3, g8, g9, g10⟩ => by subst e; exact k66.K_of_M (k66_mkM _ _ _ _ (Kd.R_mono g3 h3) (Kd.R_mono g8 h8) (Kd.R_mono g9 h9) (Kd.R_mono g10 h10))
  M_mono := fun hok ⟨v3, v8, v9, v10, P3, P8, P9, P10, h3, h8, h9, h10, a3_8, a3_9, a3_10, a8_9, a8_10, a9_10, e, g3, g8, g9, g10⟩ => ⟨v3, v8, v9, v10, P3, P8, P9, P10, fun k hk => hok k (h3 k hk), fun k hk => hok k (h8 k hk), fun k hk => hok k (h9 k hk), fun k hk => hok k (h10 k hk), a3_8, a3_9, a3_10, a8_9, a8_10, a9_10, e, g3, g8, g9, g10⟩
  M_bound := fun ⟨v3, v8, v9, v10, P3, P8, P9, P10, h3, h8, h9, h10, a3_8, a3_9, a3_10, a8_9, a8_10, a9_10, e, g3, g8, g9, g10⟩ => ⟨v3, v8, v9, v10, _, _, _, _, fun k hk => ⟨h3 k hk.1, hk.2.1, hk.2.2.1, by obtain ⟨_, _, _, q, hq, hc⟩ := hk; exact ⟨q, by revert hq; exact (by decide : ∀ q, q ∈ 3 :: (Kd.int .i64).E → q ∈ k66.E) q, hc⟩⟩, fun k hk => ⟨h8 k hk.1, hk.2.1, hk.2.2.1, by obtain ⟨_, _, _, q, hq, hc⟩ := hk; exact ⟨q, by revert hq; exact (by decide : ∀ q, q ∈ 3 :: (Kd.int .i64).E → q ∈ k66.E) q, hc⟩⟩, fun k hk => ⟨h9 k hk.1, hk.2.1, hk.2.2.1, by obtain ⟨_, _, _, q, hq, hc⟩ := hk; exact ⟨q, by revert hq; exact (by decide : ∀ q, q ∈ 115 :: k115.E → q ∈ k66.E) q, hc⟩⟩, fun k hk => ⟨h10 k hk.1, hk.2.1, hk.2.2.1, by obtain ⟨_, _, _, q, hq, hc⟩ := hk; exact ⟨q, by revert hq; exact (by decide : ∀ q, q ∈ 115 :: k115.E → q ∈ k66.E) q, hc⟩⟩, fun k hk h2 => a3_8 k hk.1 h2.1, fun k hk h2 => a3_9 k hk.1 h2.1, fun k hk h2 => a3_10 k hk.1 h2.1, fun k hk h2 => a8_9 k hk.1 h2.1, fun k hk h2 => a8_10 k hk.1 h2.1, fun k hk h2 => a9_10 k hk.1 h2.1, e, Kd.R_bound g3, Kd.R_bound g8, Kd.R_bound g9, Kd.R_bound g10⟩
  M_move := fun hm ⟨v3, v8, v9, v10, P3, P8, P9, P10, h3, h8, h9, h10, a3_8, a3_9, a3_10, a8_9, a8_10, a9_10, e, g3, g8, g9, g10⟩ => ⟨v3, v8, v9, v10, P3, P8, P9, P10, h3, h8, h9, h10, a3_8, a3_9, a3_10, a8_9, a8_10, a9_10, e, Kd.R_move g3 (fun k hk => hm k (h3 k hk)), Kd.R_move g8 (fun k hk => hm k (h8 k hk)), Kd.R_move g9 (fun k hk => hm k (h9 k hk)), Kd.R_move g10 (fun k hk => hm k (h10 k hk))⟩
  M_lower := fun hb ⟨v3, v8, v9, v10, P3, P8, P9, P10, h3, h8, h9, h10, a3_8, a3_9, a3_10, a8_9, a8_10, a9_10, e, g3, g8, g9, g10⟩ => ⟨v3, v8, v9, v10, P3, P8, P9, P10, h3, h8, h9, h10, a3_8, a3_9, a3_10, a8_9, a8_10, a9_10, e, Kd.R_lower g3 hb, Kd.R_lower g8 hb, Kd.R_lower g9 hb, Kd.R_lower g10 hb⟩
theorem k66a_mkM (w : World) (base : Nat) (ok : Nat → Prop) (x : S66) {v3 v8 v9 v10 : Value} (g3 : Kd.R (Kd.int .i64) 3 w base ok v3 x.f3) (g8 : Kd.R (Kd.int .i64) 3 w base ok v8 x.f8) (g9 : Kd.R k115 115 w base ok v9 x.f9) (g10 : Kd.R k115 115 w base ok v10 x.f10) (a3_8 : ∀ k, v3.ownBlock = some k → some k ≠ v8.ownBlock) (a3_9 : ∀ k, v3.ownBlock = some k → some k ≠ v9.ownBlock) (a3_10 : ∀ k, v3.ownBlock = some k → some k ≠ v10.ownBlock) (a8_9 : ∀ k, v8.ownBlock = some k → some k ≠ v9.ownBlock) (a8_10 : ∀ k, v8.ownBlock = some k → some k ≠ v10.ownBlock) (a9_10 : ∀ k, v9.ownBlock = some k → some k ≠ v10.ownBlock) : k66a.M w base ok x [.int .i64 x.f0, .int .i64 x.f1, .int .i64 x.f2, v3, .int .i64 x.f4, .int .i64 x.f5, .int .i64 x.f6, .int .i64 x.f7, v8, v9, v10, .int .i64 x.f11, .int .i64 x.f12] :=
  ⟨v3, v8, v9, v10, _, _, _, _, fun k hk => g3.1 k hk.symm, fun k hk => g8.1 k hk.symm, fun k hk => g9.1 k hk.symm, fun k hk => g10.1 k hk.symm, fun k h1 h2 => a3_8 k h1.symm h2, fun k h1 h2 => a3_9 k h1.symm h2, fun k h1 h2 => a3_10 k h1.symm h2, fun k h1 h2 => a8_9 k h1.symm h2, fun k h1 h2 => a8_10 k h1.symm h2, fun k h1 h2 => a9_10 k h1.symm h2, rfl, Kd.R_tight rfl g3, Kd.R_tight rfl g8, Kd.R_tight rfl g9, Kd.R_tight rfl g10⟩
theorem k66a_M {w : World} {base : Nat} {ok : Nat → Prop} {x : S66} {cs : List Value} (h : k66a.M w base ok x cs) : k66.M w base ok x cs := by
  obtain ⟨v3, v8, v9, v10, P3, P8, P9, P10, h3, h8, h9, h10, a3_8, a3_9, a3_10, a8_9, a8_10, a9_10, rfl, g3, g8, g9, g10⟩ := h
  exact k66_mkM _ _ _ _ (Kd.R_mono g3 h3) (Kd.R_mono g8 h8) (Kd.R_mono g9 h9) (Kd.R_mono g10 h10)
theorem k66a_R {w : World} {base : Nat} {ok : Nat → Prop} {v : Value} {xs : List S66} (h : k66a.R 66 w base ok v xs) : k66.R 66 w base ok v xs :=
  ⟨h.1, OwnRow.imp_ h.2 (fun _ _ hp => k66a_M hp)⟩
/-- One element alone. -/
theorem k66a_one {w : World} {base : Nat} {ok : Nat → Prop} {v : Value} {x : S66} (h : k66a.R 66 w base ok v [x]) : Kd.S k66a 66 w base ok v [x] := by
  refine ⟨fun _ => 0, h.1, ?_⟩
  obtain ⟨inner, ho, hr⟩ := h.2
  exact ⟨inner, ho, hr.1, fun j p hj => by
    cases j with
    | succ j => simp at hj
    | zero =>
      obtain rfl : (x, 0) = p := by simpa using hj
      exact k66a.M_mono (fun k hk => ⟨hk, rfl⟩) (hr.2 0 x rfl)⟩
theorem ft66_nodup (own : Addr → Nat) (g : Nat) : ∀ (F : List F66) (i : Nat), (∀ (j : Nat) q, F[j]? = some q → (one66 g (i + j) q).Nodup ∧ ∀ a ∈ one66 g (i + j) q, own a = i + j) → (ft66 g i F).Nodup ∧ ∀ a ∈ ft66 g i F, i ≤ own a
  | [], _, _ => ⟨List.nodup_nil, fun a ha => by cases ha⟩
  | q :: F, i, h => by
    obtain ⟨h1, h2⟩ := h 0 q rfl
    rw [Nat.add_zero] at h1 h2
    obtain ⟨h3, h4⟩ := ft66_nodup own g F (i + 1) (fun j q hj => by have := h (j + 1) q (by simpa using hj); rw [show i + 1 + j = i + (j + 1) by omega]; exact this)
    show (one66 g i q ++ ft66 g (i + 1) F).Nodup ∧ ∀ a ∈ one66 g i q ++ ft66 g (i + 1) F, i ≤ own a
    refine ⟨List.nodup_append.2 ⟨h1, h3, fun a ha b hb hab => ?_⟩, fun a ha => ?_⟩
    · have e1 := h2 a ha
      have e2 := h4 b hb
      rw [← hab] at e2
      omega
    · rcases List.mem_append.1 ha with ha | ha
      · exact Nat.le_of_eq (h2 a ha).symm
      · have := h4 a ha
        omega
/-- What is there, place by place; no place twice. -/
theorem ok66a {w : World} {base n c : Nat} {P : Nat → Prop} {A : Option Addr} {l : List S66} (h : Kd.S k66a 66 w base P (.slice A n c) l) :
    n = l.length ∧ ∃ F : List F66, F.length = l.length ∧ F66.Ok w (fun k_ => P k_ ∧ base ≤ k_) A F ∧ (foot66 A F).length = cnt66 l ∧ (foot66 A F).Nodup := by
  have hr := Kd.S_reads' h
  have hn : n = l.length := hr.1
  subst hn
  refine ⟨rfl, ?_⟩
  rcases Nat.eq_zero_or_pos l.length with h0 | hpos
  · refine ⟨[], h0.symm, ⟨Nat.zero_le _, fun hp => absurd hp (Nat.lt_irrefl 0)⟩, ?_⟩
    rw [List.length_eq_zero_iff] at h0
    subst h0
    cases A <;> exact ⟨rfl, List.nodup_nil⟩
  obtain ⟨f, h⟩ := h
  have hpos' : 0 < l.zipIdx.length := by rw [List.length_zipIdx]; exact hpos
  obtain ⟨g, cap, hv, hbg, _⟩ := Kd.R_form h hpos'
  injection hv with h1 h2 h3
  subst h1 h3
  have hex : ∀ i : Nat, i < l.length → ∃ q : F66, (IsI (w.cell? ⟨g, i * 13, none⟩) ∧ IsI (w.cell? ⟨g, i * 13 + 1, none⟩) ∧ IsI (w.cell? ⟨g, i * 13 + 2, none⟩) ∧ (∃ c : Nat, w.cell? ⟨g, i * 13 + 3, none⟩ = some (.slice q.A3 q.n3 c) ∧ ShR 1 w (fun k_ => P k_ ∧ base ≤ k_) q.A3 q.n3) ∧ IsI (w.cell? ⟨g, i * 13 + 4, none⟩) ∧ IsI (w.cell? ⟨g, i * 13 + 5, none⟩) ∧ IsI (w.cell? ⟨g, i * 13 + 6, none⟩) ∧ IsI (w.cell? ⟨g, i * 13 + 7, none⟩) ∧ (∃ c : Nat, w.cell? ⟨g, i * 13 + 8, none⟩ = some (.slice q.A8 q.n8 c) ∧ ShR 1 w (fun k_ => P k_ ∧ base ≤ k_) q.A8 q.n8) ∧ (∃ c : Nat, w.cell? ⟨g, i * 13 + 9, none⟩ = some (.slice q.A9 q.n9 c) ∧ ShR 2 w (fun k_ => P k_ ∧ base ≤ k_) q.A9 q.n9) ∧ (∃ c : Nat, w.cell? ⟨g, i * 13 + 10, none⟩ = some (.slice q.A10 q.n10 c) ∧ ShR 2 w (fun k_ => P k_ ∧ base ≤ k_) q.A10 q.n10) ∧ IsI (w.cell? ⟨g, i * 13 + 11, none⟩) ∧ IsI (w.cell? ⟨g, i * 13 + 12, none⟩)) ∧ (∀ x, l[i]? = some x → ∀ g i, (one66 g i q).length = 9 + x.f3.length * 1 + x.f8.length * 1 + x.f9.length * 2 + x.f10.length * 2) ∧ (one66 g i q).Nodup ∧ ∀ a ∈ one66 g i q, (if a.block = g then a.off / 13 else f a.block) = i := by
    intro i hi
    obtain ⟨x, hx⟩ : ∃ x, l[i]? = some x := ⟨_, List.getElem?_eq_getElem hi⟩
    obtain ⟨c, hcl, hM, hcc, _⟩ := Kd.R_elem h (z66, 0) (i : Int) (by omega) (by omega)
    have ex : l.zipIdx.getD (i : Int).toNat (z66, 0) = (x, i) := by rw [List.getD_eq_getElem?_getD, show (i : Int).toNat = i from rfl, Kd.zip_at hx]; rfl
    rw [ex] at hM
    have hc : ∀ j u, c[j]? = some u → w.cell? ⟨g, i * 13 + j, none⟩ = some u := hcc
    obtain ⟨v3, v8, v9, v10, P3, P8, P9, P10, h3, h8, h9, h10, a3_8, a3_9, a3_10, a8_9, a8_10, a9_10, rfl, g3, g8, g9, g10⟩ := hM
    obtain ⟨A3, c3, rfl⟩ := Kd.R_slice g3
    obtain ⟨A8, c8, rfl⟩ := Kd.R_slice g8
    obtain ⟨A9, c9, rfl⟩ := Kd.R_slice g9
    obtain ⟨A10, c10, rfl⟩ := Kd.R_slice g10
    have hint3 : ∀ {w : World} {base : Nat} {ok : Nat → Prop} {x : Int} {cs : List Value}, (Kd.int .i64).M w base ok x cs → ∀ u ∈ cs, ∃ z : Int, u = .int .i64 z := by
      intro w base ok x cs h u hu
      obtain rfl : cs = [.int .i64 x] := h
      rw [List.mem_singleton] at hu
      exact ⟨_, hu⟩
    have hint115 : ∀ {w : World} {base : Nat} {ok : Nat → Prop} {x : S115} {cs : List Value}, k115.M w base ok x cs → ∀ u ∈ cs, ∃ z : Int, u = .int .i64 z := by
      intro w base ok x cs h u hu
      rw [k115_openM h] at hu
      simp only [List.mem_cons, List.not_mem_nil, or_false] at hu
      rcases hu with rfl | rfl <;> exact ⟨_, rfl⟩
    have s3 := (ShR_of_R g3 (by decide) 0 hint3).2
    have e3 : (footR A3 (x.f3.length * 1)).length = x.f3.length * 1 := s3.len
    have b3 : ∀ a ∈ footR A3 (x.f3.length * 1), P3 a.block := foot_blk g3
    have n3 : ∀ a ∈ footR A3 (x.f3.length * 1), a.block ≠ g := fun a ha => (h3 _ (b3 a ha)).1.2
    have s8 := (ShR_of_R g8 (by decide) 0 hint3).2
    have e8 : (footR A8 (x.f8.length * 1)).length = x.f8.length * 1 := s8.len
    have b8 : ∀ a ∈ footR A8 (x.f8.length * 1), P8 a.block := foot_blk g8
    have n8 : ∀ a ∈ footR A8 (x.f8.length * 1), a.block ≠ g := fun a ha => (h8 _ (b8 a ha)).1.2
    have s9 := (ShR_of_R g9 (by decide) z115 hint115).2
    have e9 : (footR A9 (x.f9.length * 2)).length = x.f9.length * 2 := s9.len
    have b9 : ∀ a ∈ footR A9 (x.f9.length * 2), P9 a.block := foot_blk g9
    have n9 : ∀ a ∈ footR A9 (x.f9.length * 2), a.block ≠ g := fun a ha => (h9 _ (b9 a ha)).1.2
    have s10 := (ShR_of_R g10 (by decide) z115 hint115).2
    have e10 : (footR A10 (x.f10.length * 2)).length = x.f10.length * 2 := s10.len
    have b10 : ∀ a ∈ footR A10 (x.f10.length * 2), P10 a.block := foot_blk g10
    have n10 : ∀ a ∈ footR A10 (x.f10.length * 2), a.block ≠ g := fun a ha => (h10 _ (b10 a ha)).1.2
    refine ⟨⟨A3, x.f3.length, A8, x.f8.length, A9, x.f9.length, A10, x.f10.length⟩, ⟨⟨_, hc 0 _ rfl⟩, ⟨_, hc 1 _ rfl⟩, ⟨_, hc 2 _ rfl⟩, ⟨c3, hc 3 _ rfl, s3.mono (fun k hk => ⟨(h3 k hk.1).1.1, hk.2⟩)⟩, ⟨_, hc 4 _ rfl⟩, ⟨_, hc 5 _ rfl⟩, ⟨_, hc 6 _ rfl⟩, ⟨_, hc 7 _ rfl⟩, ⟨c8, hc 8 _ rfl, s8.mono (fun k hk => ⟨(h8 k hk.1).1.1, hk.2⟩)⟩, ⟨c9, hc 9 _ rfl, s9.mono (fun k hk => ⟨(h9 k hk.1).1.1, hk.2⟩)⟩, ⟨c10, hc 10 _ rfl, s10.mono (fun k hk => ⟨(h10 k hk.1).1.1, hk.2⟩)⟩, ⟨_, hc 11 _ rfl⟩, ⟨_, hc 12 _ rfl⟩⟩, fun x' hx' g i => ?_, ?_, ?_⟩
    · rw [hx] at hx'
      cases hx'
      simp only [one66, List.length_append, List.length_cons, List.length_nil, e3, e8, e9, e10]
      omega
    · show (([(⟨g, i * 13, none⟩ : Addr), ⟨g, i * 13 + 1, none⟩, ⟨g, i * 13 + 2, none⟩] ++ (footR A3 (x.f3.length * 1) ++ ([(⟨g, i * 13 + 4, none⟩ : Addr), ⟨g, i * 13 + 5, none⟩, ⟨g, i * 13 + 6, none⟩, ⟨g, i * 13 + 7, none⟩] ++ (footR A8 (x.f8.length * 1) ++ (footR A9 (x.f9.length * 2) ++ (footR A10 (x.f10.length * 2) ++ [(⟨g, i * 13 + 11, none⟩ : Addr), ⟨g, i * 13 + 12, none⟩]))))))).Nodup
      have q0 : ∀ a ∈ [(⟨g, i * 13, none⟩ : Addr), ⟨g, i * 13 + 1, none⟩, ⟨g, i * 13 + 2, none⟩], a.block = g ∧ i * 13 + 0 ≤ a.off ∧ a.off ≤ i * 13 + 2 := by
        intro a ha
        simp only [List.mem_cons, List.not_mem_nil, or_false] at ha
        rcases ha with rfl | rfl | rfl <;> (refine ⟨rfl, ?_, ?_⟩ <;> simp)
      have q2 : ∀ a ∈ [(⟨g, i * 13 + 4, none⟩ : Addr), ⟨g, i * 13 + 5, none⟩, ⟨g, i * 13 + 6, none⟩, ⟨g, i * 13 + 7, none⟩], a.block = g ∧ i * 13 + 4 ≤ a.off ∧ a.off ≤ i * 13 + 7 := by
        intro a ha
        simp only [List.mem_cons, List.not_mem_nil, or_false] at ha
        rcases ha with rfl | rfl | rfl | rfl <;> (refine ⟨rfl, ?_, ?_⟩ <;> simp)
      have q6 : ∀ a ∈ [(⟨g, i * 13 + 11, none⟩ : Addr), ⟨g, i * 13 + 12, none⟩], a.block = g ∧ i * 13 + 11 ≤ a.off ∧ a.off ≤ i * 13 + 12 := by
        intro a ha
        simp only [List.mem_cons, List.not_mem_nil, or_false] at ha
        rcases ha with rfl | rfl <;> (refine ⟨rfl, ?_, ?_⟩ <;> simp)
      refine List.nodup_append.2 ⟨by simp, List.nodup_append.2 ⟨footR_nodup _ _, List.nodup_append.2 ⟨by simp, List.nodup_append.2 ⟨footR_nodup _ _, List.nodup_append.2 ⟨footR_nodup _ _, List.nodup_append.2 ⟨footR_nodup _ _, by simp, fun a ha b hb hab => ?c5⟩, fun a ha b hb hab => ?c4⟩, fun a ha b hb hab => ?c3⟩, fun a ha b hb hab => ?c2⟩, fun a ha b hb hab => ?c1⟩, fun a ha b hb hab => ?c0⟩
      case c0 =>
        subst hab
        rcases List.mem_append.1 hb with hb | hb
        · exact n3 a hb (q0 a ha).1
        · rcases List.mem_append.1 hb with hb | hb
          · have z1 := q0 a ha; have z2 := q2 a hb; omega
          · rcases List.mem_append.1 hb with hb | hb
            · exact n8 a hb (q0 a ha).1
            · rcases List.mem_append.1 hb with hb | hb
              · exact n9 a hb (q0 a ha).1
              · rcases List.mem_append.1 hb with hb | hb
                · exact n10 a hb (q0 a ha).1
                · have z1 := q0 a ha; have z2 := q6 a hb; omega
      case c1 =>
        subst hab
        rcases List.mem_append.1 hb with hb | hb
        · exact n3 a ha (q2 a hb).1
        · rcases List.mem_append.1 hb with hb | hb
          · exact a3_8 _ (b3 a ha) (b8 a hb)
          · rcases List.mem_append.1 hb with hb | hb
            · exact a3_9 _ (b3 a ha) (b9 a hb)
            · rcases List.mem_append.1 hb with hb | hb
              · exact a3_10 _ (b3 a ha) (b10 a hb)
              · exact n3 a ha (q6 a hb).1
      case c2 =>
        subst hab
        rcases List.mem_append.1 hb with hb | hb
        · exact n8 a hb (q2 a ha).1
        · rcases List.mem_append.1 hb with hb | hb
          · exact n9 a hb (q2 a ha).1
          · rcases List.mem_append.1 hb with hb | hb
            · exact n10 a hb (q2 a ha).1
            · have z1 := q2 a ha; have z2 := q6 a hb; omega
      case c3 =>
        subst hab
        rcases List.mem_append.1 hb with hb | hb
        · exact a8_9 _ (b8 a ha) (b9 a hb)
        · rcases List.mem_append.1 hb with hb | hb
          · exact a8_10 _ (b8 a ha) (b10 a hb)
          · exact n8 a ha (q6 a hb).1
      case c4 =>
        subst hab
        rcases List.mem_append.1 hb with hb | hb
        · exact a9_10 _ (b9 a ha) (b10 a hb)
        · exact n9 a ha (q6 a hb).1
      case c5 =>
        subst hab
        exact n10 a ha (q6 a hb).1
    · intro a ha
      simp only [one66, List.mem_append, List.mem_cons, List.not_mem_nil, or_false] at ha
      rcases ha with (rfl | rfl | rfl) | ha | (rfl | rfl | rfl | rfl) | ha | ha | ha | rfl | rfl
      · simp
      · simp; omega
      · simp; omega
      · rw [if_neg (h3 _ (b3 a ha)).1.2]; exact (h3 _ (b3 a ha)).2
      · simp; omega
      · simp; omega
      · simp; omega
      · simp; omega
      · rw [if_neg (h8 _ (b8 a ha)).1.2]; exact (h8 _ (b8 a ha)).2
      · rw [if_neg (h9 _ (b9 a ha)).1.2]; exact (h9 _ (b9 a ha)).2
      · rw [if_neg (h10 _ (b10 a ha)).1.2]; exact (h10 _ (b10 a ha)).2
      · simp; omega
      · simp; omega
  obtain ⟨F, hFl, hF⟩ := list_of _ hex
  refine ⟨F, hFl, ⟨by rw [hFl]; exact hr.2.2.2.1, fun _ => ⟨g, rfl, ⟨h.1 g rfl, hbg⟩, fun j => ?_, fun i q hq => (hF i q hq).1⟩⟩, ft66_len g F l 0 hFl (fun j q x h1 h2 => (hF j q h1).2.1 x h2), ?_⟩
  · obtain ⟨_, _, _, _, hfr⟩ := Kd.R_elem h (z66, 0) 0 (Int.le_refl _) (by omega)
    have := hfr j
    simpa using this
  · exact (ft66_nodup (fun a => if a.block = g then a.off / 13 else f a.block) g F 0 (fun j q hj => by
      have := (hF j q hj).2.2
      rw [Nat.zero_add]
      exact this)).1
end Go.Proofs.Ytoeepmcaabmjkaa.QSN
namespace Go.Proofs.Ytoeepmcaabmjkaa.QSN
open Go.RowKit Go.Proofs.YtoeepmcaabmjkaaW.PrintWords Go.Proofs.YtoeepmcaabmjkaaW.PrintLast Go.Proofs.YtoeepmcaabmjkaaW.PrintMore
attribute [local go_sem] max2_int min2_int max_two min_two max_three min_three max_four min_four   -- for this text's walks alone
set_option linter.unusedVariables false
set_option linter.unusedSimpArgs false
theorem reps_one {α : Type} {R : α → List Value → Prop} {size : Nat} {x : α} {cs : List Value} (h : R x cs) (hl : cs.length = size) : Reps R size [x] cs := by
  have := (Reps.none R size).snoc h hl
  simpa using this
theorem Kd.R_lit2 {P : Program} {ops : Array Oper} {rest : List Oper} {o : Oper} {a : Act} {Q : Exit → Act → World → Prop} {α : Type} (d : Kd α) {W : World} (base e : Nat) (hgd : o.guard = none) {N : Tmp} (_hd : o.dst = some N) {xs : List α} {inner : List Value} {ok okp : Nat → Prop}
    (hrun : (execOp a.eval o).run P W = .ok (.value (.slice (some ⟨W.heap.size, 0, none⟩) xs.length xs.length)) (W.alloc (.cells inner.toArray e)))
    (hrep : Reps (d.M W base okp) d.sz xs inner) (hok : ∀ k, okp k → ok k) (hfresh : ok W.heap.size) (hbase : base ≤ W.heap.size) (hm : xs.length ≤ 9223372036854775807)
    (h : ∀ v1 w1, d.R e w1 base ok v1 xs → Below W.heap.size W w1 → W.grownBy w1 none → (∃ b, v1.ownBlock = some b ∧ W.heap.size ≤ b) → wpList P ops Q rest (a.put o.dst v1) w1) : wpList P ops Q (o :: rest) a W :=
  Kd.R_lit d base e hgd _hd hrun hrep hok hfresh (Below.refl base W) hbase hm (fun v1 w1 hr _ hg hat => h v1 w1 hr ⟨hg.os, hg.tape, hg.output, hg.size, fun k hk => hg.block k hk (by simp)⟩ hg hat)
set_option maxHeartbeats 8000000 in
set_option maxRecDepth 100000 in
theorem impl_SysNew.callsA (k : Nat) (A0_0 : Option Addr) (c0_0 : Nat) (l0_0 : List Int) (A0_1 : Option Addr) (c0_1 : Nat) (l0_1 : List (List (S57))) (r1 : List (S69)) (r2 : List (S66)) (r3 : Int) (r4 : List (S84)) (r5 : Bool) (w : World) (hr0_0 : Kd.C (Kd.int .i64) w A0_0 l0_0.length l0_0) (hc0_0 : l0_0.length ≤ c0_0) (hr0_1 : Kd.C (Kd.slice 57 k57) w A0_1 l0_1.length l0_1) (hc0_1 : l0_1.length ≤ c0_1) (h : impl_SysNew.f k l0_0 l0_1 = some (r1, r2, r3, r4, r5)) :
    Calls Try.prog 12 #[.agg #[.slice A0_0 l0_0.length c0_0, .slice A0_1 l0_1.length c0_1]] w fun e w' => ∃ v0_ v1_ v3_ : Value, e = .returned (.tuple #[.agg #[v0_, v1_, .int .i64 r3, v3_], .bool r5]) ∧ Kd.R k69 69 w' w.heap.size (fun k_ => (w.heap.size ≤ k_)) v0_ r1 ∧ Kd.R k66a 66 w' w.heap.size (fun k_ => (w.heap.size ≤ k_) ∧ some k_ ≠ (v0_ : Value).ownBlock ∧ some k_ ≠ (v3_ : Value).ownBlock) v1_ r2 ∧ Kd.N k84 84 w' w.heap.size (fun k_ => (w.heap.size ≤ k_) ∧ some k_ ≠ (v0_ : Value).ownBlock ∧ some k_ ≠ (v1_ : Value).ownBlock) v3_ r4 ∧ Below w.heap.size w w' := by
  have hu36 := Try.underlying36
  have hu31 := Try.underlying31
  have hu69 := Try.underlying69
  have HR0_0 := Aside0.mk hr0_0
  have HC0_0 := Aside0.mk hc0_0
  clear hr0_0 hc0_0
  have HR0_1 := Aside0.mk hr0_1
  have HC0_1 := Aside0.mk hc0_1
  clear hr0_1 hc0_1
  have HB := Aside0.mk (Below.refl w.heap.size w)
  have H : ((impl_ProgOk.f k l0_0 l0_1).bind fun t261 => (if t261 = true then ((impl_newTask.f 0 (-1)).bind fun bt262 => (impl_SysNew.l0 k l0_0 (l0_0.length : Int) 0 ([] : List (S69)) (([(⟨bt262.1, bt262.2.1, bt262.2.2.1, bt262.2.2.2.1, bt262.2.2.2.2.1, bt262.2.2.2.2.2.1, bt262.2.2.2.2.2.2.1, bt262.2.2.2.2.2.2.2.1, bt262.2.2.2.2.2.2.2.2.1, bt262.2.2.2.2.2.2.2.2.2.1, bt262.2.2.2.2.2.2.2.2.2.2.1, bt262.2.2.2.2.2.2.2.2.2.2.2.1, bt262.2.2.2.2.2.2.2.2.2.2.2.2⟩ : S66)] : List (S66))) 0)) else (some (([] : List (S69)), ([] : List (S66)), 0, ([] : List (S84)), false)))) = some (r1, r2, r3, r4, r5) := h
  clear h
  replace H := Option.bind_eq_some_iff.mp H
  obtain ⟨t261, A20, H⟩ := H
  replace H : (if t261 = true then ((impl_newTask.f 0 (-1)).bind fun bt262 => (impl_SysNew.l0 k l0_0 (l0_0.length : Int) 0 ([] : List (S69)) (([(⟨bt262.1, bt262.2.1, bt262.2.2.1, bt262.2.2.2.1, bt262.2.2.2.2.1, bt262.2.2.2.2.2.1, bt262.2.2.2.2.2.2.1, bt262.2.2.2.2.2.2.2.1, bt262.2.2.2.2.2.2.2.2.1, bt262.2.2.2.2.2.2.2.2.2.1, bt262.2.2.2.2.2.2.2.2.2.2.1, bt262.2.2.2.2.2.2.2.2.2.2.2.1, bt262.2.2.2.2.2.2.2.2.2.2.2.2⟩ : S66)] : List (S66))) 0)) else (some (([] : List (S69)), ([] : List (S66)), 0, ([] : List (S84)), false))) = some (r1, r2, r3, r4, r5) := H
  have A2 := Aside0.mk A20
  clear A20
  by_cases c3 : t261 = true
  · subst c3
    have H1 : ((impl_newTask.f 0 (-1)).bind fun bt262 => (impl_SysNew.l0 k l0_0 (l0_0.length : Int) 0 ([] : List (S69)) (([(⟨bt262.1, bt262.2.1, bt262.2.2.1, bt262.2.2.2.1, bt262.2.2.2.2.1, bt262.2.2.2.2.2.1, bt262.2.2.2.2.2.2.1, bt262.2.2.2.2.2.2.2.1, bt262.2.2.2.2.2.2.2.2.1, bt262.2.2.2.2.2.2.2.2.2.1, bt262.2.2.2.2.2.2.2.2.2.2.1, bt262.2.2.2.2.2.2.2.2.2.2.2.1, bt262.2.2.2.2.2.2.2.2.2.2.2.2⟩ : S66)] : List (S66))) 0)) = some (r1, r2, r3, r4, r5) := by rw [if_pos rfl] at H; exact H
    clear H
    have H := H1
    clear H1
    replace H := Option.bind_eq_some_iff.mp H
    obtain ⟨⟨t262, t263, t264, t265, t268, t269, t270, t271, t272, t275, t278, t281, t282⟩, A40, H⟩ := H
    replace H : (impl_SysNew.l0 k l0_0 (l0_0.length : Int) 0 ([] : List (S69)) (([(⟨t262, t263, t264, t265, t268, t269, t270, t271, t272, t275, t278, t281, t282⟩ : S66)] : List (S66))) 0) = some (r1, r2, r3, r4, r5) := H
    have A4 := Aside0.mk A40
    clear A40
    obtain ⟨y283, hy283⟩ : ∃ y_ : List (S66), y_ = (([(⟨t262, t263, t264, t265, t268, t269, t270, t271, t272, t275, t278, t281, t282⟩ : S66)] : List (S66))) := ⟨_, rfl⟩
    replace H : (impl_SysNew.l0 k l0_0 (l0_0.length : Int) 0 ([] : List (S69)) y283 0) = some (r1, r2, r3, r4, r5) := by first | (rw [hy283]; with_reducible exact H) | (have H2_ := (Option.bind_some _ _).symm.trans H; rw [hy283]; with_reducible exact H2_) | (have H2_ := (Option.bind_some _ _).symm.trans H; with_reducible exact H2_) | with_reducible exact H | (rw [hy283]; exact H) | exact H
    have Ny283 := Aside0.mk hy283
    clear hy283
    have H' := Aside0.mk H
    clear H
    go_enter Try.func12, Try.ntmps12
    go_wp2_with (first | ((with_reducible refine gate_dst (N := 1) rfl ?_); refine box_event ?hg (N := 1) ?hd (cs := #[.slice A0_0 l0_0.length c0_0, .slice A0_1 l0_1.length c0_1]) (t := 36) ?hr ?_; (case hd => rfl); (case hg => rfl); (case hr => first | (go_simp; done) | (go_simp; rfl)); intro gb259 hg w5 hbox hb; have n0_ := Aside0.mk (below_step (by repeat (first | (with_reducible first | exact HB.out | apply below_alloc | apply pw_below_drewN | apply below_drew1) | exact HB.out)) hb); have n1_ := Aside0.mk (hbox); have n2_ := Aside0.mk ((by rw [hg]; exact (below_size (by repeat (first | (with_reducible first | exact HB.out | apply below_alloc | apply pw_below_drewN | apply below_drew1) | exact HB.out))) : w.heap.size ≤ gb259)); have n3_ := Aside0.mk ((by rw [hg]; exact (below_size (by repeat (first | (with_reducible first | exact HB.out | apply below_alloc | apply pw_below_drewN | apply below_drew1) | exact HB.out))) : w.heap.size ≤ gb259)); clear HB; have HB := n0_; have BK259 := n1_; have GW259 := n2_; have GE259 := n3_; clear n0_ n1_ n2_ n3_; clear hb hbox hg) | ((with_reducible refine gate_dst (N := 2) rfl ?_); refine box_event ?hg (N := 2) ?hd (cs := #[.slice none 0 0, .slice none 0 0, .int .i64 0, .slice none 0 0]) (t := 31) ?hr ?_; (case hd => rfl); (case hg => rfl); (case hr => first | (go_simp; done) | (go_simp; rfl)); intro gb260 hg w6 hbox hb; have n0_ := Aside0.mk (blk_below (g := gb259) (o := .cells #[.slice A0_0 l0_0.length c0_0, .slice A0_1 l0_1.length c0_1] 36 (0, 0)) (by (with_reducible repeat (first | refine blk_drewN ?_ _ | refine blk_drew ?_ | refine blk_alloc ?_ _)); exact BK259.out) hb); have n1_ := Aside0.mk (below_step (by repeat (first | (with_reducible first | exact HB.out | apply below_alloc | apply pw_below_drewN | apply below_drew1 | refine below_set ?_ GE259.out) | exact HB.out)) hb); have n2_ := Aside0.mk (hbox); have n3_ := Aside0.mk ((by rw [hg]; exact (below_size (by repeat (first | (with_reducible first | exact HB.out | apply below_alloc | apply pw_below_drewN | apply below_drew1 | refine below_set ?_ GE259.out) | exact HB.out))) : w.heap.size ≤ gb260)); have n4_ := Aside0.mk ((by rw [hg]; exact (below_size (by repeat (first | (with_reducible first | exact HB.out | apply below_alloc | apply pw_below_drewN | apply below_drew1 | refine below_set ?_ GE259.out) | exact HB.out))) : w.heap.size ≤ gb260)); have n5_ := Aside0.mk ((by rw [hg]; exact Nat.ne_of_lt (blk_lt (g := gb259) (o := .cells #[.slice A0_0 l0_0.length c0_0, .slice A0_1 l0_1.length c0_1] 36 (0, 0)) (by (with_reducible repeat (first | refine blk_drewN ?_ _ | refine blk_drew ?_ | refine blk_alloc ?_ _)); exact BK259.out)) : gb259 ≠ gb260)); have n6_ := Aside0.mk ((by rw [hg]; exact Nat.ne_of_gt (blk_lt (g := gb259) (o := .cells #[.slice A0_0 l0_0.length c0_0, .slice A0_1 l0_1.length c0_1] 36 (0, 0)) (by (with_reducible repeat (first | refine blk_drewN ?_ _ | refine blk_drew ?_ | refine blk_alloc ?_ _)); exact BK259.out)) : gb260 ≠ gb259)); clear BK259; clear HB; have BK259 := n0_; have HB := n1_; have BK260 := n2_; have GW260 := n3_; have GE260 := n4_; have NB259_260 := n5_; have NB260_259 := n6_; clear n0_ n1_ n2_ n3_ n4_ n5_ n6_; clear hb hbox hg; have hnb7 := NB259_260.out; have hnc7 := NB260_259.out; have hcz8_0 : w6.cell? ⟨gb259, 0, none⟩ = some (.slice A0_0 l0_0.length c0_0) := (blk_cell BK259.out 0).trans rfl; have hcz8_1 : w6.cell? ⟨gb259, 1, none⟩ = some (.slice A0_1 l0_1.length c0_1) := (blk_cell BK259.out 1).trans rfl; have hfz8_0 := blk_frozen BK259.out 0; have hfz8_1 := blk_frozen BK259.out 1) | ((with_reducible refine gate_callee (f := 26) rfl ?_); refine goesL_ (some 8) rfl rfl Try.func26 (by kernel_rfl) rfl #[.agg #[.slice A0_0 l0_0.length c0_0, .slice A0_1 l0_1.length c0_1]] rfl (by (try simp only [List.map_toArray, List.map_cons, List.map_nil]); first | done | rfl | (simp only [List.length_drop, List.length_take]; rfl)) ?_; (with_reducible refine (impl_ProgOk.calls k _ _ l0_0 _ _ l0_1 true _ ?side1 ?side2 ?side3 ?side4 A2.out).mono ?_); (case side1 => repeat (first | exact (Kd.C_below HR0_0.out HB.out) | (with_reducible refine Kd.C_alloc ?_ _) | (with_reducible refine Kd.C_drewN ?_ _) | (with_reducible refine Kd.C_drew ?_))); (case side2 => exact HC0_0.out); (case side3 => repeat (first | exact (Kd.C_below HR0_1.out HB.out) | (with_reducible refine Kd.C_alloc ?_ _) | (with_reducible refine Kd.C_drewN ?_ _) | (with_reducible refine Kd.C_drew ?_))); (case side4 => exact HC0_1.out); rintro e w9 ⟨rfl, hb⟩; refine ⟨_, rfl, ?_⟩; have n0_ := Aside0.mk (blk_below (g := gb259) (o := .cells #[.slice A0_0 l0_0.length c0_0, .slice A0_1 l0_1.length c0_1] 36 (0, 0)) (by (with_reducible repeat (first | refine blk_drewN ?_ _ | refine blk_drew ?_ | refine blk_alloc ?_ _)); exact BK259.out) hb); have n1_ := Aside0.mk (blk_below (g := gb260) (o := .cells #[.slice none 0 0, .slice none 0 0, .int .i64 0, .slice none 0 0] 31 (0, 0)) (by (with_reducible repeat (first | refine blk_drewN ?_ _ | refine blk_drew ?_ | refine blk_alloc ?_ _)); exact BK260.out) hb); have n2_ := Aside0.mk (below_step (by repeat (first | (with_reducible first | exact HB.out | apply below_alloc | apply pw_below_drewN | apply below_drew1 | refine below_set ?_ GE259.out | refine below_set ?_ GE260.out) | exact HB.out)) hb); clear BK259; clear BK260; clear HB; have BK259 := n0_; have BK260 := n1_; have HB := n2_; clear n0_ n1_ n2_; (try clear hb); (try clear hb2); (try clear hk); (try clear hi)) | ((with_reducible refine gate_callee (f := 38) rfl ?_); refine goesL_ (some 11) rfl rfl Try.func38 (by kernel_rfl) rfl #[.int .i64 0, .int .i64 (-1)] rfl (by (try simp only [List.map_toArray, List.map_cons, List.map_nil]); first | done | rfl | (simp only [List.length_drop, List.length_take]; rfl)) ?_; (with_reducible refine (impl_newTask.calls 0 (-1) t262 t263 t264 t265 t268 t269 t270 t271 t272 t275 t278 t281 t282 _ A4.out).mono ?_); rintro e w10 ⟨v266, v273, v276, v279, rfl, ho0, ho1, ho2, ho3, hb⟩; refine ⟨_, rfl, ?_⟩; have n0_ := Aside0.mk (Kd.R_lower (Kd.R_newM (M := fun k_ => (w.heap.size ≤ k_)) ho0 (below_size (by repeat (first | (with_reducible first | exact HB.out | apply below_alloc | apply pw_below_drewN | apply below_drew1 | refine below_set ?_ GE259.out | refine below_set ?_ GE260.out) | exact HB.out))) (fun k_ h_ => h_)) (below_size (by repeat (first | (with_reducible first | exact HB.out | apply below_alloc | apply pw_below_drewN | apply below_drew1 | refine below_set ?_ GE259.out | refine below_set ?_ GE260.out) | exact HB.out)))); have n1_ := Aside0.mk (Kd.R_lower (Kd.R_newM (M := fun k_ => (w.heap.size ≤ k_)) ho1 (below_size (by repeat (first | (with_reducible first | exact HB.out | apply below_alloc | apply pw_below_drewN | apply below_drew1 | refine below_set ?_ GE259.out | refine below_set ?_ GE260.out) | exact HB.out))) (fun k_ h_ => h_)) (below_size (by repeat (first | (with_reducible first | exact HB.out | apply below_alloc | apply pw_below_drewN | apply below_drew1 | refine below_set ?_ GE259.out | refine below_set ?_ GE260.out) | exact HB.out)))); have n2_ := Aside0.mk (Kd.R_lower (Kd.R_newM (M := fun k_ => (w.heap.size ≤ k_)) ho2 (below_size (by repeat (first | (with_reducible first | exact HB.out | apply below_alloc | apply pw_below_drewN | apply below_drew1 | refine below_set ?_ GE259.out | refine below_set ?_ GE260.out) | exact HB.out))) (fun k_ h_ => h_)) (below_size (by repeat (first | (with_reducible first | exact HB.out | apply below_alloc | apply pw_below_drewN | apply below_drew1 | refine below_set ?_ GE259.out | refine below_set ?_ GE260.out) | exact HB.out)))); have n3_ := Aside0.mk (Kd.R_lower (Kd.R_newM (M := fun k_ => (w.heap.size ≤ k_)) ho3 (below_size (by repeat (first | (with_reducible first | exact HB.out | apply below_alloc | apply pw_below_drewN | apply below_drew1 | refine below_set ?_ GE259.out | refine below_set ?_ GE260.out) | exact HB.out))) (fun k_ h_ => h_)) (below_size (by repeat (first | (with_reducible first | exact HB.out | apply below_alloc | apply pw_below_drewN | apply below_drew1 | refine below_set ?_ GE259.out | refine below_set ?_ GE260.out) | exact HB.out)))); have n4_ := Aside0.mk (blk_below (g := gb259) (o := .cells #[.slice A0_0 l0_0.length c0_0, .slice A0_1 l0_1.length c0_1] 36 (0, 0)) (by (with_reducible repeat (first | refine blk_drewN ?_ _ | refine blk_drew ?_ | refine blk_alloc ?_ _)); exact BK259.out) hb); have n5_ := Aside0.mk (blk_below (g := gb260) (o := .cells #[.slice none 0 0, .slice none 0 0, .int .i64 0, .slice none 0 0] 31 (0, 0)) (by (with_reducible repeat (first | refine blk_drewN ?_ _ | refine blk_drew ?_ | refine blk_alloc ?_ _)); exact BK260.out) hb); have n6_ := Aside0.mk (below_step (by repeat (first | (with_reducible first | exact HB.out | apply below_alloc | apply pw_below_drewN | apply below_drew1 | refine below_set ?_ GE259.out | refine below_set ?_ GE260.out) | exact HB.out)) hb); clear BK259; clear BK260; clear HB; have HO267 := n0_; have HO274 := n1_; have HO277 := n2_; have HO280 := n3_; have BK259 := n4_; have BK260 := n5_; have HB := n6_; clear n0_ n1_ n2_ n3_ n4_ n5_ n6_; (try clear hb); (try clear hb2); (try clear hk); (try clear hi); (try clear ho0); (try clear ho1); (try clear ho2); (try clear ho3); obtain ⟨Ao11, co11, eo11⟩ := Kd.R_slice HO267.out; subst eo11; obtain ⟨Ao12, co12, eo12⟩ := Kd.R_slice HO274.out; subst eo12; obtain ⟨Ao13, co13, eo13⟩ := Kd.R_slice HO277.out; subst eo13; obtain ⟨Ao14, co14, eo14⟩ := Kd.R_slice HO280.out; subst eo14) | ((with_reducible refine gate_dst (N := 12) rfl ?_); refine Kd.R_lit2 k66a w.heap.size 66 ?hg (N := 12) ?hd (xs := ([(⟨t262, t263, t264, t265, t268, t269, t270, t271, t272, t275, t278, t281, t282⟩ : S66)] : List (S66))) (inner := [.int .i64 t262, .int .i64 t263, .int .i64 t264, .slice Ao11 t265.length co11, .int .i64 t268, .int .i64 t269, .int .i64 t270, .int .i64 t271, .slice Ao12 t272.length co12, .slice Ao13 t275.length co13, .slice Ao14 t278.length co14, .int .i64 t281, .int .i64 t282]) (ok := (fun k_ => (w.heap.size ≤ k_) ∧ k_ ≠ gb259 ∧ k_ ≠ gb260)) (okp := (fun k_ => (w.heap.size ≤ k_) ∧ k_ ≠ gb259 ∧ k_ ≠ gb260)) ?hr ?hp (fun _ hk => hk) ((show ∀ k_, w10.heap.size ≤ k_ → (fun k_ => (w.heap.size ≤ k_) ∧ k_ ≠ gb259 ∧ k_ ≠ gb260) k_ from fun k_ hk => ⟨(Nat.le_trans (below_size (by repeat (first | (with_reducible first | exact HB.out | apply below_alloc | apply pw_below_drewN | apply below_drew1 | refine below_set ?_ GE259.out | refine below_set ?_ GE260.out) | exact HB.out))) hk), Kd.freshB (g := gb259) (o := .cells #[.slice A0_0 l0_0.length c0_0, .slice A0_1 l0_1.length c0_1] 36 (0, 0)) (by (with_reducible repeat (first | refine blk_drewN ?_ _ | refine blk_drew ?_ | refine blk_alloc ?_ _)); exact BK259.out) k_ hk, Kd.freshB (g := gb260) (o := .cells #[.slice none 0 0, .slice none 0 0, .int .i64 0, .slice none 0 0] 31 (0, 0)) (by (with_reducible repeat (first | refine blk_drewN ?_ _ | refine blk_drew ?_ | refine blk_alloc ?_ _)); exact BK260.out) k_ hk⟩) _ (Nat.le_refl _)) (below_size (by repeat (first | (with_reducible first | exact HB.out | apply below_alloc | apply pw_below_drewN | apply below_drew1 | refine below_set ?_ GE259.out | refine below_set ?_ GE260.out) | exact HB.out))) (by simp) ?_; (case hd => rfl); (case hg => rfl); (case hr => first | (go_simp; done) | (go_simp; rfl)); (case hp => exact reps_one (k66a_mkM _ _ _ (⟨t262, t263, t264, t265, t268, t269, t270, t271, t272, t275, t278, t281, t282⟩ : S66) (Kd.R_mono (ok' := (fun k_ => (w.heap.size ≤ k_) ∧ k_ ≠ gb259 ∧ k_ ≠ gb260)) (Kd.R_types (Kd.R_types (HO267.out) BK259.out (by decide)) BK260.out (by decide)) (fun k_ hk => ⟨hk.1.1.1, ⟨hk.1.2, hk.2⟩⟩)) (Kd.R_mono (ok' := (fun k_ => (w.heap.size ≤ k_) ∧ k_ ≠ gb259 ∧ k_ ≠ gb260)) (Kd.R_types (Kd.R_types (HO274.out) BK259.out (by decide)) BK260.out (by decide)) (fun k_ hk => ⟨hk.1.1.1, ⟨hk.1.2, hk.2⟩⟩)) (Kd.R_mono (ok' := (fun k_ => (w.heap.size ≤ k_) ∧ k_ ≠ gb259 ∧ k_ ≠ gb260)) (Kd.R_types (Kd.R_types (HO277.out) BK259.out (by decide)) BK260.out (by decide)) (fun k_ hk => ⟨hk.1.1.1, ⟨hk.1.2, hk.2⟩⟩)) (Kd.R_mono (ok' := (fun k_ => (w.heap.size ≤ k_) ∧ k_ ≠ gb259 ∧ k_ ≠ gb260)) (Kd.R_types (Kd.R_types (HO280.out) BK259.out (by decide)) BK260.out (by decide)) (fun k_ hk => ⟨hk.1.1.1, ⟨hk.1.2, hk.2⟩⟩)) (fun k_ h_ => by have z_ := HO267.out.1 k_ h_; first | exact z_ | exact z_.1 | exact z_.2 | exact z_.1.1 | exact z_.1.2) (fun k_ h1_ h2_ => by obtain ⟨_, q1_⟩ := Kd.R_typed HO267.out k_ h1_; obtain ⟨_, q2_⟩ := Kd.R_typed HO277.out k_ h2_.symm; rw [q1_] at q2_; injection q2_ with q2_; injection q2_ with _ q2_; exact absurd q2_ (by decide)) (fun k_ h1_ h2_ => by obtain ⟨_, q1_⟩ := Kd.R_typed HO267.out k_ h1_; obtain ⟨_, q2_⟩ := Kd.R_typed HO280.out k_ h2_.symm; rw [q1_] at q2_; injection q2_ with q2_; injection q2_ with _ q2_; exact absurd q2_ (by decide)) (fun k_ h1_ h2_ => by obtain ⟨_, q1_⟩ := Kd.R_typed HO274.out k_ h1_; obtain ⟨_, q2_⟩ := Kd.R_typed HO277.out k_ h2_.symm; rw [q1_] at q2_; injection q2_ with q2_; injection q2_ with _ q2_; exact absurd q2_ (by decide)) (fun k_ h1_ h2_ => by obtain ⟨_, q1_⟩ := Kd.R_typed HO274.out k_ h1_; obtain ⟨_, q2_⟩ := Kd.R_typed HO280.out k_ h2_.symm; rw [q1_] at q2_; injection q2_ with q2_; injection q2_ with _ q2_; exact absurd q2_ (by decide)) (fun k_ h_ => by have z_ := HO277.out.1 k_ h_; first | exact z_ | exact z_.1 | exact z_.2 | exact z_.1.1 | exact z_.1.2)) rfl); intro v284 w15 ho16 hb hg_ hnew_; clear hg_ hnew_; (first | rw [← Ny283.out] at ho16 | (simp only [Int.reduceToNat] at ho16; rw [← Ny283.out] at ho16)); have n0_ := Aside0.mk ho16; have n1_ := Aside0.mk (blk_below (g := gb259) (o := .cells #[.slice A0_0 l0_0.length c0_0, .slice A0_1 l0_1.length c0_1] 36 (0, 0)) (by (with_reducible repeat (first | refine blk_drewN ?_ _ | refine blk_drew ?_ | refine blk_alloc ?_ _)); exact BK259.out) hb); have n2_ := Aside0.mk (blk_below (g := gb260) (o := .cells #[.slice none 0 0, .slice none 0 0, .int .i64 0, .slice none 0 0] 31 (0, 0)) (by (with_reducible repeat (first | refine blk_drewN ?_ _ | refine blk_drew ?_ | refine blk_alloc ?_ _)); exact BK260.out) hb); have n3_ := Aside0.mk (below_step (by repeat (first | (with_reducible first | exact HB.out | apply below_alloc | apply pw_below_drewN | apply below_drew1 | refine below_set ?_ GE259.out | refine below_set ?_ GE260.out) | exact HB.out)) hb); clear BK259; clear BK260; clear HB; clear HO267; clear HO274; clear HO277; clear HO280; have HO285 := n0_; have BK259 := n1_; have BK260 := n2_; have HB := n3_; clear n0_ n1_ n2_ n3_; clear hb ho16; obtain ⟨Ao17, co17, eo17⟩ := Kd.R_slice HO285.out; subst eo17) | ((with_reducible refine gate_dst (N := 4) rfl ?_); refine box_event ?hg (N := 4) ?hd (cs := #[.slice none 0 0, .slice none 0 0, .int .i64 0, .slice none 0 0]) (t := 31) ?hr ?_; (case hd => rfl); (case hg => rfl); (case hr => first | (go_simp; done) | (go_simp; rfl)); intro gb286 hg w18 hbox hb; have n0_ := Aside0.mk (Kd.R_below (Kd.R_elderB (by (with_reducible repeat (first | apply Kd.R_alloc | apply Kd.R_drewN | apply Kd.R_drew)); exact HO285.out) gb286 (Nat.le_of_eq hg.symm)) hb); have n1_ := Aside0.mk (blk_below (g := gb259) (o := .cells #[.slice A0_0 l0_0.length c0_0, .slice A0_1 l0_1.length c0_1] 36 (0, 0)) (by (with_reducible repeat (first | refine blk_drewN ?_ _ | refine blk_drew ?_ | refine blk_alloc ?_ _)); exact BK259.out) hb); have n2_ := Aside0.mk (blk_below (g := gb260) (o := .cells #[.slice none 0 0, .slice none 0 0, .int .i64 0, .slice none 0 0] 31 (0, 0)) (by (with_reducible repeat (first | refine blk_drewN ?_ _ | refine blk_drew ?_ | refine blk_alloc ?_ _)); exact BK260.out) hb); have n3_ := Aside0.mk (below_step (by repeat (first | (with_reducible first | exact HB.out | apply below_alloc | apply pw_below_drewN | apply below_drew1 | refine below_set ?_ GE259.out | refine below_set ?_ GE260.out) | exact HB.out)) hb); have n4_ := Aside0.mk (hbox); have n5_ := Aside0.mk ((by rw [hg]; exact (below_size (by repeat (first | (with_reducible first | exact HB.out | apply below_alloc | apply pw_below_drewN | apply below_drew1 | refine below_set ?_ GE259.out | refine below_set ?_ GE260.out) | exact HB.out))) : w.heap.size ≤ gb286)); have n6_ := Aside0.mk ((by rw [hg]; exact (below_size (by repeat (first | (with_reducible first | exact HB.out | apply below_alloc | apply pw_below_drewN | apply below_drew1 | refine below_set ?_ GE259.out | refine below_set ?_ GE260.out) | exact HB.out))) : w.heap.size ≤ gb286)); have n7_ := Aside0.mk ((by rw [hg]; exact Nat.ne_of_lt (blk_lt (g := gb259) (o := .cells #[.slice A0_0 l0_0.length c0_0, .slice A0_1 l0_1.length c0_1] 36 (0, 0)) (by (with_reducible repeat (first | refine blk_drewN ?_ _ | refine blk_drew ?_ | refine blk_alloc ?_ _)); exact BK259.out)) : gb259 ≠ gb286)); have n8_ := Aside0.mk ((by rw [hg]; exact Nat.ne_of_gt (blk_lt (g := gb259) (o := .cells #[.slice A0_0 l0_0.length c0_0, .slice A0_1 l0_1.length c0_1] 36 (0, 0)) (by (with_reducible repeat (first | refine blk_drewN ?_ _ | refine blk_drew ?_ | refine blk_alloc ?_ _)); exact BK259.out)) : gb286 ≠ gb259)); have n9_ := Aside0.mk ((by rw [hg]; exact Nat.ne_of_lt (blk_lt (g := gb260) (o := .cells #[.slice none 0 0, .slice none 0 0, .int .i64 0, .slice none 0 0] 31 (0, 0)) (by (with_reducible repeat (first | refine blk_drewN ?_ _ | refine blk_drew ?_ | refine blk_alloc ?_ _)); exact BK260.out)) : gb260 ≠ gb286)); have n10_ := Aside0.mk ((by rw [hg]; exact Nat.ne_of_gt (blk_lt (g := gb260) (o := .cells #[.slice none 0 0, .slice none 0 0, .int .i64 0, .slice none 0 0] 31 (0, 0)) (by (with_reducible repeat (first | refine blk_drewN ?_ _ | refine blk_drew ?_ | refine blk_alloc ?_ _)); exact BK260.out)) : gb286 ≠ gb260)); clear HO285; clear BK259; clear BK260; clear HB; have HO285 := n0_; have BK259 := n1_; have BK260 := n2_; have HB := n3_; have BK286 := n4_; have GW286 := n5_; have GE286 := n6_; have NB259_286 := n7_; have NB286_259 := n8_; have NB260_286 := n9_; have NB286_260 := n10_; clear n0_ n1_ n2_ n3_ n4_ n5_ n6_ n7_ n8_ n9_ n10_; clear hb hbox hg; have hnb19 := NB286_259.out; have hnc19 := NB259_286.out; have hnb20 := NB286_260.out; have hnc20 := NB260_286.out; have hcz21_0 : w18.cell? ⟨gb286, 0, none⟩ = some (.slice none 0 0) := (blk_cell BK286.out 0).trans rfl; have hcz21_1 : w18.cell? ⟨gb286, 1, none⟩ = some (.slice none 0 0) := (blk_cell BK286.out 1).trans rfl; have hcz21_2 : w18.cell? ⟨gb286, 2, none⟩ = some (.int .i64 0) := (blk_cell BK286.out 2).trans rfl; have hcz21_3 : w18.cell? ⟨gb286, 3, none⟩ = some (.slice none 0 0) := (blk_cell BK286.out 3).trans rfl; have hfz21_0 := blk_frozen BK286.out 0; have hfz21_1 := blk_frozen BK286.out 1; have hfz21_2 := blk_frozen BK286.out 2; have hfz21_3 := blk_frozen BK286.out 3; have hcz22_0 : w18.cell? ⟨gb259, 0, none⟩ = some (.slice A0_0 l0_0.length c0_0) := (blk_cell BK259.out 0).trans rfl; have hcz22_1 : w18.cell? ⟨gb259, 1, none⟩ = some (.slice A0_1 l0_1.length c0_1) := (blk_cell BK259.out 1).trans rfl; have hfz22_0 := blk_frozen BK259.out 0; have hfz22_1 := blk_frozen BK259.out 1))
    go_loopg [17] k (fun kq v17 w' => ∃ (x17_1 : Int) (x287000_1 : List (S69)) (u287000 : Value), v17 = .int .i64 x17_1 ∧ Aside0 (impl_SysNew.l0 kq l0_0 (l0_0.length : Int) x17_1 x287000_1 y283 0 = some (r1, r2, r3, r4, r5)) ∧ Aside0 (kq ≤ k) ∧ Aside0 (Kd.R k69 69 w' w.heap.size (fun k_ => (w.heap.size ≤ k_)) u287000 x287000_1) ∧ Aside0 (Kd.R k66a 66 w' w.heap.size (fun k_ => (w.heap.size ≤ k_) ∧ some k_ ≠ (u287000 : Value).ownBlock ∧ k_ ≠ gb259 ∧ k_ ≠ gb260 ∧ k_ ≠ gb286) (.slice Ao17 y283.length co17) y283) ∧ Aside0 (w'.heap[gb259]? = some (.cells #[(.slice A0_0 l0_0.length c0_0), (.slice A0_1 l0_1.length c0_1)] 36 (0, 0))) ∧ Aside0 (w'.heap[gb260]? = some (.cells #[(.slice none 0 0), (.slice none 0 0), .int .i64 0, (.slice none 0 0)] 31 (0, 0))) ∧ Aside0 (w'.heap[gb286]? = some (.cells #[u287000, (.slice Ao17 y283.length co17), .int .i64 0, (.slice none 0 0)] 31 (0, 0))) ∧ Aside0 (Below w.heap.size w w'))
    case atStart => exact ⟨(0), (([] : List (S69))), (.slice none 0 0), (by first | rfl | (simp; done) | (simp [*]; done)), H', ⟨Nat.le_refl _⟩, ⟨by first | exact Kd.R_nil _ _ _ _ _ | exact Kd.N_nil _ _ _ _ _ | exact Kd.V_nil _ _ _ _ _ | exact Kd.Q_nil _ _ _ _ _ | exact Kd.S_nil _ _ _ _ _⟩, ⟨by (with_reducible repeat (first | apply Kd.R_alloc | apply Kd.R_drewN | apply Kd.R_drew)); exact Kd.R_mono (Kd.R_far (p := ⟨gb286, 3, none⟩) (Kd.R_far (p := ⟨gb286, 2, none⟩) (Kd.R_far (p := ⟨gb286, 1, none⟩) (Kd.R_far (p := ⟨gb286, 0, none⟩) (Kd.R_mono HO285.out (fun k_ hk => (⟨hk, hk.2⟩ : _ ∧ k_ ≠ gb286))) (fun _ hk => hk.2) (.slice none 0 0)) (fun _ hk => hk.2) (.slice Ao17 y283.length co17)) (fun _ hk => hk.2) (.int .i64 0)) (fun _ hk => hk.2) (.slice none 0 0)) (fun _ hk => ⟨hk.1.1.1, ⟨(by simp [Value.ownBlock]), ⟨hk.1.1.2.1, ⟨hk.1.1.2.2, hk.1.2⟩⟩⟩⟩)⟩, ⟨by (with_reducible repeat (first | refine blk_drewN ?_ _ | refine blk_drew ?_ | refine blk_alloc ?_ _)); refine blk_far ?_ NB259_286.out _; (with_reducible repeat (first | refine blk_drewN ?_ _ | refine blk_drew ?_ | refine blk_alloc ?_ _)); refine blk_far ?_ NB259_286.out _; (with_reducible repeat (first | refine blk_drewN ?_ _ | refine blk_drew ?_ | refine blk_alloc ?_ _)); refine blk_far ?_ NB259_286.out _; (with_reducible repeat (first | refine blk_drewN ?_ _ | refine blk_drew ?_ | refine blk_alloc ?_ _)); refine blk_far ?_ NB259_286.out _; (with_reducible repeat (first | refine blk_drewN ?_ _ | refine blk_drew ?_ | refine blk_alloc ?_ _)); exact BK259.out⟩, ⟨by (with_reducible repeat (first | refine blk_drewN ?_ _ | refine blk_drew ?_ | refine blk_alloc ?_ _)); refine blk_far ?_ NB260_286.out _; (with_reducible repeat (first | refine blk_drewN ?_ _ | refine blk_drew ?_ | refine blk_alloc ?_ _)); refine blk_far ?_ NB260_286.out _; (with_reducible repeat (first | refine blk_drewN ?_ _ | refine blk_drew ?_ | refine blk_alloc ?_ _)); refine blk_far ?_ NB260_286.out _; (with_reducible repeat (first | refine blk_drewN ?_ _ | refine blk_drew ?_ | refine blk_alloc ?_ _)); refine blk_far ?_ NB260_286.out _; (with_reducible repeat (first | refine blk_drewN ?_ _ | refine blk_drew ?_ | refine blk_alloc ?_ _)); exact BK260.out⟩, ⟨by (with_reducible repeat (first | refine blk_drewN ?_ _ | refine blk_drew ?_ | refine blk_alloc ?_ _)); refine blk_put (cs := #[.slice none 0 0, .slice Ao17 y283.length co17, .int .i64 0, .slice none 0 0]) ?_ 3 _ rfl; (with_reducible repeat (first | refine blk_drewN ?_ _ | refine blk_drew ?_ | refine blk_alloc ?_ _)); refine blk_put (cs := #[.slice none 0 0, .slice Ao17 y283.length co17, .int .i64 0, .slice none 0 0]) ?_ 2 _ rfl; (with_reducible repeat (first | refine blk_drewN ?_ _ | refine blk_drew ?_ | refine blk_alloc ?_ _)); refine blk_put (cs := #[.slice none 0 0, .slice none 0 0, .int .i64 0, .slice none 0 0]) ?_ 1 _ rfl; (with_reducible repeat (first | refine blk_drewN ?_ _ | refine blk_drew ?_ | refine blk_alloc ?_ _)); refine blk_put (cs := #[.slice none 0 0, .slice none 0 0, .int .i64 0, .slice none 0 0]) ?_ 0 _ rfl; (with_reducible repeat (first | refine blk_drewN ?_ _ | refine blk_drew ?_ | refine blk_alloc ?_ _)); exact BK286.out⟩, ⟨by repeat (first | (with_reducible first | exact HB.out | apply below_alloc | apply pw_below_drewN | apply below_drew1 | refine below_set ?_ GE259.out | refine below_set ?_ GE260.out | refine below_set ?_ GE286.out) | exact HB.out)⟩⟩
    case round =>
      clear H'
      try clear c1
      try clear c2
      try clear p2
      try clear c3
      try clear c7
      try clear c12
      try clear c19
      try clear c20
      try clear hcz21_0
      try clear hcz21_1
      try clear hcz21_2
      try clear hcz21_3
      try clear hcz22_0
      try clear hcz22_1
      try clear hcz8_0
      try clear hcz8_1
      try clear hfz21_0
      try clear hfz21_1
      try clear hfz21_2
      try clear hfz21_3
      try clear hfz22_0
      try clear hfz22_1
      try clear hfz8_0
      try clear hfz8_1
      obtain ⟨x17_1, x287000_1, u287000, rfl, HA, HK1, HO_287000, HO_287001, BK259, BK260, BK286, HB⟩ := hrel
      cases gk with
      | zero => exact absurd HA.out (by simp [impl_SysNew.l0])
      | succ k1 =>
        have H := HA.out
        clear HA
        simp only [impl_SysNew.l0] at H
        by_cases c23 : x17_1 < (l0_0.length : Int)
        · rw [if_pos c23] at H
          have c23b0 : decide (x17_1 < (l0_0.length : Int)) = true := decide_eq_true c23
          clear c23
          by_cases c24 : 0 ≤ x17_1
          · rw [if_pos c24] at H
            have c24b0 : decide (0 ≤ x17_1) = true := decide_eq_true c24
            clear c24
            by_cases c25 : x17_1 < (l0_0.length : Int)
            · rw [if_pos c25] at H
              have c25b0 : decide (x17_1 < (l0_0.length : Int)) = true := decide_eq_true c25
              clear c25
              by_cases c26 : x287000_1.length < 5864062014805
              · rw [if_pos c26] at H
                have LMc26 := Aside0.mk c26
                clear c26
                obtain ⟨y288, hy288⟩ : ∃ y_ : List (S69), y_ = (x287000_1 ++ [(⟨rd l0_0 x17_1, 0, (-1)⟩ : S69)]) := ⟨_, rfl⟩
                replace H : (impl_SysNew.l0 k1 l0_0 (l0_0.length : Int) (wrap64 (x17_1 + 1)) y288 y283 0) = some (r1, r2, r3, r4, r5) := by first | (rw [hy288]; with_reducible exact H) | (have H2_ := (Option.bind_some _ _).symm.trans H; rw [hy288]; with_reducible exact H2_) | (have H2_ := (Option.bind_some _ _).symm.trans H; with_reducible exact H2_) | with_reducible exact H | (rw [hy288]; exact H) | exact H
                have Ny288 := Aside0.mk hy288
                clear hy288
                have H' := Aside0.mk H
                clear H
                have p287 : 0 ≤ (x17_1 : Int) := of_decide_eq_true (by first | (with_reducible assumption) | assumption)
                have q287 : x17_1 < (l0_0.length : Int) := of_decide_eq_true (by first | (with_reducible assumption) | assumption)
                obtain ⟨ad287, e287, hx287_0⟩ := Kd.at_int HR0_0.out x17_1 p287 q287
                cases e287
                replace hx287_0 := (HB.out.cell (World.block_lt_of_cell? w _ hx287_0)).trans hx287_0
                replace p287 := eq_true p287
                replace q287 := eq_true q287
                have hnb27 := NB286_259.out
                have hnc27 := NB259_286.out
                have hnb28 := NB286_260.out
                have hnc28 := NB260_286.out
                have hcz29_0 : wr.cell? ⟨gb286, 0, none⟩ = some (u287000) := (blk_cell BK286.out 0).trans rfl
                have hcz29_1 : wr.cell? ⟨gb286, 1, none⟩ = some (.slice Ao17 y283.length co17) := (blk_cell BK286.out 1).trans rfl
                have hcz29_2 : wr.cell? ⟨gb286, 2, none⟩ = some (.int .i64 0) := (blk_cell BK286.out 2).trans rfl
                have hcz29_3 : wr.cell? ⟨gb286, 3, none⟩ = some (.slice none 0 0) := (blk_cell BK286.out 3).trans rfl
                have hfz29_0 := blk_frozen BK286.out 0
                have hfz29_1 := blk_frozen BK286.out 1
                have hfz29_2 := blk_frozen BK286.out 2
                have hfz29_3 := blk_frozen BK286.out 3
                go_wp2_with (first | ((with_reducible refine gate_builtin (b := .append) (xs := #[.tmp 22, .tmp 25]) rfl ?_); at_builtin; refine Kd.R_append k69 (w0 := w) w.heap.size rfl (.tmp 22) (.tmp 25) 27 69 (.agg #[(.int .i64 0), (.int .i64 0), (.int .i64 0)]) 24 rfl Try.underlying27 info69 rfl (by decide) (by omega) u287000 x287000_1 (⟨rd l0_0 x17_1, 0, (-1)⟩ : S69) [.int .i64 (rd l0_0 x17_1), .int .i64 0, .int .i64 (-1)] (fun k_ => (w.heap.size ≤ k_)) (fun _ => False) rfl rfl ?aP (fun _ hk => hk.elim) ?aF ?aO ?aB ?aS ?aL ?_; (case aP => exact k69_mkM _ _ _ (⟨rd l0_0 x17_1, 0, (-1)⟩ : S69)); (case aB => exact (by repeat (first | (with_reducible first | exact HB.out | apply below_alloc | apply pw_below_drewN | apply below_drew1 | refine below_set ?_ GE259.out | refine below_set ?_ GE260.out | refine below_set ?_ GE286.out) | exact HB.out))); (case aF => exact (fun k_ hk => (Nat.le_trans (below_size (by repeat (first | (with_reducible first | exact HB.out | apply below_alloc | apply pw_below_drewN | apply below_drew1 | refine below_set ?_ GE259.out | refine below_set ?_ GE260.out | refine below_set ?_ GE286.out) | exact HB.out))) hk))); (case aO => exact (by (with_reducible repeat (first | apply Kd.R_alloc | apply Kd.R_drewN | apply Kd.R_drew)); exact HO_287000.out)); (case aS => exact (below_size (by repeat (first | (with_reducible first | exact HB.out | apply below_alloc | apply pw_below_drewN | apply below_drew1 | refine below_set ?_ GE259.out | refine below_set ?_ GE260.out | refine below_set ?_ GE286.out) | exact HB.out)))); (case aL => have := LMc26.out; omega); intro v289 w30 ho hb hg hat; rw [← Ny288.out] at ho; have n0_ := Aside0.mk (Kd.R_after (ok := (fun k_ => (w.heap.size ≤ k_) ∧ k_ ≠ gb259 ∧ k_ ≠ gb260 ∧ k_ ≠ gb286)) (by (with_reducible repeat (first | apply Kd.R_alloc | apply Kd.R_drewN | apply Kd.R_drew)); exact Kd.R_mono HO_287001.out (fun _ hk => ⟨⟨hk.1, ⟨hk.2.2.1, ⟨hk.2.2.2.1, hk.2.2.2.2⟩⟩⟩, hk.2.1⟩)) hg hat); have n1_ := Aside0.mk (blk_grown (g := gb259) (o := .cells #[.slice (some ad287) l0_0.length c0_0, .slice A0_1 l0_1.length c0_1] 36 (0, 0)) (by (with_reducible repeat (first | refine blk_drewN ?_ _ | refine blk_drew ?_ | refine blk_alloc ?_ _)); exact BK259.out) hg (Kd.R_ne HO_287000.out BK259.out (by decide))); have n2_ := Aside0.mk (blk_grown (g := gb260) (o := .cells #[.slice none 0 0, .slice none 0 0, .int .i64 0, .slice none 0 0] 31 (0, 0)) (by (with_reducible repeat (first | refine blk_drewN ?_ _ | refine blk_drew ?_ | refine blk_alloc ?_ _)); exact BK260.out) hg (Kd.R_ne HO_287000.out BK260.out (by decide))); have n3_ := Aside0.mk (blk_grown (g := gb286) (o := .cells #[u287000, .slice Ao17 y283.length co17, .int .i64 0, .slice none 0 0] 31 (0, 0)) (by (with_reducible repeat (first | refine blk_drewN ?_ _ | refine blk_drew ?_ | refine blk_alloc ?_ _)); exact BK286.out) hg (Kd.R_ne HO_287000.out BK286.out (by decide))); have n4_ := Aside0.mk (hb); have n5_ := Aside0.mk (ho); clear HO_287001; clear BK259; clear BK260; clear BK286; clear HB; clear HO_287000; have HO_287001 := n0_; have BK259 := n1_; have BK260 := n2_; have BK286 := n3_; have HB := n4_; have HO290 := n5_; clear n0_ n1_ n2_ n3_ n4_ n5_; clear ho hb hg hat; obtain ⟨Ao31, co31, eo31⟩ := Kd.R_slice HO290.out; subst eo31; have hcz32_0 : w30.cell? ⟨gb286, 0, none⟩ = some (u287000) := (blk_cell BK286.out 0).trans rfl; have hcz32_1 : w30.cell? ⟨gb286, 1, none⟩ = some (.slice Ao17 y283.length co17) := (blk_cell BK286.out 1).trans rfl; have hcz32_2 : w30.cell? ⟨gb286, 2, none⟩ = some (.int .i64 0) := (blk_cell BK286.out 2).trans rfl; have hcz32_3 : w30.cell? ⟨gb286, 3, none⟩ = some (.slice none 0 0) := (blk_cell BK286.out 3).trans rfl; have hfz32_0 := blk_frozen BK286.out 0; have hfz32_1 := blk_frozen BK286.out 1; have hfz32_2 := blk_frozen BK286.out 2; have hfz32_3 := blk_frozen BK286.out 3))
                go_roundg k1
                case measure => have := HK1.out; omega
                case rel => exact ⟨(wrap64 (x17_1 + 1)), (y288), (.slice Ao31 y288.length co31), (by first | rfl | (simp; done) | (simp [*]; done)), H', ⟨by have := HK1.out; omega⟩, ⟨by (with_reducible repeat (first | apply Kd.R_alloc | apply Kd.R_drewN | apply Kd.R_drew)); exact Kd.R_mono (Kd.R_far (p := ⟨gb286, 0, none⟩) (Kd.R_types HO290.out BK286.out (by decide)) (fun _ hk => hk.2) (.slice Ao31 y288.length co31)) (fun _ hk => hk.1)⟩, ⟨by (with_reducible repeat (first | apply Kd.R_alloc | apply Kd.R_drewN | apply Kd.R_drew)); exact Kd.R_mono (Kd.R_far (p := ⟨gb286, 0, none⟩) (Kd.R_mono HO_287001.out (fun k_ hk => (⟨hk, hk.1.2.2.2⟩ : _ ∧ k_ ≠ gb286))) (fun _ hk => hk.2) (.slice Ao31 y288.length co31)) (fun _ hk => ⟨hk.1.1.1, ⟨hk.1.2, ⟨hk.1.1.2.1, ⟨hk.1.1.2.2.1, hk.1.1.2.2.2⟩⟩⟩⟩)⟩, ⟨by (with_reducible repeat (first | refine blk_drewN ?_ _ | refine blk_drew ?_ | refine blk_alloc ?_ _)); refine blk_far ?_ NB259_286.out _; (with_reducible repeat (first | refine blk_drewN ?_ _ | refine blk_drew ?_ | refine blk_alloc ?_ _)); exact BK259.out⟩, ⟨by (with_reducible repeat (first | refine blk_drewN ?_ _ | refine blk_drew ?_ | refine blk_alloc ?_ _)); refine blk_far ?_ NB260_286.out _; (with_reducible repeat (first | refine blk_drewN ?_ _ | refine blk_drew ?_ | refine blk_alloc ?_ _)); exact BK260.out⟩, ⟨by (with_reducible repeat (first | refine blk_drewN ?_ _ | refine blk_drew ?_ | refine blk_alloc ?_ _)); refine blk_put (cs := #[u287000, .slice Ao17 y283.length co17, .int .i64 0, .slice none 0 0]) ?_ 0 _ rfl; (with_reducible repeat (first | refine blk_drewN ?_ _ | refine blk_drew ?_ | refine blk_alloc ?_ _)); exact BK286.out⟩, ⟨by repeat (first | (with_reducible first | exact HB.out | apply below_alloc | apply pw_below_drewN | apply below_drew1 | refine below_set ?_ GE259.out | refine below_set ?_ GE260.out | refine below_set ?_ GE286.out) | exact HB.out)⟩⟩
              · rw [if_neg c26] at H
                exact absurd H (by simp)
            · rw [if_neg c25] at H
              exact absurd H (by simp)
          · rw [if_neg c24] at H
            exact absurd H (by simp)
        · rw [if_neg c23] at H
          have c23b0 : decide (x17_1 < (l0_0.length : Int)) = false := decide_eq_false c23
          clear c23
          simp only [Option.some.injEq, Prod.mk.injEq] at H
          obtain ⟨rfl, rfl, rfl, rfl, rfl⟩ := H
          have hnb33 := NB286_259.out
          have hnc33 := NB259_286.out
          have hnb34 := NB286_260.out
          have hnc34 := NB260_286.out
          have hcz35_0 : wr.cell? ⟨gb286, 0, none⟩ = some (u287000) := (blk_cell BK286.out 0).trans rfl
          have hcz35_1 : wr.cell? ⟨gb286, 1, none⟩ = some (.slice Ao17 y283.length co17) := (blk_cell BK286.out 1).trans rfl
          have hcz35_2 : wr.cell? ⟨gb286, 2, none⟩ = some (.int .i64 0) := (blk_cell BK286.out 2).trans rfl
          have hcz35_3 : wr.cell? ⟨gb286, 3, none⟩ = some (.slice none 0 0) := (blk_cell BK286.out 3).trans rfl
          have hfz35_0 := blk_frozen BK286.out 0
          have hfz35_1 := blk_frozen BK286.out 1
          have hfz35_2 := blk_frozen BK286.out 2
          have hfz35_3 := blk_frozen BK286.out 3
          obtain ⟨Ao36, co36, eo36⟩ := Kd.R_slice HO_287000.out
          subst eo36
          have hnb37 := NB260_259.out
          have hnc37 := NB259_260.out
          have hcz38_0 : wr.cell? ⟨gb260, 0, none⟩ = some (.slice none 0 0) := (blk_cell BK260.out 0).trans rfl
          have hcz38_1 : wr.cell? ⟨gb260, 1, none⟩ = some (.slice none 0 0) := (blk_cell BK260.out 1).trans rfl
          have hcz38_2 : wr.cell? ⟨gb260, 2, none⟩ = some (.int .i64 0) := (blk_cell BK260.out 2).trans rfl
          have hcz38_3 : wr.cell? ⟨gb260, 3, none⟩ = some (.slice none 0 0) := (blk_cell BK260.out 3).trans rfl
          have hfz38_0 := blk_frozen BK260.out 0
          have hfz38_1 := blk_frozen BK260.out 1
          have hfz38_2 := blk_frozen BK260.out 2
          have hfz38_3 := blk_frozen BK260.out 3
          go_wp2
          refine bodyPost_ret (results_ct rfl _ _ gb260 31 #[.slice Ao36 x287000_1.length co36, .slice Ao17 y283.length co17, .int .i64 0, .slice none 0 0] (0, 0) _ rfl (by (with_reducible repeat (first | refine blk_drewN ?_ _ | refine blk_drew ?_ | refine blk_alloc ?_ _)); refine blk_put (cs := #[.slice Ao36 x287000_1.length co36, .slice Ao17 y283.length co17, .int .i64 0, .slice none 0 0]) ?_ 3 _ rfl; (with_reducible repeat (first | refine blk_drewN ?_ _ | refine blk_drew ?_ | refine blk_alloc ?_ _)); refine blk_put (cs := #[.slice Ao36 x287000_1.length co36, .slice Ao17 y283.length co17, .int .i64 0, .slice none 0 0]) ?_ 2 _ rfl; (with_reducible repeat (first | refine blk_drewN ?_ _ | refine blk_drew ?_ | refine blk_alloc ?_ _)); refine blk_put (cs := #[.slice Ao36 x287000_1.length co36, .slice none 0 0, .int .i64 0, .slice none 0 0]) ?_ 1 _ rfl; (with_reducible repeat (first | refine blk_drewN ?_ _ | refine blk_drew ?_ | refine blk_alloc ?_ _)); refine blk_put (cs := #[.slice none 0 0, .slice none 0 0, .int .i64 0, .slice none 0 0]) ?_ 0 _ rfl; (with_reducible repeat (first | refine blk_drewN ?_ _ | refine blk_drew ?_ | refine blk_alloc ?_ _)); exact BK260.out) Try.underlying31 rfl (by kernel_rfl)) rfl ?_
          exact ⟨_, _, _, by first | rfl | (simp [errW_none, errW_some] <;> rfl) | (simp [*, errW_none, errW_some] <;> rfl), by (with_reducible repeat (first | apply Kd.R_alloc | apply Kd.R_drewN | apply Kd.R_drew)); exact Kd.R_mono (Kd.R_far (p := ⟨gb260, 3, none⟩) (Kd.R_far (p := ⟨gb260, 2, none⟩) (Kd.R_far (p := ⟨gb260, 1, none⟩) (Kd.R_far (p := ⟨gb260, 0, none⟩) (Kd.R_types HO_287000.out BK260.out (by decide)) (fun _ hk => hk.2) (.slice Ao36 x287000_1.length co36)) (fun _ hk => hk.2) (.slice Ao17 y283.length co17)) (fun _ hk => hk.2) (.int .i64 0)) (fun _ hk => hk.2) (.slice none 0 0)) (fun _ hk => hk.1), by (with_reducible repeat (first | apply Kd.R_alloc | apply Kd.R_drewN | apply Kd.R_drew)); exact Kd.R_mono (Kd.R_far (p := ⟨gb260, 3, none⟩) (Kd.R_far (p := ⟨gb260, 2, none⟩) (Kd.R_far (p := ⟨gb260, 1, none⟩) (Kd.R_far (p := ⟨gb260, 0, none⟩) (Kd.R_mono HO_287001.out (fun k_ hk => (⟨hk, hk.2.2.2.1⟩ : _ ∧ k_ ≠ gb260))) (fun _ hk => hk.2) (.slice Ao36 x287000_1.length co36)) (fun _ hk => hk.2) (.slice Ao17 y283.length co17)) (fun _ hk => hk.2) (.int .i64 0)) (fun _ hk => hk.2) (.slice none 0 0)) (fun _ hk => ⟨hk.1.1, ⟨hk.1.2.1, (by simp [Value.ownBlock])⟩⟩), by first | exact Kd.S_nil _ _ _ _ _ | exact Kd.N_nil _ _ _ _ _ | exact Kd.V_nil _ _ _ _ _ | exact Kd.Q_nil _ _ _ _ _ | exact Kd.R_nil _ _ _ _ _, by repeat (first | (with_reducible first | exact HB.out | apply below_alloc | apply pw_below_drewN | apply below_drew1 | refine below_set ?_ GE259.out | refine below_set ?_ GE260.out | refine below_set ?_ GE286.out) | exact HB.out)⟩
  · replace c3 := Bool.eq_false_iff.mpr c3
    subst c3
    have H1 : (some (([] : List (S69)), ([] : List (S66)), 0, ([] : List (S84)), false)) = some (r1, r2, r3, r4, r5) := by rw [if_neg (show ¬ (false = true) by decide)] at H; exact H
    clear H
    have H := H1
    clear H1
    simp only [Option.some.injEq, Prod.mk.injEq] at H
    obtain ⟨rfl, rfl, rfl, rfl, rfl⟩ := H
    go_enter Try.func12, Try.ntmps12
    go_wp2_with (first | ((with_reducible refine gate_dst (N := 1) rfl ?_); refine box_event ?hg (N := 1) ?hd (cs := #[.slice A0_0 l0_0.length c0_0, .slice A0_1 l0_1.length c0_1]) (t := 36) ?hr ?_; (case hd => rfl); (case hg => rfl); (case hr => first | (go_simp; done) | (go_simp; rfl)); intro gb259 hg w39 hbox hb; have n0_ := Aside0.mk (below_step (by repeat (first | (with_reducible first | exact HB.out | apply below_alloc | apply pw_below_drewN | apply below_drew1) | exact HB.out)) hb); have n1_ := Aside0.mk (hbox); have n2_ := Aside0.mk ((by rw [hg]; exact (below_size (by repeat (first | (with_reducible first | exact HB.out | apply below_alloc | apply pw_below_drewN | apply below_drew1) | exact HB.out))) : w.heap.size ≤ gb259)); have n3_ := Aside0.mk ((by rw [hg]; exact (below_size (by repeat (first | (with_reducible first | exact HB.out | apply below_alloc | apply pw_below_drewN | apply below_drew1) | exact HB.out))) : w.heap.size ≤ gb259)); clear HB; have HB := n0_; have BK259 := n1_; have GW259 := n2_; have GE259 := n3_; clear n0_ n1_ n2_ n3_; clear hb hbox hg) | ((with_reducible refine gate_dst (N := 2) rfl ?_); refine box_event ?hg (N := 2) ?hd (cs := #[.slice none 0 0, .slice none 0 0, .int .i64 0, .slice none 0 0]) (t := 31) ?hr ?_; (case hd => rfl); (case hg => rfl); (case hr => first | (go_simp; done) | (go_simp; rfl)); intro gb260 hg w40 hbox hb; have n0_ := Aside0.mk (blk_below (g := gb259) (o := .cells #[.slice A0_0 l0_0.length c0_0, .slice A0_1 l0_1.length c0_1] 36 (0, 0)) (by (with_reducible repeat (first | refine blk_drewN ?_ _ | refine blk_drew ?_ | refine blk_alloc ?_ _)); exact BK259.out) hb); have n1_ := Aside0.mk (below_step (by repeat (first | (with_reducible first | exact HB.out | apply below_alloc | apply pw_below_drewN | apply below_drew1 | refine below_set ?_ GE259.out) | exact HB.out)) hb); have n2_ := Aside0.mk (hbox); have n3_ := Aside0.mk ((by rw [hg]; exact (below_size (by repeat (first | (with_reducible first | exact HB.out | apply below_alloc | apply pw_below_drewN | apply below_drew1 | refine below_set ?_ GE259.out) | exact HB.out))) : w.heap.size ≤ gb260)); have n4_ := Aside0.mk ((by rw [hg]; exact (below_size (by repeat (first | (with_reducible first | exact HB.out | apply below_alloc | apply pw_below_drewN | apply below_drew1 | refine below_set ?_ GE259.out) | exact HB.out))) : w.heap.size ≤ gb260)); have n5_ := Aside0.mk ((by rw [hg]; exact Nat.ne_of_lt (blk_lt (g := gb259) (o := .cells #[.slice A0_0 l0_0.length c0_0, .slice A0_1 l0_1.length c0_1] 36 (0, 0)) (by (with_reducible repeat (first | refine blk_drewN ?_ _ | refine blk_drew ?_ | refine blk_alloc ?_ _)); exact BK259.out)) : gb259 ≠ gb260)); have n6_ := Aside0.mk ((by rw [hg]; exact Nat.ne_of_gt (blk_lt (g := gb259) (o := .cells #[.slice A0_0 l0_0.length c0_0, .slice A0_1 l0_1.length c0_1] 36 (0, 0)) (by (with_reducible repeat (first | refine blk_drewN ?_ _ | refine blk_drew ?_ | refine blk_alloc ?_ _)); exact BK259.out)) : gb260 ≠ gb259)); clear BK259; clear HB; have BK259 := n0_; have HB := n1_; have BK260 := n2_; have GW260 := n3_; have GE260 := n4_; have NB259_260 := n5_; have NB260_259 := n6_; clear n0_ n1_ n2_ n3_ n4_ n5_ n6_; clear hb hbox hg; have hnb41 := NB259_260.out; have hnc41 := NB260_259.out; have hcz42_0 : w40.cell? ⟨gb259, 0, none⟩ = some (.slice A0_0 l0_0.length c0_0) := (blk_cell BK259.out 0).trans rfl; have hcz42_1 : w40.cell? ⟨gb259, 1, none⟩ = some (.slice A0_1 l0_1.length c0_1) := (blk_cell BK259.out 1).trans rfl; have hfz42_0 := blk_frozen BK259.out 0; have hfz42_1 := blk_frozen BK259.out 1) | ((with_reducible refine gate_callee (f := 26) rfl ?_); refine goesL_ (some 8) rfl rfl Try.func26 (by kernel_rfl) rfl #[.agg #[.slice A0_0 l0_0.length c0_0, .slice A0_1 l0_1.length c0_1]] rfl (by (try simp only [List.map_toArray, List.map_cons, List.map_nil]); first | done | rfl | (simp only [List.length_drop, List.length_take]; rfl)) ?_; (with_reducible refine (impl_ProgOk.calls k _ _ l0_0 _ _ l0_1 false _ ?side1 ?side2 ?side3 ?side4 A2.out).mono ?_); (case side1 => repeat (first | exact (Kd.C_below HR0_0.out HB.out) | (with_reducible refine Kd.C_alloc ?_ _) | (with_reducible refine Kd.C_drewN ?_ _) | (with_reducible refine Kd.C_drew ?_))); (case side2 => exact HC0_0.out); (case side3 => repeat (first | exact (Kd.C_below HR0_1.out HB.out) | (with_reducible refine Kd.C_alloc ?_ _) | (with_reducible refine Kd.C_drewN ?_ _) | (with_reducible refine Kd.C_drew ?_))); (case side4 => exact HC0_1.out); rintro e w43 ⟨rfl, hb⟩; refine ⟨_, rfl, ?_⟩; have n0_ := Aside0.mk (blk_below (g := gb259) (o := .cells #[.slice A0_0 l0_0.length c0_0, .slice A0_1 l0_1.length c0_1] 36 (0, 0)) (by (with_reducible repeat (first | refine blk_drewN ?_ _ | refine blk_drew ?_ | refine blk_alloc ?_ _)); exact BK259.out) hb); have n1_ := Aside0.mk (blk_below (g := gb260) (o := .cells #[.slice none 0 0, .slice none 0 0, .int .i64 0, .slice none 0 0] 31 (0, 0)) (by (with_reducible repeat (first | refine blk_drewN ?_ _ | refine blk_drew ?_ | refine blk_alloc ?_ _)); exact BK260.out) hb); have n2_ := Aside0.mk (below_step (by repeat (first | (with_reducible first | exact HB.out | apply below_alloc | apply pw_below_drewN | apply below_drew1 | refine below_set ?_ GE259.out | refine below_set ?_ GE260.out) | exact HB.out)) hb); clear BK259; clear BK260; clear HB; have BK259 := n0_; have BK260 := n1_; have HB := n2_; clear n0_ n1_ n2_; (try clear hb); (try clear hb2); (try clear hk); (try clear hi); have hcz44_0 : w43.cell? ⟨gb260, 0, none⟩ = some (.slice none 0 0) := (blk_cell BK260.out 0).trans rfl; have hcz44_1 : w43.cell? ⟨gb260, 1, none⟩ = some (.slice none 0 0) := (blk_cell BK260.out 1).trans rfl; have hcz44_2 : w43.cell? ⟨gb260, 2, none⟩ = some (.int .i64 0) := (blk_cell BK260.out 2).trans rfl; have hcz44_3 : w43.cell? ⟨gb260, 3, none⟩ = some (.slice none 0 0) := (blk_cell BK260.out 3).trans rfl; have hfz44_0 := blk_frozen BK260.out 0; have hfz44_1 := blk_frozen BK260.out 1; have hfz44_2 := blk_frozen BK260.out 2; have hfz44_3 := blk_frozen BK260.out 3))
    refine bodyPost_ret (results_ct rfl _ _ gb260 31 #[.slice none 0 0, .slice none 0 0, .int .i64 0, .slice none 0 0] (0, 0) _ rfl (by (with_reducible repeat (first | refine blk_drewN ?_ _ | refine blk_drew ?_ | refine blk_alloc ?_ _)); refine blk_put (cs := #[.slice none 0 0, .slice none 0 0, .int .i64 0, .slice none 0 0]) ?_ 3 _ rfl; (with_reducible repeat (first | refine blk_drewN ?_ _ | refine blk_drew ?_ | refine blk_alloc ?_ _)); refine blk_put (cs := #[.slice none 0 0, .slice none 0 0, .int .i64 0, .slice none 0 0]) ?_ 2 _ rfl; (with_reducible repeat (first | refine blk_drewN ?_ _ | refine blk_drew ?_ | refine blk_alloc ?_ _)); refine blk_put (cs := #[.slice none 0 0, .slice none 0 0, .int .i64 0, .slice none 0 0]) ?_ 1 _ rfl; (with_reducible repeat (first | refine blk_drewN ?_ _ | refine blk_drew ?_ | refine blk_alloc ?_ _)); refine blk_put (cs := #[.slice none 0 0, .slice none 0 0, .int .i64 0, .slice none 0 0]) ?_ 0 _ rfl; (with_reducible repeat (first | refine blk_drewN ?_ _ | refine blk_drew ?_ | refine blk_alloc ?_ _)); exact BK260.out) Try.underlying31 rfl (by kernel_rfl)) rfl ?_
    exact ⟨_, _, _, by first | rfl | (simp [errW_none, errW_some] <;> rfl) | (simp [*, errW_none, errW_some] <;> rfl), by first | exact Kd.R_nil _ _ _ _ _ | exact Kd.N_nil _ _ _ _ _ | exact Kd.V_nil _ _ _ _ _ | exact Kd.Q_nil _ _ _ _ _ | exact Kd.S_nil _ _ _ _ _, by first | exact Kd.S_nil _ _ _ _ _ | exact Kd.N_nil _ _ _ _ _ | exact Kd.V_nil _ _ _ _ _ | exact Kd.Q_nil _ _ _ _ _ | exact Kd.R_nil _ _ _ _ _, by first | exact Kd.S_nil _ _ _ _ _ | exact Kd.N_nil _ _ _ _ _ | exact Kd.V_nil _ _ _ _ _ | exact Kd.Q_nil _ _ _ _ _ | exact Kd.R_nil _ _ _ _ _, by repeat (first | (with_reducible first | exact HB.out | apply below_alloc | apply pw_below_drewN | apply below_drew1 | refine below_set ?_ GE259.out | refine below_set ?_ GE260.out) | exact HB.out)⟩
end Go.Proofs.Ytoeepmcaabmjkaa.QSN
set_option linter.unusedSimpArgs false
set_option linter.unusedVariables false
namespace Go.Proofs.YtoeepmcaabmjkaaW.PrintWords
open Go.RowKit Go.Proofs.YtoeepmcaabmjkaaW.PrintLast Go.Proofs.YtoeepmcaabmjkaaW.PrintMore
set_option maxHeartbeats 2000000 in
set_option maxRecDepth 100000 in
theorem heldSys_ft (Q : Nat → Prop) (A0 : Option Addr) (n0 : Nat) (c0 : Nat) (A1 : Option Addr) (n1 : List F66) (c1 : Nat) (a0_2 : Int) (A3 : Option Addr) (n3 : List F84) (c3 : Nat) (a1 : Int) (w : World) (hs0 : ShR 3 w Q A0 n0) (hs1 : F66.Ok w Q A1 n1) (hs3 : F84.Ok w Q A3 n3) (hh : HoldsN w (footR A0 (n0 * 3) ++ (foot66 A1 n1 ++ (foot84 A3 n3))) a1) (h0 : 0 ≤ a1) (h1 : a1 + (footR A0 (n0 * 3) ++ (foot66 A1 n1 ++ (foot84 A3 n3))).length ≤ 9223372036854775807) :
    Calls Try.prog 17 #[.agg #[.slice A0 n0 c0, .slice A1 n1.length c1, .int .i64 a0_2, .slice A3 n3.length c3], .int .i64 a1] w fun e w' => e = .returned (.int .i64 (a1 + (footR A0 (n0 * 3) ++ (foot66 A1 n1 ++ (foot84 A3 n3))).length)) ∧ Below w.heap.size w w' := by
  have hB_ := below_alloc (Below.refl w.heap.size w) (.cells #[.slice A0 n0 c0, .slice A1 n1.length c1, .int .i64 a0_2, .slice A3 n3.length c3] 31)
  have HS0 := Aside0.mk (hs0.below hB_)
  have HS1 := Aside0.mk (hs1.below hB_)
  have HS3 := Aside0.mk (hs3.below hB_)
  clear hs0 hs1 hs3
  have hh_ := hh.below hB_
  simp only [HoldsN_append, List.length_append] at hh_ h1
  clear hh
  obtain ⟨o0, o1, o3⟩ := hh_
  have O0 := Aside0.mk o0
  clear o0
  have O1 := Aside0.mk o1
  clear o1
  have O3 := Aside0.mk o3
  clear o3
  have HB := Aside0.mk (And.intro h0 h1)
  clear h0 h1
  have hu3 := Try.underlying3
  have hu27 := Try.underlying27
  have hu28 := Try.underlying28
  have hu29 := Try.underlying29
  have hu31 := Try.underlying31
  have hb0 : (w.alloc (.cells #[.slice A0 n0 c0, .slice A1 n1.length c1, .int .i64 a0_2, .slice A3 n3.length c3] 31)).heap[w.heap.size]? = some (.cells #[.slice A0 n0 c0, .slice A1 n1.length c1, .int .i64 a0_2, .slice A3 n3.length c3] 31) := heap_alloc_new w _
  have HB0 := Aside0.mk hb0
  clear hb0
  have HBB := Aside0.mk hB_
  clear hB_
  go_enter Try.func17, Try.ntmps17
  go_wp2_with fail
  refine (heldCellS_ft Q _ _ _ _ _ HS0.out (HoldsN.cast O0.out (by have := HB.out; omega)) (by have := HB.out; omega) (by have := HB.out; omega)).mono ?_
  rintro e w1 ⟨rfl, rfl⟩
  obtain ⟨m1, hm1⟩ : ∃ m_, m_ = a1 + ((footR A0 (n0 * 3)).length : Int) := ⟨_, rfl⟩
  rw [← hm1]
  have HM1 := Aside0.mk hm1
  clear hm1
  have t0 : decide (m1 < 0) = false := decide_eq_false (by have := HB.out; have := HM1.out; omega)
  have t1 : (m1 < 0) = False := eq_false (by have := HB.out; have := HM1.out; omega)
  go_wp2_with fail
  refine (heldTaskS_ft Q _ _ _ _ _ HS1.out (HoldsN.cast O1.out (by have := HB.out; have := HM1.out; omega)) (by have := HB.out; have := HM1.out; omega) (by have := HB.out; have := HM1.out; omega)).mono ?_
  rintro e w2 ⟨rfl, rfl⟩
  obtain ⟨m2, hm2⟩ : ∃ m_, m_ = m1 + ((foot66 A1 n1).length : Int) := ⟨_, rfl⟩
  rw [← hm2]
  have HM2 := Aside0.mk hm2
  clear hm2
  clear t0 t1
  have t0 : decide (m2 < 0) = false := decide_eq_false (by have := HB.out; have := HM1.out; have := HM2.out; omega)
  have t1 : (m2 < 0) = False := eq_false (by have := HB.out; have := HM1.out; have := HM2.out; omega)
  go_wp2_with fail
  refine (heldEntryS_ft Q _ _ _ _ _ HS3.out (HoldsN.cast O3.out (by have := HB.out; have := HM1.out; have := HM2.out; omega)) (by have := HB.out; have := HM1.out; have := HM2.out; omega) (by have := HB.out; have := HM1.out; have := HM2.out; omega)).mono ?_
  rintro e w3 ⟨rfl, rfl⟩
  obtain ⟨m3, hm3⟩ : ∃ m_, m_ = m2 + ((foot84 A3 n3).length : Int) := ⟨_, rfl⟩
  rw [← hm3]
  have HM3 := Aside0.mk hm3
  clear hm3
  clear t0 t1
  have t0 : decide (m3 < 0) = false := decide_eq_false (by have := HB.out; have := HM1.out; have := HM2.out; have := HM3.out; omega)
  have t1 : (m3 < 0) = False := eq_false (by have := HB.out; have := HM1.out; have := HM2.out; have := HM3.out; omega)
  go_wp2
  go_ret
  refine ⟨?_, HBB.out⟩
  have e_ : m3 = a1 + ((footR A0 (n0 * 3) ++ (foot66 A1 n1 ++ (foot84 A3 n3))).length : Int) := by have := HB.out; have := HM1.out; have := HM2.out; have := HM3.out; simp only [List.length_append]; omega
  rw [← e_]
  try rfl
set_option maxHeartbeats 2000000 in
set_option maxRecDepth 100000 in
theorem markSys_ft (Q : Nat → Prop) (A0 : Option Addr) (n0 : Nat) (c0 : Nat) (A1 : Option Addr) (n1 : List F66) (c1 : Nat) (a0_2 : Int) (A3 : Option Addr) (n3 : List F84) (c3 : Nat) (a1 : Int) (w : World) (hs0 : ShR 3 w Q A0 n0) (hs1 : F66.Ok w Q A1 n1) (hs3 : F84.Ok w Q A3 n3) :
    Calls Try.prog 16 #[.agg #[.slice A0 n0 c0, .slice A1 n1.length c1, .int .i64 a0_2, .slice A3 n3.length c3], .int .i64 a1] w fun e w' => e = .returned (.int .i64 (mkI (footR A0 (n0 * 3) ++ (foot66 A1 n1 ++ (foot84 A3 n3))).length a1)) ∧ w' = jot (footR A0 (n0 * 3) ++ (foot66 A1 n1 ++ (foot84 A3 n3))) a1 (w.alloc (.cells #[.slice A0 n0 c0, .slice A1 n1.length c1, .int .i64 a0_2, .slice A3 n3.length c3] 31)) ∧ IntsOnly Q (w.alloc (.cells #[.slice A0 n0 c0, .slice A1 n1.length c1, .int .i64 a0_2, .slice A3 n3.length c3] 31)) w' := by
  have hB_ := below_alloc (Below.refl w.heap.size w) (.cells #[.slice A0 n0 c0, .slice A1 n1.length c1, .int .i64 a0_2, .slice A3 n3.length c3] 31)
  have HS0 := Aside0.mk (hs0.below hB_)
  have HS1 := Aside0.mk (hs1.below hB_)
  have HS3 := Aside0.mk (hs3.below hB_)
  clear hs0 hs1 hs3
  have hu3 := Try.underlying3
  have hu27 := Try.underlying27
  have hu28 := Try.underlying28
  have hu29 := Try.underlying29
  have hu31 := Try.underlying31
  have hb0 : (w.alloc (.cells #[.slice A0 n0 c0, .slice A1 n1.length c1, .int .i64 a0_2, .slice A3 n3.length c3] 31)).heap[w.heap.size]? = some (.cells #[.slice A0 n0 c0, .slice A1 n1.length c1, .int .i64 a0_2, .slice A3 n3.length c3] 31) := heap_alloc_new w _
  have HB0 := Aside0.mk hb0
  clear hb0
  have hi0 := Aside0.mk (show IntsOnly Q (w.alloc (.cells #[.slice A0 n0 c0, .slice A1 n1.length c1, .int .i64 a0_2, .slice A3 n3.length c3] 31)) (w.alloc (.cells #[.slice A0 n0 c0, .slice A1 n1.length c1, .int .i64 a0_2, .slice A3 n3.length c3] 31)) from IntsOnly.refl _ _)
  clear hB_
  go_enter Try.func16, Try.ntmps16
  go_wp2_with fail
  refine (markCellS_ft Q _ _ _ _ _ (HS0.out.step hi0.out)).mono ?_
  rintro e w1 ⟨rfl, hj1_, h1_⟩
  have HJ1 := Aside0.mk hj1_
  have hi1 := Aside0.mk (IntsOnly.trans hi0.out h1_)
  clear h1_ hj1_
  have hc1_ : w1.cell? ⟨w.heap.size, 1, none⟩ = some (.slice A1 n1.length c1) := hi1.out.other _ _ ((blk_cell HB0.out 1).trans rfl) (by intro z; simp)
  have hc3_ : w1.cell? ⟨w.heap.size, 3, none⟩ = some (.slice A3 n3.length c3) := hi1.out.other _ _ ((blk_cell HB0.out 3).trans rfl) (by intro z; simp)
  go_wp2_with fail
  refine (markTaskS_ft Q _ _ _ _ _ (HS1.out.step hi1.out)).mono ?_
  rintro e w2 ⟨rfl, hj2_, h2_⟩
  have HJ2 := Aside0.mk hj2_
  have hi2 := Aside0.mk (IntsOnly.trans hi1.out h2_)
  clear h2_ hj2_
  clear hc3_
  have hc3_ : w2.cell? ⟨w.heap.size, 3, none⟩ = some (.slice A3 n3.length c3) := hi2.out.other _ _ ((blk_cell HB0.out 3).trans rfl) (by intro z; simp)
  try clear hc1_
  go_wp2_with fail
  refine (markEntryS_ft Q _ _ _ _ _ (HS3.out.step hi2.out)).mono ?_
  rintro e w3 ⟨rfl, hj3_, h3_⟩
  have HJ3 := Aside0.mk hj3_
  have hi3 := Aside0.mk (IntsOnly.trans hi2.out h3_)
  clear h3_ hj3_
  try clear hc3_
  go_wp2
  go_ret
  refine ⟨?_, ?_, hi3.out⟩
  · simp only [List.length_append, mkI_add, Nat.mul_one]
    rfl
  · have j1_ := HJ1.out
    subst j1_
    have j2_ := HJ2.out
    subst j2_
    have j3_ := HJ3.out
    subst j3_
    simp only [jot_append, Nat.mul_one]
end Go.Proofs.YtoeepmcaabmjkaaW.PrintWords
set_option linter.unusedVariables false
namespace Go.Proofs.Ytoeepmcaabmjkaa.QSN
open Go.RowKit Go.Proofs.YtoeepmcaabmjkaaW.PrintWords Go.Proofs.YtoeepmcaabmjkaaW.PrintLast Go.Proofs.YtoeepmcaabmjkaaW.PrintMore
def SysP (w : World) (base N : Nat) (v0 v1 : Value) (C : List S69) (T : List S66) : Prop :=
  Kd.R k69 69 w base (fun k => some k = v0.ownBlock ∧ k < N) v0 C ∧ Kd.S k66a 66 w base (fun k => some k ≠ v0.ownBlock ∧ k < N) v1 T
theorem SysP.step {w w1 : World} {base N : Nat} {v0 v1 : Value} {C : List S69} {T : List S66} (h : SysP w base N v0 v1 C T) (hm : ∀ k, base ≤ k → k < w.heap.size → w1.heap[k]? = w.heap[k]?) : SysP w1 base N v0 v1 C T :=
  ⟨Kd.R_mono (Kd.R_move (Kd.R_bound h.1) (fun k hk => hm k hk.2.1 hk.2.2.1)) (fun _ hk => hk.1), Kd.S_mono (Kd.S_move (Kd.S_bound h.2) (fun k hk => hm k hk.2.1 hk.2.2.1)) (fun _ hk => hk.1)⟩
theorem SysP.below {w w1 : World} {base N : Nat} {v0 v1 : Value} {C : List S69} {T : List S66} (h : SysP w base N v0 v1 C T) (hb : Below w.heap.size w w1) : SysP w1 base N v0 v1 C T := h.step (fun k _ hk => hb.block k hk)
theorem few {w : World} {base : Nat} {ok : Nat → Prop} {v : Value} {xs : List S66} (h : k66a.R 66 w base ok v xs) (hl : xs.length ≤ 1) : Kd.S k66a 66 w base ok v xs := by
  rcases xs with _ | ⟨x, _ | ⟨y, l⟩⟩
  · obtain ⟨h0, inner, ho, hr⟩ := h
    exact ⟨fun _ => 0, h0, inner, ho, hr.1, fun j p hj => by simp at hj⟩
  · exact k66a_one h
  · exact absurd hl (by simp)
theorem SysP.of {w : World} {base : Nat} {P P1 : Nat → Prop} {v0 v1 : Value} {C : List S69} {T : List S66} (h0 : Kd.R k69 69 w base P v0 C) (h1 : Kd.R k66a 66 w base P1 v1 T) (hP : ∀ k, P1 k → some k ≠ v0.ownBlock) (hT : T.length ≤ 1) : SysP w base w.heap.size v0 v1 C T :=
  ⟨Kd.R_mono (Kd.R_bound (Kd.R_tight rfl h0)) (fun k hk => ⟨hk.1, hk.2.2.1⟩), few (Kd.R_mono (Kd.R_bound h1) (fun k hk => ⟨hP k hk.1, hk.2.2.1⟩)) hT⟩
theorem SysP.foot {w : World} {base N n0 c0 n1 c1 : Nat} {A0 A1 : Option Addr} {C : List S69} {T : List S66} (h : SysP w base N (.slice A0 n0 c0) (.slice A1 n1 c1) C T) :
    ∃ F : List F66, F.length = T.length ∧ ShR 3 w (fun k => base ≤ k ∧ k < N) A0 C.length ∧ F66.Ok w (fun k => base ≤ k ∧ k < N) A1 F ∧ ∀ A3 : Option Addr, (footR A0 (C.length * 3) ++ (foot66 A1 F ++ foot84 A3 [])).Nodup ∧ (footR A0 (C.length * 3) ++ (foot66 A1 F ++ foot84 A3 [])).length = C.length * 3 + cnt66 T ∧ (∀ a ∈ footR A0 (C.length * 3) ++ (foot66 A1 F ++ foot84 A3 []), IsI (w.cell? a)) := by
  have hint : ∀ {w : World} {base : Nat} {ok : Nat → Prop} {x : S69} {cs : List Value}, k69.M w base ok x cs → ∀ u ∈ cs, ∃ z : Int, u = .int .i64 z := by
    intro w base ok x cs h u hu
    rw [k69_openM h] at hu
    simp only [List.mem_cons, List.not_mem_nil, or_false] at hu
    rcases hu with rfl | rfl | rfl <;> exact ⟨_, rfl⟩
  obtain ⟨_, s0⟩ := ShR_of_R h.1 (by decide) z69 hint
  obtain ⟨_, F, hF, s1, hL, hN⟩ := ok66a h.2
  have s0' : ShR 3 w (fun k_ => (some k_ = (Value.slice A0 n0 c0).ownBlock ∧ k_ < N) ∧ base ≤ k_) A0 C.length := s0
  refine ⟨F, hF, s0'.mono (fun k hk => ⟨hk.2, hk.1.2⟩), s1.mono (fun k hk => ⟨hk.2, hk.1.2⟩), fun A3 => ?_⟩
  have e3 : foot84 A3 [] = [] := by cases A3 <;> rfl
  rw [e3, List.append_nil]
  have l0 : (footR A0 (C.length * 3)).length = C.length * 3 := s0'.len
  refine ⟨List.nodup_append.2 ⟨footR_nodup _ _, hN, fun a ha b hb hab => ?_⟩, by rw [List.length_append, l0, hL], fun a ha => ?_⟩
  · subst hab
    exact (s1.foot a hb).1.1.1 (s0'.foot a ha).1.1.1
  · rcases List.mem_append.1 ha with ha | ha
    · exact (s0'.foot a ha).2
    · exact (s1.foot a ha).2
theorem C_none {α : Type} (d : Kd α) (w : World) (A : Option Addr) : d.C w A ([] : List α).length [] := ⟨rfl, Nat.zero_le _, fun h => absurd h (Nat.lt_irrefl 0)⟩
end Go.Proofs.Ytoeepmcaabmjkaa.QSN
