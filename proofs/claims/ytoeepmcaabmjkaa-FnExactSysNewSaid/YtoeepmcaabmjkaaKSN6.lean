/- Part 6 of what FnExactSysNew leans on: contracts of Go functions, and plain lemmas, each under its own premises. Put together by wip/tools/pack.py. -/
import Derived.Test.YtoeepmcaabmjkaaKSN0
import Derived.Test.YtoeepmcaabmjkaaKSN1
import Derived.Test.YtoeepmcaabmjkaaKSN2
import Derived.Test.YtoeepmcaabmjkaaKSN3
import Derived.Test.YtoeepmcaabmjkaaKSN4
import Derived.Test.YtoeepmcaabmjkaaKSN5
namespace Go.Proofs.Ytoeepmcaabmjkaa.QSN
open Go.RowKit Go.Proofs.YtoeepmcaabmjkaaW.PrintWords Go.Proofs.YtoeepmcaabmjkaaW.PrintLast Go.Proofs.YtoeepmcaabmjkaaW.PrintMore
attribute [local go_sem] max2_int min2_int max_two min_two max_three min_three max_four min_four   -- for this text's walks alone
set_option linter.unusedVariables false
set_option linter.unusedSimpArgs false
def laws_eqDeed.f (a0_0 : Int) (a0_1 : Int) (a0_2 : Int) (a1_0 : Int) (a1_1 : Int) (a1_2 : Int) : Option (Bool) := if a0_0 = a1_0 then (if a0_1 = a1_1 then (if a0_2 = a1_2 then (some true) else (some false)) else (some false)) else (some false)
set_option maxHeartbeats 8000000 in
set_option maxRecDepth 100000 in
theorem laws_eqDeed.calls (a0_0 : Int) (a0_1 : Int) (a0_2 : Int) (a1_0 : Int) (a1_1 : Int) (a1_2 : Int) (r : Bool) (w : World) (h : laws_eqDeed.f a0_0 a0_1 a0_2 a1_0 a1_1 a1_2 = some r) :
    Calls Try.prog 111 #[.agg #[.int .i64 a0_0, .int .i64 a0_1, .int .i64 a0_2], .agg #[.int .i64 a1_0, .int .i64 a1_1, .int .i64 a1_2]] w fun e w' => e = .returned (.bool r) ∧ Below w.heap.size w w' := by
  have hu122 := Try.underlying122
  have HB := Aside0.mk (Below.refl w.heap.size w)
  have H : (if a0_0 = a1_0 then (if a0_1 = a1_1 then (if a0_2 = a1_2 then (some true) else (some false)) else (some false)) else (some false)) = some r := h
  clear h
  by_cases c3 : a0_0 = a1_0
  · rw [if_pos c3] at H
    have c3b0 : (a0_0 == a1_0) = true := beq_iff_eq.mpr c3
    have c3b1 : (a0_0 != a1_0) = false := bne_eq_false_iff_eq.mpr c3
    clear c3
    by_cases c4 : a0_1 = a1_1
    · rw [if_pos c4] at H
      have c4b0 : (a0_1 == a1_1) = true := beq_iff_eq.mpr c4
      have c4b1 : (a0_1 != a1_1) = false := bne_eq_false_iff_eq.mpr c4
      clear c4
      by_cases c5 : a0_2 = a1_2
      · rw [if_pos c5] at H
        have c5b0 : (a0_2 == a1_2) = true := beq_iff_eq.mpr c5
        have c5b1 : (a0_2 != a1_2) = false := bne_eq_false_iff_eq.mpr c5
        clear c5
        obtain rfl := Option.some.inj H
        go_enter Try.func111, Try.ntmps111
        go_wp2_with (first | ((with_reducible refine gate_dst (N := 2) rfl ?_); refine box_event ?hg (N := 2) ?hd (cs := #[.int .i64 a0_0, .int .i64 a0_1, .int .i64 a0_2]) (t := 122) ?hr ?_; (case hd => rfl); (case hg => rfl); (case hr => first | (go_simp; done) | (go_simp; rfl)); intro gb295 hg w6 hbox hb; have n0_ := Aside0.mk (below_step (by repeat (first | (with_reducible first | exact HB.out | apply below_alloc | apply pw_below_drewN | apply below_drew1) | exact HB.out)) hb); have n1_ := Aside0.mk (hbox); have n2_ := Aside0.mk ((by rw [hg]; exact (below_size (by repeat (first | (with_reducible first | exact HB.out | apply below_alloc | apply pw_below_drewN | apply below_drew1) | exact HB.out))) : w.heap.size ≤ gb295)); have n3_ := Aside0.mk ((by rw [hg]; exact (below_size (by repeat (first | (with_reducible first | exact HB.out | apply below_alloc | apply pw_below_drewN | apply below_drew1) | exact HB.out))) : w.heap.size ≤ gb295)); clear HB; have HB := n0_; have BK295 := n1_; have GW295 := n2_; have GE295 := n3_; clear n0_ n1_ n2_ n3_; clear hb hbox hg) | ((with_reducible refine gate_dst (N := 3) rfl ?_); refine box_event ?hg (N := 3) ?hd (cs := #[.int .i64 a1_0, .int .i64 a1_1, .int .i64 a1_2]) (t := 122) ?hr ?_; (case hd => rfl); (case hg => rfl); (case hr => first | (go_simp; done) | (go_simp; rfl)); intro gb296 hg w7 hbox hb; have n0_ := Aside0.mk (blk_below (g := gb295) (o := .cells #[.int .i64 a0_0, .int .i64 a0_1, .int .i64 a0_2] 122 (0, 0)) (by (with_reducible repeat (first | refine blk_drewN ?_ _ | refine blk_drew ?_ | refine blk_alloc ?_ _)); exact BK295.out) hb); have n1_ := Aside0.mk (below_step (by repeat (first | (with_reducible first | exact HB.out | apply below_alloc | apply pw_below_drewN | apply below_drew1 | refine below_set ?_ GE295.out) | exact HB.out)) hb); have n2_ := Aside0.mk (hbox); have n3_ := Aside0.mk ((by rw [hg]; exact (below_size (by repeat (first | (with_reducible first | exact HB.out | apply below_alloc | apply pw_below_drewN | apply below_drew1 | refine below_set ?_ GE295.out) | exact HB.out))) : w.heap.size ≤ gb296)); have n4_ := Aside0.mk ((by rw [hg]; exact (below_size (by repeat (first | (with_reducible first | exact HB.out | apply below_alloc | apply pw_below_drewN | apply below_drew1 | refine below_set ?_ GE295.out) | exact HB.out))) : w.heap.size ≤ gb296)); have n5_ := Aside0.mk ((by rw [hg]; exact Nat.ne_of_lt (blk_lt (g := gb295) (o := .cells #[.int .i64 a0_0, .int .i64 a0_1, .int .i64 a0_2] 122 (0, 0)) (by (with_reducible repeat (first | refine blk_drewN ?_ _ | refine blk_drew ?_ | refine blk_alloc ?_ _)); exact BK295.out)) : gb295 ≠ gb296)); have n6_ := Aside0.mk ((by rw [hg]; exact Nat.ne_of_gt (blk_lt (g := gb295) (o := .cells #[.int .i64 a0_0, .int .i64 a0_1, .int .i64 a0_2] 122 (0, 0)) (by (with_reducible repeat (first | refine blk_drewN ?_ _ | refine blk_drew ?_ | refine blk_alloc ?_ _)); exact BK295.out)) : gb296 ≠ gb295)); clear BK295; clear HB; have BK295 := n0_; have HB := n1_; have BK296 := n2_; have GW296 := n3_; have GE296 := n4_; have NB295_296 := n5_; have NB296_295 := n6_; clear n0_ n1_ n2_ n3_ n4_ n5_ n6_; clear hb hbox hg; have hnb8 := NB295_296.out; have hnc8 := NB296_295.out; have hcz9_0 : w7.cell? ⟨gb295, 0, none⟩ = some (.int .i64 a0_0) := (blk_cell BK295.out 0).trans rfl; have hcz9_1 : w7.cell? ⟨gb295, 1, none⟩ = some (.int .i64 a0_1) := (blk_cell BK295.out 1).trans rfl; have hcz9_2 : w7.cell? ⟨gb295, 2, none⟩ = some (.int .i64 a0_2) := (blk_cell BK295.out 2).trans rfl; have hfz9_0 := blk_frozen BK295.out 0; have hfz9_1 := blk_frozen BK295.out 1; have hfz9_2 := blk_frozen BK295.out 2; have hcz10_0 : w7.cell? ⟨gb296, 0, none⟩ = some (.int .i64 a1_0) := (blk_cell BK296.out 0).trans rfl; have hcz10_1 : w7.cell? ⟨gb296, 1, none⟩ = some (.int .i64 a1_1) := (blk_cell BK296.out 1).trans rfl; have hcz10_2 : w7.cell? ⟨gb296, 2, none⟩ = some (.int .i64 a1_2) := (blk_cell BK296.out 2).trans rfl; have hfz10_0 := blk_frozen BK296.out 0; have hfz10_1 := blk_frozen BK296.out 1; have hfz10_2 := blk_frozen BK296.out 2))
        go_ret
        exact ⟨by first | rfl | (simp [errW_none, errW_some] <;> rfl) | (simp [*, errW_none, errW_some] <;> rfl), by repeat (first | (with_reducible first | exact HB.out | apply below_alloc | apply pw_below_drewN | apply below_drew1 | refine below_set ?_ GE295.out | refine below_set ?_ GE296.out) | exact HB.out)⟩
      · rw [if_neg c5] at H
        have c5b0 : (a0_2 == a1_2) = false := beq_eq_false_iff_ne.mpr c5
        have c5b1 : (a0_2 != a1_2) = true := bne_iff_ne.mpr c5
        obtain rfl := Option.some.inj H
        go_enter Try.func111, Try.ntmps111
        go_wp2_with (first | ((with_reducible refine gate_dst (N := 2) rfl ?_); refine box_event ?hg (N := 2) ?hd (cs := #[.int .i64 a0_0, .int .i64 a0_1, .int .i64 a0_2]) (t := 122) ?hr ?_; (case hd => rfl); (case hg => rfl); (case hr => first | (go_simp; done) | (go_simp; rfl)); intro gb295 hg w11 hbox hb; have n0_ := Aside0.mk (below_step (by repeat (first | (with_reducible first | exact HB.out | apply below_alloc | apply pw_below_drewN | apply below_drew1) | exact HB.out)) hb); have n1_ := Aside0.mk (hbox); have n2_ := Aside0.mk ((by rw [hg]; exact (below_size (by repeat (first | (with_reducible first | exact HB.out | apply below_alloc | apply pw_below_drewN | apply below_drew1) | exact HB.out))) : w.heap.size ≤ gb295)); have n3_ := Aside0.mk ((by rw [hg]; exact (below_size (by repeat (first | (with_reducible first | exact HB.out | apply below_alloc | apply pw_below_drewN | apply below_drew1) | exact HB.out))) : w.heap.size ≤ gb295)); clear HB; have HB := n0_; have BK295 := n1_; have GW295 := n2_; have GE295 := n3_; clear n0_ n1_ n2_ n3_; clear hb hbox hg) | ((with_reducible refine gate_dst (N := 3) rfl ?_); refine box_event ?hg (N := 3) ?hd (cs := #[.int .i64 a1_0, .int .i64 a1_1, .int .i64 a1_2]) (t := 122) ?hr ?_; (case hd => rfl); (case hg => rfl); (case hr => first | (go_simp; done) | (go_simp; rfl)); intro gb296 hg w12 hbox hb; have n0_ := Aside0.mk (blk_below (g := gb295) (o := .cells #[.int .i64 a0_0, .int .i64 a0_1, .int .i64 a0_2] 122 (0, 0)) (by (with_reducible repeat (first | refine blk_drewN ?_ _ | refine blk_drew ?_ | refine blk_alloc ?_ _)); exact BK295.out) hb); have n1_ := Aside0.mk (below_step (by repeat (first | (with_reducible first | exact HB.out | apply below_alloc | apply pw_below_drewN | apply below_drew1 | refine below_set ?_ GE295.out) | exact HB.out)) hb); have n2_ := Aside0.mk (hbox); have n3_ := Aside0.mk ((by rw [hg]; exact (below_size (by repeat (first | (with_reducible first | exact HB.out | apply below_alloc | apply pw_below_drewN | apply below_drew1 | refine below_set ?_ GE295.out) | exact HB.out))) : w.heap.size ≤ gb296)); have n4_ := Aside0.mk ((by rw [hg]; exact (below_size (by repeat (first | (with_reducible first | exact HB.out | apply below_alloc | apply pw_below_drewN | apply below_drew1 | refine below_set ?_ GE295.out) | exact HB.out))) : w.heap.size ≤ gb296)); have n5_ := Aside0.mk ((by rw [hg]; exact Nat.ne_of_lt (blk_lt (g := gb295) (o := .cells #[.int .i64 a0_0, .int .i64 a0_1, .int .i64 a0_2] 122 (0, 0)) (by (with_reducible repeat (first | refine blk_drewN ?_ _ | refine blk_drew ?_ | refine blk_alloc ?_ _)); exact BK295.out)) : gb295 ≠ gb296)); have n6_ := Aside0.mk ((by rw [hg]; exact Nat.ne_of_gt (blk_lt (g := gb295) (o := .cells #[.int .i64 a0_0, .int .i64 a0_1, .int .i64 a0_2] 122 (0, 0)) (by (with_reducible repeat (first | refine blk_drewN ?_ _ | refine blk_drew ?_ | refine blk_alloc ?_ _)); exact BK295.out)) : gb296 ≠ gb295)); clear BK295; clear HB; have BK295 := n0_; have HB := n1_; have BK296 := n2_; have GW296 := n3_; have GE296 := n4_; have NB295_296 := n5_; have NB296_295 := n6_; clear n0_ n1_ n2_ n3_ n4_ n5_ n6_; clear hb hbox hg; have hnb13 := NB295_296.out; have hnc13 := NB296_295.out; have hcz14_0 : w12.cell? ⟨gb295, 0, none⟩ = some (.int .i64 a0_0) := (blk_cell BK295.out 0).trans rfl; have hcz14_1 : w12.cell? ⟨gb295, 1, none⟩ = some (.int .i64 a0_1) := (blk_cell BK295.out 1).trans rfl; have hcz14_2 : w12.cell? ⟨gb295, 2, none⟩ = some (.int .i64 a0_2) := (blk_cell BK295.out 2).trans rfl; have hfz14_0 := blk_frozen BK295.out 0; have hfz14_1 := blk_frozen BK295.out 1; have hfz14_2 := blk_frozen BK295.out 2; have hcz15_0 : w12.cell? ⟨gb296, 0, none⟩ = some (.int .i64 a1_0) := (blk_cell BK296.out 0).trans rfl; have hcz15_1 : w12.cell? ⟨gb296, 1, none⟩ = some (.int .i64 a1_1) := (blk_cell BK296.out 1).trans rfl; have hcz15_2 : w12.cell? ⟨gb296, 2, none⟩ = some (.int .i64 a1_2) := (blk_cell BK296.out 2).trans rfl; have hfz15_0 := blk_frozen BK296.out 0; have hfz15_1 := blk_frozen BK296.out 1; have hfz15_2 := blk_frozen BK296.out 2))
        go_ret
        exact ⟨by first | rfl | (simp [errW_none, errW_some] <;> rfl) | (simp [*, errW_none, errW_some] <;> rfl), by repeat (first | (with_reducible first | exact HB.out | apply below_alloc | apply pw_below_drewN | apply below_drew1 | refine below_set ?_ GE295.out | refine below_set ?_ GE296.out) | exact HB.out)⟩
    · rw [if_neg c4] at H
      have c4b0 : (a0_1 == a1_1) = false := beq_eq_false_iff_ne.mpr c4
      have c4b1 : (a0_1 != a1_1) = true := bne_iff_ne.mpr c4
      obtain rfl := Option.some.inj H
      go_enter Try.func111, Try.ntmps111
      go_wp2_with (first | ((with_reducible refine gate_dst (N := 2) rfl ?_); refine box_event ?hg (N := 2) ?hd (cs := #[.int .i64 a0_0, .int .i64 a0_1, .int .i64 a0_2]) (t := 122) ?hr ?_; (case hd => rfl); (case hg => rfl); (case hr => first | (go_simp; done) | (go_simp; rfl)); intro gb295 hg w16 hbox hb; have n0_ := Aside0.mk (below_step (by repeat (first | (with_reducible first | exact HB.out | apply below_alloc | apply pw_below_drewN | apply below_drew1) | exact HB.out)) hb); have n1_ := Aside0.mk (hbox); have n2_ := Aside0.mk ((by rw [hg]; exact (below_size (by repeat (first | (with_reducible first | exact HB.out | apply below_alloc | apply pw_below_drewN | apply below_drew1) | exact HB.out))) : w.heap.size ≤ gb295)); have n3_ := Aside0.mk ((by rw [hg]; exact (below_size (by repeat (first | (with_reducible first | exact HB.out | apply below_alloc | apply pw_below_drewN | apply below_drew1) | exact HB.out))) : w.heap.size ≤ gb295)); clear HB; have HB := n0_; have BK295 := n1_; have GW295 := n2_; have GE295 := n3_; clear n0_ n1_ n2_ n3_; clear hb hbox hg) | ((with_reducible refine gate_dst (N := 3) rfl ?_); refine box_event ?hg (N := 3) ?hd (cs := #[.int .i64 a1_0, .int .i64 a1_1, .int .i64 a1_2]) (t := 122) ?hr ?_; (case hd => rfl); (case hg => rfl); (case hr => first | (go_simp; done) | (go_simp; rfl)); intro gb296 hg w17 hbox hb; have n0_ := Aside0.mk (blk_below (g := gb295) (o := .cells #[.int .i64 a0_0, .int .i64 a0_1, .int .i64 a0_2] 122 (0, 0)) (by (with_reducible repeat (first | refine blk_drewN ?_ _ | refine blk_drew ?_ | refine blk_alloc ?_ _)); exact BK295.out) hb); have n1_ := Aside0.mk (below_step (by repeat (first | (with_reducible first | exact HB.out | apply below_alloc | apply pw_below_drewN | apply below_drew1 | refine below_set ?_ GE295.out) | exact HB.out)) hb); have n2_ := Aside0.mk (hbox); have n3_ := Aside0.mk ((by rw [hg]; exact (below_size (by repeat (first | (with_reducible first | exact HB.out | apply below_alloc | apply pw_below_drewN | apply below_drew1 | refine below_set ?_ GE295.out) | exact HB.out))) : w.heap.size ≤ gb296)); have n4_ := Aside0.mk ((by rw [hg]; exact (below_size (by repeat (first | (with_reducible first | exact HB.out | apply below_alloc | apply pw_below_drewN | apply below_drew1 | refine below_set ?_ GE295.out) | exact HB.out))) : w.heap.size ≤ gb296)); have n5_ := Aside0.mk ((by rw [hg]; exact Nat.ne_of_lt (blk_lt (g := gb295) (o := .cells #[.int .i64 a0_0, .int .i64 a0_1, .int .i64 a0_2] 122 (0, 0)) (by (with_reducible repeat (first | refine blk_drewN ?_ _ | refine blk_drew ?_ | refine blk_alloc ?_ _)); exact BK295.out)) : gb295 ≠ gb296)); have n6_ := Aside0.mk ((by rw [hg]; exact Nat.ne_of_gt (blk_lt (g := gb295) (o := .cells #[.int .i64 a0_0, .int .i64 a0_1, .int .i64 a0_2] 122 (0, 0)) (by (with_reducible repeat (first | refine blk_drewN ?_ _ | refine blk_drew ?_ | refine blk_alloc ?_ _)); exact BK295.out)) : gb296 ≠ gb295)); clear BK295; clear HB; have BK295 := n0_; have HB := n1_; have BK296 := n2_; have GW296 := n3_; have GE296 := n4_; have NB295_296 := n5_; have NB296_295 := n6_; clear n0_ n1_ n2_ n3_ n4_ n5_ n6_; clear hb hbox hg; have hnb18 := NB295_296.out; have hnc18 := NB296_295.out; have hcz19_0 : w17.cell? ⟨gb295, 0, none⟩ = some (.int .i64 a0_0) := (blk_cell BK295.out 0).trans rfl; have hcz19_1 : w17.cell? ⟨gb295, 1, none⟩ = some (.int .i64 a0_1) := (blk_cell BK295.out 1).trans rfl; have hcz19_2 : w17.cell? ⟨gb295, 2, none⟩ = some (.int .i64 a0_2) := (blk_cell BK295.out 2).trans rfl; have hfz19_0 := blk_frozen BK295.out 0; have hfz19_1 := blk_frozen BK295.out 1; have hfz19_2 := blk_frozen BK295.out 2; have hcz20_0 : w17.cell? ⟨gb296, 0, none⟩ = some (.int .i64 a1_0) := (blk_cell BK296.out 0).trans rfl; have hcz20_1 : w17.cell? ⟨gb296, 1, none⟩ = some (.int .i64 a1_1) := (blk_cell BK296.out 1).trans rfl; have hcz20_2 : w17.cell? ⟨gb296, 2, none⟩ = some (.int .i64 a1_2) := (blk_cell BK296.out 2).trans rfl; have hfz20_0 := blk_frozen BK296.out 0; have hfz20_1 := blk_frozen BK296.out 1; have hfz20_2 := blk_frozen BK296.out 2))
      go_ret
      exact ⟨by first | rfl | (simp [errW_none, errW_some] <;> rfl) | (simp [*, errW_none, errW_some] <;> rfl), by repeat (first | (with_reducible first | exact HB.out | apply below_alloc | apply pw_below_drewN | apply below_drew1 | refine below_set ?_ GE295.out | refine below_set ?_ GE296.out) | exact HB.out)⟩
  · rw [if_neg c3] at H
    have c3b0 : (a0_0 == a1_0) = false := beq_eq_false_iff_ne.mpr c3
    have c3b1 : (a0_0 != a1_0) = true := bne_iff_ne.mpr c3
    obtain rfl := Option.some.inj H
    go_enter Try.func111, Try.ntmps111
    go_wp2_with (first | ((with_reducible refine gate_dst (N := 2) rfl ?_); refine box_event ?hg (N := 2) ?hd (cs := #[.int .i64 a0_0, .int .i64 a0_1, .int .i64 a0_2]) (t := 122) ?hr ?_; (case hd => rfl); (case hg => rfl); (case hr => first | (go_simp; done) | (go_simp; rfl)); intro gb295 hg w21 hbox hb; have n0_ := Aside0.mk (below_step (by repeat (first | (with_reducible first | exact HB.out | apply below_alloc | apply pw_below_drewN | apply below_drew1) | exact HB.out)) hb); have n1_ := Aside0.mk (hbox); have n2_ := Aside0.mk ((by rw [hg]; exact (below_size (by repeat (first | (with_reducible first | exact HB.out | apply below_alloc | apply pw_below_drewN | apply below_drew1) | exact HB.out))) : w.heap.size ≤ gb295)); have n3_ := Aside0.mk ((by rw [hg]; exact (below_size (by repeat (first | (with_reducible first | exact HB.out | apply below_alloc | apply pw_below_drewN | apply below_drew1) | exact HB.out))) : w.heap.size ≤ gb295)); clear HB; have HB := n0_; have BK295 := n1_; have GW295 := n2_; have GE295 := n3_; clear n0_ n1_ n2_ n3_; clear hb hbox hg) | ((with_reducible refine gate_dst (N := 3) rfl ?_); refine box_event ?hg (N := 3) ?hd (cs := #[.int .i64 a1_0, .int .i64 a1_1, .int .i64 a1_2]) (t := 122) ?hr ?_; (case hd => rfl); (case hg => rfl); (case hr => first | (go_simp; done) | (go_simp; rfl)); intro gb296 hg w22 hbox hb; have n0_ := Aside0.mk (blk_below (g := gb295) (o := .cells #[.int .i64 a0_0, .int .i64 a0_1, .int .i64 a0_2] 122 (0, 0)) (by (with_reducible repeat (first | refine blk_drewN ?_ _ | refine blk_drew ?_ | refine blk_alloc ?_ _)); exact BK295.out) hb); have n1_ := Aside0.mk (below_step (by repeat (first | (with_reducible first | exact HB.out | apply below_alloc | apply pw_below_drewN | apply below_drew1 | refine below_set ?_ GE295.out) | exact HB.out)) hb); have n2_ := Aside0.mk (hbox); have n3_ := Aside0.mk ((by rw [hg]; exact (below_size (by repeat (first | (with_reducible first | exact HB.out | apply below_alloc | apply pw_below_drewN | apply below_drew1 | refine below_set ?_ GE295.out) | exact HB.out))) : w.heap.size ≤ gb296)); have n4_ := Aside0.mk ((by rw [hg]; exact (below_size (by repeat (first | (with_reducible first | exact HB.out | apply below_alloc | apply pw_below_drewN | apply below_drew1 | refine below_set ?_ GE295.out) | exact HB.out))) : w.heap.size ≤ gb296)); have n5_ := Aside0.mk ((by rw [hg]; exact Nat.ne_of_lt (blk_lt (g := gb295) (o := .cells #[.int .i64 a0_0, .int .i64 a0_1, .int .i64 a0_2] 122 (0, 0)) (by (with_reducible repeat (first | refine blk_drewN ?_ _ | refine blk_drew ?_ | refine blk_alloc ?_ _)); exact BK295.out)) : gb295 ≠ gb296)); have n6_ := Aside0.mk ((by rw [hg]; exact Nat.ne_of_gt (blk_lt (g := gb295) (o := .cells #[.int .i64 a0_0, .int .i64 a0_1, .int .i64 a0_2] 122 (0, 0)) (by (with_reducible repeat (first | refine blk_drewN ?_ _ | refine blk_drew ?_ | refine blk_alloc ?_ _)); exact BK295.out)) : gb296 ≠ gb295)); clear BK295; clear HB; have BK295 := n0_; have HB := n1_; have BK296 := n2_; have GW296 := n3_; have GE296 := n4_; have NB295_296 := n5_; have NB296_295 := n6_; clear n0_ n1_ n2_ n3_ n4_ n5_ n6_; clear hb hbox hg; have hnb23 := NB295_296.out; have hnc23 := NB296_295.out; have hcz24_0 : w22.cell? ⟨gb295, 0, none⟩ = some (.int .i64 a0_0) := (blk_cell BK295.out 0).trans rfl; have hcz24_1 : w22.cell? ⟨gb295, 1, none⟩ = some (.int .i64 a0_1) := (blk_cell BK295.out 1).trans rfl; have hcz24_2 : w22.cell? ⟨gb295, 2, none⟩ = some (.int .i64 a0_2) := (blk_cell BK295.out 2).trans rfl; have hfz24_0 := blk_frozen BK295.out 0; have hfz24_1 := blk_frozen BK295.out 1; have hfz24_2 := blk_frozen BK295.out 2; have hcz25_0 : w22.cell? ⟨gb296, 0, none⟩ = some (.int .i64 a1_0) := (blk_cell BK296.out 0).trans rfl; have hcz25_1 : w22.cell? ⟨gb296, 1, none⟩ = some (.int .i64 a1_1) := (blk_cell BK296.out 1).trans rfl; have hcz25_2 : w22.cell? ⟨gb296, 2, none⟩ = some (.int .i64 a1_2) := (blk_cell BK296.out 2).trans rfl; have hfz25_0 := blk_frozen BK296.out 0; have hfz25_1 := blk_frozen BK296.out 1; have hfz25_2 := blk_frozen BK296.out 2))
    go_ret
    exact ⟨by first | rfl | (simp [errW_none, errW_some] <;> rfl) | (simp [*, errW_none, errW_some] <;> rfl), by repeat (first | (with_reducible first | exact HB.out | apply below_alloc | apply pw_below_drewN | apply below_drew1 | refine below_set ?_ GE295.out | refine below_set ?_ GE296.out) | exact HB.out)⟩
def laws_eqDeedS.f (k : Nat) (l0 : List S122) (l1 : List S122) : Option Bool := if l0 = l1 then some true else none
set_option maxHeartbeats 4000000 in
set_option maxRecDepth 100000 in
theorem laws_eqDeedS.calls (k : Nat) (A0 : Option Addr) (c0 : Nat) (l0 : List S122) (A1 : Option Addr) (c1 : Nat) (l1 : List S122) (r : Bool) (w : World) (hr0 : Kd.C k122 w A0 l0.length l0) (hc0 : l0.length ≤ c0) (hr1 : Kd.C k122 w A1 l1.length l1) (hc1 : l1.length ≤ c1) (h : laws_eqDeedS.f k l0 l1 = some r) :
    Calls Try.prog 108 #[.slice A0 l0.length c0, .slice A1 l1.length c1] w fun e w' => e = .returned (.bool r) ∧ Below w.heap.size w w' := by
  unfold laws_eqDeedS.f at h
  by_cases c : l0 = l1
  case neg => rw [if_neg c] at h; cases h
  rw [if_pos c] at h
  obtain rfl := Option.some.inj h
  subst c
  clear h
  have HM := Aside0.mk (show l0.length ≤ 9223372036854775807 from hr0.2.1)
  have HR0 := Aside0.mk hr0
  have HC0 := Aside0.mk hc0
  have HR1 := Aside0.mk hr1
  have HC1 := Aside0.mk hc1
  clear hr0 hc0 hr1 hc1
  have HB := Aside0.mk (Below.refl w.heap.size w)
  have d0 : ((l0.length : Int) != (l0.length : Int)) = false := by simp
  have d1 : (l0.length != l0.length) = false := by simp
  have hu3 := Try.underlying3
  have hu122 := Try.underlying122
  go_enter Try.func108, Try.ntmps108
  go_wp2
  go_loopw [5] (fun v5 wr => ∃ x : Int, v5 = .int .i64 x ∧ Aside0 (0 ≤ x ∧ x ≤ (l0.length : Nat)) ∧ Aside0 (Below w.heap.size w wr)) (fun v5 _ => l0.length - (intOf v5).toNat)
  case atStart => exact ⟨0, rfl, ⟨by omega, by omega⟩, HB⟩
  case round =>
    clear HB
    obtain ⟨x, rfl, HX, HB⟩ := hrel
    by_cases c0 : x < ((l0.length : Nat) : Int)
    · have c0b : decide (x < ((l0.length : Nat) : Int)) = true := decide_eq_true c0
      have hx0 := HX.out.1
      obtain ⟨ad0, e0, y0_0, y0_1, y0_2⟩ := at_T122 (Kd.C_below HR0.out HB.out) x hx0 c0
      obtain ⟨ad1, e1, y1_0, y1_1, y1_2⟩ := at_T122 (Kd.C_below HR1.out HB.out) x hx0 c0
      cases e0
      cases e1
      obtain ⟨p, hp⟩ : ∃ p, p = rd_T122 l0 x := ⟨_, rfl⟩
      rw [← hp] at y0_0 y0_1 y0_2 y1_0 y1_1 y1_2
      clear hp
      have HS := Aside0.mk (show ∀ w', Below wr.heap.size wr w' → (Below wr.heap.size wr w' ∧ w'.cell? (ad0.add (x.toNat * 3)) = some (.int .i64 p.f0) ∧ w'.cell? ⟨(ad0.add (x.toNat * 3)).block, (ad0.add (x.toNat * 3)).off + 1, none⟩ = some (.int .i64 p.f1) ∧ w'.cell? ⟨(ad0.add (x.toNat * 3)).block, (ad0.add (x.toNat * 3)).off + 2, none⟩ = some (.int .i64 p.f2) ∧ w'.cell? (ad1.add (x.toNat * 3)) = some (.int .i64 p.f0) ∧ w'.cell? ⟨(ad1.add (x.toNat * 3)).block, (ad1.add (x.toNat * 3)).off + 1, none⟩ = some (.int .i64 p.f1) ∧ w'.cell? ⟨(ad1.add (x.toNat * 3)).block, (ad1.add (x.toNat * 3)).off + 2, none⟩ = some (.int .i64 p.f2)) from fun w' hb => ⟨hb, pw_cell_below hb y0_0, pw_cell_below hb y0_1, pw_cell_below hb y0_2, pw_cell_below hb y1_0, pw_cell_below hb y1_1, pw_cell_below hb y1_2⟩)
      have HP := Aside0.mk c0
      have p0 := eq_true hx0
      have p1 := eq_true c0
      clear c0 hx0 y0_0 y0_1 y0_2 y1_0 y1_1 y1_2
      have HE := Aside0.mk (show laws_eqDeed.f p.f0 p.f1 p.f2 p.f0 p.f1 p.f2 = some true by simp [laws_eqDeed.f])
      obtain ⟨sb, s0_0, s0_1, s0_2, s1_0, s1_1, s1_2⟩ := HS.out wr (Below.refl _ _)
      go_wp2_with fail
      go_region_held3 (fun w' => Below wr.heap.size wr w' ∧ w'.cell? (ad0.add (x.toNat * 3)) = some (.int .i64 p.f0) ∧ w'.cell? ⟨(ad0.add (x.toNat * 3)).block, (ad0.add (x.toNat * 3)).off + 1, none⟩ = some (.int .i64 p.f1) ∧ w'.cell? ⟨(ad0.add (x.toNat * 3)).block, (ad0.add (x.toNat * 3)).off + 2, none⟩ = some (.int .i64 p.f2) ∧ w'.cell? (ad1.add (x.toNat * 3)) = some (.int .i64 p.f0) ∧ w'.cell? ⟨(ad1.add (x.toNat * 3)).block, (ad1.add (x.toNat * 3)).off + 1, none⟩ = some (.int .i64 p.f1) ∧ w'.cell? ⟨(ad1.add (x.toNat * 3)).block, (ad1.add (x.toNat * 3)).off + 2, none⟩ = some (.int .i64 p.f2)) (first | exact HS.out _ (below_drew (Below.refl _ _)) | exact HS.out _ (Below.refl _ _) | (refine HS.out _ ?_; first | exact below_step (And.left (by assumption)) (by assumption) | exact And.left (by assumption)) | go_keep) (first | (go_at_call 111; refine (laws_eqDeed.calls p.f0 p.f1 p.f2 p.f0 p.f1 p.f2 true _  HE.out).mono ?_; rintro e wz ⟨rfl, hz_⟩))
      go_wp2
      go_roundw
      case rel =>
        have e1 : (wrap64 (x + 1)) = x + 1 := by have h1 := HX.out.1; have h2 := HP.out; have h3 := HM.out; unfold wrap64; omega
        refine ⟨_, rfl, ⟨?_⟩, ⟨?_⟩⟩
        · rw [e1]; exact ⟨by have := HX.out.1; omega, by have := HP.out; omega⟩
        · exact below_step HB.out (And.left (by assumption))
      case measure =>
        have h1 := HX.out.1
        have h2 := HP.out
        have h3 := HM.out
        have e1 : (wrap64 (x + 1)) = x + 1 := by unfold wrap64; omega
        rw [e1]
        simp [intOf]
        omega
    · have c0b : decide (x < ((l0.length : Nat) : Int)) = false := decide_eq_false c0
      clear c0
      go_wp2
      go_ret
      exact ⟨rfl, HB.out⟩
def laws_eqAct.f (k : Nat) (a0_0 : Int) (l0_1 : List S122) (l0_2 : List Int) (a0_3 : Int) (a1_0 : Int) (l1_1 : List S122) (l1_2 : List Int) (a1_3 : Int) : Option Bool := if a0_0 = a1_0 ∧ l0_1 = l1_1 ∧ l0_2 = l1_2 ∧ a0_3 = a1_3 then ((laws_eqDeedS.f k l0_1 l0_1).bind fun b1 => (if b1 = true then ((laws_eqIntS.f k l0_2 l0_2).bind fun b2 => (if b2 = true then (some true) else (none))) else (none))) else none
set_option maxHeartbeats 4000000 in
set_option maxRecDepth 100000 in
theorem laws_eqAct.calls (k : Nat) (a0_0 : Int) (A0_1 : Option Addr) (c0_1 : Nat) (l0_1 : List S122) (A0_2 : Option Addr) (c0_2 : Nat) (l0_2 : List Int) (a0_3 : Int) (a1_0 : Int) (A1_1 : Option Addr) (c1_1 : Nat) (l1_1 : List S122) (A1_2 : Option Addr) (c1_2 : Nat) (l1_2 : List Int) (a1_3 : Int) (r : Bool) (w : World) (hr0_1 : Kd.C k122 w A0_1 l0_1.length l0_1) (hc0_1 : l0_1.length ≤ c0_1) (hr0_2 : Kd.C (Kd.int .i64) w A0_2 l0_2.length l0_2) (hc0_2 : l0_2.length ≤ c0_2) (hr1_1 : Kd.C k122 w A1_1 l1_1.length l1_1) (hc1_1 : l1_1.length ≤ c1_1) (hr1_2 : Kd.C (Kd.int .i64) w A1_2 l1_2.length l1_2) (hc1_2 : l1_2.length ≤ c1_2) (h : laws_eqAct.f k a0_0 l0_1 l0_2 a0_3 a1_0 l1_1 l1_2 a1_3 = some r) :
    Calls Try.prog 94 #[.agg #[.int .i64 a0_0, .slice A0_1 l0_1.length c0_1, .slice A0_2 l0_2.length c0_2, .int .i64 a0_3], .agg #[.int .i64 a1_0, .slice A1_1 l1_1.length c1_1, .slice A1_2 l1_2.length c1_2, .int .i64 a1_3]] w fun e w' => e = .returned (.bool r) ∧ Below w.heap.size w w' := by
  unfold laws_eqAct.f at h
  by_cases c : a0_0 = a1_0 ∧ l0_1 = l1_1 ∧ l0_2 = l1_2 ∧ a0_3 = a1_3
  case neg => rw [if_neg c] at h; cases h
  rw [if_pos c] at h
  obtain ⟨rfl, rfl, rfl, rfl⟩ := c
  obtain ⟨b1, hq1, h⟩ := Option.bind_eq_some_iff.1 h
  cases b1 with
  | false => simp at h
  | true =>
  rw [if_pos rfl] at h
  have HQ1 := Aside0.mk hq1
  clear hq1
  obtain ⟨b2, hq2, h⟩ := Option.bind_eq_some_iff.1 h
  cases b2 with
  | false => simp at h
  | true =>
  rw [if_pos rfl] at h
  have HQ2 := Aside0.mk hq2
  clear hq2
  obtain rfl := Option.some.inj h
  clear h
  have HR0_1 := Aside0.mk hr0_1
  have HC0_1 := Aside0.mk hc0_1
  clear hr0_1 hc0_1
  have HR0_2 := Aside0.mk hr0_2
  have HC0_2 := Aside0.mk hc0_2
  clear hr0_2 hc0_2
  have HR1_1 := Aside0.mk hr1_1
  have HC1_1 := Aside0.mk hc1_1
  clear hr1_1 hc1_1
  have HR1_2 := Aside0.mk hr1_2
  have HC1_2 := Aside0.mk hc1_2
  clear hr1_2 hc1_2
  have hu3 := Try.underlying3
  have hu22 := Try.underlying22
  have hu55 := Try.underlying55
  have hu57 := Try.underlying57
  have HL0 := Aside0.mk (show Below w.heap.size w ((w.alloc (.cells #[.int .i64 a0_0, .slice A0_1 l0_1.length c0_1, .slice A0_2 l0_2.length c0_2, .int .i64 a0_3] 57)).alloc (.cells #[.int .i64 a0_0, .slice A1_1 l0_1.length c1_1, .slice A1_2 l0_2.length c1_2, .int .i64 a0_3] 57)) from below_alloc (below_alloc (Below.refl _ _) _) _)
  have HZ0 := Aside0.mk (show w.heap.size + 2 ≤ ((w.alloc (.cells #[.int .i64 a0_0, .slice A0_1 l0_1.length c0_1, .slice A0_2 l0_2.length c0_2, .int .i64 a0_3] 57)).alloc (.cells #[.int .i64 a0_0, .slice A1_1 l0_1.length c1_1, .slice A1_2 l0_2.length c1_2, .int .i64 a0_3] 57)).heap.size by simp)
  have HA0 := Aside0.mk (show ((w.alloc (.cells #[.int .i64 a0_0, .slice A0_1 l0_1.length c0_1, .slice A0_2 l0_2.length c0_2, .int .i64 a0_3] 57)).alloc (.cells #[.int .i64 a0_0, .slice A1_1 l0_1.length c1_1, .slice A1_2 l0_2.length c1_2, .int .i64 a0_3] 57)).heap[w.heap.size]? = some (.cells #[.int .i64 a0_0, .slice A0_1 l0_1.length c0_1, .slice A0_2 l0_2.length c0_2, .int .i64 a0_3] 57 (0, 0)) from blk_alloc (heap_alloc_new w _) _)
  have HD0 := Aside0.mk (show ((w.alloc (.cells #[.int .i64 a0_0, .slice A0_1 l0_1.length c0_1, .slice A0_2 l0_2.length c0_2, .int .i64 a0_3] 57)).alloc (.cells #[.int .i64 a0_0, .slice A1_1 l0_1.length c1_1, .slice A1_2 l0_2.length c1_2, .int .i64 a0_3] 57)).heap[w.heap.size + 1]? = some (.cells #[.int .i64 a0_0, .slice A1_1 l0_1.length c1_1, .slice A1_2 l0_2.length c1_2, .int .i64 a0_3] 57 (0, 0)) from by have := heap_alloc_new (w.alloc (.cells #[.int .i64 a0_0, .slice A0_1 l0_1.length c0_1, .slice A0_2 l0_2.length c0_2, .int .i64 a0_3] 57)) (.cells #[.int .i64 a0_0, .slice A1_1 l0_1.length c1_1, .slice A1_2 l0_2.length c1_2, .int .i64 a0_3] 57); simpa using this)
  go_enter Try.func94, Try.ntmps94
  go_wp2_with fail
  refine (laws_eqDeedS.calls k _ _ _ _ _ _ true _ (Kd.C_below HR0_1.out HL0.out) HC0_1.out (Kd.C_below HR1_1.out HL0.out) HC1_1.out HQ1.out).mono ?_
  rintro e w1 ⟨rfl, hb_⟩
  have hb0 : Below _ _ w1 := (by first | exact hb_ | exact hb_.below)
  clear hb_
  have HL1 := Aside0.mk (show Below w.heap.size w w1 from below_then HL0.out HL0.out.size hb0)
  have HZ1 := Aside0.mk (Nat.le_trans HZ0.out hb0.size)
  have HA1 := Aside0.mk ((hb0.block _ (by have := HZ0.out; omega)).trans HA0.out)
  have HD1 := Aside0.mk ((hb0.block _ (by have := HZ0.out; omega)).trans HD0.out)
  clear hb0
  have hx2 : w1.cell? ⟨w.heap.size, 2, none⟩ = some (.slice A0_2 l0_2.length c0_2) := (blk_cell HA1.out 2).trans rfl
  have hy2 : w1.cell? ⟨w.heap.size + 1, 2, none⟩ = some (.slice A1_2 l0_2.length c1_2) := (blk_cell HD1.out 2).trans rfl
  have hx3 : w1.cell? ⟨w.heap.size, 3, none⟩ = some (.int .i64 a0_3) := (blk_cell HA1.out 3).trans rfl
  have hy3 : w1.cell? ⟨w.heap.size + 1, 3, none⟩ = some (.int .i64 a0_3) := (blk_cell HD1.out 3).trans rfl
  go_wp2_with fail
  refine (laws_eqIntS.calls k _ _ _ _ _ _ true _ (Kd.C_below HR0_2.out HL1.out) HC0_2.out (Kd.C_below HR1_2.out HL1.out) HC1_2.out HQ2.out).mono ?_
  rintro e w2 ⟨rfl, hb_⟩
  have hb1 : Below _ _ w2 := (by first | exact hb_ | exact hb_.below)
  clear hb_
  have HL2 := Aside0.mk (show Below w.heap.size w w2 from below_then HL1.out HL1.out.size hb1)
  have HZ2 := Aside0.mk (Nat.le_trans HZ1.out hb1.size)
  have HA2 := Aside0.mk ((hb1.block _ (by have := HZ1.out; omega)).trans HA1.out)
  have HD2 := Aside0.mk ((hb1.block _ (by have := HZ1.out; omega)).trans HD1.out)
  clear hb1
  clear hx3 hy3
  clear hx2 hy2
  have hx3 : w2.cell? ⟨w.heap.size, 3, none⟩ = some (.int .i64 a0_3) := (blk_cell HA2.out 3).trans rfl
  have hy3 : w2.cell? ⟨w.heap.size + 1, 3, none⟩ = some (.int .i64 a0_3) := (blk_cell HD2.out 3).trans rfl
  go_wp2
  go_ret
  exact ⟨rfl, HL2.out⟩
def laws_eqActS.f (k : Nat) (l0 : List S57) (l1 : List S57) : Option Bool := if l0 = l1 then some true else none
set_option maxHeartbeats 4000000 in
set_option maxRecDepth 100000 in
theorem laws_eqActS.calls (k : Nat) (A0 : Option Addr) (c0 : Nat) (l0 : List S57) (A1 : Option Addr) (c1 : Nat) (l1 : List S57) (r : Bool) (w : World) (hr0 : Kd.C k57 w A0 l0.length l0) (hc0 : l0.length ≤ c0) (hr1 : Kd.C k57 w A1 l1.length l1) (hc1 : l1.length ≤ c1) (h : laws_eqActS.f k l0 l1 = some r) :
    Calls Try.prog 75 #[.slice A0 l0.length c0, .slice A1 l1.length c1] w fun e w' => e = .returned (.bool r) ∧ Below w.heap.size w w' := by
  unfold laws_eqActS.f at h
  by_cases c : l0 = l1
  case neg => rw [if_neg c] at h; cases h
  rw [if_pos c] at h
  obtain rfl := Option.some.inj h
  subst c
  clear h
  have HM := Aside0.mk (show l0.length ≤ 9223372036854775807 from hr0.2.1)
  have HR0 := Aside0.mk hr0
  have HC0 := Aside0.mk hc0
  have HR1 := Aside0.mk hr1
  have HC1 := Aside0.mk hc1
  clear hr0 hc0 hr1 hc1
  have HB := Aside0.mk (Below.refl w.heap.size w)
  have d0 : ((l0.length : Int) != (l0.length : Int)) = false := by simp
  have d1 : (l0.length != l0.length) = false := by simp
  have hu3 := Try.underlying3
  have hu22 := Try.underlying22
  have hu55 := Try.underlying55
  have hu57 := Try.underlying57
  go_enter Try.func75, Try.ntmps75
  go_wp2
  go_loopw [5] (fun v5 wr => ∃ x : Int, v5 = .int .i64 x ∧ Aside0 (0 ≤ x ∧ x ≤ (l0.length : Nat)) ∧ Aside0 (Below w.heap.size w wr)) (fun v5 _ => l0.length - (intOf v5).toNat)
  case atStart => exact ⟨0, rfl, ⟨by omega, by omega⟩, HB⟩
  case round =>
    clear HB
    obtain ⟨x, rfl, HX, HB⟩ := hrel
    by_cases c0 : x < ((l0.length : Nat) : Int)
    · have c0b : decide (x < ((l0.length : Nat) : Int)) = true := decide_eq_true c0
      have hx0 := HX.out.1
      obtain ⟨ad0, B0_1, b0_1, B0_2, b0_2, e0, y0_0, y0_1, y0_2, y0_3, u0_1, g0_1, u0_2, g0_2⟩ := at_T57 (Kd.C_below HR0.out HB.out) x hx0 c0
      obtain ⟨ad1, B1_1, b1_1, B1_2, b1_2, e1, y1_0, y1_1, y1_2, y1_3, u1_1, g1_1, u1_2, g1_2⟩ := at_T57 (Kd.C_below HR1.out HB.out) x hx0 c0
      cases e0
      cases e1
      obtain ⟨p, hp⟩ : ∃ p, p = rd_T57 l0 x := ⟨_, rfl⟩
      rw [← hp] at y0_0 y0_1 y0_2 y0_3 y1_0 y1_1 y1_2 y1_3 u0_1 g0_1 u0_2 g0_2 u1_1 g1_1 u1_2 g1_2
      clear hp
      have HS := Aside0.mk (show ∀ w', Below wr.heap.size wr w' → (Below wr.heap.size wr w' ∧ w'.cell? (ad0.add (x.toNat * 4)) = some (.int .i64 p.f0) ∧ w'.cell? ⟨(ad0.add (x.toNat * 4)).block, (ad0.add (x.toNat * 4)).off + 1, none⟩ = some (.slice B0_1 p.f1.length b0_1) ∧ w'.cell? ⟨(ad0.add (x.toNat * 4)).block, (ad0.add (x.toNat * 4)).off + 2, none⟩ = some (.slice B0_2 p.f2.length b0_2) ∧ w'.cell? ⟨(ad0.add (x.toNat * 4)).block, (ad0.add (x.toNat * 4)).off + 3, none⟩ = some (.int .i64 p.f3) ∧ w'.cell? (ad1.add (x.toNat * 4)) = some (.int .i64 p.f0) ∧ w'.cell? ⟨(ad1.add (x.toNat * 4)).block, (ad1.add (x.toNat * 4)).off + 1, none⟩ = some (.slice B1_1 p.f1.length b1_1) ∧ w'.cell? ⟨(ad1.add (x.toNat * 4)).block, (ad1.add (x.toNat * 4)).off + 2, none⟩ = some (.slice B1_2 p.f2.length b1_2) ∧ w'.cell? ⟨(ad1.add (x.toNat * 4)).block, (ad1.add (x.toNat * 4)).off + 3, none⟩ = some (.int .i64 p.f3)) from fun w' hb => ⟨hb, pw_cell_below hb y0_0, pw_cell_below hb y0_1, pw_cell_below hb y0_2, pw_cell_below hb y0_3, pw_cell_below hb y1_0, pw_cell_below hb y1_1, pw_cell_below hb y1_2, pw_cell_below hb y1_3⟩)
      have U0_1 := Aside0.mk u0_1
      have G0_1 := Aside0.mk g0_1
      clear u0_1 g0_1
      have U0_2 := Aside0.mk u0_2
      have G0_2 := Aside0.mk g0_2
      clear u0_2 g0_2
      have U1_1 := Aside0.mk u1_1
      have G1_1 := Aside0.mk g1_1
      clear u1_1 g1_1
      have U1_2 := Aside0.mk u1_2
      have G1_2 := Aside0.mk g1_2
      clear u1_2 g1_2
      have HP := Aside0.mk c0
      have p0 := eq_true hx0
      have p1 := eq_true c0
      clear c0 hx0 y0_0 y0_1 y0_2 y0_3 y1_0 y1_1 y1_2 y1_3
      have HE := Aside0.mk (show laws_eqAct.f k p.f0 p.f1 p.f2 p.f3 p.f0 p.f1 p.f2 p.f3 = some true by simp [laws_eqAct.f, laws_eqDeedS.f, laws_eqIntS.f])
      obtain ⟨sb, s0_0, s0_1, s0_2, s0_3, s1_0, s1_1, s1_2, s1_3⟩ := HS.out wr (Below.refl _ _)
      go_wp2_with fail
      go_region_held3 (fun w' => Below wr.heap.size wr w' ∧ w'.cell? (ad0.add (x.toNat * 4)) = some (.int .i64 p.f0) ∧ w'.cell? ⟨(ad0.add (x.toNat * 4)).block, (ad0.add (x.toNat * 4)).off + 1, none⟩ = some (.slice B0_1 p.f1.length b0_1) ∧ w'.cell? ⟨(ad0.add (x.toNat * 4)).block, (ad0.add (x.toNat * 4)).off + 2, none⟩ = some (.slice B0_2 p.f2.length b0_2) ∧ w'.cell? ⟨(ad0.add (x.toNat * 4)).block, (ad0.add (x.toNat * 4)).off + 3, none⟩ = some (.int .i64 p.f3) ∧ w'.cell? (ad1.add (x.toNat * 4)) = some (.int .i64 p.f0) ∧ w'.cell? ⟨(ad1.add (x.toNat * 4)).block, (ad1.add (x.toNat * 4)).off + 1, none⟩ = some (.slice B1_1 p.f1.length b1_1) ∧ w'.cell? ⟨(ad1.add (x.toNat * 4)).block, (ad1.add (x.toNat * 4)).off + 2, none⟩ = some (.slice B1_2 p.f2.length b1_2) ∧ w'.cell? ⟨(ad1.add (x.toNat * 4)).block, (ad1.add (x.toNat * 4)).off + 3, none⟩ = some (.int .i64 p.f3)) (first | exact HS.out _ (below_drew (Below.refl _ _)) | exact HS.out _ (Below.refl _ _) | (refine HS.out _ ?_; first | exact below_step (And.left (by assumption)) (by assumption) | exact And.left (by assumption)) | go_keep) (first | (go_at_call 94; refine (laws_eqAct.calls k p.f0 B0_1 b0_1 p.f1 B0_2 b0_2 p.f2 p.f3 p.f0 B1_1 b1_1 p.f1 B1_2 b1_2 p.f2 p.f3 true _ (by exact Kd.C_below G0_1.out (And.left (by assumption))) U0_1.out (by exact Kd.C_below G0_2.out (And.left (by assumption))) U0_2.out (by exact Kd.C_below G1_1.out (And.left (by assumption))) U1_1.out (by exact Kd.C_below G1_2.out (And.left (by assumption))) U1_2.out HE.out).mono ?_; rintro e wz ⟨rfl, hz_⟩))
      go_wp2
      go_roundw
      case rel =>
        have e1 : (wrap64 (x + 1)) = x + 1 := by have h1 := HX.out.1; have h2 := HP.out; have h3 := HM.out; unfold wrap64; omega
        refine ⟨_, rfl, ⟨?_⟩, ⟨?_⟩⟩
        · rw [e1]; exact ⟨by have := HX.out.1; omega, by have := HP.out; omega⟩
        · exact below_step HB.out (And.left (by assumption))
      case measure =>
        have h1 := HX.out.1
        have h2 := HP.out
        have h3 := HM.out
        have e1 : (wrap64 (x + 1)) = x + 1 := by unfold wrap64; omega
        rw [e1]
        simp [intOf]
        omega
    · have c0b : decide (x < ((l0.length : Nat) : Int)) = false := decide_eq_false c0
      clear c0
      go_wp2
      go_ret
      exact ⟨rfl, HB.out⟩
def laws_eqActSS.f (k : Nat) (l0 : List (List S57)) (l1 : List (List S57)) : Option Bool := if l0 = l1 then some true else none
set_option maxHeartbeats 4000000 in
set_option maxRecDepth 100000 in
theorem laws_eqActSS.calls (k : Nat) (A0 : Option Addr) (c0 : Nat) (l0 : List (List S57)) (A1 : Option Addr) (c1 : Nat) (l1 : List (List S57)) (r : Bool) (w : World) (hr0 : Kd.C (Kd.slice 57 k57) w A0 l0.length l0) (hc0 : l0.length ≤ c0) (hr1 : Kd.C (Kd.slice 57 k57) w A1 l1.length l1) (hc1 : l1.length ≤ c1) (h : laws_eqActSS.f k l0 l1 = some r) :
    Calls Try.prog 42 #[.slice A0 l0.length c0, .slice A1 l1.length c1] w fun e w' => e = .returned (.bool r) ∧ Below w.heap.size w w' := by
  unfold laws_eqActSS.f at h
  by_cases c : l0 = l1
  case neg => rw [if_neg c] at h; cases h
  rw [if_pos c] at h
  obtain rfl := Option.some.inj h
  subst c
  clear h
  have HM := Aside0.mk (show l0.length ≤ 9223372036854775807 from hr0.2.1)
  have HR0 := Aside0.mk hr0
  have HC0 := Aside0.mk hc0
  have HR1 := Aside0.mk hr1
  have HC1 := Aside0.mk hc1
  clear hr0 hc0 hr1 hc1
  have HB := Aside0.mk (Below.refl w.heap.size w)
  have d0 : ((l0.length : Int) != (l0.length : Int)) = false := by simp
  have d1 : (l0.length != l0.length) = false := by simp
  have hu54 := Try.underlying54
  go_enter Try.func42, Try.ntmps42
  go_wp2
  go_loopw [5] (fun v5 wr => ∃ x : Int, v5 = .int .i64 x ∧ Aside0 (0 ≤ x ∧ x ≤ (l0.length : Nat)) ∧ Aside0 (Below w.heap.size w wr)) (fun v5 _ => l0.length - (intOf v5).toNat)
  case atStart => exact ⟨0, rfl, ⟨by omega, by omega⟩, HB⟩
  case round =>
    clear HB
    obtain ⟨x, rfl, HX, HB⟩ := hrel
    by_cases c0 : x < ((l0.length : Nat) : Int)
    · have c0b : decide (x < ((l0.length : Nat) : Int)) = true := decide_eq_true c0
      have hx0 := HX.out.1
      obtain ⟨ad0, B0_0, b0_0, e0, y0_0, u0_0, g0_0⟩ := at_slice (Kd.C_below HR0.out HB.out) x hx0 c0
      obtain ⟨ad1, B1_0, b1_0, e1, y1_0, u1_0, g1_0⟩ := at_slice (Kd.C_below HR1.out HB.out) x hx0 c0
      cases e0
      cases e1
      obtain ⟨p, hp⟩ : ∃ p, p = l0.getD x.toNat [] := ⟨_, rfl⟩
      rw [← hp] at y0_0 y1_0 u0_0 g0_0 u1_0 g1_0
      clear hp
      have HS := Aside0.mk (show ∀ w', Below wr.heap.size wr w' → (Below wr.heap.size wr w' ∧ w'.cell? (ad0.add x.toNat) = some (.slice B0_0 p.length b0_0) ∧ w'.cell? (ad1.add x.toNat) = some (.slice B1_0 p.length b1_0)) from fun w' hb => ⟨hb, pw_cell_below hb y0_0, pw_cell_below hb y1_0⟩)
      have U0_0 := Aside0.mk u0_0
      have G0_0 := Aside0.mk g0_0
      clear u0_0 g0_0
      have U1_0 := Aside0.mk u1_0
      have G1_0 := Aside0.mk g1_0
      clear u1_0 g1_0
      have HP := Aside0.mk c0
      have p0 := eq_true hx0
      have p1 := eq_true c0
      clear c0 hx0 y0_0 y1_0
      have HE := Aside0.mk (show laws_eqActS.f k p p = some true by simp [laws_eqActS.f])
      obtain ⟨sb, s0_0, s1_0⟩ := HS.out wr (Below.refl _ _)
      go_wp2_with fail
      go_region_held3 (fun w' => Below wr.heap.size wr w' ∧ w'.cell? (ad0.add x.toNat) = some (.slice B0_0 p.length b0_0) ∧ w'.cell? (ad1.add x.toNat) = some (.slice B1_0 p.length b1_0)) (first | exact HS.out _ (below_drew (Below.refl _ _)) | exact HS.out _ (Below.refl _ _) | (refine HS.out _ ?_; first | exact below_step (And.left (by assumption)) (by assumption) | exact And.left (by assumption)) | go_keep) (first | (go_at_call 75; refine (laws_eqActS.calls k B0_0 b0_0 p B1_0 b1_0 p true _ (by exact Kd.C_below G0_0.out (And.left (by assumption))) U0_0.out (by exact Kd.C_below G1_0.out (And.left (by assumption))) U1_0.out HE.out).mono ?_; rintro e wz ⟨rfl, hz_⟩))
      go_wp2
      go_roundw
      case rel =>
        have e1 : (wrap64 (x + 1)) = x + 1 := by have h1 := HX.out.1; have h2 := HP.out; have h3 := HM.out; unfold wrap64; omega
        refine ⟨_, rfl, ⟨?_⟩, ⟨?_⟩⟩
        · rw [e1]; exact ⟨by have := HX.out.1; omega, by have := HP.out; omega⟩
        · exact below_step HB.out (And.left (by assumption))
      case measure =>
        have h1 := HX.out.1
        have h2 := HP.out
        have h3 := HM.out
        have e1 : (wrap64 (x + 1)) = x + 1 := by unfold wrap64; omega
        rw [e1]
        simp [intOf]
        omega
    · have c0b : decide (x < ((l0.length : Nat) : Int)) = false := decide_eq_false c0
      clear c0
      go_wp2
      go_ret
      exact ⟨rfl, HB.out⟩
end Go.Proofs.Ytoeepmcaabmjkaa.QSN
namespace Go.Proofs.Ytoeepmcaabmjkaa.QSN
open Go.RowKit Go.Proofs.YtoeepmcaabmjkaaW.PrintWords Go.Proofs.YtoeepmcaabmjkaaW.PrintLast Go.Proofs.YtoeepmcaabmjkaaW.PrintMore
attribute [local go_sem] max2_int min2_int max_two min_two max_three min_three max_four min_four   -- for this text's walks alone
set_option linter.unusedVariables false
set_option linter.unusedSimpArgs false
def laws_eqProg.f (k : Nat) (l0_0 : List Int) (l0_1 : List (List S57)) (l1_0 : List Int) (l1_1 : List (List S57)) : Option Bool := if l0_0 = l1_0 ∧ l0_1 = l1_1 then ((laws_eqIntS.f k l0_0 l0_0).bind fun b0 => (if b0 = true then ((laws_eqActSS.f k l0_1 l0_1).bind fun b1 => (if b1 = true then (some true) else (none))) else (none))) else none
set_option maxHeartbeats 4000000 in
set_option maxRecDepth 100000 in
theorem laws_eqProg.calls (k : Nat) (A0_0 : Option Addr) (c0_0 : Nat) (l0_0 : List Int) (A0_1 : Option Addr) (c0_1 : Nat) (l0_1 : List (List S57)) (A1_0 : Option Addr) (c1_0 : Nat) (l1_0 : List Int) (A1_1 : Option Addr) (c1_1 : Nat) (l1_1 : List (List S57)) (r : Bool) (w : World) (hr0_0 : Kd.C (Kd.int .i64) w A0_0 l0_0.length l0_0) (hc0_0 : l0_0.length ≤ c0_0) (hr0_1 : Kd.C (Kd.slice 57 k57) w A0_1 l0_1.length l0_1) (hc0_1 : l0_1.length ≤ c0_1) (hr1_0 : Kd.C (Kd.int .i64) w A1_0 l1_0.length l1_0) (hc1_0 : l1_0.length ≤ c1_0) (hr1_1 : Kd.C (Kd.slice 57 k57) w A1_1 l1_1.length l1_1) (hc1_1 : l1_1.length ≤ c1_1) (h : laws_eqProg.f k l0_0 l0_1 l1_0 l1_1 = some r) :
    Calls Try.prog 14 #[.agg #[.slice A0_0 l0_0.length c0_0, .slice A0_1 l0_1.length c0_1], .agg #[.slice A1_0 l1_0.length c1_0, .slice A1_1 l1_1.length c1_1]] w fun e w' => e = .returned (.bool r) ∧ Below w.heap.size w w' := by
  unfold laws_eqProg.f at h
  by_cases c : l0_0 = l1_0 ∧ l0_1 = l1_1
  case neg => rw [if_neg c] at h; cases h
  rw [if_pos c] at h
  obtain ⟨rfl, rfl⟩ := c
  obtain ⟨b0, hq0, h⟩ := Option.bind_eq_some_iff.1 h
  cases b0 with
  | false => simp at h
  | true =>
  rw [if_pos rfl] at h
  have HQ0 := Aside0.mk hq0
  clear hq0
  obtain ⟨b1, hq1, h⟩ := Option.bind_eq_some_iff.1 h
  cases b1 with
  | false => simp at h
  | true =>
  rw [if_pos rfl] at h
  have HQ1 := Aside0.mk hq1
  clear hq1
  obtain rfl := Option.some.inj h
  clear h
  have HR0_0 := Aside0.mk hr0_0
  have HC0_0 := Aside0.mk hc0_0
  clear hr0_0 hc0_0
  have HR0_1 := Aside0.mk hr0_1
  have HC0_1 := Aside0.mk hc0_1
  clear hr0_1 hc0_1
  have HR1_0 := Aside0.mk hr1_0
  have HC1_0 := Aside0.mk hc1_0
  clear hr1_0 hc1_0
  have HR1_1 := Aside0.mk hr1_1
  have HC1_1 := Aside0.mk hc1_1
  clear hr1_1 hc1_1
  have hu22 := Try.underlying22
  have hu34 := Try.underlying34
  have hu36 := Try.underlying36
  have HL0 := Aside0.mk (show Below w.heap.size w ((w.alloc (.cells #[.slice A0_0 l0_0.length c0_0, .slice A0_1 l0_1.length c0_1] 36)).alloc (.cells #[.slice A1_0 l0_0.length c1_0, .slice A1_1 l0_1.length c1_1] 36)) from below_alloc (below_alloc (Below.refl _ _) _) _)
  have HZ0 := Aside0.mk (show w.heap.size + 2 ≤ ((w.alloc (.cells #[.slice A0_0 l0_0.length c0_0, .slice A0_1 l0_1.length c0_1] 36)).alloc (.cells #[.slice A1_0 l0_0.length c1_0, .slice A1_1 l0_1.length c1_1] 36)).heap.size by simp)
  have HA0 := Aside0.mk (show ((w.alloc (.cells #[.slice A0_0 l0_0.length c0_0, .slice A0_1 l0_1.length c0_1] 36)).alloc (.cells #[.slice A1_0 l0_0.length c1_0, .slice A1_1 l0_1.length c1_1] 36)).heap[w.heap.size]? = some (.cells #[.slice A0_0 l0_0.length c0_0, .slice A0_1 l0_1.length c0_1] 36 (0, 0)) from blk_alloc (heap_alloc_new w _) _)
  have HD0 := Aside0.mk (show ((w.alloc (.cells #[.slice A0_0 l0_0.length c0_0, .slice A0_1 l0_1.length c0_1] 36)).alloc (.cells #[.slice A1_0 l0_0.length c1_0, .slice A1_1 l0_1.length c1_1] 36)).heap[w.heap.size + 1]? = some (.cells #[.slice A1_0 l0_0.length c1_0, .slice A1_1 l0_1.length c1_1] 36 (0, 0)) from by have := heap_alloc_new (w.alloc (.cells #[.slice A0_0 l0_0.length c0_0, .slice A0_1 l0_1.length c0_1] 36)) (.cells #[.slice A1_0 l0_0.length c1_0, .slice A1_1 l0_1.length c1_1] 36); simpa using this)
  go_enter Try.func14, Try.ntmps14
  go_wp2_with fail
  refine (laws_eqIntS.calls k _ _ _ _ _ _ true _ (Kd.C_below HR0_0.out HL0.out) HC0_0.out (Kd.C_below HR1_0.out HL0.out) HC1_0.out HQ0.out).mono ?_
  rintro e w1 ⟨rfl, hb_⟩
  have hb0 : Below _ _ w1 := (by first | exact hb_ | exact hb_.below)
  clear hb_
  have HL1 := Aside0.mk (show Below w.heap.size w w1 from below_then HL0.out HL0.out.size hb0)
  have HZ1 := Aside0.mk (Nat.le_trans HZ0.out hb0.size)
  have HA1 := Aside0.mk ((hb0.block _ (by have := HZ0.out; omega)).trans HA0.out)
  have HD1 := Aside0.mk ((hb0.block _ (by have := HZ0.out; omega)).trans HD0.out)
  clear hb0
  have hx1 : w1.cell? ⟨w.heap.size, 1, none⟩ = some (.slice A0_1 l0_1.length c0_1) := (blk_cell HA1.out 1).trans rfl
  have hy1 : w1.cell? ⟨w.heap.size + 1, 1, none⟩ = some (.slice A1_1 l0_1.length c1_1) := (blk_cell HD1.out 1).trans rfl
  go_wp2_with fail
  refine (laws_eqActSS.calls k _ _ _ _ _ _ true _ (Kd.C_below HR0_1.out HL1.out) HC0_1.out (Kd.C_below HR1_1.out HL1.out) HC1_1.out HQ1.out).mono ?_
  rintro e w2 ⟨rfl, hb_⟩
  have hb1 : Below _ _ w2 := (by first | exact hb_ | exact hb_.below)
  clear hb_
  have HL2 := Aside0.mk (show Below w.heap.size w w2 from below_then HL1.out HL1.out.size hb1)
  have HZ2 := Aside0.mk (Nat.le_trans HZ1.out hb1.size)
  have HA2 := Aside0.mk ((hb1.block _ (by have := HZ1.out; omega)).trans HA1.out)
  have HD2 := Aside0.mk ((hb1.block _ (by have := HZ1.out; omega)).trans HD1.out)
  clear hb1
  clear hx1 hy1
  go_wp2
  go_ret
  exact ⟨rfl, HL2.out⟩
def cnt57 (l : List S57) : Nat := (l.map fun x => 2 + x.f1.length * 3 + x.f2.length * 1).sum
theorem ft57_len (g : Nat) : ∀ (F : List F57) (l : List S57) (i : Nat), F.length = l.length → (∀ (j : Nat) q x, F[j]? = some q → l[j]? = some x → ∀ g i, (one57 g i q).length = 2 + x.f1.length * 3 + x.f2.length * 1) → (ft57 g i F).length = cnt57 l
  | [], [], _, _, _ => rfl
  | [], _ :: _, _, h, _ => by simp at h
  | _ :: _, [], _, h, _ => by simp at h
  | q :: F, x :: l, i, h, hh => by
    show (one57 g i q ++ ft57 g (i + 1) F).length = _
    rw [List.length_append, ft57_len g F l (i + 1) (by simpa using h) (fun j q x h1 h2 => hh (j + 1) q x (by simpa using h1) (by simpa using h2)), hh 0 q x rfl rfl g i]
    simp [cnt57]
theorem ok57 {w : World} {base n c : Nat} {P : Nat → Prop} {A : Option Addr} {l : List S57} (h : Kd.R k57 57 w base P (.slice A n c) l) : n = l.length ∧ ∃ F : List F57, F.length = l.length ∧ F57.Ok w (fun k_ => P k_ ∧ base ≤ k_) A F ∧ (foot57 A F).length = cnt57 l := by
  have hr := Kd.R_reads' h
  have hn : n = l.length := hr.1
  subst hn
  refine ⟨rfl, ?_⟩
  rcases Nat.eq_zero_or_pos l.length with h0 | hpos
  · refine ⟨[], h0.symm, ⟨Nat.zero_le _, fun hp => absurd hp (Nat.lt_irrefl 0)⟩, ?_⟩
    rw [List.length_eq_zero_iff] at h0
    subst h0
    cases A <;> rfl
  obtain ⟨g, cap, hv, hbg, _⟩ := Kd.R_form h hpos
  injection hv with h1 h2 h3
  subst h1 h3
  have hex : ∀ i : Nat, i < l.length → ∃ q : F57, (IsI (w.cell? ⟨g, i * 4, none⟩) ∧ (∃ c : Nat, w.cell? ⟨g, i * 4 + 1, none⟩ = some (.slice q.A1 q.n1 c) ∧ ShR 3 w (fun k_ => P k_ ∧ base ≤ k_) q.A1 q.n1) ∧ (∃ c : Nat, w.cell? ⟨g, i * 4 + 2, none⟩ = some (.slice q.A2 q.n2 c) ∧ ShR 1 w (fun k_ => P k_ ∧ base ≤ k_) q.A2 q.n2) ∧ IsI (w.cell? ⟨g, i * 4 + 3, none⟩)) ∧ ∀ x, l[i]? = some x → ∀ g i, (one57 g i q).length = 2 + x.f1.length * 3 + x.f2.length * 1 := by
    intro i hi
    obtain ⟨x, hx⟩ : ∃ x, l[i]? = some x := ⟨_, List.getElem?_eq_getElem hi⟩
    obtain ⟨c, hcl, hM, hcc, _⟩ := Kd.R_elem h z57 (i : Int) (by omega) (by omega)
    have ex : l.getD (i : Int).toNat z57 = x := by rw [List.getD_eq_getElem?_getD, show (i : Int).toNat = i from rfl, hx]; rfl
    rw [ex] at hM
    have hc : ∀ j u, c[j]? = some u → w.cell? ⟨g, i * 4 + j, none⟩ = some u := hcc
    obtain ⟨v1, v2, rfl, g1, g2⟩ := k57_openM hM
    obtain ⟨A1, c1, rfl⟩ := Kd.R_slice g1
    have s1 := ((ShR_of_R g1 (by decide) z122 (by intro w base ok x cs h u hu; rw [k122_openM h] at hu; simp only [List.mem_cons, List.not_mem_nil, or_false] at hu; rcases hu with rfl | rfl | rfl <;> exact ⟨_, rfl⟩))).2
    have e1 : (footR A1 (x.f1.length * 3)).length = x.f1.length * 3 := s1.len
    obtain ⟨A2, c2, rfl⟩ := Kd.R_slice g2
    have s2 := ((ShR_of_R g2 (by decide) 0 (by intro w base ok x cs h u hu; obtain rfl : cs = [.int .i64 x] := h; rw [List.mem_singleton] at hu; exact ⟨_, hu⟩))).2
    have e2 : (footR A2 (x.f2.length * 1)).length = x.f2.length * 1 := s2.len
    refine ⟨⟨A1, x.f1.length, A2, x.f2.length⟩, ⟨⟨_, hc 0 _ rfl⟩, ⟨c1, hc 1 _ rfl, s1.mono (fun k hk => ⟨hk.1.1, hk.2⟩)⟩, ⟨c2, hc 2 _ rfl, s2.mono (fun k hk => ⟨hk.1.1, hk.2⟩)⟩, ⟨_, hc 3 _ rfl⟩⟩, fun x' hx' g i => ?_⟩
    rw [hx] at hx'
    cases hx'
    simp only [one57, List.length_append, List.length_cons, List.length_nil, e1, e2]
    omega
  obtain ⟨F, hFl, hF⟩ := list_of _ hex
  refine ⟨F, hFl, ⟨by rw [hFl]; exact hr.2.2.2.1, fun _ => ⟨g, rfl, ⟨h.1 g rfl, hbg⟩, fun j => ?_, fun i q hq => (hF i q hq).1⟩⟩, ?_⟩
  · obtain ⟨_, _, _, _, hfr⟩ := Kd.R_elem h z57 0 (Int.le_refl _) (by omega)
    have := hfr j
    simpa using this
  · exact ft57_len g F l 0 hFl (fun j q x h1 h2 => (hF j q h1).2 x h2)
end Go.Proofs.Ytoeepmcaabmjkaa.QSN
namespace Go.Proofs.Ytoeepmcaabmjkaa.QSN
open Go.RowKit Go.Proofs.YtoeepmcaabmjkaaW.PrintWords Go.Proofs.YtoeepmcaabmjkaaW.PrintLast Go.Proofs.YtoeepmcaabmjkaaW.PrintMore
attribute [local go_sem] max2_int min2_int max_two min_two max_three min_three max_four min_four   -- for this text's walks alone
set_option linter.unusedVariables false
set_option linter.unusedSimpArgs false
def cnt54 (l : List (List S57)) : Nat := (l.map fun x => cnt57 x).sum
theorem ft54_len (g : Nat) : ∀ (F : List F54) (l : List (List S57)) (i : Nat), F.length = l.length → (∀ (j : Nat) q x, F[j]? = some q → l[j]? = some x → ∀ g i, (one54 g i q).length = cnt57 x) → (ft54 g i F).length = cnt54 l
  | [], [], _, _, _ => rfl
  | [], _ :: _, _, h, _ => by simp at h
  | _ :: _, [], _, h, _ => by simp at h
  | q :: F, x :: l, i, h, hh => by
    show (one54 g i q ++ ft54 g (i + 1) F).length = _
    rw [List.length_append, ft54_len g F l (i + 1) (by simpa using h) (fun j q x h1 h2 => hh (j + 1) q x (by simpa using h1) (by simpa using h2)), hh 0 q x rfl rfl g i]
    simp [cnt54]
theorem ok54 {w : World} {base n c : Nat} {P : Nat → Prop} {A : Option Addr} {l : List (List S57)} (h : Kd.R (Kd.slice 57 k57) 54 w base P (.slice A n c) l) : n = l.length ∧ ∃ F : List F54, F.length = l.length ∧ F54.Ok w (fun k_ => P k_ ∧ base ≤ k_) A F ∧ (foot54 A F).length = cnt54 l := by
  have hr := Kd.R_reads' h
  have hn : n = l.length := hr.1
  subst hn
  refine ⟨rfl, ?_⟩
  rcases Nat.eq_zero_or_pos l.length with h0 | hpos
  · refine ⟨[], h0.symm, ⟨Nat.zero_le _, fun hp => absurd hp (Nat.lt_irrefl 0)⟩, ?_⟩
    rw [List.length_eq_zero_iff] at h0
    subst h0
    cases A <;> rfl
  obtain ⟨g, cap, hv, hbg, _⟩ := Kd.R_form h hpos
  injection hv with h1 h2 h3
  subst h1 h3
  have hex : ∀ i : Nat, i < l.length → ∃ q : F54, ((∃ c : Nat, w.cell? ⟨g, i, none⟩ = some (.slice q.A0 q.n0.length c) ∧ F57.Ok w (fun k_ => P k_ ∧ base ≤ k_) q.A0 q.n0)) ∧ ∀ x, l[i]? = some x → ∀ g i, (one54 g i q).length = cnt57 x := by
    intro i hi
    obtain ⟨x, hx⟩ : ∃ x, l[i]? = some x := ⟨_, List.getElem?_eq_getElem hi⟩
    obtain ⟨c, hcl, hM, hcc, _⟩ := Kd.R_elem h [] (i : Int) (by omega) (by omega)
    have ex : l.getD (i : Int).toNat [] = x := by rw [List.getD_eq_getElem?_getD, show (i : Int).toNat = i from rfl, hx]; rfl
    rw [ex] at hM
    have hc : ∀ j u, c[j]? = some u → w.cell? ⟨g, i * 1 + j, none⟩ = some u := hcc
    obtain ⟨v0, rfl, g0⟩ := hM
    obtain ⟨A0, c0, rfl⟩ := Kd.R_slice g0
    obtain ⟨_, F0, hF0, s0, e0⟩ := ok57 g0
    exact ⟨⟨A0, F0⟩, ⟨c0, by rw [hF0]; simpa using hc 0 _ rfl, s0.mono (fun k hk => ⟨hk.1.1, hk.2⟩)⟩, fun x' hx' g i => by rw [hx] at hx'; cases hx'; simp [one54, e0]⟩
  obtain ⟨F, hFl, hF⟩ := list_of _ hex
  refine ⟨F, hFl, ⟨by rw [hFl]; exact hr.2.2.2.1, fun _ => ⟨g, rfl, ⟨h.1 g rfl, hbg⟩, fun j => ?_, fun i q hq => (hF i q hq).1⟩⟩, ?_⟩
  · obtain ⟨_, _, _, _, hfr⟩ := Kd.R_elem h [] 0 (Int.le_refl _) (by omega)
    have := hfr j
    simpa using this
  · exact ft54_len g F l 0 hFl (fun j q x h1 h2 => (hF j q h1).2 x h2)
def laws_markProg.f (l0_0 : List Int) (l0_1 : List (List S57)) (a1 : Int) : Option Int := some (mkI (cnt54 l0_1) (mkI (l0_0.length) a1))
set_option maxHeartbeats 2000000 in
set_option maxRecDepth 100000 in
theorem laws_markProg.calls (P0_0_ : Nat → Prop) (u9000_ : Value) (l0_0 : List Int) (P0_1_ : Nat → Prop) (u9001_ : Value) (l0_1 : List (List S57)) (a1 : Int) (r : Int) (w0 w : World) (hB : Below w0.heap.size w0 w) (ho0_0 : Kd.R (Kd.int .i64) 3 w w0.heap.size P0_0_ u9000_ l0_0) (ho0_1 : Kd.R (Kd.slice 57 k57) 54 w w0.heap.size P0_1_ u9001_ l0_1) (h : laws_markProg.f l0_0 l0_1 a1 = some r) :
    Calls Try.prog 15 #[.agg #[u9000_, u9001_], .int .i64 a1] w fun e w' => e = .returned (.int .i64 r) ∧ Below w0.heap.size w0 w' ∧ Kept w w' (fun k_ => P0_0_ k_ ∨ P0_1_ k_) := by
  obtain rfl := Option.some.inj h
  clear h
  obtain ⟨A0, c0, rfl⟩ := Kd.R_slice ho0_0
  obtain ⟨A1, c1, rfl⟩ := Kd.R_slice ho0_1
  have s0_ : ShR 1 (w.alloc (.cells #[.slice A0 l0_0.length c0, .slice A1 l0_1.length c1] 36)) (fun k_ => (P0_0_ k_ ∨ P0_1_ k_) ∧ w0.heap.size ≤ k_ ∧ k_ < w.heap.size) A0 l0_0.length := ((ShR_of_R (Kd.R_alloc (Kd.R_mono (ok' := fun k_ => P0_0_ k_ ∧ k_ < w.heap.size) (Kd.R_bound ho0_0) (fun k_ hk => ⟨hk.1, hk.2.2.1⟩)) (.cells #[.slice A0 l0_0.length c0, .slice A1 l0_1.length c1] 36)) (by decide) 0 (by intro w base ok x cs h u hu; obtain rfl : cs = [.int .i64 x] := h; rw [List.mem_singleton] at hu; exact ⟨_, hu⟩))).2.mono (fun k_ hk => ⟨Or.inl (hk.1.1), hk.2, hk.1.2⟩)
  have e0_ : (footR A0 (l0_0.length)).length = l0_0.length := by have := s0_.len; simpa using this
  have hs0 := Aside0.mk s0_
  clear s0_
  have HE0 := Aside0.mk e0_
  clear e0_
  obtain ⟨_, F1_, hF1_, s1_, e1_⟩ := ok54 (Kd.R_alloc (Kd.R_mono (ok' := fun k_ => P0_1_ k_ ∧ k_ < w.heap.size) (Kd.R_bound ho0_1) (fun k_ hk => ⟨hk.1, hk.2.2.1⟩)) (.cells #[.slice A0 l0_0.length c0, .slice A1 l0_1.length c1] 36))
  have hs1 := Aside0.mk (show F54.Ok (w.alloc (.cells #[.slice A0 l0_0.length c0, .slice A1 l0_1.length c1] 36)) (fun k_ => (P0_0_ k_ ∨ P0_1_ k_) ∧ w0.heap.size ≤ k_ ∧ k_ < w.heap.size) A1 F1_ from s1_.mono (fun k_ hk => ⟨Or.inr (hk.1.1), hk.2, hk.1.2⟩))
  clear s1_
  have HF1 := Aside0.mk hF1_
  clear hF1_
  have HE1 := Aside0.mk e1_
  clear e1_
  clear ho0_0 ho0_1
  have HB := Aside0.mk hB
  clear hB
  have hu22 := Try.underlying22
  have hu34 := Try.underlying34
  have hu36 := Try.underlying36
  have hi0 := Aside0.mk (show IntsOnly (fun k_ => (P0_0_ k_ ∨ P0_1_ k_) ∧ w0.heap.size ≤ k_ ∧ k_ < w.heap.size) (w.alloc (.cells #[.slice A0 l0_0.length c0, .slice A1 l0_1.length c1] 36)) (w.alloc (.cells #[.slice A0 l0_0.length c0, .slice A1 l0_1.length c1] 36)) from IntsOnly.refl _ _)
  have hb0 : (w.alloc (.cells #[.slice A0 l0_0.length c0, .slice A1 l0_1.length c1] 36)).heap[w.heap.size]? = some (.cells #[.slice A0 l0_0.length c0, .slice A1 l0_1.length c1] 36 (0, 0)) := heap_alloc_new w _
  have HB0 := Aside0.mk hb0
  clear hb0
  go_enter Try.func15, Try.ntmps15
  go_wp2_with fail
  have hc_ := fun a1_ => markIntS_ft (fun k_ => (P0_0_ k_ ∨ P0_1_ k_) ∧ w0.heap.size ≤ k_ ∧ k_ < w.heap.size) A0 _ c0 a1_ _ (hs0.out.step hi0.out)
  simp only [HE0.out, Nat.mul_one] at hc_
  refine (hc_ _).mono ?_
  clear hc_
  rintro e w1 ⟨rfl, -, h1_⟩
  have hi1 := Aside0.mk (show IntsOnly (fun k_ => (P0_0_ k_ ∨ P0_1_ k_) ∧ w0.heap.size ≤ k_ ∧ k_ < w.heap.size) (w.alloc (.cells #[.slice A0 l0_0.length c0, .slice A1 l0_1.length c1] 36)) w1 from IntsOnly.trans hi0.out h1_)
  clear h1_
  have hc1_ : w1.cell? ⟨w.heap.size, 1, none⟩ = some (.slice A1 l0_1.length c1) := (blk_cell ((hi1.out.block _ (fun hk => Nat.lt_irrefl _ hk.2.2)).trans HB0.out) 1).trans rfl
  go_wp2_with fail
  have hc_ := fun a1_ => markActSS_ft (fun k_ => (P0_0_ k_ ∨ P0_1_ k_) ∧ w0.heap.size ≤ k_ ∧ k_ < w.heap.size) A1 _ c1 a1_ _ (hs1.out.step hi1.out)
  simp only [HF1.out, HE1.out, Nat.mul_one] at hc_
  refine (hc_ _).mono ?_
  clear hc_
  rintro e w2 ⟨rfl, -, h2_⟩
  have hi2 := Aside0.mk (show IntsOnly (fun k_ => (P0_0_ k_ ∨ P0_1_ k_) ∧ w0.heap.size ≤ k_ ∧ k_ < w.heap.size) (w.alloc (.cells #[.slice A0 l0_0.length c0, .slice A1 l0_1.length c1] 36)) w2 from IntsOnly.trans hi1.out h2_)
  clear h2_
  try clear hc1_
  go_wp2
  go_ret
  refine ⟨rfl, hi2.out.below (below_alloc HB.out _) (fun k_ hk => hk.2.1), ?_⟩
  exact Kept.then_ (S2 := (fun k_ => (P0_0_ k_ ∨ P0_1_ k_) ∧ w0.heap.size ≤ k_ ∧ k_ < w.heap.size)) (Kept.of_below (below_alloc (Below.refl _ _) _) _) hi2.out.kept (fun k_ hk => .inl hk.1)
end Go.Proofs.Ytoeepmcaabmjkaa.QSN
namespace Go.Proofs.Ytoeepmcaabmjkaa.QSN
open Go.RowKit Go.Proofs.YtoeepmcaabmjkaaW.PrintWords Go.Proofs.YtoeepmcaabmjkaaW.PrintLast Go.Proofs.YtoeepmcaabmjkaaW.PrintMore
attribute [local go_sem] max2_int min2_int max_two min_two max_three min_three max_four min_four   -- for this text's walks alone
set_option linter.unusedVariables false
set_option linter.unusedSimpArgs false
def spec_l1Kids.l0 : Nat → List Int → Int → Int → Int → Option (Bool)
  | 0, _, _, _, _ => none
  | k + 1, x0, x1, x2, x7 => if x7 < (x0.length : Int) then (if 0 ≤ x7 then ((spec_l6In.f (rd x0 x7) (wrap64 (x1 + 1)) (wrap64 (x2 - 1))).bind fun t119 => (if t119 = true then (spec_l1Kids.l0 k x0 x1 x2 (wrap64 (x7 + 1))) else (some false))) else (none)) else ((spec_l6In.f (x0.length : Int) 1 2).bind fun t120 => (some t120))
def spec_l1Kids.f (k : Nat) (l0 : List Int) (a1 : Int) (a2 : Int) : Option (Bool) := spec_l1Kids.l0 k l0 a1 a2 0
set_option maxHeartbeats 8000000 in
set_option maxRecDepth 100000 in
theorem spec_l1Kids.calls (k : Nat) (A0 : Option Addr) (c0 : Nat) (l0 : List Int) (a1 : Int) (a2 : Int) (r : Bool) (w : World) (hr0 : Kd.C (Kd.int .i64) w A0 l0.length l0) (hc0 : l0.length ≤ c0) (h : spec_l1Kids.f k l0 a1 a2 = some r) :
    Calls Try.prog 102 #[.slice A0 l0.length c0, .int .i64 a1, .int .i64 a2] w fun e w' => e = .returned (.bool r) ∧ Drawn0 w w' := by
  have HR0 := Aside0.mk hr0
  have HC0 := Aside0.mk hc0
  clear hr0 hc0
  have H : (spec_l1Kids.l0 k l0 a1 a2 0) = some r := h
  clear h
  have H' := Aside0.mk H
  clear H
  go_enter Try.func102, Try.ntmps102
  go_wp2
  go_loopg [7] k (fun kq v7 w' => ∃ (x7_1 : Int), v7 = .int .i64 x7_1 ∧ Aside0 (spec_l1Kids.l0 kq l0 a1 a2 x7_1 = some r) ∧ Aside0 (kq ≤ k) ∧ Drawn0 w w')
  case atStart => exact ⟨(0), (by first | rfl | (simp; done) | (simp [*]; done)), H', ⟨Nat.le_refl _⟩, by repeat (first | exact Drawn0.refl _ | apply Drawn0.step)⟩
  case round =>
    clear H'
    try clear c1
    try clear p2
    obtain ⟨x7_1, rfl, HA, HK1, ⟨m1, rfl⟩⟩ := hrel
    cases gk with
    | zero => exact absurd HA.out (by simp [spec_l1Kids.l0])
    | succ k1 =>
      have H := HA.out
      clear HA
      simp only [spec_l1Kids.l0] at H
      by_cases c4 : x7_1 < (l0.length : Int)
      · rw [if_pos c4] at H
        have c4b0 : decide (x7_1 < (l0.length : Int)) = true := decide_eq_true c4
        clear c4
        by_cases c5 : 0 ≤ x7_1
        · rw [if_pos c5] at H
          have c5b0 : decide (0 ≤ x7_1) = true := decide_eq_true c5
          clear c5
          replace H := Option.bind_eq_some_iff.mp H
          obtain ⟨t119, A60, H⟩ := H
          replace H : (if t119 = true then (spec_l1Kids.l0 k1 l0 a1 a2 (wrap64 (x7_1 + 1))) else (some false)) = some r := H
          have A6 := Aside0.mk A60
          clear A60
          by_cases c7 : t119 = true
          · subst c7
            have H1 : (spec_l1Kids.l0 k1 l0 a1 a2 (wrap64 (x7_1 + 1))) = some r := by rw [if_pos rfl] at H; exact H
            clear H
            have H := H1
            clear H1
            have H' := Aside0.mk H
            clear H
            have p118 : 0 ≤ (x7_1 : Int) := of_decide_eq_true (by first | (with_reducible assumption) | assumption)
            have q118 : x7_1 < (l0.length : Int) := of_decide_eq_true (by first | (with_reducible assumption) | assumption)
            obtain ⟨ad118, e118, hx118_0⟩ := Kd.at_int HR0.out x7_1 p118 q118
            cases e118
            replace p118 := eq_true p118
            replace q118 := eq_true q118
            go_wp2_with (first | ((with_reducible refine gate_callee (f := 68) rfl ?_); refine goesL_ (some 22) rfl rfl Try.func68 (by kernel_rfl) rfl #[.int .i64 (rd l0 x7_1), .int .i64 (wrap64 (a1 + 1)), .int .i64 (wrap64 (a2 - 1))] rfl (by (try simp only [List.map_toArray, List.map_cons, List.map_nil]); first | done | rfl | (simp only [List.length_drop, List.length_take]; rfl)) ?_; (with_reducible refine (spec_l6In.calls (rd l0 x7_1) (wrap64 (a1 + 1)) (wrap64 (a2 - 1)) true _ A6.out).mono ?_); rintro e w' ⟨rfl, ⟨nd, rfl⟩⟩; refine ⟨_, rfl, ?_⟩))
            go_roundg k1
            case measure => have := HK1.out; omega
            case rel => exact ⟨(wrap64 (x7_1 + 1)), (by first | rfl | (simp; done) | (simp [*]; done)), H', ⟨by have := HK1.out; omega⟩, by repeat (first | exact Drawn0.refl _ | apply Drawn0.step)⟩
          · replace c7 := Bool.eq_false_iff.mpr c7
            subst c7
            have H1 : (some false) = some r := by rw [if_neg (show ¬ (false = true) by decide)] at H; exact H
            clear H
            have H := H1
            clear H1
            obtain rfl := Option.some.inj H
            have p118 : 0 ≤ (x7_1 : Int) := of_decide_eq_true (by first | (with_reducible assumption) | assumption)
            have q118 : x7_1 < (l0.length : Int) := of_decide_eq_true (by first | (with_reducible assumption) | assumption)
            obtain ⟨ad118, e118, hx118_0⟩ := Kd.at_int HR0.out x7_1 p118 q118
            cases e118
            replace p118 := eq_true p118
            replace q118 := eq_true q118
            go_wp2_with (first | ((with_reducible refine gate_callee (f := 68) rfl ?_); refine goesL_ (some 22) rfl rfl Try.func68 (by kernel_rfl) rfl #[.int .i64 (rd l0 x7_1), .int .i64 (wrap64 (a1 + 1)), .int .i64 (wrap64 (a2 - 1))] rfl (by (try simp only [List.map_toArray, List.map_cons, List.map_nil]); first | done | rfl | (simp only [List.length_drop, List.length_take]; rfl)) ?_; (with_reducible refine (spec_l6In.calls (rd l0 x7_1) (wrap64 (a1 + 1)) (wrap64 (a2 - 1)) false _ A6.out).mono ?_); rintro e w' ⟨rfl, ⟨nd, rfl⟩⟩; refine ⟨_, rfl, ?_⟩))
            go_ret
            exact ⟨by first | rfl | (simp; done) | (simp [*]; done), by repeat (first | exact Drawn0.refl _ | apply Drawn0.step)⟩
        · rw [if_neg c5] at H
          exact absurd H (by simp)
      · rw [if_neg c4] at H
        have c4b0 : decide (x7_1 < (l0.length : Int)) = false := decide_eq_false c4
        clear c4
        replace H := Option.bind_eq_some_iff.mp H
        obtain ⟨t120, A80, H⟩ := H
        replace H : (some t120) = some r := H
        have A8 := Aside0.mk A80
        clear A80
        obtain rfl := Option.some.inj H
        go_wp2_with (first | ((with_reducible refine gate_callee (f := 68) rfl ?_); refine goesL_ (some 26) rfl rfl Try.func68 (by kernel_rfl) rfl #[.int .i64 (l0.length : Int), .int .i64 1, .int .i64 2] rfl (by (try simp only [List.map_toArray, List.map_cons, List.map_nil]); first | done | rfl | (simp only [List.length_drop, List.length_take]; rfl)) ?_; (with_reducible refine (spec_l6In.calls (l0.length : Int) 1 2 t120 _ A8.out).mono ?_); rintro e w' ⟨rfl, ⟨nd, rfl⟩⟩; refine ⟨_, rfl, ?_⟩))
        go_ret
        exact ⟨by first | rfl | (simp; done) | (simp [*]; done), by repeat (first | exact Drawn0.refl _ | apply Drawn0.step)⟩
end Go.Proofs.Ytoeepmcaabmjkaa.QSN
namespace Go.Proofs.Ytoeepmcaabmjkaa.QSN
open Go.RowKit Go.Proofs.YtoeepmcaabmjkaaW.PrintWords Go.Proofs.YtoeepmcaabmjkaaW.PrintLast Go.Proofs.YtoeepmcaabmjkaaW.PrintMore
attribute [local go_sem] max2_int min2_int max_two min_two max_three min_three max_four min_four   -- for this text's walks alone
set_option linter.unusedVariables false
set_option linter.unusedSimpArgs false
mutual
def spec_l1Act.j0 : Nat → Int → Bool → List Int → List (List (S57)) → Int → List (S122) → List Int → Int → Option (Bool)
  | 0, _, _, _, _, _, _, _, _ => none
  | k + 1, x1, x37, x122000, x122001, x123000, x123001, x123002, x123003 => if x37 = true then (some false) else (if x123000 = 1 then (spec_l1Act.l0 k 0 x122000 x122001 x123000 x123001 x123002 x123003) else (if x123000 = 2 then ((spec_l1Kids.f k x123002 x1 (x122001.length : Int)).bind fun t125 => (some t125)) else (if x123000 = 3 then (some true) else (if x123000 = 4 then ((spec_l6In.f x123003 0 2).bind fun t126 => (some t126)) else (some false)))))
def spec_l1Act.l0 : Nat → Int → List Int → List (List (S57)) → Int → List (S122) → List Int → Int → Option (Bool)
  | 0, _, _, _, _, _, _, _ => none
  | k + 1, x7, x122000, x122001, x123000, x123001, x123002, x123003 => if x7 < (x123001.length : Int) then (if 0 ≤ x7 then ((spec_l1Deed.f ((rd_T122 x123001 x7).f0) ((rd_T122 x123001 x7).f1) ((rd_T122 x123001 x7).f2) (x122000.length : Int)).bind fun t124 => (if t124 = true then (spec_l1Act.l0 k (wrap64 (x7 + 1)) x122000 x122001 x123000 x123001 x123002 x123003) else (some false))) else (none)) else (some (decide ((x123001.length : Int) ≤ 5)))
end
def spec_l1Act.f (k : Nat) (l0_0 : List Int) (l0_1 : List (List (S57))) (a1 : Int) (a2_0 : Int) (l2_1 : List (S122)) (l2_2 : List Int) (a2_3 : Int) : Option (Bool) := if a2_0 = 1 then (if a2_0 = 2 then (if a2_0 = 4 then (spec_l1Act.j0 k a1 false l0_0 l0_1 a2_0 l2_1 l2_2 a2_3) else (spec_l1Act.j0 k a1 (a2_3 != 0) l0_0 l0_1 a2_0 l2_1 l2_2 a2_3)) else (if (l2_2.length : Int) > 0 then (spec_l1Act.j0 k a1 true l0_0 l0_1 a2_0 l2_1 l2_2 a2_3) else (if a2_0 = 4 then (spec_l1Act.j0 k a1 false l0_0 l0_1 a2_0 l2_1 l2_2 a2_3) else (spec_l1Act.j0 k a1 (a2_3 != 0) l0_0 l0_1 a2_0 l2_1 l2_2 a2_3)))) else (if (l2_1.length : Int) > 0 then (spec_l1Act.j0 k a1 true l0_0 l0_1 a2_0 l2_1 l2_2 a2_3) else (if a2_0 = 2 then (if a2_0 = 4 then (spec_l1Act.j0 k a1 false l0_0 l0_1 a2_0 l2_1 l2_2 a2_3) else (spec_l1Act.j0 k a1 (a2_3 != 0) l0_0 l0_1 a2_0 l2_1 l2_2 a2_3)) else (if (l2_2.length : Int) > 0 then (spec_l1Act.j0 k a1 true l0_0 l0_1 a2_0 l2_1 l2_2 a2_3) else (if a2_0 = 4 then (spec_l1Act.j0 k a1 false l0_0 l0_1 a2_0 l2_1 l2_2 a2_3) else (spec_l1Act.j0 k a1 (a2_3 != 0) l0_0 l0_1 a2_0 l2_1 l2_2 a2_3)))))
def spec_l1Act.T8 : Bool × List (List Nat × List Nat) := (true, [([], []), ([0], [0]), ([], []), ([1, 2], [1, 2]), ([3], [3]), ([], []), ([5], [5]), ([6], [6]), ([4, 7], [4, 7]), ([8], [8])])
def spec_l1Act.B8 : List Nat := [0, 1, 0, 7, 15, 0, 32, 96, 255, 511]
theorem spec_l1Act.tab8 : rtab .any (opsOf Try.f88 8) = spec_l1Act.T8 := by kernel_rfl
theorem spec_l1Act.bits8 : waitsOk spec_l1Act.T8.2 spec_l1Act.B8 = true := by kernel_rfl
set_option maxHeartbeats 8000000 in
set_option maxRecDepth 100000 in
theorem spec_l1Act.calls (k : Nat) (A0_0 : Option Addr) (c0_0 : Nat) (l0_0 : List Int) (A0_1 : Option Addr) (c0_1 : Nat) (l0_1 : List (List (S57))) (a1 : Int) (a2_0 : Int) (A2_1 : Option Addr) (c2_1 : Nat) (l2_1 : List (S122)) (A2_2 : Option Addr) (c2_2 : Nat) (l2_2 : List Int) (a2_3 : Int) (r : Bool) (w : World) (hr0_0 : Kd.C (Kd.int .i64) w A0_0 l0_0.length l0_0) (hc0_0 : l0_0.length ≤ c0_0) (hr0_1 : Kd.C (Kd.slice 57 k57) w A0_1 l0_1.length l0_1) (hc0_1 : l0_1.length ≤ c0_1) (hr2_1 : Kd.C k122 w A2_1 l2_1.length l2_1) (hc2_1 : l2_1.length ≤ c2_1) (hr2_2 : Kd.C (Kd.int .i64) w A2_2 l2_2.length l2_2) (hc2_2 : l2_2.length ≤ c2_2) (h : spec_l1Act.f k l0_0 l0_1 a1 a2_0 l2_1 l2_2 a2_3 = some r) :
    Calls Try.prog 88 #[.agg #[.slice A0_0 l0_0.length c0_0, .slice A0_1 l0_1.length c0_1], .int .i64 a1, .agg #[.int .i64 a2_0, .slice A2_1 l2_1.length c2_1, .slice A2_2 l2_2.length c2_2, .int .i64 a2_3]] w fun e w' => e = .returned (.bool r) ∧ Below w.heap.size w w' := by
  have hu36 := Try.underlying36
  have hu57 := Try.underlying57
  have hu122 := Try.underlying122
  have HR0_0 := Aside0.mk hr0_0
  have HC0_0 := Aside0.mk hc0_0
  clear hr0_0 hc0_0
  have HR0_1 := Aside0.mk hr0_1
  have HC0_1 := Aside0.mk hc0_1
  clear hr0_1 hc0_1
  have HR2_1 := Aside0.mk hr2_1
  have HC2_1 := Aside0.mk hc2_1
  clear hr2_1 hc2_1
  have HR2_2 := Aside0.mk hr2_2
  have HC2_2 := Aside0.mk hc2_2
  clear hr2_2 hc2_2
  have HB := Aside0.mk (Below.refl w.heap.size w)
  have H : (if a2_0 = 1 then (if a2_0 = 2 then (if a2_0 = 4 then (spec_l1Act.j0 k a1 false l0_0 l0_1 a2_0 l2_1 l2_2 a2_3) else (spec_l1Act.j0 k a1 (a2_3 != 0) l0_0 l0_1 a2_0 l2_1 l2_2 a2_3)) else (if (l2_2.length : Int) > 0 then (spec_l1Act.j0 k a1 true l0_0 l0_1 a2_0 l2_1 l2_2 a2_3) else (if a2_0 = 4 then (spec_l1Act.j0 k a1 false l0_0 l0_1 a2_0 l2_1 l2_2 a2_3) else (spec_l1Act.j0 k a1 (a2_3 != 0) l0_0 l0_1 a2_0 l2_1 l2_2 a2_3)))) else (if (l2_1.length : Int) > 0 then (spec_l1Act.j0 k a1 true l0_0 l0_1 a2_0 l2_1 l2_2 a2_3) else (if a2_0 = 2 then (if a2_0 = 4 then (spec_l1Act.j0 k a1 false l0_0 l0_1 a2_0 l2_1 l2_2 a2_3) else (spec_l1Act.j0 k a1 (a2_3 != 0) l0_0 l0_1 a2_0 l2_1 l2_2 a2_3)) else (if (l2_2.length : Int) > 0 then (spec_l1Act.j0 k a1 true l0_0 l0_1 a2_0 l2_1 l2_2 a2_3) else (if a2_0 = 4 then (spec_l1Act.j0 k a1 false l0_0 l0_1 a2_0 l2_1 l2_2 a2_3) else (spec_l1Act.j0 k a1 (a2_3 != 0) l0_0 l0_1 a2_0 l2_1 l2_2 a2_3)))))) = some r := h
  clear h
  have HC4 := Aside0.mk H
  clear H
  go_enter Try.func88, Try.ntmps88
  go_upto_region 1 with (first | ((with_reducible refine gate_dst (N := 3) rfl ?_); (try (refine gate_guard (by rfl) ?_; dsimp only)); refine box_event ?hg (N := 3) ?hd (cs := #[.slice A0_0 l0_0.length c0_0, .slice A0_1 l0_1.length c0_1]) (t := 36) ?hr ?_; (case hd => rfl); (case hg => rfl); (case hr => first | (go_simp; done) | (go_simp; rfl)); intro gb121 hg w5 hbox hb; have n0_ := Aside0.mk (below_step (by repeat (first | (with_reducible first | exact HB.out | apply below_alloc | apply pw_below_drewN | apply below_drew1) | exact HB.out)) hb); have n1_ := Aside0.mk (hbox); have n2_ := Aside0.mk ((by rw [hg]; exact (below_size (by repeat (first | (with_reducible first | exact HB.out | apply below_alloc | apply pw_below_drewN | apply below_drew1) | exact HB.out))) : w.heap.size ≤ gb121)); have n3_ := Aside0.mk ((by rw [hg]; exact (below_size (by repeat (first | (with_reducible first | exact HB.out | apply below_alloc | apply pw_below_drewN | apply below_drew1) | exact HB.out))) : w.heap.size ≤ gb121)); clear HB; have HB := n0_; have BK121 := n1_; have GW121 := n2_; have GE121 := n3_; clear n0_ n1_ n2_ n3_; clear hb hbox hg) | ((with_reducible refine gate_dst (N := 5) rfl ?_); (try (refine gate_guard (by rfl) ?_; dsimp only)); refine box_event ?hg (N := 5) ?hd (cs := #[.int .i64 a2_0, .slice A2_1 l2_1.length c2_1, .slice A2_2 l2_2.length c2_2, .int .i64 a2_3]) (t := 57) ?hr ?_; (case hd => rfl); (case hg => rfl); (case hr => first | (go_simp; done) | (go_simp; rfl)); intro gb122 hg w6 hbox hb; have n0_ := Aside0.mk (blk_below (g := gb121) (o := .cells #[.slice A0_0 l0_0.length c0_0, .slice A0_1 l0_1.length c0_1] 36 (0, 0)) (by (with_reducible repeat (first | refine blk_drewN ?_ _ | refine blk_drew ?_ | refine blk_alloc ?_ _)); exact BK121.out) hb); have n1_ := Aside0.mk (below_step (by repeat (first | (with_reducible first | exact HB.out | apply below_alloc | apply pw_below_drewN | apply below_drew1 | refine below_set ?_ GE121.out) | exact HB.out)) hb); have n2_ := Aside0.mk (hbox); have n3_ := Aside0.mk ((by rw [hg]; exact (below_size (by repeat (first | (with_reducible first | exact HB.out | apply below_alloc | apply pw_below_drewN | apply below_drew1 | refine below_set ?_ GE121.out) | exact HB.out))) : w.heap.size ≤ gb122)); have n4_ := Aside0.mk ((by rw [hg]; exact (below_size (by repeat (first | (with_reducible first | exact HB.out | apply below_alloc | apply pw_below_drewN | apply below_drew1 | refine below_set ?_ GE121.out) | exact HB.out))) : w.heap.size ≤ gb122)); have n5_ := Aside0.mk ((by rw [hg]; exact Nat.ne_of_lt (blk_lt (g := gb121) (o := .cells #[.slice A0_0 l0_0.length c0_0, .slice A0_1 l0_1.length c0_1] 36 (0, 0)) (by (with_reducible repeat (first | refine blk_drewN ?_ _ | refine blk_drew ?_ | refine blk_alloc ?_ _)); exact BK121.out)) : gb121 ≠ gb122)); have n6_ := Aside0.mk ((by rw [hg]; exact Nat.ne_of_gt (blk_lt (g := gb121) (o := .cells #[.slice A0_0 l0_0.length c0_0, .slice A0_1 l0_1.length c0_1] 36 (0, 0)) (by (with_reducible repeat (first | refine blk_drewN ?_ _ | refine blk_drew ?_ | refine blk_alloc ?_ _)); exact BK121.out)) : gb122 ≠ gb121)); clear BK121; clear HB; have BK121 := n0_; have HB := n1_; have BK122 := n2_; have GW122 := n3_; have GE122 := n4_; have NB121_122 := n5_; have NB122_121 := n6_; clear n0_ n1_ n2_ n3_ n4_ n5_ n6_; clear hb hbox hg))
  (try simp only [Act.put, List.setIfInBounds_toArray, List.set_cons_zero, List.set_cons_succ])
  go_cut [37] (fun v37 wc => ∃ (kq : Nat) (x37_3 : Bool), v37 = .bool x37_3 ∧ Aside0 (spec_l1Act.j0 kq a1 x37_3 l0_0 l0_1 a2_0 l2_1 l2_2 a2_3 = some r) ∧ Aside0 (kq ≤ k) ∧ Aside0 (wc.heap[gb121]? = some (.cells #[(.slice A0_0 l0_0.length c0_0), (.slice A0_1 l0_1.length c0_1)] 36 (0, 0))) ∧ Aside0 (wc.heap[gb122]? = some (.cells #[.int .i64 a2_0, (.slice A2_1 l2_1.length c2_1), (.slice A2_2 l2_2.length c2_2), .int .i64 a2_3] 57 (0, 0))) ∧ Aside0 (Below w.heap.size w wc))
  case first =>
    have H := HC4.out
    clear HC4
    by_cases c7 : a2_0 = 1
    · rw [if_pos c7] at H
      have c7b0 : (a2_0 == 1) = true := beq_iff_eq.mpr c7
      have c7b1 : (a2_0 != 1) = false := bne_eq_false_iff_eq.mpr c7
      clear c7
      (first | rw [c7b0] | (simp only [i64_w, i32_w]; rw [c7b0]) | skip)
      by_cases c8 : a2_0 = 2
      · rw [if_pos c8] at H
        have c8b0 : (a2_0 == 2) = true := beq_iff_eq.mpr c8
        have c8b1 : (a2_0 != 2) = false := bne_eq_false_iff_eq.mpr c8
        clear c8
        by_cases c9 : a2_0 = 4
        · rw [if_pos c9] at H
          have c9b0 : (a2_0 == 4) = true := beq_iff_eq.mpr c9
          have c9b1 : (a2_0 != 4) = false := bne_eq_false_iff_eq.mpr c9
          clear c9
          have H' := Aside0.mk H
          clear H
          have hnb10 := NB122_121.out
          have hnc10 := NB121_122.out
          have hcz11_0 : w6.cell? ⟨gb122, 0, none⟩ = some (.int .i64 a2_0) := (blk_cell BK122.out 0).trans rfl
          have hcz11_1 : w6.cell? ⟨gb122, 1, none⟩ = some (.slice A2_1 l2_1.length c2_1) := (blk_cell BK122.out 1).trans rfl
          have hcz11_2 : w6.cell? ⟨gb122, 2, none⟩ = some (.slice A2_2 l2_2.length c2_2) := (blk_cell BK122.out 2).trans rfl
          have hcz11_3 : w6.cell? ⟨gb122, 3, none⟩ = some (.int .i64 a2_3) := (blk_cell BK122.out 3).trans rfl
          have hfz11_0 := blk_frozen BK122.out 0
          have hfz11_1 := blk_frozen BK122.out 1
          have hfz11_2 := blk_frozen BK122.out 2
          have hfz11_3 := blk_frozen BK122.out 3
          go_wp2
          go_meet
          case rel => exact ⟨_, (false), (by first | rfl | (simp; done) | (simp [*]; done)), H', ⟨by first | omega | exact Nat.le_refl _⟩, ⟨by (with_reducible repeat (first | refine blk_drewN ?_ _ | refine blk_drew ?_ | refine blk_alloc ?_ _)); exact BK121.out⟩, ⟨by (with_reducible repeat (first | refine blk_drewN ?_ _ | refine blk_drew ?_ | refine blk_alloc ?_ _)); exact BK122.out⟩, ⟨by repeat (first | (with_reducible first | exact HB.out | apply below_alloc | apply pw_below_drewN | apply below_drew1 | refine below_set ?_ GE121.out | refine below_set ?_ GE122.out) | exact HB.out)⟩⟩
        · rw [if_neg c9] at H
          have c9b0 : (a2_0 == 4) = false := beq_eq_false_iff_ne.mpr c9
          have c9b1 : (a2_0 != 4) = true := bne_iff_ne.mpr c9
          have H' := Aside0.mk H
          clear H
          have hnb12 := NB122_121.out
          have hnc12 := NB121_122.out
          have hcz13_0 : w6.cell? ⟨gb122, 0, none⟩ = some (.int .i64 a2_0) := (blk_cell BK122.out 0).trans rfl
          have hcz13_1 : w6.cell? ⟨gb122, 1, none⟩ = some (.slice A2_1 l2_1.length c2_1) := (blk_cell BK122.out 1).trans rfl
          have hcz13_2 : w6.cell? ⟨gb122, 2, none⟩ = some (.slice A2_2 l2_2.length c2_2) := (blk_cell BK122.out 2).trans rfl
          have hcz13_3 : w6.cell? ⟨gb122, 3, none⟩ = some (.int .i64 a2_3) := (blk_cell BK122.out 3).trans rfl
          have hfz13_0 := blk_frozen BK122.out 0
          have hfz13_1 := blk_frozen BK122.out 1
          have hfz13_2 := blk_frozen BK122.out 2
          have hfz13_3 := blk_frozen BK122.out 3
          go_wp2
          go_meet
          case rel => exact ⟨_, ((a2_3 != 0)), (by first | rfl | (simp; done) | (simp [*]; done)), H', ⟨by first | omega | exact Nat.le_refl _⟩, ⟨by (with_reducible repeat (first | refine blk_drewN ?_ _ | refine blk_drew ?_ | refine blk_alloc ?_ _)); exact BK121.out⟩, ⟨by (with_reducible repeat (first | refine blk_drewN ?_ _ | refine blk_drew ?_ | refine blk_alloc ?_ _)); exact BK122.out⟩, ⟨by repeat (first | (with_reducible first | exact HB.out | apply below_alloc | apply pw_below_drewN | apply below_drew1 | refine below_set ?_ GE121.out | refine below_set ?_ GE122.out) | exact HB.out)⟩⟩
      · rw [if_neg c8] at H
        have c8b0 : (a2_0 == 2) = false := beq_eq_false_iff_ne.mpr c8
        have c8b1 : (a2_0 != 2) = true := bne_iff_ne.mpr c8
        by_cases c14 : (l2_2.length : Int) > 0
        · rw [if_pos c14] at H
          have c14b0 : decide (0 < (l2_2.length : Int)) = true := decide_eq_true c14
          have c14b1 : decide (0 < l2_2.length) = true := decide_eq_true (by omega)
          clear c14
          have H' := Aside0.mk H
          clear H
          have hnb15 := NB122_121.out
          have hnc15 := NB121_122.out
          have hcz16_0 : w6.cell? ⟨gb122, 0, none⟩ = some (.int .i64 a2_0) := (blk_cell BK122.out 0).trans rfl
          have hcz16_1 : w6.cell? ⟨gb122, 1, none⟩ = some (.slice A2_1 l2_1.length c2_1) := (blk_cell BK122.out 1).trans rfl
          have hcz16_2 : w6.cell? ⟨gb122, 2, none⟩ = some (.slice A2_2 l2_2.length c2_2) := (blk_cell BK122.out 2).trans rfl
          have hcz16_3 : w6.cell? ⟨gb122, 3, none⟩ = some (.int .i64 a2_3) := (blk_cell BK122.out 3).trans rfl
          have hfz16_0 := blk_frozen BK122.out 0
          have hfz16_1 := blk_frozen BK122.out 1
          have hfz16_2 := blk_frozen BK122.out 2
          have hfz16_3 := blk_frozen BK122.out 3
          go_wp2
          go_meet
          case rel => exact ⟨_, (true), (by first | rfl | (simp; done) | (simp [*]; done)), H', ⟨by first | omega | exact Nat.le_refl _⟩, ⟨by (with_reducible repeat (first | refine blk_drewN ?_ _ | refine blk_drew ?_ | refine blk_alloc ?_ _)); exact BK121.out⟩, ⟨by (with_reducible repeat (first | refine blk_drewN ?_ _ | refine blk_drew ?_ | refine blk_alloc ?_ _)); exact BK122.out⟩, ⟨by repeat (first | (with_reducible first | exact HB.out | apply below_alloc | apply pw_below_drewN | apply below_drew1 | refine below_set ?_ GE121.out | refine below_set ?_ GE122.out) | exact HB.out)⟩⟩
        · rw [if_neg c14] at H
          have c14b0 : decide (0 < (l2_2.length : Int)) = false := decide_eq_false c14
          have c14b1 : decide (0 < l2_2.length) = false := decide_eq_false (by omega)
          clear c14
          by_cases c17 : a2_0 = 4
          · rw [if_pos c17] at H
            have c17b0 : (a2_0 == 4) = true := beq_iff_eq.mpr c17
            have c17b1 : (a2_0 != 4) = false := bne_eq_false_iff_eq.mpr c17
            clear c17
            have H' := Aside0.mk H
            clear H
            have hnb18 := NB122_121.out
            have hnc18 := NB121_122.out
            have hcz19_0 : w6.cell? ⟨gb122, 0, none⟩ = some (.int .i64 a2_0) := (blk_cell BK122.out 0).trans rfl
            have hcz19_1 : w6.cell? ⟨gb122, 1, none⟩ = some (.slice A2_1 l2_1.length c2_1) := (blk_cell BK122.out 1).trans rfl
            have hcz19_2 : w6.cell? ⟨gb122, 2, none⟩ = some (.slice A2_2 l2_2.length c2_2) := (blk_cell BK122.out 2).trans rfl
            have hcz19_3 : w6.cell? ⟨gb122, 3, none⟩ = some (.int .i64 a2_3) := (blk_cell BK122.out 3).trans rfl
            have hfz19_0 := blk_frozen BK122.out 0
            have hfz19_1 := blk_frozen BK122.out 1
            have hfz19_2 := blk_frozen BK122.out 2
            have hfz19_3 := blk_frozen BK122.out 3
            go_wp2
            go_meet
            case rel => exact ⟨_, (false), (by first | rfl | (simp; done) | (simp [*]; done)), H', ⟨by first | omega | exact Nat.le_refl _⟩, ⟨by (with_reducible repeat (first | refine blk_drewN ?_ _ | refine blk_drew ?_ | refine blk_alloc ?_ _)); exact BK121.out⟩, ⟨by (with_reducible repeat (first | refine blk_drewN ?_ _ | refine blk_drew ?_ | refine blk_alloc ?_ _)); exact BK122.out⟩, ⟨by repeat (first | (with_reducible first | exact HB.out | apply below_alloc | apply pw_below_drewN | apply below_drew1 | refine below_set ?_ GE121.out | refine below_set ?_ GE122.out) | exact HB.out)⟩⟩
          · rw [if_neg c17] at H
            have c17b0 : (a2_0 == 4) = false := beq_eq_false_iff_ne.mpr c17
            have c17b1 : (a2_0 != 4) = true := bne_iff_ne.mpr c17
            have H' := Aside0.mk H
            clear H
            have hnb20 := NB122_121.out
            have hnc20 := NB121_122.out
            have hcz21_0 : w6.cell? ⟨gb122, 0, none⟩ = some (.int .i64 a2_0) := (blk_cell BK122.out 0).trans rfl
            have hcz21_1 : w6.cell? ⟨gb122, 1, none⟩ = some (.slice A2_1 l2_1.length c2_1) := (blk_cell BK122.out 1).trans rfl
            have hcz21_2 : w6.cell? ⟨gb122, 2, none⟩ = some (.slice A2_2 l2_2.length c2_2) := (blk_cell BK122.out 2).trans rfl
            have hcz21_3 : w6.cell? ⟨gb122, 3, none⟩ = some (.int .i64 a2_3) := (blk_cell BK122.out 3).trans rfl
            have hfz21_0 := blk_frozen BK122.out 0
            have hfz21_1 := blk_frozen BK122.out 1
            have hfz21_2 := blk_frozen BK122.out 2
            have hfz21_3 := blk_frozen BK122.out 3
            go_wp2
            go_meet
            case rel => exact ⟨_, ((a2_3 != 0)), (by first | rfl | (simp; done) | (simp [*]; done)), H', ⟨by first | omega | exact Nat.le_refl _⟩, ⟨by (with_reducible repeat (first | refine blk_drewN ?_ _ | refine blk_drew ?_ | refine blk_alloc ?_ _)); exact BK121.out⟩, ⟨by (with_reducible repeat (first | refine blk_drewN ?_ _ | refine blk_drew ?_ | refine blk_alloc ?_ _)); exact BK122.out⟩, ⟨by repeat (first | (with_reducible first | exact HB.out | apply below_alloc | apply pw_below_drewN | apply below_drew1 | refine below_set ?_ GE121.out | refine below_set ?_ GE122.out) | exact HB.out)⟩⟩
    · rw [if_neg c7] at H
      have c7b0 : (a2_0 == 1) = false := beq_eq_false_iff_ne.mpr c7
      have c7b1 : (a2_0 != 1) = true := bne_iff_ne.mpr c7
      (first | rw [c7b0] | (simp only [i64_w, i32_w]; rw [c7b0]) | skip)
      by_cases c22 : (l2_1.length : Int) > 0
      · rw [if_pos c22] at H
        have c22b0 : decide (0 < (l2_1.length : Int)) = true := decide_eq_true c22
        have c22b1 : decide (0 < l2_1.length) = true := decide_eq_true (by omega)
        clear c22
        have H' := Aside0.mk H
        clear H
        have hnb23 := NB122_121.out
        have hnc23 := NB121_122.out
        have hcz24_0 : w6.cell? ⟨gb122, 0, none⟩ = some (.int .i64 a2_0) := (blk_cell BK122.out 0).trans rfl
        have hcz24_1 : w6.cell? ⟨gb122, 1, none⟩ = some (.slice A2_1 l2_1.length c2_1) := (blk_cell BK122.out 1).trans rfl
        have hcz24_2 : w6.cell? ⟨gb122, 2, none⟩ = some (.slice A2_2 l2_2.length c2_2) := (blk_cell BK122.out 2).trans rfl
        have hcz24_3 : w6.cell? ⟨gb122, 3, none⟩ = some (.int .i64 a2_3) := (blk_cell BK122.out 3).trans rfl
        have hfz24_0 := blk_frozen BK122.out 0
        have hfz24_1 := blk_frozen BK122.out 1
        have hfz24_2 := blk_frozen BK122.out 2
        have hfz24_3 := blk_frozen BK122.out 3
        go_wp2
        go_meet
        case rel => exact ⟨_, (true), (by first | rfl | (simp; done) | (simp [*]; done)), H', ⟨by first | omega | exact Nat.le_refl _⟩, ⟨by (with_reducible repeat (first | refine blk_drewN ?_ _ | refine blk_drew ?_ | refine blk_alloc ?_ _)); exact BK121.out⟩, ⟨by (with_reducible repeat (first | refine blk_drewN ?_ _ | refine blk_drew ?_ | refine blk_alloc ?_ _)); exact BK122.out⟩, ⟨by repeat (first | (with_reducible first | exact HB.out | apply below_alloc | apply pw_below_drewN | apply below_drew1 | refine below_set ?_ GE121.out | refine below_set ?_ GE122.out) | exact HB.out)⟩⟩
      · rw [if_neg c22] at H
        have c22b0 : decide (0 < (l2_1.length : Int)) = false := decide_eq_false c22
        have c22b1 : decide (0 < l2_1.length) = false := decide_eq_false (by omega)
        clear c22
        by_cases c25 : a2_0 = 2
        · rw [if_pos c25] at H
          have c25b0 : (a2_0 == 2) = true := beq_iff_eq.mpr c25
          have c25b1 : (a2_0 != 2) = false := bne_eq_false_iff_eq.mpr c25
          clear c25
          by_cases c26 : a2_0 = 4
          · rw [if_pos c26] at H
            have c26b0 : (a2_0 == 4) = true := beq_iff_eq.mpr c26
            have c26b1 : (a2_0 != 4) = false := bne_eq_false_iff_eq.mpr c26
            clear c26
            have H' := Aside0.mk H
            clear H
            have hnb27 := NB122_121.out
            have hnc27 := NB121_122.out
            have hcz28_0 : w6.cell? ⟨gb122, 0, none⟩ = some (.int .i64 a2_0) := (blk_cell BK122.out 0).trans rfl
            have hcz28_1 : w6.cell? ⟨gb122, 1, none⟩ = some (.slice A2_1 l2_1.length c2_1) := (blk_cell BK122.out 1).trans rfl
            have hcz28_2 : w6.cell? ⟨gb122, 2, none⟩ = some (.slice A2_2 l2_2.length c2_2) := (blk_cell BK122.out 2).trans rfl
            have hcz28_3 : w6.cell? ⟨gb122, 3, none⟩ = some (.int .i64 a2_3) := (blk_cell BK122.out 3).trans rfl
            have hfz28_0 := blk_frozen BK122.out 0
            have hfz28_1 := blk_frozen BK122.out 1
            have hfz28_2 := blk_frozen BK122.out 2
            have hfz28_3 := blk_frozen BK122.out 3
            go_wp2
            go_meet
            case rel => exact ⟨_, (false), (by first | rfl | (simp; done) | (simp [*]; done)), H', ⟨by first | omega | exact Nat.le_refl _⟩, ⟨by (with_reducible repeat (first | refine blk_drewN ?_ _ | refine blk_drew ?_ | refine blk_alloc ?_ _)); exact BK121.out⟩, ⟨by (with_reducible repeat (first | refine blk_drewN ?_ _ | refine blk_drew ?_ | refine blk_alloc ?_ _)); exact BK122.out⟩, ⟨by repeat (first | (with_reducible first | exact HB.out | apply below_alloc | apply pw_below_drewN | apply below_drew1 | refine below_set ?_ GE121.out | refine below_set ?_ GE122.out) | exact HB.out)⟩⟩
          · rw [if_neg c26] at H
            have c26b0 : (a2_0 == 4) = false := beq_eq_false_iff_ne.mpr c26
            have c26b1 : (a2_0 != 4) = true := bne_iff_ne.mpr c26
            have H' := Aside0.mk H
            clear H
            have hnb29 := NB122_121.out
            have hnc29 := NB121_122.out
            have hcz30_0 : w6.cell? ⟨gb122, 0, none⟩ = some (.int .i64 a2_0) := (blk_cell BK122.out 0).trans rfl
            have hcz30_1 : w6.cell? ⟨gb122, 1, none⟩ = some (.slice A2_1 l2_1.length c2_1) := (blk_cell BK122.out 1).trans rfl
            have hcz30_2 : w6.cell? ⟨gb122, 2, none⟩ = some (.slice A2_2 l2_2.length c2_2) := (blk_cell BK122.out 2).trans rfl
            have hcz30_3 : w6.cell? ⟨gb122, 3, none⟩ = some (.int .i64 a2_3) := (blk_cell BK122.out 3).trans rfl
            have hfz30_0 := blk_frozen BK122.out 0
            have hfz30_1 := blk_frozen BK122.out 1
            have hfz30_2 := blk_frozen BK122.out 2
            have hfz30_3 := blk_frozen BK122.out 3
            go_wp2
            go_meet
            case rel => exact ⟨_, ((a2_3 != 0)), (by first | rfl | (simp; done) | (simp [*]; done)), H', ⟨by first | omega | exact Nat.le_refl _⟩, ⟨by (with_reducible repeat (first | refine blk_drewN ?_ _ | refine blk_drew ?_ | refine blk_alloc ?_ _)); exact BK121.out⟩, ⟨by (with_reducible repeat (first | refine blk_drewN ?_ _ | refine blk_drew ?_ | refine blk_alloc ?_ _)); exact BK122.out⟩, ⟨by repeat (first | (with_reducible first | exact HB.out | apply below_alloc | apply pw_below_drewN | apply below_drew1 | refine below_set ?_ GE121.out | refine below_set ?_ GE122.out) | exact HB.out)⟩⟩
        · rw [if_neg c25] at H
          have c25b0 : (a2_0 == 2) = false := beq_eq_false_iff_ne.mpr c25
          have c25b1 : (a2_0 != 2) = true := bne_iff_ne.mpr c25
          by_cases c31 : (l2_2.length : Int) > 0
          · rw [if_pos c31] at H
            have c31b0 : decide (0 < (l2_2.length : Int)) = true := decide_eq_true c31
            have c31b1 : decide (0 < l2_2.length) = true := decide_eq_true (by omega)
            clear c31
            have H' := Aside0.mk H
            clear H
            have hnb32 := NB122_121.out
            have hnc32 := NB121_122.out
            have hcz33_0 : w6.cell? ⟨gb122, 0, none⟩ = some (.int .i64 a2_0) := (blk_cell BK122.out 0).trans rfl
            have hcz33_1 : w6.cell? ⟨gb122, 1, none⟩ = some (.slice A2_1 l2_1.length c2_1) := (blk_cell BK122.out 1).trans rfl
            have hcz33_2 : w6.cell? ⟨gb122, 2, none⟩ = some (.slice A2_2 l2_2.length c2_2) := (blk_cell BK122.out 2).trans rfl
            have hcz33_3 : w6.cell? ⟨gb122, 3, none⟩ = some (.int .i64 a2_3) := (blk_cell BK122.out 3).trans rfl
            have hfz33_0 := blk_frozen BK122.out 0
            have hfz33_1 := blk_frozen BK122.out 1
            have hfz33_2 := blk_frozen BK122.out 2
            have hfz33_3 := blk_frozen BK122.out 3
            go_wp2
            go_meet
            case rel => exact ⟨_, (true), (by first | rfl | (simp; done) | (simp [*]; done)), H', ⟨by first | omega | exact Nat.le_refl _⟩, ⟨by (with_reducible repeat (first | refine blk_drewN ?_ _ | refine blk_drew ?_ | refine blk_alloc ?_ _)); exact BK121.out⟩, ⟨by (with_reducible repeat (first | refine blk_drewN ?_ _ | refine blk_drew ?_ | refine blk_alloc ?_ _)); exact BK122.out⟩, ⟨by repeat (first | (with_reducible first | exact HB.out | apply below_alloc | apply pw_below_drewN | apply below_drew1 | refine below_set ?_ GE121.out | refine below_set ?_ GE122.out) | exact HB.out)⟩⟩
          · rw [if_neg c31] at H
            have c31b0 : decide (0 < (l2_2.length : Int)) = false := decide_eq_false c31
            have c31b1 : decide (0 < l2_2.length) = false := decide_eq_false (by omega)
            clear c31
            by_cases c34 : a2_0 = 4
            · rw [if_pos c34] at H
              have c34b0 : (a2_0 == 4) = true := beq_iff_eq.mpr c34
              have c34b1 : (a2_0 != 4) = false := bne_eq_false_iff_eq.mpr c34
              clear c34
              have H' := Aside0.mk H
              clear H
              have hnb35 := NB122_121.out
              have hnc35 := NB121_122.out
              have hcz36_0 : w6.cell? ⟨gb122, 0, none⟩ = some (.int .i64 a2_0) := (blk_cell BK122.out 0).trans rfl
              have hcz36_1 : w6.cell? ⟨gb122, 1, none⟩ = some (.slice A2_1 l2_1.length c2_1) := (blk_cell BK122.out 1).trans rfl
              have hcz36_2 : w6.cell? ⟨gb122, 2, none⟩ = some (.slice A2_2 l2_2.length c2_2) := (blk_cell BK122.out 2).trans rfl
              have hcz36_3 : w6.cell? ⟨gb122, 3, none⟩ = some (.int .i64 a2_3) := (blk_cell BK122.out 3).trans rfl
              have hfz36_0 := blk_frozen BK122.out 0
              have hfz36_1 := blk_frozen BK122.out 1
              have hfz36_2 := blk_frozen BK122.out 2
              have hfz36_3 := blk_frozen BK122.out 3
              go_wp2
              go_meet
              case rel => exact ⟨_, (false), (by first | rfl | (simp; done) | (simp [*]; done)), H', ⟨by first | omega | exact Nat.le_refl _⟩, ⟨by (with_reducible repeat (first | refine blk_drewN ?_ _ | refine blk_drew ?_ | refine blk_alloc ?_ _)); exact BK121.out⟩, ⟨by (with_reducible repeat (first | refine blk_drewN ?_ _ | refine blk_drew ?_ | refine blk_alloc ?_ _)); exact BK122.out⟩, ⟨by repeat (first | (with_reducible first | exact HB.out | apply below_alloc | apply pw_below_drewN | apply below_drew1 | refine below_set ?_ GE121.out | refine below_set ?_ GE122.out) | exact HB.out)⟩⟩
            · rw [if_neg c34] at H
              have c34b0 : (a2_0 == 4) = false := beq_eq_false_iff_ne.mpr c34
              have c34b1 : (a2_0 != 4) = true := bne_iff_ne.mpr c34
              have H' := Aside0.mk H
              clear H
              have hnb37 := NB122_121.out
              have hnc37 := NB121_122.out
              have hcz38_0 : w6.cell? ⟨gb122, 0, none⟩ = some (.int .i64 a2_0) := (blk_cell BK122.out 0).trans rfl
              have hcz38_1 : w6.cell? ⟨gb122, 1, none⟩ = some (.slice A2_1 l2_1.length c2_1) := (blk_cell BK122.out 1).trans rfl
              have hcz38_2 : w6.cell? ⟨gb122, 2, none⟩ = some (.slice A2_2 l2_2.length c2_2) := (blk_cell BK122.out 2).trans rfl
              have hcz38_3 : w6.cell? ⟨gb122, 3, none⟩ = some (.int .i64 a2_3) := (blk_cell BK122.out 3).trans rfl
              have hfz38_0 := blk_frozen BK122.out 0
              have hfz38_1 := blk_frozen BK122.out 1
              have hfz38_2 := blk_frozen BK122.out 2
              have hfz38_3 := blk_frozen BK122.out 3
              go_wp2
              go_meet
              case rel => exact ⟨_, ((a2_3 != 0)), (by first | rfl | (simp; done) | (simp [*]; done)), H', ⟨by first | omega | exact Nat.le_refl _⟩, ⟨by (with_reducible repeat (first | refine blk_drewN ?_ _ | refine blk_drew ?_ | refine blk_alloc ?_ _)); exact BK121.out⟩, ⟨by (with_reducible repeat (first | refine blk_drewN ?_ _ | refine blk_drew ?_ | refine blk_alloc ?_ _)); exact BK122.out⟩, ⟨by repeat (first | (with_reducible first | exact HB.out | apply below_alloc | apply pw_below_drewN | apply below_drew1 | refine below_set ?_ GE121.out | refine below_set ?_ GE122.out) | exact HB.out)⟩⟩
  case rest =>
    clear HC4
    try clear c1
    try clear c2
    try clear p2
    try clear c3
    try clear c7
    try clear c7b0
    try clear c7b1
    try clear c8
    try clear c8b0
    try clear c8b1
    try clear c9
    try clear c9b0
    try clear c9b1
    try clear c10
    try clear c12
    try clear c14
    try clear c14b0
    try clear c14b1
    try clear c15
    try clear c17
    try clear c17b0
    try clear c17b1
    try clear c18
    try clear c20
    try clear c22
    try clear c22b0
    try clear c22b1
    try clear c23
    try clear c25
    try clear c25b0
    try clear c25b1
    try clear c26
    try clear c26b0
    try clear c26b1
    try clear c27
    try clear c29
    try clear c31
    try clear c31b0
    try clear c31b1
    try clear c32
    try clear c34
    try clear c34b0
    try clear c34b1
    try clear c35
    try clear c37
    try clear hcz11_0
    try clear hcz11_1
    try clear hcz11_2
    try clear hcz11_3
    try clear hcz13_0
    try clear hcz13_1
    try clear hcz13_2
    try clear hcz13_3
    try clear hcz16_0
    try clear hcz16_1
    try clear hcz16_2
    try clear hcz16_3
    try clear hcz19_0
    try clear hcz19_1
    try clear hcz19_2
    try clear hcz19_3
    try clear hcz21_0
    try clear hcz21_1
    try clear hcz21_2
    try clear hcz21_3
    try clear hcz24_0
    try clear hcz24_1
    try clear hcz24_2
    try clear hcz24_3
    try clear hcz28_0
    try clear hcz28_1
    try clear hcz28_2
    try clear hcz28_3
    try clear hcz30_0
    try clear hcz30_1
    try clear hcz30_2
    try clear hcz30_3
    try clear hcz33_0
    try clear hcz33_1
    try clear hcz33_2
    try clear hcz33_3
    try clear hcz36_0
    try clear hcz36_1
    try clear hcz36_2
    try clear hcz36_3
    try clear hcz38_0
    try clear hcz38_1
    try clear hcz38_2
    try clear hcz38_3
    try clear hfz11_0
    try clear hfz11_1
    try clear hfz11_2
    try clear hfz11_3
    try clear hfz13_0
    try clear hfz13_1
    try clear hfz13_2
    try clear hfz13_3
    try clear hfz16_0
    try clear hfz16_1
    try clear hfz16_2
    try clear hfz16_3
    try clear hfz19_0
    try clear hfz19_1
    try clear hfz19_2
    try clear hfz19_3
    try clear hfz21_0
    try clear hfz21_1
    try clear hfz21_2
    try clear hfz21_3
    try clear hfz24_0
    try clear hfz24_1
    try clear hfz24_2
    try clear hfz24_3
    try clear hfz28_0
    try clear hfz28_1
    try clear hfz28_2
    try clear hfz28_3
    try clear hfz30_0
    try clear hfz30_1
    try clear hfz30_2
    try clear hfz30_3
    try clear hfz33_0
    try clear hfz33_1
    try clear hfz33_2
    try clear hfz33_3
    try clear hfz36_0
    try clear hfz36_1
    try clear hfz36_2
    try clear hfz36_3
    try clear hfz38_0
    try clear hfz38_1
    try clear hfz38_2
    try clear hfz38_3
    obtain ⟨kq, x37_3, rfl, HA, HJ3, BK121, BK122, HB⟩ := hcut
    cases kq with
    | zero => exact absurd HA.out (by simp [spec_l1Act.j0])
    | succ kj3 =>
      have H := HA.out
      clear HA
      simp only [spec_l1Act.j0] at H
      by_cases c39 : x37_3 = true
      · subst c39
        have H1 : (some false) = some r := by rw [if_pos rfl] at H; exact H
        clear H
        have H := H1
        clear H1
        obtain rfl := Option.some.inj H
        go_wp2
        go_ret
        exact ⟨by first | rfl | (simp [errW_none, errW_some] <;> rfl) | (simp [*, errW_none, errW_some] <;> rfl), by repeat (first | (with_reducible first | exact HB.out | apply below_alloc | apply pw_below_drewN | apply below_drew1 | refine below_set ?_ GE121.out | refine below_set ?_ GE122.out) | exact HB.out)⟩
      · replace c39 := Bool.eq_false_iff.mpr c39
        subst c39
        have H1 : (if a2_0 = 1 then (spec_l1Act.l0 kj3 0 l0_0 l0_1 a2_0 l2_1 l2_2 a2_3) else (if a2_0 = 2 then ((spec_l1Kids.f kj3 l2_2 a1 (l0_1.length : Int)).bind fun t125 => (some t125)) else (if a2_0 = 3 then (some true) else (if a2_0 = 4 then ((spec_l6In.f a2_3 0 2).bind fun t126 => (some t126)) else (some false))))) = some r := by rw [if_neg (show ¬ (false = true) by decide)] at H; exact H
        clear H
        have H := H1
        clear H1
        by_cases c40 : a2_0 = 1
        · rw [if_pos c40] at H
          have c40b0 : (a2_0 == 1) = true := beq_iff_eq.mpr c40
          have c40b1 : (a2_0 != 1) = false := bne_eq_false_iff_eq.mpr c40
          clear c40
          have H' := Aside0.mk H
          clear H
          have hnb41 := NB122_121.out
          have hnc41 := NB121_122.out
          have hcz42_0 : wc.cell? ⟨gb122, 0, none⟩ = some (.int .i64 a2_0) := (blk_cell BK122.out 0).trans rfl
          have hcz42_1 : wc.cell? ⟨gb122, 1, none⟩ = some (.slice A2_1 l2_1.length c2_1) := (blk_cell BK122.out 1).trans rfl
          have hcz42_2 : wc.cell? ⟨gb122, 2, none⟩ = some (.slice A2_2 l2_2.length c2_2) := (blk_cell BK122.out 2).trans rfl
          have hcz42_3 : wc.cell? ⟨gb122, 3, none⟩ = some (.int .i64 a2_3) := (blk_cell BK122.out 3).trans rfl
          have hfz42_0 := blk_frozen BK122.out 0
          have hfz42_1 := blk_frozen BK122.out 1
          have hfz42_2 := blk_frozen BK122.out 2
          have hfz42_3 := blk_frozen BK122.out 3
          go_wp2
          go_loopg [7] kj3 (fun kq v7 w' => ∃ (x7_2 : Int), v7 = .int .i64 x7_2 ∧ Aside0 (spec_l1Act.l0 kq x7_2 l0_0 l0_1 a2_0 l2_1 l2_2 a2_3 = some r) ∧ Aside0 (kq ≤ kj3) ∧ Aside0 (w'.heap[gb121]? = some (.cells #[(.slice A0_0 l0_0.length c0_0), (.slice A0_1 l0_1.length c0_1)] 36 (0, 0))) ∧ Aside0 (w'.heap[gb122]? = some (.cells #[.int .i64 a2_0, (.slice A2_1 l2_1.length c2_1), (.slice A2_2 l2_2.length c2_2), .int .i64 a2_3] 57 (0, 0))) ∧ Aside0 (Below w.heap.size w w'))
          case atStart => exact ⟨(0), (by first | rfl | (simp; done) | (simp [*]; done)), H', ⟨Nat.le_refl _⟩, ⟨by (with_reducible repeat (first | refine blk_drewN ?_ _ | refine blk_drew ?_ | refine blk_alloc ?_ _)); exact BK121.out⟩, ⟨by (with_reducible repeat (first | refine blk_drewN ?_ _ | refine blk_drew ?_ | refine blk_alloc ?_ _)); exact BK122.out⟩, ⟨by repeat (first | (with_reducible first | exact HB.out | apply below_alloc | apply pw_below_drewN | apply below_drew1 | refine below_set ?_ GE121.out | refine below_set ?_ GE122.out) | exact HB.out)⟩⟩
          case round =>
            clear H'
            try clear c1
            try clear c2
            try clear p2
            try clear c3
            try clear c4
            try clear c7
            try clear c7b0
            try clear c7b1
            try clear c8
            try clear c8b0
            try clear c8b1
            try clear c9
            try clear c9b0
            try clear c9b1
            try clear c10
            try clear c12
            try clear c14
            try clear c14b0
            try clear c14b1
            try clear c15
            try clear c17
            try clear c17b0
            try clear c17b1
            try clear c18
            try clear c20
            try clear c22
            try clear c22b0
            try clear c22b1
            try clear c23
            try clear c25
            try clear c25b0
            try clear c25b1
            try clear c26
            try clear c26b0
            try clear c26b1
            try clear c27
            try clear c29
            try clear c31
            try clear c31b0
            try clear c31b1
            try clear c32
            try clear c34
            try clear c34b0
            try clear c34b1
            try clear c35
            try clear c37
            try clear c39
            try clear c40
            try clear c40b0
            try clear c40b1
            try clear c41
            try clear hcz11_0
            try clear hcz11_1
            try clear hcz11_2
            try clear hcz11_3
            try clear hcz13_0
            try clear hcz13_1
            try clear hcz13_2
            try clear hcz13_3
            try clear hcz16_0
            try clear hcz16_1
            try clear hcz16_2
            try clear hcz16_3
            try clear hcz19_0
            try clear hcz19_1
            try clear hcz19_2
            try clear hcz19_3
            try clear hcz21_0
            try clear hcz21_1
            try clear hcz21_2
            try clear hcz21_3
            try clear hcz24_0
            try clear hcz24_1
            try clear hcz24_2
            try clear hcz24_3
            try clear hcz28_0
            try clear hcz28_1
            try clear hcz28_2
            try clear hcz28_3
            try clear hcz30_0
            try clear hcz30_1
            try clear hcz30_2
            try clear hcz30_3
            try clear hcz33_0
            try clear hcz33_1
            try clear hcz33_2
            try clear hcz33_3
            try clear hcz36_0
            try clear hcz36_1
            try clear hcz36_2
            try clear hcz36_3
            try clear hcz38_0
            try clear hcz38_1
            try clear hcz38_2
            try clear hcz38_3
            try clear hcz42_0
            try clear hcz42_1
            try clear hcz42_2
            try clear hcz42_3
            try clear hfz11_0
            try clear hfz11_1
            try clear hfz11_2
            try clear hfz11_3
            try clear hfz13_0
            try clear hfz13_1
            try clear hfz13_2
            try clear hfz13_3
            try clear hfz16_0
            try clear hfz16_1
            try clear hfz16_2
            try clear hfz16_3
            try clear hfz19_0
            try clear hfz19_1
            try clear hfz19_2
            try clear hfz19_3
            try clear hfz21_0
            try clear hfz21_1
            try clear hfz21_2
            try clear hfz21_3
            try clear hfz24_0
            try clear hfz24_1
            try clear hfz24_2
            try clear hfz24_3
            try clear hfz28_0
            try clear hfz28_1
            try clear hfz28_2
            try clear hfz28_3
            try clear hfz30_0
            try clear hfz30_1
            try clear hfz30_2
            try clear hfz30_3
            try clear hfz33_0
            try clear hfz33_1
            try clear hfz33_2
            try clear hfz33_3
            try clear hfz36_0
            try clear hfz36_1
            try clear hfz36_2
            try clear hfz36_3
            try clear hfz38_0
            try clear hfz38_1
            try clear hfz38_2
            try clear hfz38_3
            try clear hfz42_0
            try clear hfz42_1
            try clear hfz42_2
            try clear hfz42_3
            try clear p2
            obtain ⟨x7_2, rfl, HA, HK2, BK121, BK122, HB⟩ := hrel
            cases gk with
            | zero => exact absurd HA.out (by simp [spec_l1Act.l0])
            | succ k2 =>
              have H := HA.out
              clear HA
              simp only [spec_l1Act.l0] at H
              by_cases c43 : x7_2 < (l2_1.length : Int)
              · rw [if_pos c43] at H
                have c43b0 : decide (x7_2 < (l2_1.length : Int)) = true := decide_eq_true c43
                clear c43
                by_cases c44 : 0 ≤ x7_2
                · rw [if_pos c44] at H
                  have c44b0 : decide (0 ≤ x7_2) = true := decide_eq_true c44
                  clear c44
                  replace H := Option.bind_eq_some_iff.mp H
                  obtain ⟨t124, A450, H⟩ := H
                  replace H : (if t124 = true then (spec_l1Act.l0 k2 (wrap64 (x7_2 + 1)) l0_0 l0_1 a2_0 l2_1 l2_2 a2_3) else (some false)) = some r := H
                  have A45 := Aside0.mk A450
                  clear A450
                  by_cases c46 : t124 = true
                  · subst c46
                    have H1 : (spec_l1Act.l0 k2 (wrap64 (x7_2 + 1)) l0_0 l0_1 a2_0 l2_1 l2_2 a2_3) = some r := by rw [if_pos rfl] at H; exact H
                    clear H
                    have H := H1
                    clear H1
                    have H' := Aside0.mk H
                    clear H
                    have hnb47 := NB122_121.out
                    have hnc47 := NB121_122.out
                    have hcz48_0 : wr.cell? ⟨gb122, 0, none⟩ = some (.int .i64 a2_0) := (blk_cell BK122.out 0).trans rfl
                    have hcz48_1 : wr.cell? ⟨gb122, 1, none⟩ = some (.slice A2_1 l2_1.length c2_1) := (blk_cell BK122.out 1).trans rfl
                    have hcz48_2 : wr.cell? ⟨gb122, 2, none⟩ = some (.slice A2_2 l2_2.length c2_2) := (blk_cell BK122.out 2).trans rfl
                    have hcz48_3 : wr.cell? ⟨gb122, 3, none⟩ = some (.int .i64 a2_3) := (blk_cell BK122.out 3).trans rfl
                    have hfz48_0 := blk_frozen BK122.out 0
                    have hfz48_1 := blk_frozen BK122.out 1
                    have hfz48_2 := blk_frozen BK122.out 2
                    have hfz48_3 := blk_frozen BK122.out 3
                    try go_wp2
                    have n0_ := Aside0.mk (blk_drew BK121.out)
                    have n1_ := Aside0.mk (blk_drew BK122.out)
                    have n2_ := Aside0.mk (below_drew1 HB.out)
                    clear BK121
                    clear BK122
                    clear HB
                    have BK121 := n0_
                    have BK122 := n1_
                    have HB := n2_
                    clear n0_ n1_ n2_
                    have p123 : 0 ≤ (x7_2 : Int) := of_decide_eq_true (by first | (with_reducible assumption) | assumption)
                    have q123 : x7_2 < (l2_1.length : Int) := of_decide_eq_true (by first | (with_reducible assumption) | assumption)
                    obtain ⟨ad123, e123, hx123_0, hx123_1, hx123_2⟩ := at_T122 HR2_1.out x7_2 p123 q123
                    have hw123_2 := hx123_2
                    have hw123_1 := hx123_1
                    have hw123_0 := hx123_0
                    cases e123
                    replace hx123_0 := (HB.out.cell (World.block_lt_of_cell? w _ hx123_0)).trans hx123_0
                    replace hx123_1 := (HB.out.cell (World.block_lt_of_cell? w _ hx123_1)).trans hx123_1
                    replace hx123_2 := (HB.out.cell (World.block_lt_of_cell? w _ hx123_2)).trans hx123_2
                    replace p123 := eq_true p123
                    replace q123 := eq_true q123
                    refine start_ (n := 10) (S := fun w' => w'.cell? ⟨gb122, 0, none⟩ = some (.int .i64 a2_0) ∧ w'.cell? ⟨gb122, 1, none⟩ = some (.slice (some ad123) l2_1.length c2_1) ∧ w'.cell? ⟨gb122, 2, none⟩ = some (.slice A2_2 l2_2.length c2_2) ∧ w'.cell? ⟨gb122, 3, none⟩ = some (.int .i64 a2_3) ∧ w'.cell? ⟨gb121, 0, none⟩ = some (.slice A0_0 l0_0.length c0_0) ∧ w'.cell? ⟨gb121, 1, none⟩ = some (.slice A0_1 l0_1.length c0_1) ∧ w'.cell? (ad123.add ((x7_2).toNat * 3)) = some (.int .i64 ((rd_T122 l2_1 x7_2).f0)) ∧ w'.cell? ⟨(ad123.add ((x7_2).toNat * 3)).block, (ad123.add ((x7_2).toNat * 3)).off + 1, none⟩ = some (.int .i64 ((rd_T122 l2_1 x7_2).f1)) ∧ w'.cell? ⟨(ad123.add ((x7_2).toNat * 3)).block, (ad123.add ((x7_2).toNat * 3)).off + 2, none⟩ = some (.int .i64 ((rd_T122 l2_1 x7_2).f2))) (ds := []) #[false, false, false, false, false, false, false, false, false, false] (by kernel_rfl) rfl rfl ⟨(blk_cell BK122.out 0).trans rfl, (blk_cell BK122.out 1).trans rfl, (blk_cell BK122.out 2).trans rfl, (blk_cell BK122.out 3).trans rfl, (blk_cell BK121.out 0).trans rfl, (blk_cell BK121.out 1).trans rfl, ((HB.out.cell (World.block_lt_of_cell? w _ hw123_0)).trans hw123_0), ((HB.out.cell (World.block_lt_of_cell? w _ hw123_1)).trans hw123_1), ((HB.out.cell (World.block_lt_of_cell? w _ hw123_2)).trans hw123_2)⟩ (fun hHeld => ?_); refine with_tabW spec_l1Act.tab8 spec_l1Act.bits8 (fun HT_ HW_ => ?_)
                    generalize wr.drew = w49 at BK121 BK122 HB hx123_0 hx123_1 hx123_2 hHeld ⊢
                    refine pure_ (i := 0) (N := some 49) (v := ?_) (a' := ?_) #[true, false, false, false, false, false, false, false, false, false] rfl rfl (any_of HT_.out (by kernel_rfl)) (fun _ _ _ h => h) (Or.inl ⟨by rfl, ?_⟩) ?_ ?_
                    rotate_left
                    · intro w'
                      go_simp
                      with_reducible rfl
                    rotate_left
                    · simp only [Act.put, List.setIfInBounds_toArray, List.set_cons_zero, List.set_cons_succ, i64_w, i32_w]
                      rfl
                    refine pure_ (i := 2) (N := some 51) (v := ?_) (a' := ?_) #[true, false, true, false, false, false, false, false, false, false] rfl rfl (any_of HT_.out (by kernel_rfl)) (fun _ _ _ h => h) (Or.inl ⟨by rfl, ?_⟩) ?_ ?_
                    rotate_left
                    · intro w'
                      go_simp
                      with_reducible rfl
                    rotate_left
                    · simp only [Act.put, List.setIfInBounds_toArray, List.set_cons_zero, List.set_cons_succ, i64_w, i32_w]
                      rfl
                    refine pure_ (i := 5) (N := some 54) (v := ?_) (a' := ?_) #[true, false, true, false, false, true, false, false, false, false] rfl rfl (any_of HT_.out (by kernel_rfl)) (fun _ _ _ h => h) (Or.inl ⟨by rfl, ?_⟩) ?_ ?_
                    rotate_left
                    · intro w'
                      go_simp
                      with_reducible rfl
                    rotate_left
                    · simp only [Act.put, List.setIfInBounds_toArray, List.set_cons_zero, List.set_cons_succ, i64_w, i32_w]
                      rfl
                    refine take_ (i := 1) (N := some 50) (v := ?_) (a' := ?_) #[true, true, true, false, false, true, false, false, false, false] rfl rfl (take_ofW HT_.out HW_.out (by kernel_rfl)) (fun _ _ _ h => h) (Or.inl ⟨by rfl, ?_⟩) hHeld ?_ ?_
                    rotate_left
                    · rintro w' ⟨s0, s1, s2, s3, s4, s5, s6, s7, s8⟩
                      go_simp
                      with_reducible rfl
                    rotate_left
                    · simp only [Act.put, List.setIfInBounds_toArray, List.set_cons_zero, List.set_cons_succ, i64_w, i32_w]
                      rfl
                    refine pure_ (i := 3) (N := some 52) (v := ?_) (a' := ?_) #[true, true, true, true, false, true, false, false, false, false] rfl rfl (any_of HT_.out (by kernel_rfl)) (fun _ _ _ h => h) (Or.inl ⟨by rfl, ?_⟩) ?_ ?_
                    rotate_left
                    · intro w'
                      go_simp
                      with_reducible rfl
                    rotate_left
                    · simp only [Act.put, List.setIfInBounds_toArray, List.set_cons_zero, List.set_cons_succ, i64_w, i32_w]
                      rfl
                    refine take_ (i := 4) (N := some 53) (v := ?_) (a' := ?_) #[true, true, true, true, true, true, false, false, false, false] rfl rfl (take_ofW HT_.out HW_.out (by kernel_rfl)) (fun _ _ _ h => h) (Or.inl ⟨by rfl, ?_⟩) hHeld ?_ ?_
                    rotate_left
                    · rintro w' ⟨s0, s1, s2, s3, s4, s5, s6, s7, s8⟩
                      go_simp
                      with_reducible rfl
                    rotate_left
                    · simp only [Act.put, List.setIfInBounds_toArray, List.set_cons_zero, List.set_cons_succ, i64_w, i32_w]
                      rfl
                    refine take_ (i := 6) (N := some 55) (v := ?_) (a' := ?_) #[true, true, true, true, true, true, true, false, false, false] rfl rfl (take_ofW HT_.out HW_.out (by kernel_rfl)) (fun _ _ _ h => h) (Or.inl ⟨by rfl, ?_⟩) hHeld ?_ ?_
                    rotate_left
                    · rintro w' ⟨s0, s1, s2, s3, s4, s5, s6, s7, s8⟩
                      go_simp
                      with_reducible rfl
                    rotate_left
                    · simp only [Act.put, List.setIfInBounds_toArray, List.set_cons_zero, List.set_cons_succ, i64_w, i32_w]
                      rfl
                    refine pure_ (i := 7) (N := some 56) (v := ?_) (a' := ?_) #[true, true, true, true, true, true, true, true, false, false] rfl rfl (any_of HT_.out (by kernel_rfl)) (fun _ _ _ h => h) (Or.inl ⟨by rfl, ?_⟩) ?_ ?_
                    rotate_left
                    · intro w'
                      go_simp
                      with_reducible rfl
                    rotate_left
                    · simp only [Act.put, List.setIfInBounds_toArray, List.set_cons_zero, List.set_cons_succ, i64_w, i32_w]
                      rfl
                    refine one_ (i := 8) (N := some 57) #[true, true, true, true, true, true, true, true, true, false] rfl rfl (one_of HT_.out (by kernel_rfl)) (by decide) (fun K hK => ?_)
                    refine goes_ Try.func101 (by kernel_rfl) rfl #[.agg #[.int .i64 ((rd_T122 l2_1 x7_2).f0), .int .i64 ((rd_T122 l2_1 x7_2).f1), .int .i64 ((rd_T122 l2_1 x7_2).f2)], .int .i64 (l0_0.length : Int)] (by rfl) rfl rfl (by (try simp only [List.map_toArray, List.map_cons, List.map_nil]); first | done | rfl | (simp only [List.length_drop, List.length_take]; rfl)) ?_
                    with_reducible refine (spec_l1Deed.calls ((rd_T122 l2_1 x7_2).f0) ((rd_T122 l2_1 x7_2).f1) ((rd_T122 l2_1 x7_2).f2) (l0_0.length : Int) true _ A45.out).mono ?_
                    rintro e w50 ⟨rfl, hb⟩
                    refine ⟨_, rfl, ?_⟩
                    have n0_ := Aside0.mk (blk_below (g := gb121) (o := .cells #[.slice A0_0 l0_0.length c0_0, .slice A0_1 l0_1.length c0_1] 36 (0, 0)) (by (with_reducible repeat (first | refine blk_drewN ?_ _ | refine blk_drew ?_ | refine blk_alloc ?_ _)); exact BK121.out) hb)
                    have n1_ := Aside0.mk (blk_below (g := gb122) (o := .cells #[.int .i64 a2_0, .slice (some ad123) l2_1.length c2_1, .slice A2_2 l2_2.length c2_2, .int .i64 a2_3] 57 (0, 0)) (by (with_reducible repeat (first | refine blk_drewN ?_ _ | refine blk_drew ?_ | refine blk_alloc ?_ _)); exact BK122.out) hb)
                    have n2_ := Aside0.mk (below_step (by repeat (first | (with_reducible first | exact HB.out | apply below_alloc | apply pw_below_drewN | apply below_drew1 | refine below_set ?_ GE121.out | refine below_set ?_ GE122.out) | exact HB.out)) hb)
                    clear BK121
                    clear BK122
                    clear HB
                    have BK121 := n0_
                    have BK122 := n1_
                    have HB := n2_
                    clear n0_ n1_ n2_
                    (try clear hb)
                    (try clear hb2)
                    (try clear hk)
                    (try clear hi)
                    refine hK.out _ _ ⟨(blk_cell BK122.out 0).trans rfl, (blk_cell BK122.out 1).trans rfl, (blk_cell BK122.out 2).trans rfl, (blk_cell BK122.out 3).trans rfl, (blk_cell BK121.out 0).trans rfl, (blk_cell BK121.out 1).trans rfl, ((HB.out.cell (World.block_lt_of_cell? w _ hw123_0)).trans hw123_0), ((HB.out.cell (World.block_lt_of_cell? w _ hw123_1)).trans hw123_1), ((HB.out.cell (World.block_lt_of_cell? w _ hw123_2)).trans hw123_2)⟩ (fun hHeld => ?_)
                    clear hK K
                    refine norm_ (a' := ?_) ?_ ?_
                    rotate_left
                    · show Act.put _ (some 57) _ = _
                      simp only [Act.put, List.setIfInBounds_toArray, List.set_cons_zero, List.set_cons_succ, i64_w, i32_w]
                      rfl
                    refine pure_ (i := 9) (N := some 58) (v := ?_) (a' := ?_) #[true, true, true, true, true, true, true, true, true, true] rfl rfl (any_of HT_.out (by kernel_rfl)) (fun _ _ _ h => h) (Or.inl ⟨by rfl, ?_⟩) ?_ ?_
                    rotate_left
                    · intro w'
                      go_simp
                      with_reducible rfl
                    rotate_left
                    · simp only [Act.put, List.setIfInBounds_toArray, List.set_cons_zero, List.set_cons_succ, i64_w, i32_w]
                      rfl
                    refine done_ (done_of HT_.out (by kernel_rfl)) ?_
                    try go_wp2
                    go_roundg k2
                    case measure => have := HJ3.out; have := HK2.out; omega
                    case rel => exact ⟨(wrap64 (x7_2 + 1)), (by first | rfl | (simp; done) | (simp [*]; done)), H', ⟨by have := HJ3.out; have := HK2.out; omega⟩, ⟨by (with_reducible repeat (first | refine blk_drewN ?_ _ | refine blk_drew ?_ | refine blk_alloc ?_ _)); exact BK121.out⟩, ⟨by (with_reducible repeat (first | refine blk_drewN ?_ _ | refine blk_drew ?_ | refine blk_alloc ?_ _)); exact BK122.out⟩, ⟨by repeat (first | (with_reducible first | exact HB.out | apply below_alloc | apply pw_below_drewN | apply below_drew1 | refine below_set ?_ GE121.out | refine below_set ?_ GE122.out) | exact HB.out)⟩⟩
                  · replace c46 := Bool.eq_false_iff.mpr c46
                    subst c46
                    have H1 : (some false) = some r := by rw [if_neg (show ¬ (false = true) by decide)] at H; exact H
                    clear H
                    have H := H1
                    clear H1
                    obtain rfl := Option.some.inj H
                    have hnb51 := NB122_121.out
                    have hnc51 := NB121_122.out
                    have hcz52_0 : wr.cell? ⟨gb122, 0, none⟩ = some (.int .i64 a2_0) := (blk_cell BK122.out 0).trans rfl
                    have hcz52_1 : wr.cell? ⟨gb122, 1, none⟩ = some (.slice A2_1 l2_1.length c2_1) := (blk_cell BK122.out 1).trans rfl
                    have hcz52_2 : wr.cell? ⟨gb122, 2, none⟩ = some (.slice A2_2 l2_2.length c2_2) := (blk_cell BK122.out 2).trans rfl
                    have hcz52_3 : wr.cell? ⟨gb122, 3, none⟩ = some (.int .i64 a2_3) := (blk_cell BK122.out 3).trans rfl
                    have hfz52_0 := blk_frozen BK122.out 0
                    have hfz52_1 := blk_frozen BK122.out 1
                    have hfz52_2 := blk_frozen BK122.out 2
                    have hfz52_3 := blk_frozen BK122.out 3
                    try go_wp2
                    have n0_ := Aside0.mk (blk_drew BK121.out)
                    have n1_ := Aside0.mk (blk_drew BK122.out)
                    have n2_ := Aside0.mk (below_drew1 HB.out)
                    clear BK121
                    clear BK122
                    clear HB
                    have BK121 := n0_
                    have BK122 := n1_
                    have HB := n2_
                    clear n0_ n1_ n2_
                    have p123 : 0 ≤ (x7_2 : Int) := of_decide_eq_true (by first | (with_reducible assumption) | assumption)
                    have q123 : x7_2 < (l2_1.length : Int) := of_decide_eq_true (by first | (with_reducible assumption) | assumption)
                    obtain ⟨ad123, e123, hx123_0, hx123_1, hx123_2⟩ := at_T122 HR2_1.out x7_2 p123 q123
                    have hw123_2 := hx123_2
                    have hw123_1 := hx123_1
                    have hw123_0 := hx123_0
                    cases e123
                    replace hx123_0 := (HB.out.cell (World.block_lt_of_cell? w _ hx123_0)).trans hx123_0
                    replace hx123_1 := (HB.out.cell (World.block_lt_of_cell? w _ hx123_1)).trans hx123_1
                    replace hx123_2 := (HB.out.cell (World.block_lt_of_cell? w _ hx123_2)).trans hx123_2
                    replace p123 := eq_true p123
                    replace q123 := eq_true q123
                    refine start_ (n := 10) (S := fun w' => w'.cell? ⟨gb122, 0, none⟩ = some (.int .i64 a2_0) ∧ w'.cell? ⟨gb122, 1, none⟩ = some (.slice (some ad123) l2_1.length c2_1) ∧ w'.cell? ⟨gb122, 2, none⟩ = some (.slice A2_2 l2_2.length c2_2) ∧ w'.cell? ⟨gb122, 3, none⟩ = some (.int .i64 a2_3) ∧ w'.cell? ⟨gb121, 0, none⟩ = some (.slice A0_0 l0_0.length c0_0) ∧ w'.cell? ⟨gb121, 1, none⟩ = some (.slice A0_1 l0_1.length c0_1) ∧ w'.cell? (ad123.add ((x7_2).toNat * 3)) = some (.int .i64 ((rd_T122 l2_1 x7_2).f0)) ∧ w'.cell? ⟨(ad123.add ((x7_2).toNat * 3)).block, (ad123.add ((x7_2).toNat * 3)).off + 1, none⟩ = some (.int .i64 ((rd_T122 l2_1 x7_2).f1)) ∧ w'.cell? ⟨(ad123.add ((x7_2).toNat * 3)).block, (ad123.add ((x7_2).toNat * 3)).off + 2, none⟩ = some (.int .i64 ((rd_T122 l2_1 x7_2).f2))) (ds := []) #[false, false, false, false, false, false, false, false, false, false] (by kernel_rfl) rfl rfl ⟨(blk_cell BK122.out 0).trans rfl, (blk_cell BK122.out 1).trans rfl, (blk_cell BK122.out 2).trans rfl, (blk_cell BK122.out 3).trans rfl, (blk_cell BK121.out 0).trans rfl, (blk_cell BK121.out 1).trans rfl, ((HB.out.cell (World.block_lt_of_cell? w _ hw123_0)).trans hw123_0), ((HB.out.cell (World.block_lt_of_cell? w _ hw123_1)).trans hw123_1), ((HB.out.cell (World.block_lt_of_cell? w _ hw123_2)).trans hw123_2)⟩ (fun hHeld => ?_); refine with_tabW spec_l1Act.tab8 spec_l1Act.bits8 (fun HT_ HW_ => ?_)
                    generalize wr.drew = w53 at BK121 BK122 HB hx123_0 hx123_1 hx123_2 hHeld ⊢
                    refine pure_ (i := 0) (N := some 49) (v := ?_) (a' := ?_) #[true, false, false, false, false, false, false, false, false, false] rfl rfl (any_of HT_.out (by kernel_rfl)) (fun _ _ _ h => h) (Or.inl ⟨by rfl, ?_⟩) ?_ ?_
                    rotate_left
                    · intro w'
                      go_simp
                      with_reducible rfl
                    rotate_left
                    · simp only [Act.put, List.setIfInBounds_toArray, List.set_cons_zero, List.set_cons_succ, i64_w, i32_w]
                      rfl
                    refine pure_ (i := 2) (N := some 51) (v := ?_) (a' := ?_) #[true, false, true, false, false, false, false, false, false, false] rfl rfl (any_of HT_.out (by kernel_rfl)) (fun _ _ _ h => h) (Or.inl ⟨by rfl, ?_⟩) ?_ ?_
                    rotate_left
                    · intro w'
                      go_simp
                      with_reducible rfl
                    rotate_left
                    · simp only [Act.put, List.setIfInBounds_toArray, List.set_cons_zero, List.set_cons_succ, i64_w, i32_w]
                      rfl
                    refine pure_ (i := 5) (N := some 54) (v := ?_) (a' := ?_) #[true, false, true, false, false, true, false, false, false, false] rfl rfl (any_of HT_.out (by kernel_rfl)) (fun _ _ _ h => h) (Or.inl ⟨by rfl, ?_⟩) ?_ ?_
                    rotate_left
                    · intro w'
                      go_simp
                      with_reducible rfl
                    rotate_left
                    · simp only [Act.put, List.setIfInBounds_toArray, List.set_cons_zero, List.set_cons_succ, i64_w, i32_w]
                      rfl
                    refine take_ (i := 1) (N := some 50) (v := ?_) (a' := ?_) #[true, true, true, false, false, true, false, false, false, false] rfl rfl (take_ofW HT_.out HW_.out (by kernel_rfl)) (fun _ _ _ h => h) (Or.inl ⟨by rfl, ?_⟩) hHeld ?_ ?_
                    rotate_left
                    · rintro w' ⟨s0, s1, s2, s3, s4, s5, s6, s7, s8⟩
                      go_simp
                      with_reducible rfl
                    rotate_left
                    · simp only [Act.put, List.setIfInBounds_toArray, List.set_cons_zero, List.set_cons_succ, i64_w, i32_w]
                      rfl
                    refine pure_ (i := 3) (N := some 52) (v := ?_) (a' := ?_) #[true, true, true, true, false, true, false, false, false, false] rfl rfl (any_of HT_.out (by kernel_rfl)) (fun _ _ _ h => h) (Or.inl ⟨by rfl, ?_⟩) ?_ ?_
                    rotate_left
                    · intro w'
                      go_simp
                      with_reducible rfl
                    rotate_left
                    · simp only [Act.put, List.setIfInBounds_toArray, List.set_cons_zero, List.set_cons_succ, i64_w, i32_w]
                      rfl
                    refine take_ (i := 4) (N := some 53) (v := ?_) (a' := ?_) #[true, true, true, true, true, true, false, false, false, false] rfl rfl (take_ofW HT_.out HW_.out (by kernel_rfl)) (fun _ _ _ h => h) (Or.inl ⟨by rfl, ?_⟩) hHeld ?_ ?_
                    rotate_left
                    · rintro w' ⟨s0, s1, s2, s3, s4, s5, s6, s7, s8⟩
                      go_simp
                      with_reducible rfl
                    rotate_left
                    · simp only [Act.put, List.setIfInBounds_toArray, List.set_cons_zero, List.set_cons_succ, i64_w, i32_w]
                      rfl
                    refine take_ (i := 6) (N := some 55) (v := ?_) (a' := ?_) #[true, true, true, true, true, true, true, false, false, false] rfl rfl (take_ofW HT_.out HW_.out (by kernel_rfl)) (fun _ _ _ h => h) (Or.inl ⟨by rfl, ?_⟩) hHeld ?_ ?_
                    rotate_left
                    · rintro w' ⟨s0, s1, s2, s3, s4, s5, s6, s7, s8⟩
                      go_simp
                      with_reducible rfl
                    rotate_left
                    · simp only [Act.put, List.setIfInBounds_toArray, List.set_cons_zero, List.set_cons_succ, i64_w, i32_w]
                      rfl
                    refine pure_ (i := 7) (N := some 56) (v := ?_) (a' := ?_) #[true, true, true, true, true, true, true, true, false, false] rfl rfl (any_of HT_.out (by kernel_rfl)) (fun _ _ _ h => h) (Or.inl ⟨by rfl, ?_⟩) ?_ ?_
                    rotate_left
                    · intro w'
                      go_simp
                      with_reducible rfl
                    rotate_left
                    · simp only [Act.put, List.setIfInBounds_toArray, List.set_cons_zero, List.set_cons_succ, i64_w, i32_w]
                      rfl
                    refine one_ (i := 8) (N := some 57) #[true, true, true, true, true, true, true, true, true, false] rfl rfl (one_of HT_.out (by kernel_rfl)) (by decide) (fun K hK => ?_)
                    refine goes_ Try.func101 (by kernel_rfl) rfl #[.agg #[.int .i64 ((rd_T122 l2_1 x7_2).f0), .int .i64 ((rd_T122 l2_1 x7_2).f1), .int .i64 ((rd_T122 l2_1 x7_2).f2)], .int .i64 (l0_0.length : Int)] (by rfl) rfl rfl (by (try simp only [List.map_toArray, List.map_cons, List.map_nil]); first | done | rfl | (simp only [List.length_drop, List.length_take]; rfl)) ?_
                    with_reducible refine (spec_l1Deed.calls ((rd_T122 l2_1 x7_2).f0) ((rd_T122 l2_1 x7_2).f1) ((rd_T122 l2_1 x7_2).f2) (l0_0.length : Int) false _ A45.out).mono ?_
                    rintro e w54 ⟨rfl, hb⟩
                    refine ⟨_, rfl, ?_⟩
                    have n0_ := Aside0.mk (blk_below (g := gb121) (o := .cells #[.slice A0_0 l0_0.length c0_0, .slice A0_1 l0_1.length c0_1] 36 (0, 0)) (by (with_reducible repeat (first | refine blk_drewN ?_ _ | refine blk_drew ?_ | refine blk_alloc ?_ _)); exact BK121.out) hb)
                    have n1_ := Aside0.mk (blk_below (g := gb122) (o := .cells #[.int .i64 a2_0, .slice (some ad123) l2_1.length c2_1, .slice A2_2 l2_2.length c2_2, .int .i64 a2_3] 57 (0, 0)) (by (with_reducible repeat (first | refine blk_drewN ?_ _ | refine blk_drew ?_ | refine blk_alloc ?_ _)); exact BK122.out) hb)
                    have n2_ := Aside0.mk (below_step (by repeat (first | (with_reducible first | exact HB.out | apply below_alloc | apply pw_below_drewN | apply below_drew1 | refine below_set ?_ GE121.out | refine below_set ?_ GE122.out) | exact HB.out)) hb)
                    clear BK121
                    clear BK122
                    clear HB
                    have BK121 := n0_
                    have BK122 := n1_
                    have HB := n2_
                    clear n0_ n1_ n2_
                    (try clear hb)
                    (try clear hb2)
                    (try clear hk)
                    (try clear hi)
                    refine hK.out _ _ ⟨(blk_cell BK122.out 0).trans rfl, (blk_cell BK122.out 1).trans rfl, (blk_cell BK122.out 2).trans rfl, (blk_cell BK122.out 3).trans rfl, (blk_cell BK121.out 0).trans rfl, (blk_cell BK121.out 1).trans rfl, ((HB.out.cell (World.block_lt_of_cell? w _ hw123_0)).trans hw123_0), ((HB.out.cell (World.block_lt_of_cell? w _ hw123_1)).trans hw123_1), ((HB.out.cell (World.block_lt_of_cell? w _ hw123_2)).trans hw123_2)⟩ (fun hHeld => ?_)
                    clear hK K
                    refine norm_ (a' := ?_) ?_ ?_
                    rotate_left
                    · show Act.put _ (some 57) _ = _
                      simp only [Act.put, List.setIfInBounds_toArray, List.set_cons_zero, List.set_cons_succ, i64_w, i32_w]
                      rfl
                    refine pure_ (i := 9) (N := some 58) (v := ?_) (a' := ?_) #[true, true, true, true, true, true, true, true, true, true] rfl rfl (any_of HT_.out (by kernel_rfl)) (fun _ _ _ h => h) (Or.inl ⟨by rfl, ?_⟩) ?_ ?_
                    rotate_left
                    · intro w'
                      go_simp
                      with_reducible rfl
                    rotate_left
                    · simp only [Act.put, List.setIfInBounds_toArray, List.set_cons_zero, List.set_cons_succ, i64_w, i32_w]
                      rfl
                    refine done_ (done_of HT_.out (by kernel_rfl)) ?_
                    try go_wp2
                    go_ret
                    exact ⟨by first | rfl | (simp [errW_none, errW_some] <;> rfl) | (simp [*, errW_none, errW_some] <;> rfl), by repeat (first | (with_reducible first | exact HB.out | apply below_alloc | apply pw_below_drewN | apply below_drew1 | refine below_set ?_ GE121.out | refine below_set ?_ GE122.out) | exact HB.out)⟩
                · rw [if_neg c44] at H
                  exact absurd H (by simp)
              · rw [if_neg c43] at H
                have c43b0 : decide (x7_2 < (l2_1.length : Int)) = false := decide_eq_false c43
                clear c43
                obtain rfl := Option.some.inj H
                have hnb55 := NB122_121.out
                have hnc55 := NB121_122.out
                have hcz56_0 : wr.cell? ⟨gb122, 0, none⟩ = some (.int .i64 a2_0) := (blk_cell BK122.out 0).trans rfl
                have hcz56_1 : wr.cell? ⟨gb122, 1, none⟩ = some (.slice A2_1 l2_1.length c2_1) := (blk_cell BK122.out 1).trans rfl
                have hcz56_2 : wr.cell? ⟨gb122, 2, none⟩ = some (.slice A2_2 l2_2.length c2_2) := (blk_cell BK122.out 2).trans rfl
                have hcz56_3 : wr.cell? ⟨gb122, 3, none⟩ = some (.int .i64 a2_3) := (blk_cell BK122.out 3).trans rfl
                have hfz56_0 := blk_frozen BK122.out 0
                have hfz56_1 := blk_frozen BK122.out 1
                have hfz56_2 := blk_frozen BK122.out 2
                have hfz56_3 := blk_frozen BK122.out 3
                go_wp2
                go_ret
                exact ⟨by first | rfl | (simp [errW_none, errW_some] <;> rfl) | (simp [*, errW_none, errW_some] <;> rfl), by repeat (first | (with_reducible first | exact HB.out | apply below_alloc | apply pw_below_drewN | apply below_drew1 | refine below_set ?_ GE121.out | refine below_set ?_ GE122.out) | exact HB.out)⟩
        · rw [if_neg c40] at H
          have c40b0 : (a2_0 == 1) = false := beq_eq_false_iff_ne.mpr c40
          have c40b1 : (a2_0 != 1) = true := bne_iff_ne.mpr c40
          by_cases c57 : a2_0 = 2
          · rw [if_pos c57] at H
            have c57b0 : (a2_0 == 2) = true := beq_iff_eq.mpr c57
            have c57b1 : (a2_0 != 2) = false := bne_eq_false_iff_eq.mpr c57
            clear c57
            replace H := Option.bind_eq_some_iff.mp H
            obtain ⟨t125, A580, H⟩ := H
            replace H : (some t125) = some r := H
            have A58 := Aside0.mk A580
            clear A580
            obtain rfl := Option.some.inj H
            have hnb59 := NB122_121.out
            have hnc59 := NB121_122.out
            have hcz60_0 : wc.cell? ⟨gb122, 0, none⟩ = some (.int .i64 a2_0) := (blk_cell BK122.out 0).trans rfl
            have hcz60_1 : wc.cell? ⟨gb122, 1, none⟩ = some (.slice A2_1 l2_1.length c2_1) := (blk_cell BK122.out 1).trans rfl
            have hcz60_2 : wc.cell? ⟨gb122, 2, none⟩ = some (.slice A2_2 l2_2.length c2_2) := (blk_cell BK122.out 2).trans rfl
            have hcz60_3 : wc.cell? ⟨gb122, 3, none⟩ = some (.int .i64 a2_3) := (blk_cell BK122.out 3).trans rfl
            have hfz60_0 := blk_frozen BK122.out 0
            have hfz60_1 := blk_frozen BK122.out 1
            have hfz60_2 := blk_frozen BK122.out 2
            have hfz60_3 := blk_frozen BK122.out 3
            have hcz61_0 : wc.cell? ⟨gb121, 0, none⟩ = some (.slice A0_0 l0_0.length c0_0) := (blk_cell BK121.out 0).trans rfl
            have hcz61_1 : wc.cell? ⟨gb121, 1, none⟩ = some (.slice A0_1 l0_1.length c0_1) := (blk_cell BK121.out 1).trans rfl
            have hfz61_0 := blk_frozen BK121.out 0
            have hfz61_1 := blk_frozen BK121.out 1
            go_wp2_with (first | ((with_reducible refine gate_callee (f := 102) rfl ?_); refine goesL_ (some 71) rfl rfl Try.func102 (by kernel_rfl) rfl #[.slice A2_2 l2_2.length c2_2, .int .i64 a1, .int .i64 (l0_1.length : Int)] rfl (by (try simp only [List.map_toArray, List.map_cons, List.map_nil]); first | done | rfl | (simp only [List.length_drop, List.length_take]; rfl)) ?_; (with_reducible refine (spec_l1Kids.calls kj3 _ _ l2_2 a1 (l0_1.length : Int) t125 _ ?side1 ?side2 A58.out).mono ?_); (case side1 => repeat (first | exact (Kd.C_below HR2_2.out HB.out) | (with_reducible refine Kd.C_alloc ?_ _) | (with_reducible refine Kd.C_drewN ?_ _) | (with_reducible refine Kd.C_drew ?_))); (case side2 => exact HC2_2.out); rintro e w' ⟨rfl, ⟨nd, rfl⟩⟩; refine ⟨_, rfl, ?_⟩))
            go_ret
            exact ⟨by first | rfl | (simp [errW_none, errW_some] <;> rfl) | (simp [*, errW_none, errW_some] <;> rfl), by repeat (first | (with_reducible first | exact HB.out | apply below_alloc | apply pw_below_drewN | apply below_drew1 | refine below_set ?_ GE121.out | refine below_set ?_ GE122.out) | exact HB.out)⟩
          · rw [if_neg c57] at H
            have c57b0 : (a2_0 == 2) = false := beq_eq_false_iff_ne.mpr c57
            have c57b1 : (a2_0 != 2) = true := bne_iff_ne.mpr c57
            by_cases c62 : a2_0 = 3
            · rw [if_pos c62] at H
              have c62b0 : (a2_0 == 3) = true := beq_iff_eq.mpr c62
              have c62b1 : (a2_0 != 3) = false := bne_eq_false_iff_eq.mpr c62
              clear c62
              obtain rfl := Option.some.inj H
              have hnb63 := NB122_121.out
              have hnc63 := NB121_122.out
              have hcz64_0 : wc.cell? ⟨gb122, 0, none⟩ = some (.int .i64 a2_0) := (blk_cell BK122.out 0).trans rfl
              have hcz64_1 : wc.cell? ⟨gb122, 1, none⟩ = some (.slice A2_1 l2_1.length c2_1) := (blk_cell BK122.out 1).trans rfl
              have hcz64_2 : wc.cell? ⟨gb122, 2, none⟩ = some (.slice A2_2 l2_2.length c2_2) := (blk_cell BK122.out 2).trans rfl
              have hcz64_3 : wc.cell? ⟨gb122, 3, none⟩ = some (.int .i64 a2_3) := (blk_cell BK122.out 3).trans rfl
              have hfz64_0 := blk_frozen BK122.out 0
              have hfz64_1 := blk_frozen BK122.out 1
              have hfz64_2 := blk_frozen BK122.out 2
              have hfz64_3 := blk_frozen BK122.out 3
              go_wp2
              go_ret
              exact ⟨by first | rfl | (simp [errW_none, errW_some] <;> rfl) | (simp [*, errW_none, errW_some] <;> rfl), by repeat (first | (with_reducible first | exact HB.out | apply below_alloc | apply pw_below_drewN | apply below_drew1 | refine below_set ?_ GE121.out | refine below_set ?_ GE122.out) | exact HB.out)⟩
            · rw [if_neg c62] at H
              have c62b0 : (a2_0 == 3) = false := beq_eq_false_iff_ne.mpr c62
              have c62b1 : (a2_0 != 3) = true := bne_iff_ne.mpr c62
              by_cases c65 : a2_0 = 4
              · rw [if_pos c65] at H
                have c65b0 : (a2_0 == 4) = true := beq_iff_eq.mpr c65
                have c65b1 : (a2_0 != 4) = false := bne_eq_false_iff_eq.mpr c65
                clear c65
                replace H := Option.bind_eq_some_iff.mp H
                obtain ⟨t126, A660, H⟩ := H
                replace H : (some t126) = some r := H
                have A66 := Aside0.mk A660
                clear A660
                obtain rfl := Option.some.inj H
                have hnb67 := NB122_121.out
                have hnc67 := NB121_122.out
                have hcz68_0 : wc.cell? ⟨gb122, 0, none⟩ = some (.int .i64 a2_0) := (blk_cell BK122.out 0).trans rfl
                have hcz68_1 : wc.cell? ⟨gb122, 1, none⟩ = some (.slice A2_1 l2_1.length c2_1) := (blk_cell BK122.out 1).trans rfl
                have hcz68_2 : wc.cell? ⟨gb122, 2, none⟩ = some (.slice A2_2 l2_2.length c2_2) := (blk_cell BK122.out 2).trans rfl
                have hcz68_3 : wc.cell? ⟨gb122, 3, none⟩ = some (.int .i64 a2_3) := (blk_cell BK122.out 3).trans rfl
                have hfz68_0 := blk_frozen BK122.out 0
                have hfz68_1 := blk_frozen BK122.out 1
                have hfz68_2 := blk_frozen BK122.out 2
                have hfz68_3 := blk_frozen BK122.out 3
                go_wp2_with (first | ((with_reducible refine gate_callee (f := 68) rfl ?_); refine goesL_ (some 78) rfl rfl Try.func68 (by kernel_rfl) rfl #[.int .i64 a2_3, .int .i64 0, .int .i64 2] rfl (by (try simp only [List.map_toArray, List.map_cons, List.map_nil]); first | done | rfl | (simp only [List.length_drop, List.length_take]; rfl)) ?_; (with_reducible refine (spec_l6In.calls a2_3 0 2 t126 _ A66.out).mono ?_); rintro e w' ⟨rfl, ⟨nd, rfl⟩⟩; refine ⟨_, rfl, ?_⟩))
                go_ret
                exact ⟨by first | rfl | (simp [errW_none, errW_some] <;> rfl) | (simp [*, errW_none, errW_some] <;> rfl), by repeat (first | (with_reducible first | exact HB.out | apply below_alloc | apply pw_below_drewN | apply below_drew1 | refine below_set ?_ GE121.out | refine below_set ?_ GE122.out) | exact HB.out)⟩
              · rw [if_neg c65] at H
                have c65b0 : (a2_0 == 4) = false := beq_eq_false_iff_ne.mpr c65
                have c65b1 : (a2_0 != 4) = true := bne_iff_ne.mpr c65
                obtain rfl := Option.some.inj H
                have hnb69 := NB122_121.out
                have hnc69 := NB121_122.out
                have hcz70_0 : wc.cell? ⟨gb122, 0, none⟩ = some (.int .i64 a2_0) := (blk_cell BK122.out 0).trans rfl
                have hcz70_1 : wc.cell? ⟨gb122, 1, none⟩ = some (.slice A2_1 l2_1.length c2_1) := (blk_cell BK122.out 1).trans rfl
                have hcz70_2 : wc.cell? ⟨gb122, 2, none⟩ = some (.slice A2_2 l2_2.length c2_2) := (blk_cell BK122.out 2).trans rfl
                have hcz70_3 : wc.cell? ⟨gb122, 3, none⟩ = some (.int .i64 a2_3) := (blk_cell BK122.out 3).trans rfl
                have hfz70_0 := blk_frozen BK122.out 0
                have hfz70_1 := blk_frozen BK122.out 1
                have hfz70_2 := blk_frozen BK122.out 2
                have hfz70_3 := blk_frozen BK122.out 3
                go_wp2
                go_ret
                exact ⟨by first | rfl | (simp [errW_none, errW_some] <;> rfl) | (simp [*, errW_none, errW_some] <;> rfl), by repeat (first | (with_reducible first | exact HB.out | apply below_alloc | apply pw_below_drewN | apply below_drew1 | refine below_set ?_ GE121.out | refine below_set ?_ GE122.out) | exact HB.out)⟩
end Go.Proofs.Ytoeepmcaabmjkaa.QSN
