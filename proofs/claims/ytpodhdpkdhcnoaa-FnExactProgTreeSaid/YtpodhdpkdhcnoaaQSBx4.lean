-- Written by a program of this session (wip/tools/myprint.py).
import Derived.Test.YtpodhdpkdhcnoaaQSBx0
import Derived.Test.YtpodhdpkdhcnoaaQSBx2
import Derived.Test.YtpodhdpkdhcnoaaQSBx3
namespace Go.Proofs.Ytpodhdpkdhcnoaa.QSB
open Go.RowKit Go.Proofs.YtpodhdpkdhcnoaaW.PrintWords Go.Proofs.YtpodhdpkdhcnoaaW.PrintLast Go.Proofs.YtpodhdpkdhcnoaaW.PrintMore
attribute [local go_sem] max2_int min2_int max_two min_two max_three min_three max_four min_four   -- for this text's walks alone
set_option linter.unusedVariables false
set_option linter.unusedSimpArgs false

/-! ### spec_l1Act: function 78 -/
mutual
def spec_l1Act.j0 : Nat → Int → Bool → List Int → List (List (S90)) → Int → List (S138) → List Int → Int → Option (Bool)
  | 0, _, _, _, _, _, _, _, _ => none
  | k + 1, x1, x37, x122000, x122001, x123000, x123001, x123002, x123003 => if x37 = true then (some false) else (if x123000 = 1 then (spec_l1Act.l0 k 0 x122000 x122001 x123000 x123001 x123002 x123003) else (if x123000 = 2 then ((spec_l1Kids.f k x123002 x1 (x122001.length : Int)).bind fun t125 => (some t125)) else (if x123000 = 3 then (some true) else (if x123000 = 4 then ((spec_l6In.f x123003 0 2).bind fun t126 => (some t126)) else (some false)))))
def spec_l1Act.l0 : Nat → Int → List Int → List (List (S90)) → Int → List (S138) → List Int → Int → Option (Bool)
  | 0, _, _, _, _, _, _, _ => none
  | k + 1, x7, x122000, x122001, x123000, x123001, x123002, x123003 => if x7 < (x123001.length : Int) then (if 0 ≤ x7 then ((spec_l1Deed.f ((rd_T138 x123001 x7).f0) ((rd_T138 x123001 x7).f1) ((rd_T138 x123001 x7).f2) (x122000.length : Int)).bind fun t124 => (if t124 = true then (spec_l1Act.l0 k (wrap64 (x7 + 1)) x122000 x122001 x123000 x123001 x123002 x123003) else (some false))) else (none)) else (some (decide ((x123001.length : Int) ≤ 5)))
end
def spec_l1Act.f (k : Nat) (l0_0 : List Int) (l0_1 : List (List (S90))) (a1 : Int) (a2_0 : Int) (l2_1 : List (S138)) (l2_2 : List Int) (a2_3 : Int) : Option (Bool) := if a2_0 = 1 then (if a2_0 = 2 then (if a2_0 = 4 then (spec_l1Act.j0 k a1 false l0_0 l0_1 a2_0 l2_1 l2_2 a2_3) else (spec_l1Act.j0 k a1 (a2_3 != 0) l0_0 l0_1 a2_0 l2_1 l2_2 a2_3)) else (if (l2_2.length : Int) > 0 then (spec_l1Act.j0 k a1 true l0_0 l0_1 a2_0 l2_1 l2_2 a2_3) else (if a2_0 = 4 then (spec_l1Act.j0 k a1 false l0_0 l0_1 a2_0 l2_1 l2_2 a2_3) else (spec_l1Act.j0 k a1 (a2_3 != 0) l0_0 l0_1 a2_0 l2_1 l2_2 a2_3)))) else (if (l2_1.length : Int) > 0 then (spec_l1Act.j0 k a1 true l0_0 l0_1 a2_0 l2_1 l2_2 a2_3) else (if a2_0 = 2 then (if a2_0 = 4 then (spec_l1Act.j0 k a1 false l0_0 l0_1 a2_0 l2_1 l2_2 a2_3) else (spec_l1Act.j0 k a1 (a2_3 != 0) l0_0 l0_1 a2_0 l2_1 l2_2 a2_3)) else (if (l2_2.length : Int) > 0 then (spec_l1Act.j0 k a1 true l0_0 l0_1 a2_0 l2_1 l2_2 a2_3) else (if a2_0 = 4 then (spec_l1Act.j0 k a1 false l0_0 l0_1 a2_0 l2_1 l2_2 a2_3) else (spec_l1Act.j0 k a1 (a2_3 != 0) l0_0 l0_1 a2_0 l2_1 l2_2 a2_3)))))
theorem spec_l1Act.mono_l : ∀ k, (∀ y0 y1 y2 y3 y4 y5 y6 y7, LeO (spec_l1Act.j0 k y0 y1 y2 y3 y4 y5 y6 y7) (spec_l1Act.j0 (k + 1) y0 y1 y2 y3 y4 y5 y6 y7)) ∧ (∀ y0 y1 y2 y3 y4 y5 y6, LeO (spec_l1Act.l0 k y0 y1 y2 y3 y4 y5 y6) (spec_l1Act.l0 (k + 1) y0 y1 y2 y3 y4 y5 y6))
  | 0 => ⟨fun _ _ _ _ _ _ _ _ r h => by simp [spec_l1Act.j0] at h, fun _ _ _ _ _ _ _ r h => by simp [spec_l1Act.l0] at h⟩
  | k + 1 => by
    obtain ⟨ih0, ih1⟩ := spec_l1Act.mono_l k
    refine ⟨?_, ?_⟩
    · intro y0 y1 y2 y3 y4 y5 y6 y7
      unfold spec_l1Act.j0
      repeat' first
      | (with_reducible exact ih0 _ _ _ _ _ _ _ _)
      | (with_reducible exact ih1 _ _ _ _ _ _ _)
      | (with_reducible exact spec_l1Kids.mono _ _ _ _)
      | (with_reducible exact LeO.refl _)
      | (with_reducible exact LeO.none _)
      | (with_reducible refine LeO.ite ?_ ?_)
      | (with_reducible refine LeO.bind ?_ (fun _ => ?_))
      | exact ih0 _ _ _ _ _ _ _ _
      | exact ih1 _ _ _ _ _ _ _
      | exact spec_l1Kids.mono _ _ _ _
      | exact LeO.none _
      | refine LeO.ite ?_ ?_
      | refine LeO.bind ?_ (fun _ => ?_)
    · intro y0 y1 y2 y3 y4 y5 y6
      unfold spec_l1Act.l0
      repeat' first
      | (with_reducible exact ih0 _ _ _ _ _ _ _ _)
      | (with_reducible exact ih1 _ _ _ _ _ _ _)
      | (with_reducible exact spec_l1Kids.mono _ _ _ _)
      | (with_reducible exact LeO.refl _)
      | (with_reducible exact LeO.none _)
      | (with_reducible refine LeO.ite ?_ ?_)
      | (with_reducible refine LeO.bind ?_ (fun _ => ?_))
      | exact ih0 _ _ _ _ _ _ _ _
      | exact ih1 _ _ _ _ _ _ _
      | exact spec_l1Kids.mono _ _ _ _
      | exact LeO.none _
      | refine LeO.ite ?_ ?_
      | refine LeO.bind ?_ (fun _ => ?_)
theorem spec_l1Act.mono : ∀ a0 a1 a2 a3 a4 a5 a6 k, LeO (spec_l1Act.f k a0 a1 a2 a3 a4 a5 a6) (spec_l1Act.f (k + 1) a0 a1 a2 a3 a4 a5 a6) := by
  intro a0 a1 a2 a3 a4 a5 a6 k
  obtain ⟨ih0, ih1⟩ := spec_l1Act.mono_l k
  unfold spec_l1Act.f
  repeat' first
      | (with_reducible exact ih0 _ _ _ _ _ _ _ _)
      | (with_reducible exact ih1 _ _ _ _ _ _ _)
      | (with_reducible exact spec_l1Kids.mono _ _ _ _)
      | (with_reducible exact LeO.refl _)
      | (with_reducible exact LeO.none _)
      | (with_reducible refine LeO.ite ?_ ?_)
      | (with_reducible refine LeO.bind ?_ (fun _ => ?_))
      | exact ih0 _ _ _ _ _ _ _ _
      | exact ih1 _ _ _ _ _ _ _
      | exact spec_l1Kids.mono _ _ _ _
      | exact LeO.none _
      | refine LeO.ite ?_ ?_
      | refine LeO.bind ?_ (fun _ => ?_)
def spec_l1Act.T8 : Bool × List (List Nat × List Nat) := (true, [([], []), ([0], [0]), ([], []), ([1, 2], [1, 2]), ([3], [3]), ([], []), ([5], [5]), ([6], [6]), ([4, 7], [4, 7]), ([8], [8])])
def spec_l1Act.B8 : List Nat := [0, 1, 0, 7, 15, 0, 32, 96, 255, 511]
theorem spec_l1Act.tab8 : rtab .any (opsOf Try.f78 8) = spec_l1Act.T8 := by kernel_rfl
theorem spec_l1Act.bits8 : waitsOk spec_l1Act.T8.2 spec_l1Act.B8 = true := by kernel_rfl
set_option maxHeartbeats 8000000 in
set_option maxRecDepth 100000 in
theorem spec_l1Act.calls (k : Nat) (A0_0 : Option Addr) (c0_0 : Nat) (l0_0 : List Int) (A0_1 : Option Addr) (c0_1 : Nat) (l0_1 : List (List (S90))) (a1 : Int) (a2_0 : Int) (A2_1 : Option Addr) (c2_1 : Nat) (l2_1 : List (S138)) (A2_2 : Option Addr) (c2_2 : Nat) (l2_2 : List Int) (a2_3 : Int) (r : Bool) (w : World) (hr0_0 : Kd.C (Kd.int .i64) w A0_0 l0_0.length l0_0) (hc0_0 : l0_0.length ≤ c0_0) (hr0_1 : Kd.C (Kd.slice 90 k90) w A0_1 l0_1.length l0_1) (hc0_1 : l0_1.length ≤ c0_1) (hr2_1 : Kd.C k138 w A2_1 l2_1.length l2_1) (hc2_1 : l2_1.length ≤ c2_1) (hr2_2 : Kd.C (Kd.int .i64) w A2_2 l2_2.length l2_2) (hc2_2 : l2_2.length ≤ c2_2) (h : spec_l1Act.f k l0_0 l0_1 a1 a2_0 l2_1 l2_2 a2_3 = some r) :
    Calls Try.prog 78 #[.agg #[.slice A0_0 l0_0.length c0_0, .slice A0_1 l0_1.length c0_1], .int .i64 a1, .agg #[.int .i64 a2_0, .slice A2_1 l2_1.length c2_1, .slice A2_2 l2_2.length c2_2, .int .i64 a2_3]] w fun e w' => e = .returned (.bool r) ∧ Below w.heap.size w w' := by
  have hu54 := Try.underlying54
  have hu90 := Try.underlying90
  have hu138 := Try.underlying138
  have HR0_0 := Aside0.mk hr0_0
  have HC0_0 := Aside0.mk hc0_0
  clear hr0_0 hc0_0
  have HR0_1 := Aside0.mk hr0_1
  have HC0_1 := Aside0.mk hc0_1
  clear hr0_1 hc0_1
  have HR2_1 := Aside0.mk hr2_1
  have HC2_1 := Aside0.mk hc2_1
  clear hr2_1 hc2_1
  have HR2_2 := Aside0.mk hr2_2
  have HC2_2 := Aside0.mk hc2_2
  clear hr2_2 hc2_2
  have HB := Aside0.mk (Below.refl w.heap.size w)
  have H : (if a2_0 = 1 then (if a2_0 = 2 then (if a2_0 = 4 then (spec_l1Act.j0 k a1 false l0_0 l0_1 a2_0 l2_1 l2_2 a2_3) else (spec_l1Act.j0 k a1 (a2_3 != 0) l0_0 l0_1 a2_0 l2_1 l2_2 a2_3)) else (if (l2_2.length : Int) > 0 then (spec_l1Act.j0 k a1 true l0_0 l0_1 a2_0 l2_1 l2_2 a2_3) else (if a2_0 = 4 then (spec_l1Act.j0 k a1 false l0_0 l0_1 a2_0 l2_1 l2_2 a2_3) else (spec_l1Act.j0 k a1 (a2_3 != 0) l0_0 l0_1 a2_0 l2_1 l2_2 a2_3)))) else (if (l2_1.length : Int) > 0 then (spec_l1Act.j0 k a1 true l0_0 l0_1 a2_0 l2_1 l2_2 a2_3) else (if a2_0 = 2 then (if a2_0 = 4 then (spec_l1Act.j0 k a1 false l0_0 l0_1 a2_0 l2_1 l2_2 a2_3) else (spec_l1Act.j0 k a1 (a2_3 != 0) l0_0 l0_1 a2_0 l2_1 l2_2 a2_3)) else (if (l2_2.length : Int) > 0 then (spec_l1Act.j0 k a1 true l0_0 l0_1 a2_0 l2_1 l2_2 a2_3) else (if a2_0 = 4 then (spec_l1Act.j0 k a1 false l0_0 l0_1 a2_0 l2_1 l2_2 a2_3) else (spec_l1Act.j0 k a1 (a2_3 != 0) l0_0 l0_1 a2_0 l2_1 l2_2 a2_3)))))) = some r := h
  clear h
  have HC4 := Aside0.mk H
  clear H
  go_enter Try.func78, Try.ntmps78
  go_upto_region 1 with (first | ((with_reducible refine gate_dst (N := 3) rfl ?_); (try (refine gate_guard (by rfl) ?_; dsimp only)); refine box_event ?hg (N := 3) ?hd (cs := #[.slice A0_0 l0_0.length c0_0, .slice A0_1 l0_1.length c0_1]) (t := 54) ?hr ?_; (case hd => rfl); (case hg => rfl); (case hr => first | (go_simp; done) | (go_simp; rfl)); intro gb121 hg w5 hbox hb; have n0_ := Aside0.mk (below_step (by repeat (first | (with_reducible first | exact HB.out | apply below_alloc | apply pw_below_drewN | apply below_drew1) | exact HB.out)) hb); have n1_ := Aside0.mk (hbox); have n2_ := Aside0.mk ((by rw [hg]; exact (below_size (by repeat (first | (with_reducible first | exact HB.out | apply below_alloc | apply pw_below_drewN | apply below_drew1) | exact HB.out))) : w.heap.size ≤ gb121)); have n3_ := Aside0.mk ((by rw [hg]; exact (below_size (by repeat (first | (with_reducible first | exact HB.out | apply below_alloc | apply pw_below_drewN | apply below_drew1) | exact HB.out))) : w.heap.size ≤ gb121)); clear HB; have HB := n0_; have BK121 := n1_; have GW121 := n2_; have GE121 := n3_; clear n0_ n1_ n2_ n3_; clear hb hbox hg) | ((with_reducible refine gate_dst (N := 5) rfl ?_); (try (refine gate_guard (by rfl) ?_; dsimp only)); refine box_event ?hg (N := 5) ?hd (cs := #[.int .i64 a2_0, .slice A2_1 l2_1.length c2_1, .slice A2_2 l2_2.length c2_2, .int .i64 a2_3]) (t := 90) ?hr ?_; (case hd => rfl); (case hg => rfl); (case hr => first | (go_simp; done) | (go_simp; rfl)); intro gb122 hg w6 hbox hb; have n0_ := Aside0.mk (blk_below (g := gb121) (o := .cells #[.slice A0_0 l0_0.length c0_0, .slice A0_1 l0_1.length c0_1] 54 (0, 0)) (by (with_reducible repeat (first | refine blk_drewN ?_ _ | refine blk_drew ?_ | refine blk_alloc ?_ _)); exact BK121.out) hb); have n1_ := Aside0.mk (below_step (by repeat (first | (with_reducible first | exact HB.out | apply below_alloc | apply pw_below_drewN | apply below_drew1 | refine below_set ?_ GE121.out) | exact HB.out)) hb); have n2_ := Aside0.mk (hbox); have n3_ := Aside0.mk ((by rw [hg]; exact (below_size (by repeat (first | (with_reducible first | exact HB.out | apply below_alloc | apply pw_below_drewN | apply below_drew1 | refine below_set ?_ GE121.out) | exact HB.out))) : w.heap.size ≤ gb122)); have n4_ := Aside0.mk ((by rw [hg]; exact (below_size (by repeat (first | (with_reducible first | exact HB.out | apply below_alloc | apply pw_below_drewN | apply below_drew1 | refine below_set ?_ GE121.out) | exact HB.out))) : w.heap.size ≤ gb122)); have n5_ := Aside0.mk ((by rw [hg]; exact Nat.ne_of_lt (blk_lt (g := gb121) (o := .cells #[.slice A0_0 l0_0.length c0_0, .slice A0_1 l0_1.length c0_1] 54 (0, 0)) (by (with_reducible repeat (first | refine blk_drewN ?_ _ | refine blk_drew ?_ | refine blk_alloc ?_ _)); exact BK121.out)) : gb121 ≠ gb122)); have n6_ := Aside0.mk ((by rw [hg]; exact Nat.ne_of_gt (blk_lt (g := gb121) (o := .cells #[.slice A0_0 l0_0.length c0_0, .slice A0_1 l0_1.length c0_1] 54 (0, 0)) (by (with_reducible repeat (first | refine blk_drewN ?_ _ | refine blk_drew ?_ | refine blk_alloc ?_ _)); exact BK121.out)) : gb122 ≠ gb121)); clear BK121; clear HB; have BK121 := n0_; have HB := n1_; have BK122 := n2_; have GW122 := n3_; have GE122 := n4_; have NB121_122 := n5_; have NB122_121 := n6_; clear n0_ n1_ n2_ n3_ n4_ n5_ n6_; clear hb hbox hg))
  (try simp only [Act.put, List.setIfInBounds_toArray, List.set_cons_zero, List.set_cons_succ])
  go_cut [37] (fun v37 wc => ∃ (kq : Nat) (x37_3 : Bool), v37 = .bool x37_3 ∧ Aside0 (spec_l1Act.j0 kq a1 x37_3 l0_0 l0_1 a2_0 l2_1 l2_2 a2_3 = some r) ∧ Aside0 (kq ≤ k) ∧ Aside0 (wc.heap[gb121]? = some (.cells #[(.slice A0_0 l0_0.length c0_0), (.slice A0_1 l0_1.length c0_1)] 54 (0, 0))) ∧ Aside0 (wc.heap[gb122]? = some (.cells #[.int .i64 a2_0, (.slice A2_1 l2_1.length c2_1), (.slice A2_2 l2_2.length c2_2), .int .i64 a2_3] 90 (0, 0))) ∧ Aside0 (Below w.heap.size w wc))
  case first =>
    have H := HC4.out
    clear HC4
    by_cases c7 : a2_0 = 1
    · rw [if_pos c7] at H
      have c7b0 : (a2_0 == 1) = true := beq_iff_eq.mpr c7
      have c7b1 : (a2_0 != 1) = false := bne_eq_false_iff_eq.mpr c7
      clear c7
      (first | rw [c7b0] | (simp only [i64_w, i32_w]; rw [c7b0]) | skip)
      by_cases c8 : a2_0 = 2
      · rw [if_pos c8] at H
        have c8b0 : (a2_0 == 2) = true := beq_iff_eq.mpr c8
        have c8b1 : (a2_0 != 2) = false := bne_eq_false_iff_eq.mpr c8
        clear c8
        by_cases c9 : a2_0 = 4
        · rw [if_pos c9] at H
          have c9b0 : (a2_0 == 4) = true := beq_iff_eq.mpr c9
          have c9b1 : (a2_0 != 4) = false := bne_eq_false_iff_eq.mpr c9
          clear c9
          have H' := Aside0.mk H
          clear H
          have hnb10 := NB122_121.out
          have hnc10 := NB121_122.out
          have hcz11_0 : w6.cell? ⟨gb122, 0, none⟩ = some (.int .i64 a2_0) := (blk_cell BK122.out 0).trans rfl
          have hcz11_1 : w6.cell? ⟨gb122, 1, none⟩ = some (.slice A2_1 l2_1.length c2_1) := (blk_cell BK122.out 1).trans rfl
          have hcz11_2 : w6.cell? ⟨gb122, 2, none⟩ = some (.slice A2_2 l2_2.length c2_2) := (blk_cell BK122.out 2).trans rfl
          have hcz11_3 : w6.cell? ⟨gb122, 3, none⟩ = some (.int .i64 a2_3) := (blk_cell BK122.out 3).trans rfl
          have hfz11_0 := blk_frozen BK122.out 0
          have hfz11_1 := blk_frozen BK122.out 1
          have hfz11_2 := blk_frozen BK122.out 2
          have hfz11_3 := blk_frozen BK122.out 3
          go_wp2
          go_meet
          case rel => exact ⟨_, (false), (by first | rfl | (simp; done) | (simp [*]; done)), H', ⟨by first | omega | exact Nat.le_refl _⟩, ⟨by (with_reducible repeat (first | refine blk_drewN ?_ _ | refine blk_drew ?_ | refine blk_alloc ?_ _)); exact BK121.out⟩, ⟨by (with_reducible repeat (first | refine blk_drewN ?_ _ | refine blk_drew ?_ | refine blk_alloc ?_ _)); exact BK122.out⟩, ⟨by repeat (first | (with_reducible first | exact HB.out | apply below_alloc | apply pw_below_drewN | apply below_drew1 | refine below_set ?_ GE121.out | refine below_set ?_ GE122.out) | exact HB.out)⟩⟩
        · rw [if_neg c9] at H
          have c9b0 : (a2_0 == 4) = false := beq_eq_false_iff_ne.mpr c9
          have c9b1 : (a2_0 != 4) = true := bne_iff_ne.mpr c9
          have H' := Aside0.mk H
          clear H
          have hnb12 := NB122_121.out
          have hnc12 := NB121_122.out
          have hcz13_0 : w6.cell? ⟨gb122, 0, none⟩ = some (.int .i64 a2_0) := (blk_cell BK122.out 0).trans rfl
          have hcz13_1 : w6.cell? ⟨gb122, 1, none⟩ = some (.slice A2_1 l2_1.length c2_1) := (blk_cell BK122.out 1).trans rfl
          have hcz13_2 : w6.cell? ⟨gb122, 2, none⟩ = some (.slice A2_2 l2_2.length c2_2) := (blk_cell BK122.out 2).trans rfl
          have hcz13_3 : w6.cell? ⟨gb122, 3, none⟩ = some (.int .i64 a2_3) := (blk_cell BK122.out 3).trans rfl
          have hfz13_0 := blk_frozen BK122.out 0
          have hfz13_1 := blk_frozen BK122.out 1
          have hfz13_2 := blk_frozen BK122.out 2
          have hfz13_3 := blk_frozen BK122.out 3
          go_wp2
          go_meet
          case rel => exact ⟨_, ((a2_3 != 0)), (by first | rfl | (simp; done) | (simp [*]; done)), H', ⟨by first | omega | exact Nat.le_refl _⟩, ⟨by (with_reducible repeat (first | refine blk_drewN ?_ _ | refine blk_drew ?_ | refine blk_alloc ?_ _)); exact BK121.out⟩, ⟨by (with_reducible repeat (first | refine blk_drewN ?_ _ | refine blk_drew ?_ | refine blk_alloc ?_ _)); exact BK122.out⟩, ⟨by repeat (first | (with_reducible first | exact HB.out | apply below_alloc | apply pw_below_drewN | apply below_drew1 | refine below_set ?_ GE121.out | refine below_set ?_ GE122.out) | exact HB.out)⟩⟩
      · rw [if_neg c8] at H
        have c8b0 : (a2_0 == 2) = false := beq_eq_false_iff_ne.mpr c8
        have c8b1 : (a2_0 != 2) = true := bne_iff_ne.mpr c8
        by_cases c14 : (l2_2.length : Int) > 0
        · rw [if_pos c14] at H
          have c14b0 : decide (0 < (l2_2.length : Int)) = true := decide_eq_true c14
          have c14b1 : decide (0 < l2_2.length) = true := decide_eq_true (by omega)
          clear c14
          have H' := Aside0.mk H
          clear H
          have hnb15 := NB122_121.out
          have hnc15 := NB121_122.out
          have hcz16_0 : w6.cell? ⟨gb122, 0, none⟩ = some (.int .i64 a2_0) := (blk_cell BK122.out 0).trans rfl
          have hcz16_1 : w6.cell? ⟨gb122, 1, none⟩ = some (.slice A2_1 l2_1.length c2_1) := (blk_cell BK122.out 1).trans rfl
          have hcz16_2 : w6.cell? ⟨gb122, 2, none⟩ = some (.slice A2_2 l2_2.length c2_2) := (blk_cell BK122.out 2).trans rfl
          have hcz16_3 : w6.cell? ⟨gb122, 3, none⟩ = some (.int .i64 a2_3) := (blk_cell BK122.out 3).trans rfl
          have hfz16_0 := blk_frozen BK122.out 0
          have hfz16_1 := blk_frozen BK122.out 1
          have hfz16_2 := blk_frozen BK122.out 2
          have hfz16_3 := blk_frozen BK122.out 3
          go_wp2
          go_meet
          case rel => exact ⟨_, (true), (by first | rfl | (simp; done) | (simp [*]; done)), H', ⟨by first | omega | exact Nat.le_refl _⟩, ⟨by (with_reducible repeat (first | refine blk_drewN ?_ _ | refine blk_drew ?_ | refine blk_alloc ?_ _)); exact BK121.out⟩, ⟨by (with_reducible repeat (first | refine blk_drewN ?_ _ | refine blk_drew ?_ | refine blk_alloc ?_ _)); exact BK122.out⟩, ⟨by repeat (first | (with_reducible first | exact HB.out | apply below_alloc | apply pw_below_drewN | apply below_drew1 | refine below_set ?_ GE121.out | refine below_set ?_ GE122.out) | exact HB.out)⟩⟩
        · rw [if_neg c14] at H
          have c14b0 : decide (0 < (l2_2.length : Int)) = false := decide_eq_false c14
          have c14b1 : decide (0 < l2_2.length) = false := decide_eq_false (by omega)
          clear c14
          by_cases c17 : a2_0 = 4
          · rw [if_pos c17] at H
            have c17b0 : (a2_0 == 4) = true := beq_iff_eq.mpr c17
            have c17b1 : (a2_0 != 4) = false := bne_eq_false_iff_eq.mpr c17
            clear c17
            have H' := Aside0.mk H
            clear H
            have hnb18 := NB122_121.out
            have hnc18 := NB121_122.out
            have hcz19_0 : w6.cell? ⟨gb122, 0, none⟩ = some (.int .i64 a2_0) := (blk_cell BK122.out 0).trans rfl
            have hcz19_1 : w6.cell? ⟨gb122, 1, none⟩ = some (.slice A2_1 l2_1.length c2_1) := (blk_cell BK122.out 1).trans rfl
            have hcz19_2 : w6.cell? ⟨gb122, 2, none⟩ = some (.slice A2_2 l2_2.length c2_2) := (blk_cell BK122.out 2).trans rfl
            have hcz19_3 : w6.cell? ⟨gb122, 3, none⟩ = some (.int .i64 a2_3) := (blk_cell BK122.out 3).trans rfl
            have hfz19_0 := blk_frozen BK122.out 0
            have hfz19_1 := blk_frozen BK122.out 1
            have hfz19_2 := blk_frozen BK122.out 2
            have hfz19_3 := blk_frozen BK122.out 3
            go_wp2
            go_meet
            case rel => exact ⟨_, (false), (by first | rfl | (simp; done) | (simp [*]; done)), H', ⟨by first | omega | exact Nat.le_refl _⟩, ⟨by (with_reducible repeat (first | refine blk_drewN ?_ _ | refine blk_drew ?_ | refine blk_alloc ?_ _)); exact BK121.out⟩, ⟨by (with_reducible repeat (first | refine blk_drewN ?_ _ | refine blk_drew ?_ | refine blk_alloc ?_ _)); exact BK122.out⟩, ⟨by repeat (first | (with_reducible first | exact HB.out | apply below_alloc | apply pw_below_drewN | apply below_drew1 | refine below_set ?_ GE121.out | refine below_set ?_ GE122.out) | exact HB.out)⟩⟩
          · rw [if_neg c17] at H
            have c17b0 : (a2_0 == 4) = false := beq_eq_false_iff_ne.mpr c17
            have c17b1 : (a2_0 != 4) = true := bne_iff_ne.mpr c17
            have H' := Aside0.mk H
            clear H
            have hnb20 := NB122_121.out
            have hnc20 := NB121_122.out
            have hcz21_0 : w6.cell? ⟨gb122, 0, none⟩ = some (.int .i64 a2_0) := (blk_cell BK122.out 0).trans rfl
            have hcz21_1 : w6.cell? ⟨gb122, 1, none⟩ = some (.slice A2_1 l2_1.length c2_1) := (blk_cell BK122.out 1).trans rfl
            have hcz21_2 : w6.cell? ⟨gb122, 2, none⟩ = some (.slice A2_2 l2_2.length c2_2) := (blk_cell BK122.out 2).trans rfl
            have hcz21_3 : w6.cell? ⟨gb122, 3, none⟩ = some (.int .i64 a2_3) := (blk_cell BK122.out 3).trans rfl
            have hfz21_0 := blk_frozen BK122.out 0
            have hfz21_1 := blk_frozen BK122.out 1
            have hfz21_2 := blk_frozen BK122.out 2
            have hfz21_3 := blk_frozen BK122.out 3
            go_wp2
            go_meet
            case rel => exact ⟨_, ((a2_3 != 0)), (by first | rfl | (simp; done) | (simp [*]; done)), H', ⟨by first | omega | exact Nat.le_refl _⟩, ⟨by (with_reducible repeat (first | refine blk_drewN ?_ _ | refine blk_drew ?_ | refine blk_alloc ?_ _)); exact BK121.out⟩, ⟨by (with_reducible repeat (first | refine blk_drewN ?_ _ | refine blk_drew ?_ | refine blk_alloc ?_ _)); exact BK122.out⟩, ⟨by repeat (first | (with_reducible first | exact HB.out | apply below_alloc | apply pw_below_drewN | apply below_drew1 | refine below_set ?_ GE121.out | refine below_set ?_ GE122.out) | exact HB.out)⟩⟩
    · rw [if_neg c7] at H
      have c7b0 : (a2_0 == 1) = false := beq_eq_false_iff_ne.mpr c7
      have c7b1 : (a2_0 != 1) = true := bne_iff_ne.mpr c7
      (first | rw [c7b0] | (simp only [i64_w, i32_w]; rw [c7b0]) | skip)
      by_cases c22 : (l2_1.length : Int) > 0
      · rw [if_pos c22] at H
        have c22b0 : decide (0 < (l2_1.length : Int)) = true := decide_eq_true c22
        have c22b1 : decide (0 < l2_1.length) = true := decide_eq_true (by omega)
        clear c22
        have H' := Aside0.mk H
        clear H
        have hnb23 := NB122_121.out
        have hnc23 := NB121_122.out
        have hcz24_0 : w6.cell? ⟨gb122, 0, none⟩ = some (.int .i64 a2_0) := (blk_cell BK122.out 0).trans rfl
        have hcz24_1 : w6.cell? ⟨gb122, 1, none⟩ = some (.slice A2_1 l2_1.length c2_1) := (blk_cell BK122.out 1).trans rfl
        have hcz24_2 : w6.cell? ⟨gb122, 2, none⟩ = some (.slice A2_2 l2_2.length c2_2) := (blk_cell BK122.out 2).trans rfl
        have hcz24_3 : w6.cell? ⟨gb122, 3, none⟩ = some (.int .i64 a2_3) := (blk_cell BK122.out 3).trans rfl
        have hfz24_0 := blk_frozen BK122.out 0
        have hfz24_1 := blk_frozen BK122.out 1
        have hfz24_2 := blk_frozen BK122.out 2
        have hfz24_3 := blk_frozen BK122.out 3
        go_wp2
        go_meet
        case rel => exact ⟨_, (true), (by first | rfl | (simp; done) | (simp [*]; done)), H', ⟨by first | omega | exact Nat.le_refl _⟩, ⟨by (with_reducible repeat (first | refine blk_drewN ?_ _ | refine blk_drew ?_ | refine blk_alloc ?_ _)); exact BK121.out⟩, ⟨by (with_reducible repeat (first | refine blk_drewN ?_ _ | refine blk_drew ?_ | refine blk_alloc ?_ _)); exact BK122.out⟩, ⟨by repeat (first | (with_reducible first | exact HB.out | apply below_alloc | apply pw_below_drewN | apply below_drew1 | refine below_set ?_ GE121.out | refine below_set ?_ GE122.out) | exact HB.out)⟩⟩
      · rw [if_neg c22] at H
        have c22b0 : decide (0 < (l2_1.length : Int)) = false := decide_eq_false c22
        have c22b1 : decide (0 < l2_1.length) = false := decide_eq_false (by omega)
        clear c22
        by_cases c25 : a2_0 = 2
        · rw [if_pos c25] at H
          have c25b0 : (a2_0 == 2) = true := beq_iff_eq.mpr c25
          have c25b1 : (a2_0 != 2) = false := bne_eq_false_iff_eq.mpr c25
          clear c25
          by_cases c26 : a2_0 = 4
          · rw [if_pos c26] at H
            have c26b0 : (a2_0 == 4) = true := beq_iff_eq.mpr c26
            have c26b1 : (a2_0 != 4) = false := bne_eq_false_iff_eq.mpr c26
            clear c26
            have H' := Aside0.mk H
            clear H
            have hnb27 := NB122_121.out
            have hnc27 := NB121_122.out
            have hcz28_0 : w6.cell? ⟨gb122, 0, none⟩ = some (.int .i64 a2_0) := (blk_cell BK122.out 0).trans rfl
            have hcz28_1 : w6.cell? ⟨gb122, 1, none⟩ = some (.slice A2_1 l2_1.length c2_1) := (blk_cell BK122.out 1).trans rfl
            have hcz28_2 : w6.cell? ⟨gb122, 2, none⟩ = some (.slice A2_2 l2_2.length c2_2) := (blk_cell BK122.out 2).trans rfl
            have hcz28_3 : w6.cell? ⟨gb122, 3, none⟩ = some (.int .i64 a2_3) := (blk_cell BK122.out 3).trans rfl
            have hfz28_0 := blk_frozen BK122.out 0
            have hfz28_1 := blk_frozen BK122.out 1
            have hfz28_2 := blk_frozen BK122.out 2
            have hfz28_3 := blk_frozen BK122.out 3
            go_wp2
            go_meet
            case rel => exact ⟨_, (false), (by first | rfl | (simp; done) | (simp [*]; done)), H', ⟨by first | omega | exact Nat.le_refl _⟩, ⟨by (with_reducible repeat (first | refine blk_drewN ?_ _ | refine blk_drew ?_ | refine blk_alloc ?_ _)); exact BK121.out⟩, ⟨by (with_reducible repeat (first | refine blk_drewN ?_ _ | refine blk_drew ?_ | refine blk_alloc ?_ _)); exact BK122.out⟩, ⟨by repeat (first | (with_reducible first | exact HB.out | apply below_alloc | apply pw_below_drewN | apply below_drew1 | refine below_set ?_ GE121.out | refine below_set ?_ GE122.out) | exact HB.out)⟩⟩
          · rw [if_neg c26] at H
            have c26b0 : (a2_0 == 4) = false := beq_eq_false_iff_ne.mpr c26
            have c26b1 : (a2_0 != 4) = true := bne_iff_ne.mpr c26
            have H' := Aside0.mk H
            clear H
            have hnb29 := NB122_121.out
            have hnc29 := NB121_122.out
            have hcz30_0 : w6.cell? ⟨gb122, 0, none⟩ = some (.int .i64 a2_0) := (blk_cell BK122.out 0).trans rfl
            have hcz30_1 : w6.cell? ⟨gb122, 1, none⟩ = some (.slice A2_1 l2_1.length c2_1) := (blk_cell BK122.out 1).trans rfl
            have hcz30_2 : w6.cell? ⟨gb122, 2, none⟩ = some (.slice A2_2 l2_2.length c2_2) := (blk_cell BK122.out 2).trans rfl
            have hcz30_3 : w6.cell? ⟨gb122, 3, none⟩ = some (.int .i64 a2_3) := (blk_cell BK122.out 3).trans rfl
            have hfz30_0 := blk_frozen BK122.out 0
            have hfz30_1 := blk_frozen BK122.out 1
            have hfz30_2 := blk_frozen BK122.out 2
            have hfz30_3 := blk_frozen BK122.out 3
            go_wp2
            go_meet
            case rel => exact ⟨_, ((a2_3 != 0)), (by first | rfl | (simp; done) | (simp [*]; done)), H', ⟨by first | omega | exact Nat.le_refl _⟩, ⟨by (with_reducible repeat (first | refine blk_drewN ?_ _ | refine blk_drew ?_ | refine blk_alloc ?_ _)); exact BK121.out⟩, ⟨by (with_reducible repeat (first | refine blk_drewN ?_ _ | refine blk_drew ?_ | refine blk_alloc ?_ _)); exact BK122.out⟩, ⟨by repeat (first | (with_reducible first | exact HB.out | apply below_alloc | apply pw_below_drewN | apply below_drew1 | refine below_set ?_ GE121.out | refine below_set ?_ GE122.out) | exact HB.out)⟩⟩
        · rw [if_neg c25] at H
          have c25b0 : (a2_0 == 2) = false := beq_eq_false_iff_ne.mpr c25
          have c25b1 : (a2_0 != 2) = true := bne_iff_ne.mpr c25
          by_cases c31 : (l2_2.length : Int) > 0
          · rw [if_pos c31] at H
            have c31b0 : decide (0 < (l2_2.length : Int)) = true := decide_eq_true c31
            have c31b1 : decide (0 < l2_2.length) = true := decide_eq_true (by omega)
            clear c31
            have H' := Aside0.mk H
            clear H
            have hnb32 := NB122_121.out
            have hnc32 := NB121_122.out
            have hcz33_0 : w6.cell? ⟨gb122, 0, none⟩ = some (.int .i64 a2_0) := (blk_cell BK122.out 0).trans rfl
            have hcz33_1 : w6.cell? ⟨gb122, 1, none⟩ = some (.slice A2_1 l2_1.length c2_1) := (blk_cell BK122.out 1).trans rfl
            have hcz33_2 : w6.cell? ⟨gb122, 2, none⟩ = some (.slice A2_2 l2_2.length c2_2) := (blk_cell BK122.out 2).trans rfl
            have hcz33_3 : w6.cell? ⟨gb122, 3, none⟩ = some (.int .i64 a2_3) := (blk_cell BK122.out 3).trans rfl
            have hfz33_0 := blk_frozen BK122.out 0
            have hfz33_1 := blk_frozen BK122.out 1
            have hfz33_2 := blk_frozen BK122.out 2
            have hfz33_3 := blk_frozen BK122.out 3
            go_wp2
            go_meet
            case rel => exact ⟨_, (true), (by first | rfl | (simp; done) | (simp [*]; done)), H', ⟨by first | omega | exact Nat.le_refl _⟩, ⟨by (with_reducible repeat (first | refine blk_drewN ?_ _ | refine blk_drew ?_ | refine blk_alloc ?_ _)); exact BK121.out⟩, ⟨by (with_reducible repeat (first | refine blk_drewN ?_ _ | refine blk_drew ?_ | refine blk_alloc ?_ _)); exact BK122.out⟩, ⟨by repeat (first | (with_reducible first | exact HB.out | apply below_alloc | apply pw_below_drewN | apply below_drew1 | refine below_set ?_ GE121.out | refine below_set ?_ GE122.out) | exact HB.out)⟩⟩
          · rw [if_neg c31] at H
            have c31b0 : decide (0 < (l2_2.length : Int)) = false := decide_eq_false c31
            have c31b1 : decide (0 < l2_2.length) = false := decide_eq_false (by omega)
            clear c31
            by_cases c34 : a2_0 = 4
            · rw [if_pos c34] at H
              have c34b0 : (a2_0 == 4) = true := beq_iff_eq.mpr c34
              have c34b1 : (a2_0 != 4) = false := bne_eq_false_iff_eq.mpr c34
              clear c34
              have H' := Aside0.mk H
              clear H
              have hnb35 := NB122_121.out
              have hnc35 := NB121_122.out
              have hcz36_0 : w6.cell? ⟨gb122, 0, none⟩ = some (.int .i64 a2_0) := (blk_cell BK122.out 0).trans rfl
              have hcz36_1 : w6.cell? ⟨gb122, 1, none⟩ = some (.slice A2_1 l2_1.length c2_1) := (blk_cell BK122.out 1).trans rfl
              have hcz36_2 : w6.cell? ⟨gb122, 2, none⟩ = some (.slice A2_2 l2_2.length c2_2) := (blk_cell BK122.out 2).trans rfl
              have hcz36_3 : w6.cell? ⟨gb122, 3, none⟩ = some (.int .i64 a2_3) := (blk_cell BK122.out 3).trans rfl
              have hfz36_0 := blk_frozen BK122.out 0
              have hfz36_1 := blk_frozen BK122.out 1
              have hfz36_2 := blk_frozen BK122.out 2
              have hfz36_3 := blk_frozen BK122.out 3
              go_wp2
              go_meet
              case rel => exact ⟨_, (false), (by first | rfl | (simp; done) | (simp [*]; done)), H', ⟨by first | omega | exact Nat.le_refl _⟩, ⟨by (with_reducible repeat (first | refine blk_drewN ?_ _ | refine blk_drew ?_ | refine blk_alloc ?_ _)); exact BK121.out⟩, ⟨by (with_reducible repeat (first | refine blk_drewN ?_ _ | refine blk_drew ?_ | refine blk_alloc ?_ _)); exact BK122.out⟩, ⟨by repeat (first | (with_reducible first | exact HB.out | apply below_alloc | apply pw_below_drewN | apply below_drew1 | refine below_set ?_ GE121.out | refine below_set ?_ GE122.out) | exact HB.out)⟩⟩
            · rw [if_neg c34] at H
              have c34b0 : (a2_0 == 4) = false := beq_eq_false_iff_ne.mpr c34
              have c34b1 : (a2_0 != 4) = true := bne_iff_ne.mpr c34
              have H' := Aside0.mk H
              clear H
              have hnb37 := NB122_121.out
              have hnc37 := NB121_122.out
              have hcz38_0 : w6.cell? ⟨gb122, 0, none⟩ = some (.int .i64 a2_0) := (blk_cell BK122.out 0).trans rfl
              have hcz38_1 : w6.cell? ⟨gb122, 1, none⟩ = some (.slice A2_1 l2_1.length c2_1) := (blk_cell BK122.out 1).trans rfl
              have hcz38_2 : w6.cell? ⟨gb122, 2, none⟩ = some (.slice A2_2 l2_2.length c2_2) := (blk_cell BK122.out 2).trans rfl
              have hcz38_3 : w6.cell? ⟨gb122, 3, none⟩ = some (.int .i64 a2_3) := (blk_cell BK122.out 3).trans rfl
              have hfz38_0 := blk_frozen BK122.out 0
              have hfz38_1 := blk_frozen BK122.out 1
              have hfz38_2 := blk_frozen BK122.out 2
              have hfz38_3 := blk_frozen BK122.out 3
              go_wp2
              go_meet
              case rel => exact ⟨_, ((a2_3 != 0)), (by first | rfl | (simp; done) | (simp [*]; done)), H', ⟨by first | omega | exact Nat.le_refl _⟩, ⟨by (with_reducible repeat (first | refine blk_drewN ?_ _ | refine blk_drew ?_ | refine blk_alloc ?_ _)); exact BK121.out⟩, ⟨by (with_reducible repeat (first | refine blk_drewN ?_ _ | refine blk_drew ?_ | refine blk_alloc ?_ _)); exact BK122.out⟩, ⟨by repeat (first | (with_reducible first | exact HB.out | apply below_alloc | apply pw_below_drewN | apply below_drew1 | refine below_set ?_ GE121.out | refine below_set ?_ GE122.out) | exact HB.out)⟩⟩
  case rest =>
    clear HC4
    try clear c1
    try clear c2
    try clear p2
    try clear c3
    try clear c7
    try clear c7b0
    try clear c7b1
    try clear c8
    try clear c8b0
    try clear c8b1
    try clear c9
    try clear c9b0
    try clear c9b1
    try clear c10
    try clear c12
    try clear c14
    try clear c14b0
    try clear c14b1
    try clear c15
    try clear c17
    try clear c17b0
    try clear c17b1
    try clear c18
    try clear c20
    try clear c22
    try clear c22b0
    try clear c22b1
    try clear c23
    try clear c25
    try clear c25b0
    try clear c25b1
    try clear c26
    try clear c26b0
    try clear c26b1
    try clear c27
    try clear c29
    try clear c31
    try clear c31b0
    try clear c31b1
    try clear c32
    try clear c34
    try clear c34b0
    try clear c34b1
    try clear c35
    try clear c37
    try clear hcz11_0
    try clear hcz11_1
    try clear hcz11_2
    try clear hcz11_3
    try clear hcz13_0
    try clear hcz13_1
    try clear hcz13_2
    try clear hcz13_3
    try clear hcz16_0
    try clear hcz16_1
    try clear hcz16_2
    try clear hcz16_3
    try clear hcz19_0
    try clear hcz19_1
    try clear hcz19_2
    try clear hcz19_3
    try clear hcz21_0
    try clear hcz21_1
    try clear hcz21_2
    try clear hcz21_3
    try clear hcz24_0
    try clear hcz24_1
    try clear hcz24_2
    try clear hcz24_3
    try clear hcz28_0
    try clear hcz28_1
    try clear hcz28_2
    try clear hcz28_3
    try clear hcz30_0
    try clear hcz30_1
    try clear hcz30_2
    try clear hcz30_3
    try clear hcz33_0
    try clear hcz33_1
    try clear hcz33_2
    try clear hcz33_3
    try clear hcz36_0
    try clear hcz36_1
    try clear hcz36_2
    try clear hcz36_3
    try clear hcz38_0
    try clear hcz38_1
    try clear hcz38_2
    try clear hcz38_3
    try clear hfz11_0
    try clear hfz11_1
    try clear hfz11_2
    try clear hfz11_3
    try clear hfz13_0
    try clear hfz13_1
    try clear hfz13_2
    try clear hfz13_3
    try clear hfz16_0
    try clear hfz16_1
    try clear hfz16_2
    try clear hfz16_3
    try clear hfz19_0
    try clear hfz19_1
    try clear hfz19_2
    try clear hfz19_3
    try clear hfz21_0
    try clear hfz21_1
    try clear hfz21_2
    try clear hfz21_3
    try clear hfz24_0
    try clear hfz24_1
    try clear hfz24_2
    try clear hfz24_3
    try clear hfz28_0
    try clear hfz28_1
    try clear hfz28_2
    try clear hfz28_3
    try clear hfz30_0
    try clear hfz30_1
    try clear hfz30_2
    try clear hfz30_3
    try clear hfz33_0
    try clear hfz33_1
    try clear hfz33_2
    try clear hfz33_3
    try clear hfz36_0
    try clear hfz36_1
    try clear hfz36_2
    try clear hfz36_3
    try clear hfz38_0
    try clear hfz38_1
    try clear hfz38_2
    try clear hfz38_3
    obtain ⟨kq, x37_3, rfl, HA, HJ3, BK121, BK122, HB⟩ := hcut
    cases kq with
    | zero => exact absurd HA.out (by simp [spec_l1Act.j0])
    | succ kj3 =>
      have H := HA.out
      clear HA
      simp only [spec_l1Act.j0] at H
      by_cases c39 : x37_3 = true
      · subst c39
        have H1 : (some false) = some r := by rw [if_pos rfl] at H; exact H
        clear H
        have H := H1
        clear H1
        obtain rfl := Option.some.inj H
        go_wp2
        go_ret
        exact ⟨by first | rfl | (simp [errW_none, errW_some] <;> rfl) | (simp [*, errW_none, errW_some] <;> rfl), by repeat (first | (with_reducible first | exact HB.out | apply below_alloc | apply pw_below_drewN | apply below_drew1 | refine below_set ?_ GE121.out | refine below_set ?_ GE122.out) | exact HB.out)⟩
      · replace c39 := Bool.eq_false_iff.mpr c39
        subst c39
        have H1 : (if a2_0 = 1 then (spec_l1Act.l0 kj3 0 l0_0 l0_1 a2_0 l2_1 l2_2 a2_3) else (if a2_0 = 2 then ((spec_l1Kids.f kj3 l2_2 a1 (l0_1.length : Int)).bind fun t125 => (some t125)) else (if a2_0 = 3 then (some true) else (if a2_0 = 4 then ((spec_l6In.f a2_3 0 2).bind fun t126 => (some t126)) else (some false))))) = some r := by rw [if_neg (show ¬ (false = true) by decide)] at H; exact H
        clear H
        have H := H1
        clear H1
        by_cases c40 : a2_0 = 1
        · rw [if_pos c40] at H
          have c40b0 : (a2_0 == 1) = true := beq_iff_eq.mpr c40
          have c40b1 : (a2_0 != 1) = false := bne_eq_false_iff_eq.mpr c40
          clear c40
          have H' := Aside0.mk H
          clear H
          have hnb41 := NB122_121.out
          have hnc41 := NB121_122.out
          have hcz42_0 : wc.cell? ⟨gb122, 0, none⟩ = some (.int .i64 a2_0) := (blk_cell BK122.out 0).trans rfl
          have hcz42_1 : wc.cell? ⟨gb122, 1, none⟩ = some (.slice A2_1 l2_1.length c2_1) := (blk_cell BK122.out 1).trans rfl
          have hcz42_2 : wc.cell? ⟨gb122, 2, none⟩ = some (.slice A2_2 l2_2.length c2_2) := (blk_cell BK122.out 2).trans rfl
          have hcz42_3 : wc.cell? ⟨gb122, 3, none⟩ = some (.int .i64 a2_3) := (blk_cell BK122.out 3).trans rfl
          have hfz42_0 := blk_frozen BK122.out 0
          have hfz42_1 := blk_frozen BK122.out 1
          have hfz42_2 := blk_frozen BK122.out 2
          have hfz42_3 := blk_frozen BK122.out 3
          go_wp2
          go_loopg [7] kj3 (fun kq v7 w' => ∃ (x7_2 : Int), v7 = .int .i64 x7_2 ∧ Aside0 (spec_l1Act.l0 kq x7_2 l0_0 l0_1 a2_0 l2_1 l2_2 a2_3 = some r) ∧ Aside0 (kq ≤ kj3) ∧ Aside0 (w'.heap[gb121]? = some (.cells #[(.slice A0_0 l0_0.length c0_0), (.slice A0_1 l0_1.length c0_1)] 54 (0, 0))) ∧ Aside0 (w'.heap[gb122]? = some (.cells #[.int .i64 a2_0, (.slice A2_1 l2_1.length c2_1), (.slice A2_2 l2_2.length c2_2), .int .i64 a2_3] 90 (0, 0))) ∧ Aside0 (Below w.heap.size w w'))
          case atStart => exact ⟨(0), (by first | rfl | (simp; done) | (simp [*]; done)), H', ⟨Nat.le_refl _⟩, ⟨by (with_reducible repeat (first | refine blk_drewN ?_ _ | refine blk_drew ?_ | refine blk_alloc ?_ _)); exact BK121.out⟩, ⟨by (with_reducible repeat (first | refine blk_drewN ?_ _ | refine blk_drew ?_ | refine blk_alloc ?_ _)); exact BK122.out⟩, ⟨by repeat (first | (with_reducible first | exact HB.out | apply below_alloc | apply pw_below_drewN | apply below_drew1 | refine below_set ?_ GE121.out | refine below_set ?_ GE122.out) | exact HB.out)⟩⟩
          case round =>
            clear H'
            try clear c1
            try clear c2
            try clear p2
            try clear c3
            try clear c4
            try clear c7
            try clear c7b0
            try clear c7b1
            try clear c8
            try clear c8b0
            try clear c8b1
            try clear c9
            try clear c9b0
            try clear c9b1
            try clear c10
            try clear c12
            try clear c14
            try clear c14b0
            try clear c14b1
            try clear c15
            try clear c17
            try clear c17b0
            try clear c17b1
            try clear c18
            try clear c20
            try clear c22
            try clear c22b0
            try clear c22b1
            try clear c23
            try clear c25
            try clear c25b0
            try clear c25b1
            try clear c26
            try clear c26b0
            try clear c26b1
            try clear c27
            try clear c29
            try clear c31
            try clear c31b0
            try clear c31b1
            try clear c32
            try clear c34
            try clear c34b0
            try clear c34b1
            try clear c35
            try clear c37
            try clear c39
            try clear c40
            try clear c40b0
            try clear c40b1
            try clear c41
            try clear hcz11_0
            try clear hcz11_1
            try clear hcz11_2
            try clear hcz11_3
            try clear hcz13_0
            try clear hcz13_1
            try clear hcz13_2
            try clear hcz13_3
            try clear hcz16_0
            try clear hcz16_1
            try clear hcz16_2
            try clear hcz16_3
            try clear hcz19_0
            try clear hcz19_1
            try clear hcz19_2
            try clear hcz19_3
            try clear hcz21_0
            try clear hcz21_1
            try clear hcz21_2
            try clear hcz21_3
            try clear hcz24_0
            try clear hcz24_1
            try clear hcz24_2
            try clear hcz24_3
            try clear hcz28_0
            try clear hcz28_1
            try clear hcz28_2
            try clear hcz28_3
            try clear hcz30_0
            try clear hcz30_1
            try clear hcz30_2
            try clear hcz30_3
            try clear hcz33_0
            try clear hcz33_1
            try clear hcz33_2
            try clear hcz33_3
            try clear hcz36_0
            try clear hcz36_1
            try clear hcz36_2
            try clear hcz36_3
            try clear hcz38_0
            try clear hcz38_1
            try clear hcz38_2
            try clear hcz38_3
            try clear hcz42_0
            try clear hcz42_1
            try clear hcz42_2
            try clear hcz42_3
            try clear hfz11_0
            try clear hfz11_1
            try clear hfz11_2
            try clear hfz11_3
            try clear hfz13_0
            try clear hfz13_1
            try clear hfz13_2
            try clear hfz13_3
            try clear hfz16_0
            try clear hfz16_1
            try clear hfz16_2
            try clear hfz16_3
            try clear hfz19_0
            try clear hfz19_1
            try clear hfz19_2
            try clear hfz19_3
            try clear hfz21_0
            try clear hfz21_1
            try clear hfz21_2
            try clear hfz21_3
            try clear hfz24_0
            try clear hfz24_1
            try clear hfz24_2
            try clear hfz24_3
            try clear hfz28_0
            try clear hfz28_1
            try clear hfz28_2
            try clear hfz28_3
            try clear hfz30_0
            try clear hfz30_1
            try clear hfz30_2
            try clear hfz30_3
            try clear hfz33_0
            try clear hfz33_1
            try clear hfz33_2
            try clear hfz33_3
            try clear hfz36_0
            try clear hfz36_1
            try clear hfz36_2
            try clear hfz36_3
            try clear hfz38_0
            try clear hfz38_1
            try clear hfz38_2
            try clear hfz38_3
            try clear hfz42_0
            try clear hfz42_1
            try clear hfz42_2
            try clear hfz42_3
            try clear p2
            obtain ⟨x7_2, rfl, HA, HK2, BK121, BK122, HB⟩ := hrel
            cases gk with
            | zero => exact absurd HA.out (by simp [spec_l1Act.l0])
            | succ k2 =>
              have H := HA.out
              clear HA
              simp only [spec_l1Act.l0] at H
              by_cases c43 : x7_2 < (l2_1.length : Int)
              · rw [if_pos c43] at H
                have c43b0 : decide (x7_2 < (l2_1.length : Int)) = true := decide_eq_true c43
                clear c43
                by_cases c44 : 0 ≤ x7_2
                · rw [if_pos c44] at H
                  have c44b0 : decide (0 ≤ x7_2) = true := decide_eq_true c44
                  clear c44
                  replace H := Option.bind_eq_some_iff.mp H
                  obtain ⟨t124, A450, H⟩ := H
                  replace H : (if t124 = true then (spec_l1Act.l0 k2 (wrap64 (x7_2 + 1)) l0_0 l0_1 a2_0 l2_1 l2_2 a2_3) else (some false)) = some r := H
                  have A45 := Aside0.mk A450
                  clear A450
                  by_cases c46 : t124 = true
                  · subst c46
                    have H1 : (spec_l1Act.l0 k2 (wrap64 (x7_2 + 1)) l0_0 l0_1 a2_0 l2_1 l2_2 a2_3) = some r := by rw [if_pos rfl] at H; exact H
                    clear H
                    have H := H1
                    clear H1
                    have H' := Aside0.mk H
                    clear H
                    have hnb47 := NB122_121.out
                    have hnc47 := NB121_122.out
                    have hcz48_0 : wr.cell? ⟨gb122, 0, none⟩ = some (.int .i64 a2_0) := (blk_cell BK122.out 0).trans rfl
                    have hcz48_1 : wr.cell? ⟨gb122, 1, none⟩ = some (.slice A2_1 l2_1.length c2_1) := (blk_cell BK122.out 1).trans rfl
                    have hcz48_2 : wr.cell? ⟨gb122, 2, none⟩ = some (.slice A2_2 l2_2.length c2_2) := (blk_cell BK122.out 2).trans rfl
                    have hcz48_3 : wr.cell? ⟨gb122, 3, none⟩ = some (.int .i64 a2_3) := (blk_cell BK122.out 3).trans rfl
                    have hfz48_0 := blk_frozen BK122.out 0
                    have hfz48_1 := blk_frozen BK122.out 1
                    have hfz48_2 := blk_frozen BK122.out 2
                    have hfz48_3 := blk_frozen BK122.out 3
                    try go_wp2
                    have n0_ := Aside0.mk (blk_drew BK121.out)
                    have n1_ := Aside0.mk (blk_drew BK122.out)
                    have n2_ := Aside0.mk (below_drew1 HB.out)
                    clear BK121
                    clear BK122
                    clear HB
                    have BK121 := n0_
                    have BK122 := n1_
                    have HB := n2_
                    clear n0_ n1_ n2_
                    have p123 : 0 ≤ (x7_2 : Int) := of_decide_eq_true (by first | (with_reducible assumption) | assumption)
                    have q123 : x7_2 < (l2_1.length : Int) := of_decide_eq_true (by first | (with_reducible assumption) | assumption)
                    obtain ⟨ad123, e123, hx123_0, hx123_1, hx123_2⟩ := at_T138 HR2_1.out x7_2 p123 q123
                    have hw123_2 := hx123_2
                    have hw123_1 := hx123_1
                    have hw123_0 := hx123_0
                    cases e123
                    replace hx123_0 := (HB.out.cell (World.block_lt_of_cell? w _ hx123_0)).trans hx123_0
                    replace hx123_1 := (HB.out.cell (World.block_lt_of_cell? w _ hx123_1)).trans hx123_1
                    replace hx123_2 := (HB.out.cell (World.block_lt_of_cell? w _ hx123_2)).trans hx123_2
                    replace p123 := eq_true p123
                    replace q123 := eq_true q123
                    refine start_ (n := 10) (S := fun w' => w'.cell? ⟨gb122, 0, none⟩ = some (.int .i64 a2_0) ∧ w'.cell? ⟨gb122, 1, none⟩ = some (.slice (some ad123) l2_1.length c2_1) ∧ w'.cell? ⟨gb122, 2, none⟩ = some (.slice A2_2 l2_2.length c2_2) ∧ w'.cell? ⟨gb122, 3, none⟩ = some (.int .i64 a2_3) ∧ w'.cell? ⟨gb121, 0, none⟩ = some (.slice A0_0 l0_0.length c0_0) ∧ w'.cell? ⟨gb121, 1, none⟩ = some (.slice A0_1 l0_1.length c0_1) ∧ w'.cell? (ad123.add ((x7_2).toNat * 3)) = some (.int .i64 ((rd_T138 l2_1 x7_2).f0)) ∧ w'.cell? ⟨(ad123.add ((x7_2).toNat * 3)).block, (ad123.add ((x7_2).toNat * 3)).off + 1, none⟩ = some (.int .i64 ((rd_T138 l2_1 x7_2).f1)) ∧ w'.cell? ⟨(ad123.add ((x7_2).toNat * 3)).block, (ad123.add ((x7_2).toNat * 3)).off + 2, none⟩ = some (.int .i64 ((rd_T138 l2_1 x7_2).f2))) (ds := []) #[false, false, false, false, false, false, false, false, false, false] (by kernel_rfl) rfl rfl ⟨(blk_cell BK122.out 0).trans rfl, (blk_cell BK122.out 1).trans rfl, (blk_cell BK122.out 2).trans rfl, (blk_cell BK122.out 3).trans rfl, (blk_cell BK121.out 0).trans rfl, (blk_cell BK121.out 1).trans rfl, ((HB.out.cell (World.block_lt_of_cell? w _ hw123_0)).trans hw123_0), ((HB.out.cell (World.block_lt_of_cell? w _ hw123_1)).trans hw123_1), ((HB.out.cell (World.block_lt_of_cell? w _ hw123_2)).trans hw123_2)⟩ (fun hHeld => ?_); refine with_tabW spec_l1Act.tab8 spec_l1Act.bits8 (fun HT_ HW_ => ?_)
                    generalize wr.drew = w49 at BK121 BK122 HB hx123_0 hx123_1 hx123_2 hHeld ⊢
                    refine pure_ (i := 0) (N := some 49) (v := ?_) (a' := ?_) #[true, false, false, false, false, false, false, false, false, false] rfl rfl (any_of HT_.out (by kernel_rfl)) (fun _ _ _ h => h) (Or.inl ⟨by rfl, ?_⟩) ?_ ?_
                    rotate_left
                    · intro w'
                      go_simp
                      with_reducible rfl
                    rotate_left
                    · simp only [Act.put, List.setIfInBounds_toArray, List.set_cons_zero, List.set_cons_succ, i64_w, i32_w]
                      rfl
                    refine pure_ (i := 2) (N := some 51) (v := ?_) (a' := ?_) #[true, false, true, false, false, false, false, false, false, false] rfl rfl (any_of HT_.out (by kernel_rfl)) (fun _ _ _ h => h) (Or.inl ⟨by rfl, ?_⟩) ?_ ?_
                    rotate_left
                    · intro w'
                      go_simp
                      with_reducible rfl
                    rotate_left
                    · simp only [Act.put, List.setIfInBounds_toArray, List.set_cons_zero, List.set_cons_succ, i64_w, i32_w]
                      rfl
                    refine pure_ (i := 5) (N := some 54) (v := ?_) (a' := ?_) #[true, false, true, false, false, true, false, false, false, false] rfl rfl (any_of HT_.out (by kernel_rfl)) (fun _ _ _ h => h) (Or.inl ⟨by rfl, ?_⟩) ?_ ?_
                    rotate_left
                    · intro w'
                      go_simp
                      with_reducible rfl
                    rotate_left
                    · simp only [Act.put, List.setIfInBounds_toArray, List.set_cons_zero, List.set_cons_succ, i64_w, i32_w]
                      rfl
                    refine take_ (i := 1) (N := some 50) (v := ?_) (a' := ?_) #[true, true, true, false, false, true, false, false, false, false] rfl rfl (take_ofW HT_.out HW_.out (by kernel_rfl)) (fun _ _ _ h => h) (Or.inl ⟨by rfl, ?_⟩) hHeld ?_ ?_
                    rotate_left
                    · rintro w' ⟨s0, s1, s2, s3, s4, s5, s6, s7, s8⟩
                      go_simp
                      with_reducible rfl
                    rotate_left
                    · simp only [Act.put, List.setIfInBounds_toArray, List.set_cons_zero, List.set_cons_succ, i64_w, i32_w]
                      rfl
                    refine pure_ (i := 3) (N := some 52) (v := ?_) (a' := ?_) #[true, true, true, true, false, true, false, false, false, false] rfl rfl (any_of HT_.out (by kernel_rfl)) (fun _ _ _ h => h) (Or.inl ⟨by rfl, ?_⟩) ?_ ?_
                    rotate_left
                    · intro w'
                      go_simp
                      with_reducible rfl
                    rotate_left
                    · simp only [Act.put, List.setIfInBounds_toArray, List.set_cons_zero, List.set_cons_succ, i64_w, i32_w]
                      rfl
                    refine take_ (i := 4) (N := some 53) (v := ?_) (a' := ?_) #[true, true, true, true, true, true, false, false, false, false] rfl rfl (take_ofW HT_.out HW_.out (by kernel_rfl)) (fun _ _ _ h => h) (Or.inl ⟨by rfl, ?_⟩) hHeld ?_ ?_
                    rotate_left
                    · rintro w' ⟨s0, s1, s2, s3, s4, s5, s6, s7, s8⟩
                      go_simp
                      with_reducible rfl
                    rotate_left
                    · simp only [Act.put, List.setIfInBounds_toArray, List.set_cons_zero, List.set_cons_succ, i64_w, i32_w]
                      rfl
                    refine take_ (i := 6) (N := some 55) (v := ?_) (a' := ?_) #[true, true, true, true, true, true, true, false, false, false] rfl rfl (take_ofW HT_.out HW_.out (by kernel_rfl)) (fun _ _ _ h => h) (Or.inl ⟨by rfl, ?_⟩) hHeld ?_ ?_
                    rotate_left
                    · rintro w' ⟨s0, s1, s2, s3, s4, s5, s6, s7, s8⟩
                      go_simp
                      with_reducible rfl
                    rotate_left
                    · simp only [Act.put, List.setIfInBounds_toArray, List.set_cons_zero, List.set_cons_succ, i64_w, i32_w]
                      rfl
                    refine pure_ (i := 7) (N := some 56) (v := ?_) (a' := ?_) #[true, true, true, true, true, true, true, true, false, false] rfl rfl (any_of HT_.out (by kernel_rfl)) (fun _ _ _ h => h) (Or.inl ⟨by rfl, ?_⟩) ?_ ?_
                    rotate_left
                    · intro w'
                      go_simp
                      with_reducible rfl
                    rotate_left
                    · simp only [Act.put, List.setIfInBounds_toArray, List.set_cons_zero, List.set_cons_succ, i64_w, i32_w]
                      rfl
                    refine one_ (i := 8) (N := some 57) #[true, true, true, true, true, true, true, true, true, false] rfl rfl (one_of HT_.out (by kernel_rfl)) (by decide) (fun K hK => ?_)
                    refine goes_ Try.func87 (by kernel_rfl) rfl #[.agg #[.int .i64 ((rd_T138 l2_1 x7_2).f0), .int .i64 ((rd_T138 l2_1 x7_2).f1), .int .i64 ((rd_T138 l2_1 x7_2).f2)], .int .i64 (l0_0.length : Int)] (by rfl) rfl rfl (by (try simp only [List.map_toArray, List.map_cons, List.map_nil]); first | done | rfl | (simp only [List.length_drop, List.length_take]; rfl)) ?_
                    with_reducible refine (spec_l1Deed.calls ((rd_T138 l2_1 x7_2).f0) ((rd_T138 l2_1 x7_2).f1) ((rd_T138 l2_1 x7_2).f2) (l0_0.length : Int) true _ A45.out).mono ?_
                    rintro e w50 ⟨rfl, hb⟩
                    refine ⟨_, rfl, ?_⟩
                    have n0_ := Aside0.mk (blk_below (g := gb121) (o := .cells #[.slice A0_0 l0_0.length c0_0, .slice A0_1 l0_1.length c0_1] 54 (0, 0)) (by (with_reducible repeat (first | refine blk_drewN ?_ _ | refine blk_drew ?_ | refine blk_alloc ?_ _)); exact BK121.out) hb)
                    have n1_ := Aside0.mk (blk_below (g := gb122) (o := .cells #[.int .i64 a2_0, .slice (some ad123) l2_1.length c2_1, .slice A2_2 l2_2.length c2_2, .int .i64 a2_3] 90 (0, 0)) (by (with_reducible repeat (first | refine blk_drewN ?_ _ | refine blk_drew ?_ | refine blk_alloc ?_ _)); exact BK122.out) hb)
                    have n2_ := Aside0.mk (below_step (by repeat (first | (with_reducible first | exact HB.out | apply below_alloc | apply pw_below_drewN | apply below_drew1 | refine below_set ?_ GE121.out | refine below_set ?_ GE122.out) | exact HB.out)) hb)
                    clear BK121
                    clear BK122
                    clear HB
                    have BK121 := n0_
                    have BK122 := n1_
                    have HB := n2_
                    clear n0_ n1_ n2_
                    (try clear hb)
                    (try clear hb2)
                    (try clear hk)
                    (try clear hi)
                    refine hK.out _ _ ⟨(blk_cell BK122.out 0).trans rfl, (blk_cell BK122.out 1).trans rfl, (blk_cell BK122.out 2).trans rfl, (blk_cell BK122.out 3).trans rfl, (blk_cell BK121.out 0).trans rfl, (blk_cell BK121.out 1).trans rfl, ((HB.out.cell (World.block_lt_of_cell? w _ hw123_0)).trans hw123_0), ((HB.out.cell (World.block_lt_of_cell? w _ hw123_1)).trans hw123_1), ((HB.out.cell (World.block_lt_of_cell? w _ hw123_2)).trans hw123_2)⟩ (fun hHeld => ?_)
                    clear hK K
                    refine norm_ (a' := ?_) ?_ ?_
                    rotate_left
                    · show Act.put _ (some 57) _ = _
                      simp only [Act.put, List.setIfInBounds_toArray, List.set_cons_zero, List.set_cons_succ, i64_w, i32_w]
                      rfl
                    refine pure_ (i := 9) (N := some 58) (v := ?_) (a' := ?_) #[true, true, true, true, true, true, true, true, true, true] rfl rfl (any_of HT_.out (by kernel_rfl)) (fun _ _ _ h => h) (Or.inl ⟨by rfl, ?_⟩) ?_ ?_
                    rotate_left
                    · intro w'
                      go_simp
                      with_reducible rfl
                    rotate_left
                    · simp only [Act.put, List.setIfInBounds_toArray, List.set_cons_zero, List.set_cons_succ, i64_w, i32_w]
                      rfl
                    refine done_ (done_of HT_.out (by kernel_rfl)) ?_
                    try go_wp2
                    go_roundg k2
                    case measure => have := HJ3.out; have := HK2.out; omega
                    case rel => exact ⟨(wrap64 (x7_2 + 1)), (by first | rfl | (simp; done) | (simp [*]; done)), H', ⟨by have := HJ3.out; have := HK2.out; omega⟩, ⟨by (with_reducible repeat (first | refine blk_drewN ?_ _ | refine blk_drew ?_ | refine blk_alloc ?_ _)); exact BK121.out⟩, ⟨by (with_reducible repeat (first | refine blk_drewN ?_ _ | refine blk_drew ?_ | refine blk_alloc ?_ _)); exact BK122.out⟩, ⟨by repeat (first | (with_reducible first | exact HB.out | apply below_alloc | apply pw_below_drewN | apply below_drew1 | refine below_set ?_ GE121.out | refine below_set ?_ GE122.out) | exact HB.out)⟩⟩
                  · replace c46 := Bool.eq_false_iff.mpr c46
                    subst c46
                    have H1 : (some false) = some r := by rw [if_neg (show ¬ (false = true) by decide)] at H; exact H
                    clear H
                    have H := H1
                    clear H1
                    obtain rfl := Option.some.inj H
                    have hnb51 := NB122_121.out
                    have hnc51 := NB121_122.out
                    have hcz52_0 : wr.cell? ⟨gb122, 0, none⟩ = some (.int .i64 a2_0) := (blk_cell BK122.out 0).trans rfl
                    have hcz52_1 : wr.cell? ⟨gb122, 1, none⟩ = some (.slice A2_1 l2_1.length c2_1) := (blk_cell BK122.out 1).trans rfl
                    have hcz52_2 : wr.cell? ⟨gb122, 2, none⟩ = some (.slice A2_2 l2_2.length c2_2) := (blk_cell BK122.out 2).trans rfl
                    have hcz52_3 : wr.cell? ⟨gb122, 3, none⟩ = some (.int .i64 a2_3) := (blk_cell BK122.out 3).trans rfl
                    have hfz52_0 := blk_frozen BK122.out 0
                    have hfz52_1 := blk_frozen BK122.out 1
                    have hfz52_2 := blk_frozen BK122.out 2
                    have hfz52_3 := blk_frozen BK122.out 3
                    try go_wp2
                    have n0_ := Aside0.mk (blk_drew BK121.out)
                    have n1_ := Aside0.mk (blk_drew BK122.out)
                    have n2_ := Aside0.mk (below_drew1 HB.out)
                    clear BK121
                    clear BK122
                    clear HB
                    have BK121 := n0_
                    have BK122 := n1_
                    have HB := n2_
                    clear n0_ n1_ n2_
                    have p123 : 0 ≤ (x7_2 : Int) := of_decide_eq_true (by first | (with_reducible assumption) | assumption)
                    have q123 : x7_2 < (l2_1.length : Int) := of_decide_eq_true (by first | (with_reducible assumption) | assumption)
                    obtain ⟨ad123, e123, hx123_0, hx123_1, hx123_2⟩ := at_T138 HR2_1.out x7_2 p123 q123
                    have hw123_2 := hx123_2
                    have hw123_1 := hx123_1
                    have hw123_0 := hx123_0
                    cases e123
                    replace hx123_0 := (HB.out.cell (World.block_lt_of_cell? w _ hx123_0)).trans hx123_0
                    replace hx123_1 := (HB.out.cell (World.block_lt_of_cell? w _ hx123_1)).trans hx123_1
                    replace hx123_2 := (HB.out.cell (World.block_lt_of_cell? w _ hx123_2)).trans hx123_2
                    replace p123 := eq_true p123
                    replace q123 := eq_true q123
                    refine start_ (n := 10) (S := fun w' => w'.cell? ⟨gb122, 0, none⟩ = some (.int .i64 a2_0) ∧ w'.cell? ⟨gb122, 1, none⟩ = some (.slice (some ad123) l2_1.length c2_1) ∧ w'.cell? ⟨gb122, 2, none⟩ = some (.slice A2_2 l2_2.length c2_2) ∧ w'.cell? ⟨gb122, 3, none⟩ = some (.int .i64 a2_3) ∧ w'.cell? ⟨gb121, 0, none⟩ = some (.slice A0_0 l0_0.length c0_0) ∧ w'.cell? ⟨gb121, 1, none⟩ = some (.slice A0_1 l0_1.length c0_1) ∧ w'.cell? (ad123.add ((x7_2).toNat * 3)) = some (.int .i64 ((rd_T138 l2_1 x7_2).f0)) ∧ w'.cell? ⟨(ad123.add ((x7_2).toNat * 3)).block, (ad123.add ((x7_2).toNat * 3)).off + 1, none⟩ = some (.int .i64 ((rd_T138 l2_1 x7_2).f1)) ∧ w'.cell? ⟨(ad123.add ((x7_2).toNat * 3)).block, (ad123.add ((x7_2).toNat * 3)).off + 2, none⟩ = some (.int .i64 ((rd_T138 l2_1 x7_2).f2))) (ds := []) #[false, false, false, false, false, false, false, false, false, false] (by kernel_rfl) rfl rfl ⟨(blk_cell BK122.out 0).trans rfl, (blk_cell BK122.out 1).trans rfl, (blk_cell BK122.out 2).trans rfl, (blk_cell BK122.out 3).trans rfl, (blk_cell BK121.out 0).trans rfl, (blk_cell BK121.out 1).trans rfl, ((HB.out.cell (World.block_lt_of_cell? w _ hw123_0)).trans hw123_0), ((HB.out.cell (World.block_lt_of_cell? w _ hw123_1)).trans hw123_1), ((HB.out.cell (World.block_lt_of_cell? w _ hw123_2)).trans hw123_2)⟩ (fun hHeld => ?_); refine with_tabW spec_l1Act.tab8 spec_l1Act.bits8 (fun HT_ HW_ => ?_)
                    generalize wr.drew = w53 at BK121 BK122 HB hx123_0 hx123_1 hx123_2 hHeld ⊢
                    refine pure_ (i := 0) (N := some 49) (v := ?_) (a' := ?_) #[true, false, false, false, false, false, false, false, false, false] rfl rfl (any_of HT_.out (by kernel_rfl)) (fun _ _ _ h => h) (Or.inl ⟨by rfl, ?_⟩) ?_ ?_
                    rotate_left
                    · intro w'
                      go_simp
                      with_reducible rfl
                    rotate_left
                    · simp only [Act.put, List.setIfInBounds_toArray, List.set_cons_zero, List.set_cons_succ, i64_w, i32_w]
                      rfl
                    refine pure_ (i := 2) (N := some 51) (v := ?_) (a' := ?_) #[true, false, true, false, false, false, false, false, false, false] rfl rfl (any_of HT_.out (by kernel_rfl)) (fun _ _ _ h => h) (Or.inl ⟨by rfl, ?_⟩) ?_ ?_
                    rotate_left
                    · intro w'
                      go_simp
                      with_reducible rfl
                    rotate_left
                    · simp only [Act.put, List.setIfInBounds_toArray, List.set_cons_zero, List.set_cons_succ, i64_w, i32_w]
                      rfl
                    refine pure_ (i := 5) (N := some 54) (v := ?_) (a' := ?_) #[true, false, true, false, false, true, false, false, false, false] rfl rfl (any_of HT_.out (by kernel_rfl)) (fun _ _ _ h => h) (Or.inl ⟨by rfl, ?_⟩) ?_ ?_
                    rotate_left
                    · intro w'
                      go_simp
                      with_reducible rfl
                    rotate_left
                    · simp only [Act.put, List.setIfInBounds_toArray, List.set_cons_zero, List.set_cons_succ, i64_w, i32_w]
                      rfl
                    refine take_ (i := 1) (N := some 50) (v := ?_) (a' := ?_) #[true, true, true, false, false, true, false, false, false, false] rfl rfl (take_ofW HT_.out HW_.out (by kernel_rfl)) (fun _ _ _ h => h) (Or.inl ⟨by rfl, ?_⟩) hHeld ?_ ?_
                    rotate_left
                    · rintro w' ⟨s0, s1, s2, s3, s4, s5, s6, s7, s8⟩
                      go_simp
                      with_reducible rfl
                    rotate_left
                    · simp only [Act.put, List.setIfInBounds_toArray, List.set_cons_zero, List.set_cons_succ, i64_w, i32_w]
                      rfl
                    refine pure_ (i := 3) (N := some 52) (v := ?_) (a' := ?_) #[true, true, true, true, false, true, false, false, false, false] rfl rfl (any_of HT_.out (by kernel_rfl)) (fun _ _ _ h => h) (Or.inl ⟨by rfl, ?_⟩) ?_ ?_
                    rotate_left
                    · intro w'
                      go_simp
                      with_reducible rfl
                    rotate_left
                    · simp only [Act.put, List.setIfInBounds_toArray, List.set_cons_zero, List.set_cons_succ, i64_w, i32_w]
                      rfl
                    refine take_ (i := 4) (N := some 53) (v := ?_) (a' := ?_) #[true, true, true, true, true, true, false, false, false, false] rfl rfl (take_ofW HT_.out HW_.out (by kernel_rfl)) (fun _ _ _ h => h) (Or.inl ⟨by rfl, ?_⟩) hHeld ?_ ?_
                    rotate_left
                    · rintro w' ⟨s0, s1, s2, s3, s4, s5, s6, s7, s8⟩
                      go_simp
                      with_reducible rfl
                    rotate_left
                    · simp only [Act.put, List.setIfInBounds_toArray, List.set_cons_zero, List.set_cons_succ, i64_w, i32_w]
                      rfl
                    refine take_ (i := 6) (N := some 55) (v := ?_) (a' := ?_) #[true, true, true, true, true, true, true, false, false, false] rfl rfl (take_ofW HT_.out HW_.out (by kernel_rfl)) (fun _ _ _ h => h) (Or.inl ⟨by rfl, ?_⟩) hHeld ?_ ?_
                    rotate_left
                    · rintro w' ⟨s0, s1, s2, s3, s4, s5, s6, s7, s8⟩
                      go_simp
                      with_reducible rfl
                    rotate_left
                    · simp only [Act.put, List.setIfInBounds_toArray, List.set_cons_zero, List.set_cons_succ, i64_w, i32_w]
                      rfl
                    refine pure_ (i := 7) (N := some 56) (v := ?_) (a' := ?_) #[true, true, true, true, true, true, true, true, false, false] rfl rfl (any_of HT_.out (by kernel_rfl)) (fun _ _ _ h => h) (Or.inl ⟨by rfl, ?_⟩) ?_ ?_
                    rotate_left
                    · intro w'
                      go_simp
                      with_reducible rfl
                    rotate_left
                    · simp only [Act.put, List.setIfInBounds_toArray, List.set_cons_zero, List.set_cons_succ, i64_w, i32_w]
                      rfl
                    refine one_ (i := 8) (N := some 57) #[true, true, true, true, true, true, true, true, true, false] rfl rfl (one_of HT_.out (by kernel_rfl)) (by decide) (fun K hK => ?_)
                    refine goes_ Try.func87 (by kernel_rfl) rfl #[.agg #[.int .i64 ((rd_T138 l2_1 x7_2).f0), .int .i64 ((rd_T138 l2_1 x7_2).f1), .int .i64 ((rd_T138 l2_1 x7_2).f2)], .int .i64 (l0_0.length : Int)] (by rfl) rfl rfl (by (try simp only [List.map_toArray, List.map_cons, List.map_nil]); first | done | rfl | (simp only [List.length_drop, List.length_take]; rfl)) ?_
                    with_reducible refine (spec_l1Deed.calls ((rd_T138 l2_1 x7_2).f0) ((rd_T138 l2_1 x7_2).f1) ((rd_T138 l2_1 x7_2).f2) (l0_0.length : Int) false _ A45.out).mono ?_
                    rintro e w54 ⟨rfl, hb⟩
                    refine ⟨_, rfl, ?_⟩
                    have n0_ := Aside0.mk (blk_below (g := gb121) (o := .cells #[.slice A0_0 l0_0.length c0_0, .slice A0_1 l0_1.length c0_1] 54 (0, 0)) (by (with_reducible repeat (first | refine blk_drewN ?_ _ | refine blk_drew ?_ | refine blk_alloc ?_ _)); exact BK121.out) hb)
                    have n1_ := Aside0.mk (blk_below (g := gb122) (o := .cells #[.int .i64 a2_0, .slice (some ad123) l2_1.length c2_1, .slice A2_2 l2_2.length c2_2, .int .i64 a2_3] 90 (0, 0)) (by (with_reducible repeat (first | refine blk_drewN ?_ _ | refine blk_drew ?_ | refine blk_alloc ?_ _)); exact BK122.out) hb)
                    have n2_ := Aside0.mk (below_step (by repeat (first | (with_reducible first | exact HB.out | apply below_alloc | apply pw_below_drewN | apply below_drew1 | refine below_set ?_ GE121.out | refine below_set ?_ GE122.out) | exact HB.out)) hb)
                    clear BK121
                    clear BK122
                    clear HB
                    have BK121 := n0_
                    have BK122 := n1_
                    have HB := n2_
                    clear n0_ n1_ n2_
                    (try clear hb)
                    (try clear hb2)
                    (try clear hk)
                    (try clear hi)
                    refine hK.out _ _ ⟨(blk_cell BK122.out 0).trans rfl, (blk_cell BK122.out 1).trans rfl, (blk_cell BK122.out 2).trans rfl, (blk_cell BK122.out 3).trans rfl, (blk_cell BK121.out 0).trans rfl, (blk_cell BK121.out 1).trans rfl, ((HB.out.cell (World.block_lt_of_cell? w _ hw123_0)).trans hw123_0), ((HB.out.cell (World.block_lt_of_cell? w _ hw123_1)).trans hw123_1), ((HB.out.cell (World.block_lt_of_cell? w _ hw123_2)).trans hw123_2)⟩ (fun hHeld => ?_)
                    clear hK K
                    refine norm_ (a' := ?_) ?_ ?_
                    rotate_left
                    · show Act.put _ (some 57) _ = _
                      simp only [Act.put, List.setIfInBounds_toArray, List.set_cons_zero, List.set_cons_succ, i64_w, i32_w]
                      rfl
                    refine pure_ (i := 9) (N := some 58) (v := ?_) (a' := ?_) #[true, true, true, true, true, true, true, true, true, true] rfl rfl (any_of HT_.out (by kernel_rfl)) (fun _ _ _ h => h) (Or.inl ⟨by rfl, ?_⟩) ?_ ?_
                    rotate_left
                    · intro w'
                      go_simp
                      with_reducible rfl
                    rotate_left
                    · simp only [Act.put, List.setIfInBounds_toArray, List.set_cons_zero, List.set_cons_succ, i64_w, i32_w]
                      rfl
                    refine done_ (done_of HT_.out (by kernel_rfl)) ?_
                    try go_wp2
                    go_ret
                    exact ⟨by first | rfl | (simp [errW_none, errW_some] <;> rfl) | (simp [*, errW_none, errW_some] <;> rfl), by repeat (first | (with_reducible first | exact HB.out | apply below_alloc | apply pw_below_drewN | apply below_drew1 | refine below_set ?_ GE121.out | refine below_set ?_ GE122.out) | exact HB.out)⟩
                · rw [if_neg c44] at H
                  exact absurd H (by simp)
              · rw [if_neg c43] at H
                have c43b0 : decide (x7_2 < (l2_1.length : Int)) = false := decide_eq_false c43
                clear c43
                obtain rfl := Option.some.inj H
                have hnb55 := NB122_121.out
                have hnc55 := NB121_122.out
                have hcz56_0 : wr.cell? ⟨gb122, 0, none⟩ = some (.int .i64 a2_0) := (blk_cell BK122.out 0).trans rfl
                have hcz56_1 : wr.cell? ⟨gb122, 1, none⟩ = some (.slice A2_1 l2_1.length c2_1) := (blk_cell BK122.out 1).trans rfl
                have hcz56_2 : wr.cell? ⟨gb122, 2, none⟩ = some (.slice A2_2 l2_2.length c2_2) := (blk_cell BK122.out 2).trans rfl
                have hcz56_3 : wr.cell? ⟨gb122, 3, none⟩ = some (.int .i64 a2_3) := (blk_cell BK122.out 3).trans rfl
                have hfz56_0 := blk_frozen BK122.out 0
                have hfz56_1 := blk_frozen BK122.out 1
                have hfz56_2 := blk_frozen BK122.out 2
                have hfz56_3 := blk_frozen BK122.out 3
                go_wp2
                go_ret
                exact ⟨by first | rfl | (simp [errW_none, errW_some] <;> rfl) | (simp [*, errW_none, errW_some] <;> rfl), by repeat (first | (with_reducible first | exact HB.out | apply below_alloc | apply pw_below_drewN | apply below_drew1 | refine below_set ?_ GE121.out | refine below_set ?_ GE122.out) | exact HB.out)⟩
        · rw [if_neg c40] at H
          have c40b0 : (a2_0 == 1) = false := beq_eq_false_iff_ne.mpr c40
          have c40b1 : (a2_0 != 1) = true := bne_iff_ne.mpr c40
          by_cases c57 : a2_0 = 2
          · rw [if_pos c57] at H
            have c57b0 : (a2_0 == 2) = true := beq_iff_eq.mpr c57
            have c57b1 : (a2_0 != 2) = false := bne_eq_false_iff_eq.mpr c57
            clear c57
            replace H := Option.bind_eq_some_iff.mp H
            obtain ⟨t125, A580, H⟩ := H
            replace H : (some t125) = some r := H
            have A58 := Aside0.mk A580
            clear A580
            obtain rfl := Option.some.inj H
            have hnb59 := NB122_121.out
            have hnc59 := NB121_122.out
            have hcz60_0 : wc.cell? ⟨gb122, 0, none⟩ = some (.int .i64 a2_0) := (blk_cell BK122.out 0).trans rfl
            have hcz60_1 : wc.cell? ⟨gb122, 1, none⟩ = some (.slice A2_1 l2_1.length c2_1) := (blk_cell BK122.out 1).trans rfl
            have hcz60_2 : wc.cell? ⟨gb122, 2, none⟩ = some (.slice A2_2 l2_2.length c2_2) := (blk_cell BK122.out 2).trans rfl
            have hcz60_3 : wc.cell? ⟨gb122, 3, none⟩ = some (.int .i64 a2_3) := (blk_cell BK122.out 3).trans rfl
            have hfz60_0 := blk_frozen BK122.out 0
            have hfz60_1 := blk_frozen BK122.out 1
            have hfz60_2 := blk_frozen BK122.out 2
            have hfz60_3 := blk_frozen BK122.out 3
            have hcz61_0 : wc.cell? ⟨gb121, 0, none⟩ = some (.slice A0_0 l0_0.length c0_0) := (blk_cell BK121.out 0).trans rfl
            have hcz61_1 : wc.cell? ⟨gb121, 1, none⟩ = some (.slice A0_1 l0_1.length c0_1) := (blk_cell BK121.out 1).trans rfl
            have hfz61_0 := blk_frozen BK121.out 0
            have hfz61_1 := blk_frozen BK121.out 1
            go_wp2_with (first | ((with_reducible refine gate_callee (f := 88) rfl ?_); refine goesL_ (some 71) rfl rfl Try.func88 (by kernel_rfl) rfl #[.slice A2_2 l2_2.length c2_2, .int .i64 a1, .int .i64 (l0_1.length : Int)] rfl (by (try simp only [List.map_toArray, List.map_cons, List.map_nil]); first | done | rfl | (simp only [List.length_drop, List.length_take]; rfl)) ?_; (with_reducible refine (spec_l1Kids.calls kj3 _ _ l2_2 a1 (l0_1.length : Int) t125 _ ?side1 ?side2 A58.out).mono ?_); (case side1 => repeat (first | exact (Kd.C_below HR2_2.out HB.out) | (with_reducible refine Kd.C_alloc ?_ _) | (with_reducible refine Kd.C_drewN ?_ _) | (with_reducible refine Kd.C_drew ?_))); (case side2 => exact HC2_2.out); rintro e w' ⟨rfl, ⟨nd, rfl⟩⟩; refine ⟨_, rfl, ?_⟩))
            go_ret
            exact ⟨by first | rfl | (simp [errW_none, errW_some] <;> rfl) | (simp [*, errW_none, errW_some] <;> rfl), by repeat (first | (with_reducible first | exact HB.out | apply below_alloc | apply pw_below_drewN | apply below_drew1 | refine below_set ?_ GE121.out | refine below_set ?_ GE122.out) | exact HB.out)⟩
          · rw [if_neg c57] at H
            have c57b0 : (a2_0 == 2) = false := beq_eq_false_iff_ne.mpr c57
            have c57b1 : (a2_0 != 2) = true := bne_iff_ne.mpr c57
            by_cases c62 : a2_0 = 3
            · rw [if_pos c62] at H
              have c62b0 : (a2_0 == 3) = true := beq_iff_eq.mpr c62
              have c62b1 : (a2_0 != 3) = false := bne_eq_false_iff_eq.mpr c62
              clear c62
              obtain rfl := Option.some.inj H
              have hnb63 := NB122_121.out
              have hnc63 := NB121_122.out
              have hcz64_0 : wc.cell? ⟨gb122, 0, none⟩ = some (.int .i64 a2_0) := (blk_cell BK122.out 0).trans rfl
              have hcz64_1 : wc.cell? ⟨gb122, 1, none⟩ = some (.slice A2_1 l2_1.length c2_1) := (blk_cell BK122.out 1).trans rfl
              have hcz64_2 : wc.cell? ⟨gb122, 2, none⟩ = some (.slice A2_2 l2_2.length c2_2) := (blk_cell BK122.out 2).trans rfl
              have hcz64_3 : wc.cell? ⟨gb122, 3, none⟩ = some (.int .i64 a2_3) := (blk_cell BK122.out 3).trans rfl
              have hfz64_0 := blk_frozen BK122.out 0
              have hfz64_1 := blk_frozen BK122.out 1
              have hfz64_2 := blk_frozen BK122.out 2
              have hfz64_3 := blk_frozen BK122.out 3
              go_wp2
              go_ret
              exact ⟨by first | rfl | (simp [errW_none, errW_some] <;> rfl) | (simp [*, errW_none, errW_some] <;> rfl), by repeat (first | (with_reducible first | exact HB.out | apply below_alloc | apply pw_below_drewN | apply below_drew1 | refine below_set ?_ GE121.out | refine below_set ?_ GE122.out) | exact HB.out)⟩
            · rw [if_neg c62] at H
              have c62b0 : (a2_0 == 3) = false := beq_eq_false_iff_ne.mpr c62
              have c62b1 : (a2_0 != 3) = true := bne_iff_ne.mpr c62
              by_cases c65 : a2_0 = 4
              · rw [if_pos c65] at H
                have c65b0 : (a2_0 == 4) = true := beq_iff_eq.mpr c65
                have c65b1 : (a2_0 != 4) = false := bne_eq_false_iff_eq.mpr c65
                clear c65
                replace H := Option.bind_eq_some_iff.mp H
                obtain ⟨t126, A660, H⟩ := H
                replace H : (some t126) = some r := H
                have A66 := Aside0.mk A660
                clear A660
                obtain rfl := Option.some.inj H
                have hnb67 := NB122_121.out
                have hnc67 := NB121_122.out
                have hcz68_0 : wc.cell? ⟨gb122, 0, none⟩ = some (.int .i64 a2_0) := (blk_cell BK122.out 0).trans rfl
                have hcz68_1 : wc.cell? ⟨gb122, 1, none⟩ = some (.slice A2_1 l2_1.length c2_1) := (blk_cell BK122.out 1).trans rfl
                have hcz68_2 : wc.cell? ⟨gb122, 2, none⟩ = some (.slice A2_2 l2_2.length c2_2) := (blk_cell BK122.out 2).trans rfl
                have hcz68_3 : wc.cell? ⟨gb122, 3, none⟩ = some (.int .i64 a2_3) := (blk_cell BK122.out 3).trans rfl
                have hfz68_0 := blk_frozen BK122.out 0
                have hfz68_1 := blk_frozen BK122.out 1
                have hfz68_2 := blk_frozen BK122.out 2
                have hfz68_3 := blk_frozen BK122.out 3
                go_wp2_with (first | ((with_reducible refine gate_callee (f := 65) rfl ?_); refine goesL_ (some 78) rfl rfl Try.func65 (by kernel_rfl) rfl #[.int .i64 a2_3, .int .i64 0, .int .i64 2] rfl (by (try simp only [List.map_toArray, List.map_cons, List.map_nil]); first | done | rfl | (simp only [List.length_drop, List.length_take]; rfl)) ?_; (with_reducible refine (spec_l6In.calls a2_3 0 2 t126 _ A66.out).mono ?_); rintro e w' ⟨rfl, ⟨nd, rfl⟩⟩; refine ⟨_, rfl, ?_⟩))
                go_ret
                exact ⟨by first | rfl | (simp [errW_none, errW_some] <;> rfl) | (simp [*, errW_none, errW_some] <;> rfl), by repeat (first | (with_reducible first | exact HB.out | apply below_alloc | apply pw_below_drewN | apply below_drew1 | refine below_set ?_ GE121.out | refine below_set ?_ GE122.out) | exact HB.out)⟩
              · rw [if_neg c65] at H
                have c65b0 : (a2_0 == 4) = false := beq_eq_false_iff_ne.mpr c65
                have c65b1 : (a2_0 != 4) = true := bne_iff_ne.mpr c65
                obtain rfl := Option.some.inj H
                have hnb69 := NB122_121.out
                have hnc69 := NB121_122.out
                have hcz70_0 : wc.cell? ⟨gb122, 0, none⟩ = some (.int .i64 a2_0) := (blk_cell BK122.out 0).trans rfl
                have hcz70_1 : wc.cell? ⟨gb122, 1, none⟩ = some (.slice A2_1 l2_1.length c2_1) := (blk_cell BK122.out 1).trans rfl
                have hcz70_2 : wc.cell? ⟨gb122, 2, none⟩ = some (.slice A2_2 l2_2.length c2_2) := (blk_cell BK122.out 2).trans rfl
                have hcz70_3 : wc.cell? ⟨gb122, 3, none⟩ = some (.int .i64 a2_3) := (blk_cell BK122.out 3).trans rfl
                have hfz70_0 := blk_frozen BK122.out 0
                have hfz70_1 := blk_frozen BK122.out 1
                have hfz70_2 := blk_frozen BK122.out 2
                have hfz70_3 := blk_frozen BK122.out 3
                go_wp2
                go_ret
                exact ⟨by first | rfl | (simp [errW_none, errW_some] <;> rfl) | (simp [*, errW_none, errW_some] <;> rfl), by repeat (first | (with_reducible first | exact HB.out | apply below_alloc | apply pw_below_drewN | apply below_drew1 | refine below_set ?_ GE121.out | refine below_set ?_ GE122.out) | exact HB.out)⟩

end Go.Proofs.Ytpodhdpkdhcnoaa.QSB
