-- Written by a program of this session (wip/tools/myprint.py).
import Derived.Test.YtkcoclfpcjfeiaaQCx0
import Derived.Test.YtkcoclfpcjfeiaaQCx8
namespace Go.Proofs.Ytkcoclfpcjfeiaa.QC
open Go.RowKit Go.Proofs.YtkcoclfpcjfeiaaW.PrintWords Go.Proofs.YtkcoclfpcjfeiaaW.PrintLast Go.Proofs.YtkcoclfpcjfeiaaW.PrintMore
attribute [local go_sem] max2_int min2_int max_two min_two max_three min_three max_four min_four   -- for this text's walks alone
set_option linter.unusedVariables false
set_option linter.unusedSimpArgs false

/-! ### impl_hasAll: function 76 -/
def impl_hasAll.l0 : Nat → List Int → List (S134) → Int → Int → Option (Bool)
  | 0, _, _, _, _ => none
  | k + 1, x0, x7, x8, x9 => if x9 < x8 then (if 0 ≤ x9 then (if x9 < (x7.length : Int) then ((impl_isPlace.f ((rd_T134 x7 x9).f0) (x0.length : Int)).bind fun t188 => (if t188 = true then (if 0 ≤ ((rd_T134 x7 x9).f0) then (if ((rd_T134 x7 x9).f0) < (x0.length : Int) then (if (rd x0 ((rd_T134 x7 x9).f0)) = ((rd_T134 x7 x9).f1) then (impl_hasAll.l0 k x0 x7 x8 (wrap64 (x9 + 1))) else (some false)) else (none)) else (none)) else (some false))) else (none)) else (none)) else (some true)
def impl_hasAll.f (k : Nat) (l0 : List Int) (l1 : List (S134)) : Option (Bool) := impl_hasAll.l0 k l0 l1 (l1.length : Int) 0
theorem impl_hasAll.mono_l : ∀ k, (∀ y0 y1 y2 y3, LeO (impl_hasAll.l0 k y0 y1 y2 y3) (impl_hasAll.l0 (k + 1) y0 y1 y2 y3))
  | 0 => fun _ _ _ _ r h => by simp [impl_hasAll.l0] at h
  | k + 1 => by
    have ih0 := impl_hasAll.mono_l k
    · intro y0 y1 y2 y3
      unfold impl_hasAll.l0
      repeat' first
      | (with_reducible exact ih0 _ _ _ _)
      | (with_reducible exact LeO.refl _)
      | (with_reducible exact LeO.none _)
      | (with_reducible refine LeO.ite ?_ ?_)
      | (with_reducible refine LeO.bind ?_ (fun _ => ?_))
      | exact ih0 _ _ _ _
      | exact LeO.none _
      | refine LeO.ite ?_ ?_
      | refine LeO.bind ?_ (fun _ => ?_)
theorem impl_hasAll.mono : ∀ a0 a1 k, LeO (impl_hasAll.f k a0 a1) (impl_hasAll.f (k + 1) a0 a1) := by
  intro a0 a1 k
  have ih0 := impl_hasAll.mono_l k
  unfold impl_hasAll.f
  repeat' first
      | (with_reducible exact ih0 _ _ _ _)
      | (with_reducible exact LeO.refl _)
      | (with_reducible exact LeO.none _)
      | (with_reducible refine LeO.ite ?_ ?_)
      | (with_reducible refine LeO.bind ?_ (fun _ => ?_))
      | exact ih0 _ _ _ _
      | exact LeO.none _
      | refine LeO.ite ?_ ?_
      | refine LeO.bind ?_ (fun _ => ?_)
set_option maxHeartbeats 8000000 in
set_option maxRecDepth 100000 in
theorem impl_hasAll.calls (k : Nat) (A0 : Option Addr) (c0 : Nat) (l0 : List Int) (A1 : Option Addr) (c1 : Nat) (l1 : List (S134)) (r : Bool) (w : World) (hr0 : Kd.C (Kd.int .i64) w A0 l0.length l0) (hc0 : l0.length ≤ c0) (hr1 : Kd.C k134 w A1 l1.length l1) (hc1 : l1.length ≤ c1) (h : impl_hasAll.f k l0 l1 = some r) :
    Calls Try.prog 76 #[.slice A0 l0.length c0, .slice A1 l1.length c1] w fun e w' => e = .returned (.bool r) ∧ Below w.heap.size w w' := by
  have hu134 := Try.underlying134
  have HR0 := Aside0.mk hr0
  have HC0 := Aside0.mk hc0
  clear hr0 hc0
  have HR1 := Aside0.mk hr1
  have HC1 := Aside0.mk hc1
  clear hr1 hc1
  have HB := Aside0.mk (Below.refl w.heap.size w)
  have H : (impl_hasAll.l0 k l0 l1 (l1.length : Int) 0) = some r := h
  clear h
  have H' := Aside0.mk H
  clear H
  go_enter Try.func76, Try.ntmps76
  go_wp2
  repeat (go_quiet (fail); try go_wp2)
  go_loopg [9] k (fun kq v9 w' => ∃ (x9_1 : Int), v9 = .int .i64 x9_1 ∧ Aside0 (impl_hasAll.l0 kq l0 l1 (l1.length : Int) x9_1 = some r) ∧ Aside0 (kq ≤ k) ∧ Aside0 (Below w.heap.size w w'))
  case atStart => exact ⟨(0), (by first | rfl | (simp; done) | (simp [*]; done)), H', ⟨Nat.le_refl _⟩, ⟨by repeat (first | (with_reducible first | exact HB.out | apply below_alloc | apply pw_below_drewN | apply below_drew1) | exact HB.out)⟩⟩
  case round =>
    clear H'
    try clear c1
    try clear p2
    obtain ⟨x9_1, rfl, HA, HK1, HB⟩ := hrel
    cases gk with
    | zero => exact absurd HA.out (by simp [impl_hasAll.l0])
    | succ k1 =>
      have H := HA.out
      clear HA
      simp only [impl_hasAll.l0] at H
      by_cases c3 : x9_1 < (l1.length : Int)
      · rw [if_pos c3] at H
        have c3b0 : decide (x9_1 < (l1.length : Int)) = true := decide_eq_true c3
        clear c3
        by_cases c4 : 0 ≤ x9_1
        · rw [if_pos c4] at H
          have c4b0 : decide (0 ≤ x9_1) = true := decide_eq_true c4
          clear c4
          by_cases c5 : x9_1 < (l1.length : Int)
          · rw [if_pos c5] at H
            have c5b0 : decide (x9_1 < (l1.length : Int)) = true := decide_eq_true c5
            clear c5
            replace H := Option.bind_eq_some_iff.mp H
            obtain ⟨t188, A60, H⟩ := H
            replace H : (if t188 = true then (if 0 ≤ ((rd_T134 l1 x9_1).f0) then (if ((rd_T134 l1 x9_1).f0) < (l0.length : Int) then (if (rd l0 ((rd_T134 l1 x9_1).f0)) = ((rd_T134 l1 x9_1).f1) then (impl_hasAll.l0 k1 l0 l1 (l1.length : Int) (wrap64 (x9_1 + 1))) else (some false)) else (none)) else (none)) else (some false)) = some r := H
            have A6 := Aside0.mk A60
            clear A60
            by_cases c7 : t188 = true
            · subst c7
              have H1 : (if 0 ≤ ((rd_T134 l1 x9_1).f0) then (if ((rd_T134 l1 x9_1).f0) < (l0.length : Int) then (if (rd l0 ((rd_T134 l1 x9_1).f0)) = ((rd_T134 l1 x9_1).f1) then (impl_hasAll.l0 k1 l0 l1 (l1.length : Int) (wrap64 (x9_1 + 1))) else (some false)) else (none)) else (none)) = some r := by rw [if_pos rfl] at H; exact H
              clear H
              have H := H1
              clear H1
              by_cases c8 : 0 ≤ ((rd_T134 l1 x9_1).f0)
              · rw [if_pos c8] at H
                have c8b0 : decide (0 ≤ ((rd_T134 l1 x9_1).f0)) = true := decide_eq_true c8
                clear c8
                by_cases c9 : ((rd_T134 l1 x9_1).f0) < (l0.length : Int)
                · rw [if_pos c9] at H
                  have c9b0 : decide (((rd_T134 l1 x9_1).f0) < (l0.length : Int)) = true := decide_eq_true c9
                  clear c9
                  by_cases c10 : (rd l0 ((rd_T134 l1 x9_1).f0)) = ((rd_T134 l1 x9_1).f1)
                  · rw [if_pos c10] at H
                    have c10b0 : ((rd l0 ((rd_T134 l1 x9_1).f0)) == ((rd_T134 l1 x9_1).f1)) = true := beq_iff_eq.mpr c10
                    have c10b1 : ((rd l0 ((rd_T134 l1 x9_1).f0)) != ((rd_T134 l1 x9_1).f1)) = false := bne_eq_false_iff_eq.mpr c10
                    clear c10
                    have H' := Aside0.mk H
                    clear H
                    have p186 : 0 ≤ (x9_1 : Int) := of_decide_eq_true (by first | (with_reducible assumption) | assumption)
                    have q186 : x9_1 < (l1.length : Int) := of_decide_eq_true (by first | (with_reducible assumption) | assumption)
                    obtain ⟨ad186, e186, hx186_0, hx186_1⟩ := at_T134 HR1.out x9_1 p186 q186
                    cases e186
                    replace hx186_0 := (HB.out.cell (World.block_lt_of_cell? w _ hx186_0)).trans hx186_0
                    replace hx186_1 := (HB.out.cell (World.block_lt_of_cell? w _ hx186_1)).trans hx186_1
                    replace p186 := eq_true p186
                    replace q186 := eq_true q186
                    go_wp2_with (first | ((with_reducible refine gate_dst (N := 6) rfl ?_); refine box_event ?hg (N := 6) ?hd (cs := #[.int .i64 0, .int .i64 0]) (t := 134) ?hr ?_; (case hd => rfl); (case hg => rfl); (case hr => first | (go_simp; done) | (go_simp; rfl)); intro gb187 hg w11 hbox hb; have n0_ := Aside0.mk (below_step (by repeat (first | (with_reducible first | exact HB.out | apply below_alloc | apply pw_below_drewN | apply below_drew1) | exact HB.out)) hb); have n1_ := Aside0.mk (hbox); have n2_ := Aside0.mk ((by rw [hg]; exact (below_size (by repeat (first | (with_reducible first | exact HB.out | apply below_alloc | apply pw_below_drewN | apply below_drew1) | exact HB.out))) : w.heap.size ≤ gb187)); have n3_ := Aside0.mk ((by rw [hg]; exact (below_size (by repeat (first | (with_reducible first | exact HB.out | apply below_alloc | apply pw_below_drewN | apply below_drew1) | exact HB.out))) : w.heap.size ≤ gb187)); clear HB; have HB := n0_; have BK187 := n1_; have GW187 := n2_; have GE187 := n3_; clear n0_ n1_ n2_ n3_; clear hb hbox hg; have hcz12_0 : w11.cell? ⟨gb187, 0, none⟩ = some (.int .i64 0) := (blk_cell BK187.out 0).trans rfl; have hcz12_1 : w11.cell? ⟨gb187, 1, none⟩ = some (.int .i64 0) := (blk_cell BK187.out 1).trans rfl; have hfz12_0 := blk_frozen BK187.out 0; have hfz12_1 := blk_frozen BK187.out 1) | (go_at_call 91; (with_reducible refine (impl_isPlace.calls ((rd_T134 l1 x9_1).f0) (l0.length : Int) true _ A6.out).mono ?_); rintro e w' ⟨rfl, ⟨nd, rfl⟩⟩; (try first | exact ⟨rfl, _, World.drewN_drewN _ _ _⟩ | exact ⟨rfl, _, Eq.trans (World.drewN_drewN _ _ _) (congrArg (World.drewN _) (Nat.add_assoc _ _ _))⟩); have p189 : 0 ≤ (((rd_T134 l1 x9_1).f0) : Int) := of_decide_eq_true (by first | (with_reducible assumption) | assumption); have q189 : ((rd_T134 l1 x9_1).f0) < (l0.length : Int) := of_decide_eq_true (by first | (with_reducible assumption) | assumption); obtain ⟨ad189, e189, hx189_0⟩ := Kd.at_int HR0.out ((rd_T134 l1 x9_1).f0) p189 q189; cases e189; have hn189_0 : ad189.block ≠ gb187 := Nat.ne_of_lt (Nat.lt_of_lt_of_le (by have := World.block_lt_of_cell? _ _ hx189_0; first | rwa [add_block] at this | exact this) GW187.out); have hn189_1 : ad189.block ≠ gb187 := Nat.ne_of_lt (Nat.lt_of_lt_of_le (by have := World.block_lt_of_cell? _ _ hx189_0; first | rwa [add_block] at this | exact this) GW187.out); replace hx189_0 := (HB.out.cell (World.block_lt_of_cell? w _ hx189_0)).trans hx189_0; replace hx189_0 := (cell_far (p := ⟨gb187, 0, none⟩) (by first | (rw [add_block]; exact hn189_0) | (show (Addr.add _ _).block ≠ _; rw [add_block]; exact hn189_0) | exact hn189_0) (.int .i64 ((rd_T134 l1 x9_1).f0))).trans hx189_0; replace hx189_0 := (cell_far (p := ⟨gb187, 1, none⟩) (by first | (rw [add_block]; exact hn189_1) | (show (Addr.add _ _).block ≠ _; rw [add_block]; exact hn189_1) | exact hn189_1) (.int .i64 ((rd_T134 l1 x9_1).f1))).trans hx189_0; (try have hy189_0 := fun (n_ : Nat) => (show ((((w11.drewN n_).setCell ⟨gb187, 0, none⟩ (.int .i64 ((rd_T134 l1 x9_1).f0))).setCell ⟨gb187, 1, none⟩ (.int .i64 ((rd_T134 l1 x9_1).f1)))).cell? _ = some _ from hx189_0)); clear hn189_0; clear hn189_1; replace p189 := eq_true p189; replace q189 := eq_true q189))
                    repeat (go_quiet (first | ((with_reducible refine gate_dst (N := 6) rfl ?_); refine box_event ?hg (N := 6) ?hd (cs := #[.int .i64 0, .int .i64 0]) (t := 134) ?hr ?_; (case hd => rfl); (case hg => rfl); (case hr => first | (go_simp; done) | (go_simp; rfl)); intro gb187 hg w11 hbox hb; have n0_ := Aside0.mk (below_step (by repeat (first | (with_reducible first | exact HB.out | apply below_alloc | apply pw_below_drewN | apply below_drew1) | exact HB.out)) hb); have n1_ := Aside0.mk (hbox); have n2_ := Aside0.mk ((by rw [hg]; exact (below_size (by repeat (first | (with_reducible first | exact HB.out | apply below_alloc | apply pw_below_drewN | apply below_drew1) | exact HB.out))) : w.heap.size ≤ gb187)); have n3_ := Aside0.mk ((by rw [hg]; exact (below_size (by repeat (first | (with_reducible first | exact HB.out | apply below_alloc | apply pw_below_drewN | apply below_drew1) | exact HB.out))) : w.heap.size ≤ gb187)); clear HB; have HB := n0_; have BK187 := n1_; have GW187 := n2_; have GE187 := n3_; clear n0_ n1_ n2_ n3_; clear hb hbox hg; have hcz12_0 : w11.cell? ⟨gb187, 0, none⟩ = some (.int .i64 0) := (blk_cell BK187.out 0).trans rfl; have hcz12_1 : w11.cell? ⟨gb187, 1, none⟩ = some (.int .i64 0) := (blk_cell BK187.out 1).trans rfl; have hfz12_0 := blk_frozen BK187.out 0; have hfz12_1 := blk_frozen BK187.out 1) | (go_at_call 91; (with_reducible refine (impl_isPlace.calls ((rd_T134 l1 x9_1).f0) (l0.length : Int) true _ A6.out).mono ?_); rintro e w' ⟨rfl, ⟨nd, rfl⟩⟩; (try first | exact ⟨rfl, _, World.drewN_drewN _ _ _⟩ | exact ⟨rfl, _, Eq.trans (World.drewN_drewN _ _ _) (congrArg (World.drewN _) (Nat.add_assoc _ _ _))⟩); have p189 : 0 ≤ (((rd_T134 l1 x9_1).f0) : Int) := of_decide_eq_true (by first | (with_reducible assumption) | assumption); have q189 : ((rd_T134 l1 x9_1).f0) < (l0.length : Int) := of_decide_eq_true (by first | (with_reducible assumption) | assumption); obtain ⟨ad189, e189, hx189_0⟩ := Kd.at_int HR0.out ((rd_T134 l1 x9_1).f0) p189 q189; cases e189; have hn189_0 : ad189.block ≠ gb187 := Nat.ne_of_lt (Nat.lt_of_lt_of_le (by have := World.block_lt_of_cell? _ _ hx189_0; first | rwa [add_block] at this | exact this) GW187.out); have hn189_1 : ad189.block ≠ gb187 := Nat.ne_of_lt (Nat.lt_of_lt_of_le (by have := World.block_lt_of_cell? _ _ hx189_0; first | rwa [add_block] at this | exact this) GW187.out); replace hx189_0 := (HB.out.cell (World.block_lt_of_cell? w _ hx189_0)).trans hx189_0; replace hx189_0 := (cell_far (p := ⟨gb187, 0, none⟩) (by first | (rw [add_block]; exact hn189_0) | (show (Addr.add _ _).block ≠ _; rw [add_block]; exact hn189_0) | exact hn189_0) (.int .i64 ((rd_T134 l1 x9_1).f0))).trans hx189_0; replace hx189_0 := (cell_far (p := ⟨gb187, 1, none⟩) (by first | (rw [add_block]; exact hn189_1) | (show (Addr.add _ _).block ≠ _; rw [add_block]; exact hn189_1) | exact hn189_1) (.int .i64 ((rd_T134 l1 x9_1).f1))).trans hx189_0; (try have hy189_0 := fun (n_ : Nat) => (show ((((w11.drewN n_).setCell ⟨gb187, 0, none⟩ (.int .i64 ((rd_T134 l1 x9_1).f0))).setCell ⟨gb187, 1, none⟩ (.int .i64 ((rd_T134 l1 x9_1).f1)))).cell? _ = some _ from hx189_0)); clear hn189_0; clear hn189_1; replace p189 := eq_true p189; replace q189 := eq_true q189)); try go_wp2_with (first | ((with_reducible refine gate_dst (N := 6) rfl ?_); refine box_event ?hg (N := 6) ?hd (cs := #[.int .i64 0, .int .i64 0]) (t := 134) ?hr ?_; (case hd => rfl); (case hg => rfl); (case hr => first | (go_simp; done) | (go_simp; rfl)); intro gb187 hg w11 hbox hb; have n0_ := Aside0.mk (below_step (by repeat (first | (with_reducible first | exact HB.out | apply below_alloc | apply pw_below_drewN | apply below_drew1) | exact HB.out)) hb); have n1_ := Aside0.mk (hbox); have n2_ := Aside0.mk ((by rw [hg]; exact (below_size (by repeat (first | (with_reducible first | exact HB.out | apply below_alloc | apply pw_below_drewN | apply below_drew1) | exact HB.out))) : w.heap.size ≤ gb187)); have n3_ := Aside0.mk ((by rw [hg]; exact (below_size (by repeat (first | (with_reducible first | exact HB.out | apply below_alloc | apply pw_below_drewN | apply below_drew1) | exact HB.out))) : w.heap.size ≤ gb187)); clear HB; have HB := n0_; have BK187 := n1_; have GW187 := n2_; have GE187 := n3_; clear n0_ n1_ n2_ n3_; clear hb hbox hg; have hcz12_0 : w11.cell? ⟨gb187, 0, none⟩ = some (.int .i64 0) := (blk_cell BK187.out 0).trans rfl; have hcz12_1 : w11.cell? ⟨gb187, 1, none⟩ = some (.int .i64 0) := (blk_cell BK187.out 1).trans rfl; have hfz12_0 := blk_frozen BK187.out 0; have hfz12_1 := blk_frozen BK187.out 1) | (go_at_call 91; (with_reducible refine (impl_isPlace.calls ((rd_T134 l1 x9_1).f0) (l0.length : Int) true _ A6.out).mono ?_); rintro e w' ⟨rfl, ⟨nd, rfl⟩⟩; (try first | exact ⟨rfl, _, World.drewN_drewN _ _ _⟩ | exact ⟨rfl, _, Eq.trans (World.drewN_drewN _ _ _) (congrArg (World.drewN _) (Nat.add_assoc _ _ _))⟩); have p189 : 0 ≤ (((rd_T134 l1 x9_1).f0) : Int) := of_decide_eq_true (by first | (with_reducible assumption) | assumption); have q189 : ((rd_T134 l1 x9_1).f0) < (l0.length : Int) := of_decide_eq_true (by first | (with_reducible assumption) | assumption); obtain ⟨ad189, e189, hx189_0⟩ := Kd.at_int HR0.out ((rd_T134 l1 x9_1).f0) p189 q189; cases e189; have hn189_0 : ad189.block ≠ gb187 := Nat.ne_of_lt (Nat.lt_of_lt_of_le (by have := World.block_lt_of_cell? _ _ hx189_0; first | rwa [add_block] at this | exact this) GW187.out); have hn189_1 : ad189.block ≠ gb187 := Nat.ne_of_lt (Nat.lt_of_lt_of_le (by have := World.block_lt_of_cell? _ _ hx189_0; first | rwa [add_block] at this | exact this) GW187.out); replace hx189_0 := (HB.out.cell (World.block_lt_of_cell? w _ hx189_0)).trans hx189_0; replace hx189_0 := (cell_far (p := ⟨gb187, 0, none⟩) (by first | (rw [add_block]; exact hn189_0) | (show (Addr.add _ _).block ≠ _; rw [add_block]; exact hn189_0) | exact hn189_0) (.int .i64 ((rd_T134 l1 x9_1).f0))).trans hx189_0; replace hx189_0 := (cell_far (p := ⟨gb187, 1, none⟩) (by first | (rw [add_block]; exact hn189_1) | (show (Addr.add _ _).block ≠ _; rw [add_block]; exact hn189_1) | exact hn189_1) (.int .i64 ((rd_T134 l1 x9_1).f1))).trans hx189_0; (try have hy189_0 := fun (n_ : Nat) => (show ((((w11.drewN n_).setCell ⟨gb187, 0, none⟩ (.int .i64 ((rd_T134 l1 x9_1).f0))).setCell ⟨gb187, 1, none⟩ (.int .i64 ((rd_T134 l1 x9_1).f1)))).cell? _ = some _ from hx189_0)); clear hn189_0; clear hn189_1; replace p189 := eq_true p189; replace q189 := eq_true q189)))
                    go_roundg k1
                    case measure => have := HK1.out; omega
                    case rel => exact ⟨(wrap64 (x9_1 + 1)), (by first | rfl | (simp; done) | (simp [*]; done)), H', ⟨by have := HK1.out; omega⟩, ⟨by repeat (first | (with_reducible first | exact HB.out | apply below_alloc | apply pw_below_drewN | apply below_drew1 | refine below_set ?_ GE187.out) | exact HB.out)⟩⟩
                  · rw [if_neg c10] at H
                    have c10b0 : ((rd l0 ((rd_T134 l1 x9_1).f0)) == ((rd_T134 l1 x9_1).f1)) = false := beq_eq_false_iff_ne.mpr c10
                    have c10b1 : ((rd l0 ((rd_T134 l1 x9_1).f0)) != ((rd_T134 l1 x9_1).f1)) = true := bne_iff_ne.mpr c10
                    obtain rfl := Option.some.inj H
                    have p186 : 0 ≤ (x9_1 : Int) := of_decide_eq_true (by first | (with_reducible assumption) | assumption)
                    have q186 : x9_1 < (l1.length : Int) := of_decide_eq_true (by first | (with_reducible assumption) | assumption)
                    obtain ⟨ad186, e186, hx186_0, hx186_1⟩ := at_T134 HR1.out x9_1 p186 q186
                    cases e186
                    replace hx186_0 := (HB.out.cell (World.block_lt_of_cell? w _ hx186_0)).trans hx186_0
                    replace hx186_1 := (HB.out.cell (World.block_lt_of_cell? w _ hx186_1)).trans hx186_1
                    replace p186 := eq_true p186
                    replace q186 := eq_true q186
                    go_wp2_with (first | ((with_reducible refine gate_dst (N := 6) rfl ?_); refine box_event ?hg (N := 6) ?hd (cs := #[.int .i64 0, .int .i64 0]) (t := 134) ?hr ?_; (case hd => rfl); (case hg => rfl); (case hr => first | (go_simp; done) | (go_simp; rfl)); intro gb187 hg w13 hbox hb; have n0_ := Aside0.mk (below_step (by repeat (first | (with_reducible first | exact HB.out | apply below_alloc | apply pw_below_drewN | apply below_drew1) | exact HB.out)) hb); have n1_ := Aside0.mk (hbox); have n2_ := Aside0.mk ((by rw [hg]; exact (below_size (by repeat (first | (with_reducible first | exact HB.out | apply below_alloc | apply pw_below_drewN | apply below_drew1) | exact HB.out))) : w.heap.size ≤ gb187)); have n3_ := Aside0.mk ((by rw [hg]; exact (below_size (by repeat (first | (with_reducible first | exact HB.out | apply below_alloc | apply pw_below_drewN | apply below_drew1) | exact HB.out))) : w.heap.size ≤ gb187)); clear HB; have HB := n0_; have BK187 := n1_; have GW187 := n2_; have GE187 := n3_; clear n0_ n1_ n2_ n3_; clear hb hbox hg; have hcz14_0 : w13.cell? ⟨gb187, 0, none⟩ = some (.int .i64 0) := (blk_cell BK187.out 0).trans rfl; have hcz14_1 : w13.cell? ⟨gb187, 1, none⟩ = some (.int .i64 0) := (blk_cell BK187.out 1).trans rfl; have hfz14_0 := blk_frozen BK187.out 0; have hfz14_1 := blk_frozen BK187.out 1) | (go_at_call 91; (with_reducible refine (impl_isPlace.calls ((rd_T134 l1 x9_1).f0) (l0.length : Int) true _ A6.out).mono ?_); rintro e w' ⟨rfl, ⟨nd, rfl⟩⟩; (try first | exact ⟨rfl, _, World.drewN_drewN _ _ _⟩ | exact ⟨rfl, _, Eq.trans (World.drewN_drewN _ _ _) (congrArg (World.drewN _) (Nat.add_assoc _ _ _))⟩); have p189 : 0 ≤ (((rd_T134 l1 x9_1).f0) : Int) := of_decide_eq_true (by first | (with_reducible assumption) | assumption); have q189 : ((rd_T134 l1 x9_1).f0) < (l0.length : Int) := of_decide_eq_true (by first | (with_reducible assumption) | assumption); obtain ⟨ad189, e189, hx189_0⟩ := Kd.at_int HR0.out ((rd_T134 l1 x9_1).f0) p189 q189; cases e189; have hn189_0 : ad189.block ≠ gb187 := Nat.ne_of_lt (Nat.lt_of_lt_of_le (by have := World.block_lt_of_cell? _ _ hx189_0; first | rwa [add_block] at this | exact this) GW187.out); have hn189_1 : ad189.block ≠ gb187 := Nat.ne_of_lt (Nat.lt_of_lt_of_le (by have := World.block_lt_of_cell? _ _ hx189_0; first | rwa [add_block] at this | exact this) GW187.out); replace hx189_0 := (HB.out.cell (World.block_lt_of_cell? w _ hx189_0)).trans hx189_0; replace hx189_0 := (cell_far (p := ⟨gb187, 0, none⟩) (by first | (rw [add_block]; exact hn189_0) | (show (Addr.add _ _).block ≠ _; rw [add_block]; exact hn189_0) | exact hn189_0) (.int .i64 ((rd_T134 l1 x9_1).f0))).trans hx189_0; replace hx189_0 := (cell_far (p := ⟨gb187, 1, none⟩) (by first | (rw [add_block]; exact hn189_1) | (show (Addr.add _ _).block ≠ _; rw [add_block]; exact hn189_1) | exact hn189_1) (.int .i64 ((rd_T134 l1 x9_1).f1))).trans hx189_0; (try have hy189_0 := fun (n_ : Nat) => (show ((((w13.drewN n_).setCell ⟨gb187, 0, none⟩ (.int .i64 ((rd_T134 l1 x9_1).f0))).setCell ⟨gb187, 1, none⟩ (.int .i64 ((rd_T134 l1 x9_1).f1)))).cell? _ = some _ from hx189_0)); clear hn189_0; clear hn189_1; replace p189 := eq_true p189; replace q189 := eq_true q189))
                    repeat (go_quiet (first | ((with_reducible refine gate_dst (N := 6) rfl ?_); refine box_event ?hg (N := 6) ?hd (cs := #[.int .i64 0, .int .i64 0]) (t := 134) ?hr ?_; (case hd => rfl); (case hg => rfl); (case hr => first | (go_simp; done) | (go_simp; rfl)); intro gb187 hg w13 hbox hb; have n0_ := Aside0.mk (below_step (by repeat (first | (with_reducible first | exact HB.out | apply below_alloc | apply pw_below_drewN | apply below_drew1) | exact HB.out)) hb); have n1_ := Aside0.mk (hbox); have n2_ := Aside0.mk ((by rw [hg]; exact (below_size (by repeat (first | (with_reducible first | exact HB.out | apply below_alloc | apply pw_below_drewN | apply below_drew1) | exact HB.out))) : w.heap.size ≤ gb187)); have n3_ := Aside0.mk ((by rw [hg]; exact (below_size (by repeat (first | (with_reducible first | exact HB.out | apply below_alloc | apply pw_below_drewN | apply below_drew1) | exact HB.out))) : w.heap.size ≤ gb187)); clear HB; have HB := n0_; have BK187 := n1_; have GW187 := n2_; have GE187 := n3_; clear n0_ n1_ n2_ n3_; clear hb hbox hg; have hcz14_0 : w13.cell? ⟨gb187, 0, none⟩ = some (.int .i64 0) := (blk_cell BK187.out 0).trans rfl; have hcz14_1 : w13.cell? ⟨gb187, 1, none⟩ = some (.int .i64 0) := (blk_cell BK187.out 1).trans rfl; have hfz14_0 := blk_frozen BK187.out 0; have hfz14_1 := blk_frozen BK187.out 1) | (go_at_call 91; (with_reducible refine (impl_isPlace.calls ((rd_T134 l1 x9_1).f0) (l0.length : Int) true _ A6.out).mono ?_); rintro e w' ⟨rfl, ⟨nd, rfl⟩⟩; (try first | exact ⟨rfl, _, World.drewN_drewN _ _ _⟩ | exact ⟨rfl, _, Eq.trans (World.drewN_drewN _ _ _) (congrArg (World.drewN _) (Nat.add_assoc _ _ _))⟩); have p189 : 0 ≤ (((rd_T134 l1 x9_1).f0) : Int) := of_decide_eq_true (by first | (with_reducible assumption) | assumption); have q189 : ((rd_T134 l1 x9_1).f0) < (l0.length : Int) := of_decide_eq_true (by first | (with_reducible assumption) | assumption); obtain ⟨ad189, e189, hx189_0⟩ := Kd.at_int HR0.out ((rd_T134 l1 x9_1).f0) p189 q189; cases e189; have hn189_0 : ad189.block ≠ gb187 := Nat.ne_of_lt (Nat.lt_of_lt_of_le (by have := World.block_lt_of_cell? _ _ hx189_0; first | rwa [add_block] at this | exact this) GW187.out); have hn189_1 : ad189.block ≠ gb187 := Nat.ne_of_lt (Nat.lt_of_lt_of_le (by have := World.block_lt_of_cell? _ _ hx189_0; first | rwa [add_block] at this | exact this) GW187.out); replace hx189_0 := (HB.out.cell (World.block_lt_of_cell? w _ hx189_0)).trans hx189_0; replace hx189_0 := (cell_far (p := ⟨gb187, 0, none⟩) (by first | (rw [add_block]; exact hn189_0) | (show (Addr.add _ _).block ≠ _; rw [add_block]; exact hn189_0) | exact hn189_0) (.int .i64 ((rd_T134 l1 x9_1).f0))).trans hx189_0; replace hx189_0 := (cell_far (p := ⟨gb187, 1, none⟩) (by first | (rw [add_block]; exact hn189_1) | (show (Addr.add _ _).block ≠ _; rw [add_block]; exact hn189_1) | exact hn189_1) (.int .i64 ((rd_T134 l1 x9_1).f1))).trans hx189_0; (try have hy189_0 := fun (n_ : Nat) => (show ((((w13.drewN n_).setCell ⟨gb187, 0, none⟩ (.int .i64 ((rd_T134 l1 x9_1).f0))).setCell ⟨gb187, 1, none⟩ (.int .i64 ((rd_T134 l1 x9_1).f1)))).cell? _ = some _ from hx189_0)); clear hn189_0; clear hn189_1; replace p189 := eq_true p189; replace q189 := eq_true q189)); try go_wp2_with (first | ((with_reducible refine gate_dst (N := 6) rfl ?_); refine box_event ?hg (N := 6) ?hd (cs := #[.int .i64 0, .int .i64 0]) (t := 134) ?hr ?_; (case hd => rfl); (case hg => rfl); (case hr => first | (go_simp; done) | (go_simp; rfl)); intro gb187 hg w13 hbox hb; have n0_ := Aside0.mk (below_step (by repeat (first | (with_reducible first | exact HB.out | apply below_alloc | apply pw_below_drewN | apply below_drew1) | exact HB.out)) hb); have n1_ := Aside0.mk (hbox); have n2_ := Aside0.mk ((by rw [hg]; exact (below_size (by repeat (first | (with_reducible first | exact HB.out | apply below_alloc | apply pw_below_drewN | apply below_drew1) | exact HB.out))) : w.heap.size ≤ gb187)); have n3_ := Aside0.mk ((by rw [hg]; exact (below_size (by repeat (first | (with_reducible first | exact HB.out | apply below_alloc | apply pw_below_drewN | apply below_drew1) | exact HB.out))) : w.heap.size ≤ gb187)); clear HB; have HB := n0_; have BK187 := n1_; have GW187 := n2_; have GE187 := n3_; clear n0_ n1_ n2_ n3_; clear hb hbox hg; have hcz14_0 : w13.cell? ⟨gb187, 0, none⟩ = some (.int .i64 0) := (blk_cell BK187.out 0).trans rfl; have hcz14_1 : w13.cell? ⟨gb187, 1, none⟩ = some (.int .i64 0) := (blk_cell BK187.out 1).trans rfl; have hfz14_0 := blk_frozen BK187.out 0; have hfz14_1 := blk_frozen BK187.out 1) | (go_at_call 91; (with_reducible refine (impl_isPlace.calls ((rd_T134 l1 x9_1).f0) (l0.length : Int) true _ A6.out).mono ?_); rintro e w' ⟨rfl, ⟨nd, rfl⟩⟩; (try first | exact ⟨rfl, _, World.drewN_drewN _ _ _⟩ | exact ⟨rfl, _, Eq.trans (World.drewN_drewN _ _ _) (congrArg (World.drewN _) (Nat.add_assoc _ _ _))⟩); have p189 : 0 ≤ (((rd_T134 l1 x9_1).f0) : Int) := of_decide_eq_true (by first | (with_reducible assumption) | assumption); have q189 : ((rd_T134 l1 x9_1).f0) < (l0.length : Int) := of_decide_eq_true (by first | (with_reducible assumption) | assumption); obtain ⟨ad189, e189, hx189_0⟩ := Kd.at_int HR0.out ((rd_T134 l1 x9_1).f0) p189 q189; cases e189; have hn189_0 : ad189.block ≠ gb187 := Nat.ne_of_lt (Nat.lt_of_lt_of_le (by have := World.block_lt_of_cell? _ _ hx189_0; first | rwa [add_block] at this | exact this) GW187.out); have hn189_1 : ad189.block ≠ gb187 := Nat.ne_of_lt (Nat.lt_of_lt_of_le (by have := World.block_lt_of_cell? _ _ hx189_0; first | rwa [add_block] at this | exact this) GW187.out); replace hx189_0 := (HB.out.cell (World.block_lt_of_cell? w _ hx189_0)).trans hx189_0; replace hx189_0 := (cell_far (p := ⟨gb187, 0, none⟩) (by first | (rw [add_block]; exact hn189_0) | (show (Addr.add _ _).block ≠ _; rw [add_block]; exact hn189_0) | exact hn189_0) (.int .i64 ((rd_T134 l1 x9_1).f0))).trans hx189_0; replace hx189_0 := (cell_far (p := ⟨gb187, 1, none⟩) (by first | (rw [add_block]; exact hn189_1) | (show (Addr.add _ _).block ≠ _; rw [add_block]; exact hn189_1) | exact hn189_1) (.int .i64 ((rd_T134 l1 x9_1).f1))).trans hx189_0; (try have hy189_0 := fun (n_ : Nat) => (show ((((w13.drewN n_).setCell ⟨gb187, 0, none⟩ (.int .i64 ((rd_T134 l1 x9_1).f0))).setCell ⟨gb187, 1, none⟩ (.int .i64 ((rd_T134 l1 x9_1).f1)))).cell? _ = some _ from hx189_0)); clear hn189_0; clear hn189_1; replace p189 := eq_true p189; replace q189 := eq_true q189)))
                    go_ret
                    exact ⟨by first | rfl | (simp [errW_none, errW_some] <;> rfl) | (simp [*, errW_none, errW_some] <;> rfl), by repeat (first | (with_reducible first | exact HB.out | apply below_alloc | apply pw_below_drewN | apply below_drew1 | refine below_set ?_ GE187.out) | exact HB.out)⟩
                · rw [if_neg c9] at H
                  exact absurd H (by simp)
              · rw [if_neg c8] at H
                exact absurd H (by simp)
            · replace c7 := Bool.eq_false_iff.mpr c7
              subst c7
              have H1 : (some false) = some r := by rw [if_neg (show ¬ (false = true) by decide)] at H; exact H
              clear H
              have H := H1
              clear H1
              obtain rfl := Option.some.inj H
              have p186 : 0 ≤ (x9_1 : Int) := of_decide_eq_true (by first | (with_reducible assumption) | assumption)
              have q186 : x9_1 < (l1.length : Int) := of_decide_eq_true (by first | (with_reducible assumption) | assumption)
              obtain ⟨ad186, e186, hx186_0, hx186_1⟩ := at_T134 HR1.out x9_1 p186 q186
              cases e186
              replace hx186_0 := (HB.out.cell (World.block_lt_of_cell? w _ hx186_0)).trans hx186_0
              replace hx186_1 := (HB.out.cell (World.block_lt_of_cell? w _ hx186_1)).trans hx186_1
              replace p186 := eq_true p186
              replace q186 := eq_true q186
              go_wp2_with (first | ((with_reducible refine gate_dst (N := 6) rfl ?_); refine box_event ?hg (N := 6) ?hd (cs := #[.int .i64 0, .int .i64 0]) (t := 134) ?hr ?_; (case hd => rfl); (case hg => rfl); (case hr => first | (go_simp; done) | (go_simp; rfl)); intro gb187 hg w15 hbox hb; have n0_ := Aside0.mk (below_step (by repeat (first | (with_reducible first | exact HB.out | apply below_alloc | apply pw_below_drewN | apply below_drew1) | exact HB.out)) hb); have n1_ := Aside0.mk (hbox); have n2_ := Aside0.mk ((by rw [hg]; exact (below_size (by repeat (first | (with_reducible first | exact HB.out | apply below_alloc | apply pw_below_drewN | apply below_drew1) | exact HB.out))) : w.heap.size ≤ gb187)); have n3_ := Aside0.mk ((by rw [hg]; exact (below_size (by repeat (first | (with_reducible first | exact HB.out | apply below_alloc | apply pw_below_drewN | apply below_drew1) | exact HB.out))) : w.heap.size ≤ gb187)); clear HB; have HB := n0_; have BK187 := n1_; have GW187 := n2_; have GE187 := n3_; clear n0_ n1_ n2_ n3_; clear hb hbox hg; have hcz16_0 : w15.cell? ⟨gb187, 0, none⟩ = some (.int .i64 0) := (blk_cell BK187.out 0).trans rfl; have hcz16_1 : w15.cell? ⟨gb187, 1, none⟩ = some (.int .i64 0) := (blk_cell BK187.out 1).trans rfl; have hfz16_0 := blk_frozen BK187.out 0; have hfz16_1 := blk_frozen BK187.out 1) | (go_at_call 91; (with_reducible refine (impl_isPlace.calls ((rd_T134 l1 x9_1).f0) (l0.length : Int) false _ A6.out).mono ?_); rintro e w' ⟨rfl, ⟨nd, rfl⟩⟩; (try first | exact ⟨rfl, _, World.drewN_drewN _ _ _⟩ | exact ⟨rfl, _, Eq.trans (World.drewN_drewN _ _ _) (congrArg (World.drewN _) (Nat.add_assoc _ _ _))⟩)))
              repeat (go_quiet (first | ((with_reducible refine gate_dst (N := 6) rfl ?_); refine box_event ?hg (N := 6) ?hd (cs := #[.int .i64 0, .int .i64 0]) (t := 134) ?hr ?_; (case hd => rfl); (case hg => rfl); (case hr => first | (go_simp; done) | (go_simp; rfl)); intro gb187 hg w15 hbox hb; have n0_ := Aside0.mk (below_step (by repeat (first | (with_reducible first | exact HB.out | apply below_alloc | apply pw_below_drewN | apply below_drew1) | exact HB.out)) hb); have n1_ := Aside0.mk (hbox); have n2_ := Aside0.mk ((by rw [hg]; exact (below_size (by repeat (first | (with_reducible first | exact HB.out | apply below_alloc | apply pw_below_drewN | apply below_drew1) | exact HB.out))) : w.heap.size ≤ gb187)); have n3_ := Aside0.mk ((by rw [hg]; exact (below_size (by repeat (first | (with_reducible first | exact HB.out | apply below_alloc | apply pw_below_drewN | apply below_drew1) | exact HB.out))) : w.heap.size ≤ gb187)); clear HB; have HB := n0_; have BK187 := n1_; have GW187 := n2_; have GE187 := n3_; clear n0_ n1_ n2_ n3_; clear hb hbox hg; have hcz16_0 : w15.cell? ⟨gb187, 0, none⟩ = some (.int .i64 0) := (blk_cell BK187.out 0).trans rfl; have hcz16_1 : w15.cell? ⟨gb187, 1, none⟩ = some (.int .i64 0) := (blk_cell BK187.out 1).trans rfl; have hfz16_0 := blk_frozen BK187.out 0; have hfz16_1 := blk_frozen BK187.out 1) | (go_at_call 91; (with_reducible refine (impl_isPlace.calls ((rd_T134 l1 x9_1).f0) (l0.length : Int) false _ A6.out).mono ?_); rintro e w' ⟨rfl, ⟨nd, rfl⟩⟩; (try first | exact ⟨rfl, _, World.drewN_drewN _ _ _⟩ | exact ⟨rfl, _, Eq.trans (World.drewN_drewN _ _ _) (congrArg (World.drewN _) (Nat.add_assoc _ _ _))⟩))); try go_wp2_with (first | ((with_reducible refine gate_dst (N := 6) rfl ?_); refine box_event ?hg (N := 6) ?hd (cs := #[.int .i64 0, .int .i64 0]) (t := 134) ?hr ?_; (case hd => rfl); (case hg => rfl); (case hr => first | (go_simp; done) | (go_simp; rfl)); intro gb187 hg w15 hbox hb; have n0_ := Aside0.mk (below_step (by repeat (first | (with_reducible first | exact HB.out | apply below_alloc | apply pw_below_drewN | apply below_drew1) | exact HB.out)) hb); have n1_ := Aside0.mk (hbox); have n2_ := Aside0.mk ((by rw [hg]; exact (below_size (by repeat (first | (with_reducible first | exact HB.out | apply below_alloc | apply pw_below_drewN | apply below_drew1) | exact HB.out))) : w.heap.size ≤ gb187)); have n3_ := Aside0.mk ((by rw [hg]; exact (below_size (by repeat (first | (with_reducible first | exact HB.out | apply below_alloc | apply pw_below_drewN | apply below_drew1) | exact HB.out))) : w.heap.size ≤ gb187)); clear HB; have HB := n0_; have BK187 := n1_; have GW187 := n2_; have GE187 := n3_; clear n0_ n1_ n2_ n3_; clear hb hbox hg; have hcz16_0 : w15.cell? ⟨gb187, 0, none⟩ = some (.int .i64 0) := (blk_cell BK187.out 0).trans rfl; have hcz16_1 : w15.cell? ⟨gb187, 1, none⟩ = some (.int .i64 0) := (blk_cell BK187.out 1).trans rfl; have hfz16_0 := blk_frozen BK187.out 0; have hfz16_1 := blk_frozen BK187.out 1) | (go_at_call 91; (with_reducible refine (impl_isPlace.calls ((rd_T134 l1 x9_1).f0) (l0.length : Int) false _ A6.out).mono ?_); rintro e w' ⟨rfl, ⟨nd, rfl⟩⟩; (try first | exact ⟨rfl, _, World.drewN_drewN _ _ _⟩ | exact ⟨rfl, _, Eq.trans (World.drewN_drewN _ _ _) (congrArg (World.drewN _) (Nat.add_assoc _ _ _))⟩))))
              go_ret
              exact ⟨by first | rfl | (simp [errW_none, errW_some] <;> rfl) | (simp [*, errW_none, errW_some] <;> rfl), by repeat (first | (with_reducible first | exact HB.out | apply below_alloc | apply pw_below_drewN | apply below_drew1 | refine below_set ?_ GE187.out) | exact HB.out)⟩
          · rw [if_neg c5] at H
            exact absurd H (by simp)
        · rw [if_neg c4] at H
          exact absurd H (by simp)
      · rw [if_neg c3] at H
        have c3b0 : decide (x9_1 < (l1.length : Int)) = false := decide_eq_false c3
        clear c3
        obtain rfl := Option.some.inj H
        go_wp2
        repeat (go_quiet (fail); try go_wp2)
        go_ret
        exact ⟨by first | rfl | (simp [errW_none, errW_some] <;> rfl) | (simp [*, errW_none, errW_some] <;> rfl), by repeat (first | (with_reducible first | exact HB.out | apply below_alloc | apply pw_below_drewN | apply below_drew1) | exact HB.out)⟩

/-! ### impl_putAll: function 77 -/
def putL (c : List Int) (p : S134) : List Int := if 0 ≤ p.f0 ∧ p.f0 < (c.length : Int) then c.set p.f0.toNat p.f1 else c
theorem putL_len (c : List Int) (p : S134) : (putL c p).length = c.length := by
  unfold putL
  split
  · rw [List.length_set]
  · rfl
def impl_putAll.f (l0 : List Int) (l1 : List (S134)) : Option (List Int) := some (l1.foldl putL l0)
theorem putAll_step (l0 : List Int) (l1 : List (S134)) (i : Nat) (p : S134) (h : l1[i]? = some p) : (l1.take (i + 1)).foldl putL l0 = putL ((l1.take i).foldl putL l0) p := by
  obtain ⟨hi, rfl⟩ := List.getElem?_eq_some_iff.1 h
  rw [List.take_succ_eq_append_getElem hi, List.foldl_append]
  rfl
set_option maxHeartbeats 8000000 in
set_option maxRecDepth 100000 in
theorem impl_putAll.calls (P0_ : Nat → Prop) (u9000_ : Value) (l0 : List Int) (A1 : Option Addr) (c1 : Nat) (l1 : List (S134)) (r : List Int) (w0 w : World) (hB : Below w0.heap.size w0 w) (ho0 : Kd.R (Kd.int .i64) 3 w w0.heap.size P0_ u9000_ l0) (hr1 : ∀ W_, Kept w W_ (fun k_ => P0_ k_) → Kd.C k134 W_ A1 l1.length l1) (hc1 : l1.length ≤ c1) (h : impl_putAll.f l0 l1 = some r) :
    Calls Try.prog 77 #[u9000_, .slice A1 l1.length c1] w fun e w' => e = .returned (.tuple #[]) ∧ Kd.R (Kd.int .i64) 3 w' w0.heap.size (fun k_ => (P0_ k_ ∨ w.heap.size ≤ k_)) u9000_ r ∧ Below w0.heap.size w0 w' ∧ Kept w w' (fun k_ => P0_ k_) := by
  obtain rfl := Option.some.inj h
  clear h
  have HF := Aside0.mk (show Kd.R (Kd.int .i64) 3 w w0.heap.size (fun k_ => (P0_ k_ ∨ w.heap.size ≤ k_)) u9000_ l0 from Kd.R_mono ho0 (fun k_ hk => (.inl hk)))
  have HK := Aside0.mk (Kept.refl w (fun k_ => P0_ k_))
  have HB := Aside0.mk hB
  have HR1 := Aside0.mk hr1
  have HM := Aside0.mk (show l1.length ≤ 9223372036854775807 from (hr1 w (Kept.refl _ _)).2.1)
  clear hB ho0 hr1
  have hu := Try.underlying134
  go_enter Try.func77, Try.ntmps77
  go_wp2
  go_loopw [8] (fun v8 wr => ∃ (x : Int), v8 = .int .i64 x ∧ Aside0 (0 ≤ x ∧ x ≤ (l1.length : Nat)) ∧ Aside0 (Kd.R (Kd.int .i64) 3 wr w0.heap.size (fun k_ => (P0_ k_ ∨ w.heap.size ≤ k_)) u9000_ ((l1.take x.toNat).foldl putL l0)) ∧ Aside0 (Kept w wr (fun k_ => P0_ k_)) ∧ Aside0 (Below w0.heap.size w0 wr)) (fun v8 _ => l1.length - (intOf v8).toNat)
  case atStart => exact ⟨0, rfl, ⟨by omega, by omega⟩, HF, HK, HB⟩
  case round =>
    clear HF HK HB
    obtain ⟨x, rfl, HX, HF, HK, HB⟩ := hrel
    by_cases c0 : x < ((l1.length : Nat) : Int)
    · have c0b : decide (x < ((l1.length : Nat) : Int)) = true := decide_eq_true c0
      have hx0 := HX.out.1
      obtain ⟨ad, rfl, hx_0, hx_1⟩ := at_T134 (Kd.C_kept_now HR1.out HK.out) x hx0 c0
      obtain ⟨p, hp⟩ : ∃ p, p = rd_T134 l1 x := ⟨_, rfl⟩
      rw [← hp] at hx_0 hx_1
      have HP := Aside0.mk (show l1[x.toNat]? = some p by rw [hp]; unfold rd_T134; rw [List.getD_eq_getElem?_getD, List.getElem?_eq_getElem (show x.toNat < l1.length by omega)]; rfl)
      clear hp
      have p0 := eq_true hx0
      have q0 := eq_true c0
      have HC0 := Aside0.mk c0
      clear c0 hx0
      have HSTEP := Aside0.mk (putAll_step l0 l1 x.toNat p HP.out)
      obtain ⟨cs, hcs⟩ : ∃ cs, cs = (l1.take x.toNat).foldl putL l0 := ⟨_, rfl⟩
      rw [← hcs] at HF HSTEP
      clear hcs
      obtain ⟨A0, cc, e0⟩ := Kd.R_slice HF.out
      subst e0
      by_cases c1 : 0 ≤ p.f0 ∧ p.f0 < (cs.length : Int)
      · obtain ⟨g, cap, e1, hbg, hlt, hcl⟩ := Kd.R_form HF.out (by omega)
        injection e1 with e1 e2 e3
        subst e1 e3
        obtain ⟨ce, hcl, hM, hcc, hfr⟩ := Kd.R_elem HF.out 0 p.f0 c1.1 c1.2
        obtain rfl : ce = [.int .i64 (cs.getD p.f0.toNat 0)] := hM
        have hc2 : ∀ (o : Obj) (n : Nat), ((wr.alloc o).drewN n).cell? ⟨g, p.f0.toNat, none⟩ = some (.int .i64 (cs.getD p.f0.toNat 0)) := fun o n => by
          have h1 := hcc 0 _ rfl
          rw [show (Kd.int .i64).sz = 1 from rfl, Nat.mul_one, Nat.add_zero] at h1
          exact pw_cell_below (pw_below_drewN (below_alloc (Below.refl _ _) o) n) h1
        have hf2 : ∀ (o : Obj) (n : Nat), ((wr.alloc o).drewN n).frozen? ⟨g, p.f0.toNat, none⟩ = false := fun o n => by
          have h1 := hfr 0
          have h2 := (pw_below_drewN (below_alloc (Below.refl wr.heap.size wr) o) n).frozen (p := ⟨g, p.f0.toNat, none⟩) hlt
          rw [show (Kd.int .i64).sz = 1 from rfl, Nat.mul_one, Nat.add_zero] at h1
          exact h2.trans h1
        have HG := Aside0.mk (HF.out.1 g rfl)
        have HBG := Aside0.mk hbg
        have p1 := eq_true c1.1
        have q1 := eq_true c1.2
        have HIP := Aside0.mk (show impl_isPlace.f p.f0 (cs.length : Int) = some true by unfold impl_isPlace.f; rw [if_pos c1.1, decide_eq_true c1.2])
        have HS2 := Aside0.mk (show putL cs p = cs.set p.f0.toNat p.f1 by unfold putL; rw [if_pos c1])
        clear c1 hcc hfr hcl hbg hlt
        go_wp2_with fail
        refine (impl_isPlace.calls p.f0 (cs.length : Int) true _ HIP.out).mono ?_
        rintro e w1 ⟨rfl, hd⟩
        obtain ⟨nd, rfl⟩ := hd.out
        go_wp2
        go_roundw
        case rel =>
          have e1 : (wrap64 (x + 1)) = x + 1 := by have h1 := HX.out.1; have h2 := HC0.out; have h3 := HM.out; unfold wrap64; omega
          refine ⟨_, rfl, ⟨?_⟩, ⟨?_⟩, ⟨?_⟩, ⟨?_⟩⟩
          · rw [e1]; exact ⟨by have := HX.out.1; omega, by have := HC0.out; omega⟩
          · rw [e1, show (x + 1).toNat = x.toNat + 1 by have := HX.out.1; omega, HSTEP.out, HS2.out]
            exact (Kd.R_putg (Kd.R_drewN (Kd.R_alloc HF.out _) _) p.f0 p.f1).1
          · exact Kept.setCell (Kept.drewN (Kept.alloc HK.out _) _) HG.out _
          · exact below_set (pw_below_drewN (below_alloc HB.out _) _) HBG.out
        case measure =>
          have h1 := HX.out.1
          have h2 := HC0.out
          have h3 := HM.out
          have e1 : (wrap64 (x + 1)) = x + 1 := by unfold wrap64; omega
          rw [e1]
          simp [intOf]
          omega
      · have HIP := Aside0.mk (show impl_isPlace.f p.f0 (cs.length : Int) = some false by
          unfold impl_isPlace.f
          by_cases c2 : 0 ≤ p.f0
          · rw [if_pos c2, decide_eq_false (fun h => c1 ⟨c2, h⟩)]
          · rw [if_neg c2])
        have HS2 := Aside0.mk (show putL cs p = cs by unfold putL; rw [if_neg c1])
        clear c1
        go_wp2_with fail
        refine (impl_isPlace.calls p.f0 (cs.length : Int) false _ HIP.out).mono ?_
        rintro e w1 ⟨rfl, hd⟩
        obtain ⟨nd, rfl⟩ := hd.out
        go_wp2
        go_roundw
        case rel =>
          have e1 : (wrap64 (x + 1)) = x + 1 := by have h1 := HX.out.1; have h2 := HC0.out; have h3 := HM.out; unfold wrap64; omega
          refine ⟨_, rfl, ⟨?_⟩, ⟨?_⟩, ⟨?_⟩, ⟨?_⟩⟩
          · rw [e1]; exact ⟨by have := HX.out.1; omega, by have := HC0.out; omega⟩
          · rw [e1, show (x + 1).toNat = x.toNat + 1 by have := HX.out.1; omega, HSTEP.out, HS2.out]
            exact Kd.R_drewN (Kd.R_alloc HF.out _) _
          · exact Kept.drewN (Kept.alloc HK.out _) _
          · exact pw_below_drewN (below_alloc HB.out _) _
        case measure =>
          have h1 := HX.out.1
          have h2 := HC0.out
          have h3 := HM.out
          have e1 : (wrap64 (x + 1)) = x + 1 := by unfold wrap64; omega
          rw [e1]
          simp [intOf]
          omega
    · have c0b : decide (x < ((l1.length : Nat) : Int)) = false := decide_eq_false c0
      have q0 := eq_false c0
      have HE := Aside0.mk (show x.toNat = l1.length by have := HX.out.1; have := HX.out.2; omega)
      clear c0
      go_wp2
      go_end0
      have h5 := HF.out
      rw [HE.out, List.take_length] at h5
      exact ⟨rfl, h5, HB.out, HK.out⟩

end Go.Proofs.Ytkcoclfpcjfeiaa.QC
