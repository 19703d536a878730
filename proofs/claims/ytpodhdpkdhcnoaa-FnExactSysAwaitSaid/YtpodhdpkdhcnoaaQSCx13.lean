-- Written by a program of this session (wip/tools/myprint.py).
import Derived.Test.YtpodhdpkdhcnoaaQSCx0
import Derived.Test.YtpodhdpkdhcnoaaQSCx12
namespace Go.Proofs.Ytpodhdpkdhcnoaa.QSC
open Go.RowKit Go.Proofs.YtpodhdpkdhcnoaaW.PrintWords Go.Proofs.YtpodhdpkdhcnoaaW.PrintLast Go.Proofs.YtpodhdpkdhcnoaaW.PrintMore
attribute [local go_sem] max2_int min2_int max_two min_two max_three min_three max_four min_four   -- for this text's walks alone
set_option linter.unusedVariables false
set_option linter.unusedSimpArgs false

/-! ### laws_eqTaskS: function 44 -/
def laws_eqTaskS.l0 : Nat → List (S72) → List (S72) → Int → Option (Bool)
  | 0, _, _, _ => none
  | k + 1, x0, x1, x5 => if x5 < (x0.length : Int) then (if 0 ≤ x5 then (if x5 < (x1.length : Int) then ((laws_eqTask.f k ((rd_T72 x0 x5).f0) ((rd_T72 x0 x5).f1) ((rd_T72 x0 x5).f2) ((rd_T72 x0 x5).f3) ((rd_T72 x0 x5).f4) ((rd_T72 x0 x5).f5) ((rd_T72 x0 x5).f6) ((rd_T72 x0 x5).f7) ((rd_T72 x0 x5).f8) ((rd_T72 x0 x5).f9) ((rd_T72 x0 x5).f10) ((rd_T72 x0 x5).f11) ((rd_T72 x0 x5).f12) ((rd_T72 x1 x5).f0) ((rd_T72 x1 x5).f1) ((rd_T72 x1 x5).f2) ((rd_T72 x1 x5).f3) ((rd_T72 x1 x5).f4) ((rd_T72 x1 x5).f5) ((rd_T72 x1 x5).f6) ((rd_T72 x1 x5).f7) ((rd_T72 x1 x5).f8) ((rd_T72 x1 x5).f9) ((rd_T72 x1 x5).f10) ((rd_T72 x1 x5).f11) ((rd_T72 x1 x5).f12)).bind fun t237 => (if t237 = true then (laws_eqTaskS.l0 k x0 x1 (wrap64 (x5 + 1))) else (some false))) else (none)) else (none)) else (some true)
def laws_eqTaskS.f (k : Nat) (l0 : List (S72)) (l1 : List (S72)) : Option (Bool) := if (l0.length : Int) = (l1.length : Int) then (laws_eqTaskS.l0 k l0 l1 0) else (some false)
theorem laws_eqTaskS.mono_l : ∀ k, (∀ y0 y1 y2, LeO (laws_eqTaskS.l0 k y0 y1 y2) (laws_eqTaskS.l0 (k + 1) y0 y1 y2))
  | 0 => fun _ _ _ r h => by simp [laws_eqTaskS.l0] at h
  | k + 1 => by
    have ih0 := laws_eqTaskS.mono_l k
    · intro y0 y1 y2
      unfold laws_eqTaskS.l0
      repeat' first
      | (with_reducible exact ih0 _ _ _)
      | (with_reducible exact laws_eqTask.mono _ _ _ _ _ _ _ _ _ _ _ _ _ _ _ _ _ _ _ _ _ _ _ _ _ _ _)
      | (with_reducible exact LeO.refl _)
      | (with_reducible exact LeO.none _)
      | (with_reducible refine LeO.ite ?_ ?_)
      | (with_reducible refine LeO.bind ?_ (fun _ => ?_))
      | exact ih0 _ _ _
      | exact laws_eqTask.mono _ _ _ _ _ _ _ _ _ _ _ _ _ _ _ _ _ _ _ _ _ _ _ _ _ _ _
      | exact LeO.none _
      | refine LeO.ite ?_ ?_
      | refine LeO.bind ?_ (fun _ => ?_)
theorem laws_eqTaskS.mono : ∀ a0 a1 k, LeO (laws_eqTaskS.f k a0 a1) (laws_eqTaskS.f (k + 1) a0 a1) := by
  intro a0 a1 k
  have ih0 := laws_eqTaskS.mono_l k
  unfold laws_eqTaskS.f
  repeat' first
      | (with_reducible exact ih0 _ _ _)
      | (with_reducible exact laws_eqTask.mono _ _ _ _ _ _ _ _ _ _ _ _ _ _ _ _ _ _ _ _ _ _ _ _ _ _ _)
      | (with_reducible exact LeO.refl _)
      | (with_reducible exact LeO.none _)
      | (with_reducible refine LeO.ite ?_ ?_)
      | (with_reducible refine LeO.bind ?_ (fun _ => ?_))
      | exact ih0 _ _ _
      | exact laws_eqTask.mono _ _ _ _ _ _ _ _ _ _ _ _ _ _ _ _ _ _ _ _ _ _ _ _ _ _ _
      | exact LeO.none _
      | refine LeO.ite ?_ ?_
      | refine LeO.bind ?_ (fun _ => ?_)
def laws_eqTaskS.T6 : Bool × List (List Nat × List Nat) := (true, [([], []), ([], []), ([0, 1], [0, 1]), ([2], [2]), ([], []), ([], []), ([4, 5], [4, 5]), ([6], [6]), ([3, 7], [3, 7]), ([8], [8])])
def laws_eqTaskS.B6 : List Nat := [0, 0, 3, 7, 0, 0, 48, 112, 255, 511]
theorem laws_eqTaskS.tab6 : rtab .any (opsOf Try.f44 6) = laws_eqTaskS.T6 := by kernel_rfl
theorem laws_eqTaskS.bits6 : waitsOk laws_eqTaskS.T6.2 laws_eqTaskS.B6 = true := by kernel_rfl
set_option maxHeartbeats 8000000 in
set_option maxRecDepth 100000 in
theorem laws_eqTaskS.calls (k : Nat) (A0 : Option Addr) (c0 : Nat) (l0 : List (S72)) (A1 : Option Addr) (c1 : Nat) (l1 : List (S72)) (r : Bool) (w : World) (hr0 : Kd.C k72 w A0 l0.length l0) (hc0 : l0.length ≤ c0) (hr1 : Kd.C k72 w A1 l1.length l1) (hc1 : l1.length ≤ c1) (h : laws_eqTaskS.f k l0 l1 = some r) :
    Calls Try.prog 44 #[.slice A0 l0.length c0, .slice A1 l1.length c1] w fun e w' => e = .returned (.bool r) ∧ Below w.heap.size w w' := by
  have hu72 := Try.underlying72
  have HR0 := Aside0.mk hr0
  have HC0 := Aside0.mk hc0
  clear hr0 hc0
  have HR1 := Aside0.mk hr1
  have HC1 := Aside0.mk hc1
  clear hr1 hc1
  have HB := Aside0.mk (Below.refl w.heap.size w)
  have H : (if (l0.length : Int) = (l1.length : Int) then (laws_eqTaskS.l0 k l0 l1 0) else (some false)) = some r := h
  clear h
  by_cases c3 : (l0.length : Int) = (l1.length : Int)
  · rw [if_pos c3] at H
    have c3b0 : ((l0.length : Int) == (l1.length : Int)) = true := beq_iff_eq.mpr c3
    have c3b1 : ((l0.length : Int) != (l1.length : Int)) = false := bne_eq_false_iff_eq.mpr c3
    have c3b2 : (l0.length == l1.length) = true := by first | simpa using c3 | (simp at c3 ⊢; omega)
    clear c3
    have H' := Aside0.mk H
    clear H
    go_enter Try.func44, Try.ntmps44
    go_wp2
    go_loopg [5] k (fun kq v5 w' => ∃ (x5_1 : Int), v5 = .int .i64 x5_1 ∧ Aside0 (laws_eqTaskS.l0 kq l0 l1 x5_1 = some r) ∧ Aside0 (kq ≤ k) ∧ Aside0 (Below w.heap.size w w'))
    case atStart => exact ⟨(0), (by first | rfl | (simp; done) | (simp [*]; done)), H', ⟨Nat.le_refl _⟩, ⟨by repeat (first | (with_reducible first | exact HB.out | apply below_alloc | apply pw_below_drewN | apply below_drew1) | exact HB.out)⟩⟩
    case round =>
      clear H'
      try clear c1
      try clear p2
      try clear c3
      try clear c3b0
      try clear c3b1
      try clear c3b2
      obtain ⟨x5_1, rfl, HA, HK1, HB⟩ := hrel
      cases gk with
      | zero => exact absurd HA.out (by simp [laws_eqTaskS.l0])
      | succ k1 =>
        have H := HA.out
        clear HA
        simp only [laws_eqTaskS.l0] at H
        by_cases c4 : x5_1 < (l0.length : Int)
        · rw [if_pos c4] at H
          have c4b0 : decide (x5_1 < (l0.length : Int)) = true := decide_eq_true c4
          clear c4
          by_cases c5 : 0 ≤ x5_1
          · rw [if_pos c5] at H
            have c5b0 : decide (0 ≤ x5_1) = true := decide_eq_true c5
            clear c5
            by_cases c6 : x5_1 < (l1.length : Int)
            · rw [if_pos c6] at H
              have c6b0 : decide (x5_1 < (l1.length : Int)) = true := decide_eq_true c6
              clear c6
              replace H := Option.bind_eq_some_iff.mp H
              obtain ⟨t237, A70, H⟩ := H
              replace H : (if t237 = true then (laws_eqTaskS.l0 k1 l0 l1 (wrap64 (x5_1 + 1))) else (some false)) = some r := H
              have A7 := Aside0.mk A70
              clear A70
              by_cases c8 : t237 = true
              · subst c8
                have H1 : (laws_eqTaskS.l0 k1 l0 l1 (wrap64 (x5_1 + 1))) = some r := by rw [if_pos rfl] at H; exact H
                clear H
                have H := H1
                clear H1
                have H' := Aside0.mk H
                clear H
                try go_wp2
                have n0_ := Aside0.mk (below_drew1 HB.out)
                clear HB
                have HB := n0_
                clear n0_
                have p235 : 0 ≤ (x5_1 : Int) := of_decide_eq_true (by first | (with_reducible assumption) | assumption)
                have q235 : x5_1 < (l0.length : Int) := of_decide_eq_true (by first | (with_reducible assumption) | assumption)
                obtain ⟨ad235, A235_3, c235_3, A235_8, c235_8, A235_9, c235_9, A235_10, c235_10, e235, hx235_0, hx235_1, hx235_2, hx235_3, hx235_4, hx235_5, hx235_6, hx235_7, hx235_8, hx235_9, hx235_10, hx235_11, hx235_12, hl235_3, hi235_3, hl235_8, hi235_8, hl235_9, hi235_9, hl235_10, hi235_10⟩ := at_T72 HR0.out x5_1 p235 q235
                have hw235_12 := hx235_12
                have hw235_11 := hx235_11
                have hw235_10 := hx235_10
                have hw235_9 := hx235_9
                have hw235_8 := hx235_8
                have hw235_7 := hx235_7
                have hw235_6 := hx235_6
                have hw235_5 := hx235_5
                have hw235_4 := hx235_4
                have hw235_3 := hx235_3
                have hw235_2 := hx235_2
                have hw235_1 := hx235_1
                have hw235_0 := hx235_0
                cases e235
                replace hx235_0 := (HB.out.cell (World.block_lt_of_cell? w _ hx235_0)).trans hx235_0
                replace hx235_1 := (HB.out.cell (World.block_lt_of_cell? w _ hx235_1)).trans hx235_1
                replace hx235_2 := (HB.out.cell (World.block_lt_of_cell? w _ hx235_2)).trans hx235_2
                replace hx235_3 := (HB.out.cell (World.block_lt_of_cell? w _ hx235_3)).trans hx235_3
                replace hx235_4 := (HB.out.cell (World.block_lt_of_cell? w _ hx235_4)).trans hx235_4
                replace hx235_5 := (HB.out.cell (World.block_lt_of_cell? w _ hx235_5)).trans hx235_5
                replace hx235_6 := (HB.out.cell (World.block_lt_of_cell? w _ hx235_6)).trans hx235_6
                replace hx235_7 := (HB.out.cell (World.block_lt_of_cell? w _ hx235_7)).trans hx235_7
                replace hx235_8 := (HB.out.cell (World.block_lt_of_cell? w _ hx235_8)).trans hx235_8
                replace hx235_9 := (HB.out.cell (World.block_lt_of_cell? w _ hx235_9)).trans hx235_9
                replace hx235_10 := (HB.out.cell (World.block_lt_of_cell? w _ hx235_10)).trans hx235_10
                replace hx235_11 := (HB.out.cell (World.block_lt_of_cell? w _ hx235_11)).trans hx235_11
                replace hx235_12 := (HB.out.cell (World.block_lt_of_cell? w _ hx235_12)).trans hx235_12
                have HR235_3 := Aside0.mk hi235_3
                have HC235_3 := Aside0.mk hl235_3
                clear hi235_3 hl235_3
                have HR235_8 := Aside0.mk hi235_8
                have HC235_8 := Aside0.mk hl235_8
                clear hi235_8 hl235_8
                have HR235_9 := Aside0.mk hi235_9
                have HC235_9 := Aside0.mk hl235_9
                clear hi235_9 hl235_9
                have HR235_10 := Aside0.mk hi235_10
                have HC235_10 := Aside0.mk hl235_10
                clear hi235_10 hl235_10
                replace p235 := eq_true p235
                replace q235 := eq_true q235
                have p236 : 0 ≤ (x5_1 : Int) := of_decide_eq_true (by first | (with_reducible assumption) | assumption)
                have q236 : x5_1 < (l1.length : Int) := of_decide_eq_true (by first | (with_reducible assumption) | assumption)
                obtain ⟨ad236, A236_3, c236_3, A236_8, c236_8, A236_9, c236_9, A236_10, c236_10, e236, hx236_0, hx236_1, hx236_2, hx236_3, hx236_4, hx236_5, hx236_6, hx236_7, hx236_8, hx236_9, hx236_10, hx236_11, hx236_12, hl236_3, hi236_3, hl236_8, hi236_8, hl236_9, hi236_9, hl236_10, hi236_10⟩ := at_T72 HR1.out x5_1 p236 q236
                have hw236_12 := hx236_12
                have hw236_11 := hx236_11
                have hw236_10 := hx236_10
                have hw236_9 := hx236_9
                have hw236_8 := hx236_8
                have hw236_7 := hx236_7
                have hw236_6 := hx236_6
                have hw236_5 := hx236_5
                have hw236_4 := hx236_4
                have hw236_3 := hx236_3
                have hw236_2 := hx236_2
                have hw236_1 := hx236_1
                have hw236_0 := hx236_0
                cases e236
                replace hx236_0 := (HB.out.cell (World.block_lt_of_cell? w _ hx236_0)).trans hx236_0
                replace hx236_1 := (HB.out.cell (World.block_lt_of_cell? w _ hx236_1)).trans hx236_1
                replace hx236_2 := (HB.out.cell (World.block_lt_of_cell? w _ hx236_2)).trans hx236_2
                replace hx236_3 := (HB.out.cell (World.block_lt_of_cell? w _ hx236_3)).trans hx236_3
                replace hx236_4 := (HB.out.cell (World.block_lt_of_cell? w _ hx236_4)).trans hx236_4
                replace hx236_5 := (HB.out.cell (World.block_lt_of_cell? w _ hx236_5)).trans hx236_5
                replace hx236_6 := (HB.out.cell (World.block_lt_of_cell? w _ hx236_6)).trans hx236_6
                replace hx236_7 := (HB.out.cell (World.block_lt_of_cell? w _ hx236_7)).trans hx236_7
                replace hx236_8 := (HB.out.cell (World.block_lt_of_cell? w _ hx236_8)).trans hx236_8
                replace hx236_9 := (HB.out.cell (World.block_lt_of_cell? w _ hx236_9)).trans hx236_9
                replace hx236_10 := (HB.out.cell (World.block_lt_of_cell? w _ hx236_10)).trans hx236_10
                replace hx236_11 := (HB.out.cell (World.block_lt_of_cell? w _ hx236_11)).trans hx236_11
                replace hx236_12 := (HB.out.cell (World.block_lt_of_cell? w _ hx236_12)).trans hx236_12
                have HR236_3 := Aside0.mk hi236_3
                have HC236_3 := Aside0.mk hl236_3
                clear hi236_3 hl236_3
                have HR236_8 := Aside0.mk hi236_8
                have HC236_8 := Aside0.mk hl236_8
                clear hi236_8 hl236_8
                have HR236_9 := Aside0.mk hi236_9
                have HC236_9 := Aside0.mk hl236_9
                clear hi236_9 hl236_9
                have HR236_10 := Aside0.mk hi236_10
                have HC236_10 := Aside0.mk hl236_10
                clear hi236_10 hl236_10
                replace p236 := eq_true p236
                replace q236 := eq_true q236
                refine start_ (n := 10) (S := fun w' => w'.cell? (ad235.add ((x5_1).toNat * 13)) = some (.int .i64 ((rd_T72 l0 x5_1).f0)) ∧ w'.cell? ⟨(ad235.add ((x5_1).toNat * 13)).block, (ad235.add ((x5_1).toNat * 13)).off + 1, none⟩ = some (.int .i64 ((rd_T72 l0 x5_1).f1)) ∧ w'.cell? ⟨(ad235.add ((x5_1).toNat * 13)).block, (ad235.add ((x5_1).toNat * 13)).off + 2, none⟩ = some (.int .i64 ((rd_T72 l0 x5_1).f2)) ∧ w'.cell? ⟨(ad235.add ((x5_1).toNat * 13)).block, (ad235.add ((x5_1).toNat * 13)).off + 3, none⟩ = some (.slice A235_3 ((rd_T72 l0 x5_1).f3).length c235_3) ∧ w'.cell? ⟨(ad235.add ((x5_1).toNat * 13)).block, (ad235.add ((x5_1).toNat * 13)).off + 4, none⟩ = some (.int .i64 ((rd_T72 l0 x5_1).f4)) ∧ w'.cell? ⟨(ad235.add ((x5_1).toNat * 13)).block, (ad235.add ((x5_1).toNat * 13)).off + 5, none⟩ = some (.int .i64 ((rd_T72 l0 x5_1).f5)) ∧ w'.cell? ⟨(ad235.add ((x5_1).toNat * 13)).block, (ad235.add ((x5_1).toNat * 13)).off + 6, none⟩ = some (.int .i64 ((rd_T72 l0 x5_1).f6)) ∧ w'.cell? ⟨(ad235.add ((x5_1).toNat * 13)).block, (ad235.add ((x5_1).toNat * 13)).off + 7, none⟩ = some (.int .i64 ((rd_T72 l0 x5_1).f7)) ∧ w'.cell? ⟨(ad235.add ((x5_1).toNat * 13)).block, (ad235.add ((x5_1).toNat * 13)).off + 8, none⟩ = some (.slice A235_8 ((rd_T72 l0 x5_1).f8).length c235_8) ∧ w'.cell? ⟨(ad235.add ((x5_1).toNat * 13)).block, (ad235.add ((x5_1).toNat * 13)).off + 9, none⟩ = some (.slice A235_9 ((rd_T72 l0 x5_1).f9).length c235_9) ∧ w'.cell? ⟨(ad235.add ((x5_1).toNat * 13)).block, (ad235.add ((x5_1).toNat * 13)).off + 10, none⟩ = some (.slice A235_10 ((rd_T72 l0 x5_1).f10).length c235_10) ∧ w'.cell? ⟨(ad235.add ((x5_1).toNat * 13)).block, (ad235.add ((x5_1).toNat * 13)).off + 11, none⟩ = some (.int .i64 ((rd_T72 l0 x5_1).f11)) ∧ w'.cell? ⟨(ad235.add ((x5_1).toNat * 13)).block, (ad235.add ((x5_1).toNat * 13)).off + 12, none⟩ = some (.int .i64 ((rd_T72 l0 x5_1).f12)) ∧ w'.cell? (ad236.add ((x5_1).toNat * 13)) = some (.int .i64 ((rd_T72 l1 x5_1).f0)) ∧ w'.cell? ⟨(ad236.add ((x5_1).toNat * 13)).block, (ad236.add ((x5_1).toNat * 13)).off + 1, none⟩ = some (.int .i64 ((rd_T72 l1 x5_1).f1)) ∧ w'.cell? ⟨(ad236.add ((x5_1).toNat * 13)).block, (ad236.add ((x5_1).toNat * 13)).off + 2, none⟩ = some (.int .i64 ((rd_T72 l1 x5_1).f2)) ∧ w'.cell? ⟨(ad236.add ((x5_1).toNat * 13)).block, (ad236.add ((x5_1).toNat * 13)).off + 3, none⟩ = some (.slice A236_3 ((rd_T72 l1 x5_1).f3).length c236_3) ∧ w'.cell? ⟨(ad236.add ((x5_1).toNat * 13)).block, (ad236.add ((x5_1).toNat * 13)).off + 4, none⟩ = some (.int .i64 ((rd_T72 l1 x5_1).f4)) ∧ w'.cell? ⟨(ad236.add ((x5_1).toNat * 13)).block, (ad236.add ((x5_1).toNat * 13)).off + 5, none⟩ = some (.int .i64 ((rd_T72 l1 x5_1).f5)) ∧ w'.cell? ⟨(ad236.add ((x5_1).toNat * 13)).block, (ad236.add ((x5_1).toNat * 13)).off + 6, none⟩ = some (.int .i64 ((rd_T72 l1 x5_1).f6)) ∧ w'.cell? ⟨(ad236.add ((x5_1).toNat * 13)).block, (ad236.add ((x5_1).toNat * 13)).off + 7, none⟩ = some (.int .i64 ((rd_T72 l1 x5_1).f7)) ∧ w'.cell? ⟨(ad236.add ((x5_1).toNat * 13)).block, (ad236.add ((x5_1).toNat * 13)).off + 8, none⟩ = some (.slice A236_8 ((rd_T72 l1 x5_1).f8).length c236_8) ∧ w'.cell? ⟨(ad236.add ((x5_1).toNat * 13)).block, (ad236.add ((x5_1).toNat * 13)).off + 9, none⟩ = some (.slice A236_9 ((rd_T72 l1 x5_1).f9).length c236_9) ∧ w'.cell? ⟨(ad236.add ((x5_1).toNat * 13)).block, (ad236.add ((x5_1).toNat * 13)).off + 10, none⟩ = some (.slice A236_10 ((rd_T72 l1 x5_1).f10).length c236_10) ∧ w'.cell? ⟨(ad236.add ((x5_1).toNat * 13)).block, (ad236.add ((x5_1).toNat * 13)).off + 11, none⟩ = some (.int .i64 ((rd_T72 l1 x5_1).f11)) ∧ w'.cell? ⟨(ad236.add ((x5_1).toNat * 13)).block, (ad236.add ((x5_1).toNat * 13)).off + 12, none⟩ = some (.int .i64 ((rd_T72 l1 x5_1).f12))) (ds := []) #[false, false, false, false, false, false, false, false, false, false] (by kernel_rfl) rfl rfl ⟨((HB.out.cell (World.block_lt_of_cell? w _ hw235_0)).trans hw235_0), ((HB.out.cell (World.block_lt_of_cell? w _ hw235_1)).trans hw235_1), ((HB.out.cell (World.block_lt_of_cell? w _ hw235_2)).trans hw235_2), ((HB.out.cell (World.block_lt_of_cell? w _ hw235_3)).trans hw235_3), ((HB.out.cell (World.block_lt_of_cell? w _ hw235_4)).trans hw235_4), ((HB.out.cell (World.block_lt_of_cell? w _ hw235_5)).trans hw235_5), ((HB.out.cell (World.block_lt_of_cell? w _ hw235_6)).trans hw235_6), ((HB.out.cell (World.block_lt_of_cell? w _ hw235_7)).trans hw235_7), ((HB.out.cell (World.block_lt_of_cell? w _ hw235_8)).trans hw235_8), ((HB.out.cell (World.block_lt_of_cell? w _ hw235_9)).trans hw235_9), ((HB.out.cell (World.block_lt_of_cell? w _ hw235_10)).trans hw235_10), ((HB.out.cell (World.block_lt_of_cell? w _ hw235_11)).trans hw235_11), ((HB.out.cell (World.block_lt_of_cell? w _ hw235_12)).trans hw235_12), ((HB.out.cell (World.block_lt_of_cell? w _ hw236_0)).trans hw236_0), ((HB.out.cell (World.block_lt_of_cell? w _ hw236_1)).trans hw236_1), ((HB.out.cell (World.block_lt_of_cell? w _ hw236_2)).trans hw236_2), ((HB.out.cell (World.block_lt_of_cell? w _ hw236_3)).trans hw236_3), ((HB.out.cell (World.block_lt_of_cell? w _ hw236_4)).trans hw236_4), ((HB.out.cell (World.block_lt_of_cell? w _ hw236_5)).trans hw236_5), ((HB.out.cell (World.block_lt_of_cell? w _ hw236_6)).trans hw236_6), ((HB.out.cell (World.block_lt_of_cell? w _ hw236_7)).trans hw236_7), ((HB.out.cell (World.block_lt_of_cell? w _ hw236_8)).trans hw236_8), ((HB.out.cell (World.block_lt_of_cell? w _ hw236_9)).trans hw236_9), ((HB.out.cell (World.block_lt_of_cell? w _ hw236_10)).trans hw236_10), ((HB.out.cell (World.block_lt_of_cell? w _ hw236_11)).trans hw236_11), ((HB.out.cell (World.block_lt_of_cell? w _ hw236_12)).trans hw236_12)⟩ (fun hHeld => ?_); refine with_tabW laws_eqTaskS.tab6 laws_eqTaskS.bits6 (fun HT_ HW_ => ?_)
                generalize wr.drew = w9 at HB HR235_10 HR235_3 HR235_8 HR235_9 HR236_10 HR236_3 HR236_8 HR236_9 hx235_0 hx235_1 hx235_10 hx235_11 hx235_12 hx235_2 hx235_3 hx235_4 hx235_5 hx235_6 hx235_7 hx235_8 hx235_9 hx236_0 hx236_1 hx236_10 hx236_11 hx236_12 hx236_2 hx236_3 hx236_4 hx236_5 hx236_6 hx236_7 hx236_8 hx236_9 hHeld ⊢
                refine pure_ (i := 0) (N := some 17) (v := ?_) (a' := ?_) #[true, false, false, false, false, false, false, false, false, false] rfl rfl (any_of HT_.out (by kernel_rfl)) (fun _ _ _ h => h) (Or.inl ⟨by rfl, ?_⟩) ?_ ?_
                rotate_left
                · intro w'
                  go_simp
                  with_reducible rfl
                rotate_left
                · simp only [Act.put, List.setIfInBounds_toArray, List.set_cons_zero, List.set_cons_succ, i64_w, i32_w]
                  rfl
                refine pure_ (i := 1) (N := some 18) (v := ?_) (a' := ?_) #[true, true, false, false, false, false, false, false, false, false] rfl rfl (any_of HT_.out (by kernel_rfl)) (fun _ _ _ h => h) (Or.inl ⟨by rfl, ?_⟩) ?_ ?_
                rotate_left
                · intro w'
                  go_simp
                  with_reducible rfl
                rotate_left
                · simp only [Act.put, List.setIfInBounds_toArray, List.set_cons_zero, List.set_cons_succ, i64_w, i32_w]
                  rfl
                refine pure_ (i := 2) (N := some 19) (v := ?_) (a' := ?_) #[true, true, true, false, false, false, false, false, false, false] rfl rfl (any_of HT_.out (by kernel_rfl)) (fun _ _ _ h => h) (Or.inl ⟨by rfl, ?_⟩) ?_ ?_
                rotate_left
                · intro w'
                  go_simp
                  with_reducible rfl
                rotate_left
                · simp only [Act.put, List.setIfInBounds_toArray, List.set_cons_zero, List.set_cons_succ, i64_w, i32_w]
                  rfl
                refine pure_ (i := 4) (N := some 21) (v := ?_) (a' := ?_) #[true, true, true, false, true, false, false, false, false, false] rfl rfl (any_of HT_.out (by kernel_rfl)) (fun _ _ _ h => h) (Or.inl ⟨by rfl, ?_⟩) ?_ ?_
                rotate_left
                · intro w'
                  go_simp
                  with_reducible rfl
                rotate_left
                · simp only [Act.put, List.setIfInBounds_toArray, List.set_cons_zero, List.set_cons_succ, i64_w, i32_w]
                  rfl
                refine pure_ (i := 5) (N := some 22) (v := ?_) (a' := ?_) #[true, true, true, false, true, true, false, false, false, false] rfl rfl (any_of HT_.out (by kernel_rfl)) (fun _ _ _ h => h) (Or.inl ⟨by rfl, ?_⟩) ?_ ?_
                rotate_left
                · intro w'
                  go_simp
                  with_reducible rfl
                rotate_left
                · simp only [Act.put, List.setIfInBounds_toArray, List.set_cons_zero, List.set_cons_succ, i64_w, i32_w]
                  rfl
                refine pure_ (i := 6) (N := some 23) (v := ?_) (a' := ?_) #[true, true, true, false, true, true, true, false, false, false] rfl rfl (any_of HT_.out (by kernel_rfl)) (fun _ _ _ h => h) (Or.inl ⟨by rfl, ?_⟩) ?_ ?_
                rotate_left
                · intro w'
                  go_simp
                  with_reducible rfl
                rotate_left
                · simp only [Act.put, List.setIfInBounds_toArray, List.set_cons_zero, List.set_cons_succ, i64_w, i32_w]
                  rfl
                refine take_ (i := 3) (N := some 20) (v := ?_) (a' := ?_) #[true, true, true, true, true, true, true, false, false, false] rfl rfl (take_ofW HT_.out HW_.out (by kernel_rfl)) (fun _ _ _ h => h) (Or.inl ⟨by rfl, ?_⟩) hHeld ?_ ?_
                rotate_left
                · rintro w' ⟨s0, s1, s2, s3, s4, s5, s6, s7, s8, s9, s10, s11, s12, s13, s14, s15, s16, s17, s18, s19, s20, s21, s22, s23, s24, s25⟩
                  go_simp
                  with_reducible rfl
                rotate_left
                · simp only [Act.put, List.setIfInBounds_toArray, List.set_cons_zero, List.set_cons_succ, i64_w, i32_w]
                  rfl
                refine take_ (i := 7) (N := some 24) (v := ?_) (a' := ?_) #[true, true, true, true, true, true, true, true, false, false] rfl rfl (take_ofW HT_.out HW_.out (by kernel_rfl)) (fun _ _ _ h => h) (Or.inl ⟨by rfl, ?_⟩) hHeld ?_ ?_
                rotate_left
                · rintro w' ⟨s0, s1, s2, s3, s4, s5, s6, s7, s8, s9, s10, s11, s12, s13, s14, s15, s16, s17, s18, s19, s20, s21, s22, s23, s24, s25⟩
                  go_simp
                  with_reducible rfl
                rotate_left
                · simp only [Act.put, List.setIfInBounds_toArray, List.set_cons_zero, List.set_cons_succ, i64_w, i32_w]
                  rfl
                refine one_ (i := 8) (N := some 25) #[true, true, true, true, true, true, true, true, true, false] rfl rfl (one_of HT_.out (by kernel_rfl)) (by decide) (fun K hK => ?_)
                refine goes_ Try.func71 (by kernel_rfl) rfl #[.agg #[.int .i64 ((rd_T72 l0 x5_1).f0), .int .i64 ((rd_T72 l0 x5_1).f1), .int .i64 ((rd_T72 l0 x5_1).f2), .slice A235_3 ((rd_T72 l0 x5_1).f3).length c235_3, .int .i64 ((rd_T72 l0 x5_1).f4), .int .i64 ((rd_T72 l0 x5_1).f5), .int .i64 ((rd_T72 l0 x5_1).f6), .int .i64 ((rd_T72 l0 x5_1).f7), .slice A235_8 ((rd_T72 l0 x5_1).f8).length c235_8, .slice A235_9 ((rd_T72 l0 x5_1).f9).length c235_9, .slice A235_10 ((rd_T72 l0 x5_1).f10).length c235_10, .int .i64 ((rd_T72 l0 x5_1).f11), .int .i64 ((rd_T72 l0 x5_1).f12)], .agg #[.int .i64 ((rd_T72 l1 x5_1).f0), .int .i64 ((rd_T72 l1 x5_1).f1), .int .i64 ((rd_T72 l1 x5_1).f2), .slice A236_3 ((rd_T72 l1 x5_1).f3).length c236_3, .int .i64 ((rd_T72 l1 x5_1).f4), .int .i64 ((rd_T72 l1 x5_1).f5), .int .i64 ((rd_T72 l1 x5_1).f6), .int .i64 ((rd_T72 l1 x5_1).f7), .slice A236_8 ((rd_T72 l1 x5_1).f8).length c236_8, .slice A236_9 ((rd_T72 l1 x5_1).f9).length c236_9, .slice A236_10 ((rd_T72 l1 x5_1).f10).length c236_10, .int .i64 ((rd_T72 l1 x5_1).f11), .int .i64 ((rd_T72 l1 x5_1).f12)]] (by rfl) rfl rfl (by (try simp only [List.map_toArray, List.map_cons, List.map_nil]); first | done | rfl | (simp only [List.length_drop, List.length_take]; rfl)) ?_
                with_reducible refine (laws_eqTask.calls k1 ((rd_T72 l0 x5_1).f0) ((rd_T72 l0 x5_1).f1) ((rd_T72 l0 x5_1).f2) _ _ ((rd_T72 l0 x5_1).f3) ((rd_T72 l0 x5_1).f4) ((rd_T72 l0 x5_1).f5) ((rd_T72 l0 x5_1).f6) ((rd_T72 l0 x5_1).f7) _ _ ((rd_T72 l0 x5_1).f8) _ _ ((rd_T72 l0 x5_1).f9) _ _ ((rd_T72 l0 x5_1).f10) ((rd_T72 l0 x5_1).f11) ((rd_T72 l0 x5_1).f12) ((rd_T72 l1 x5_1).f0) ((rd_T72 l1 x5_1).f1) ((rd_T72 l1 x5_1).f2) _ _ ((rd_T72 l1 x5_1).f3) ((rd_T72 l1 x5_1).f4) ((rd_T72 l1 x5_1).f5) ((rd_T72 l1 x5_1).f6) ((rd_T72 l1 x5_1).f7) _ _ ((rd_T72 l1 x5_1).f8) _ _ ((rd_T72 l1 x5_1).f9) _ _ ((rd_T72 l1 x5_1).f10) ((rd_T72 l1 x5_1).f11) ((rd_T72 l1 x5_1).f12) true _ ?side1 ?side2 ?side3 ?side4 ?side5 ?side6 ?side7 ?side8 ?side9 ?side10 ?side11 ?side12 ?side13 ?side14 ?side15 ?side16 A7.out).mono ?_
                (case side1 => repeat (first | exact (Kd.C_below HR235_3.out HB.out) | (with_reducible refine Kd.C_alloc ?_ _) | (with_reducible refine Kd.C_drewN ?_ _) | (with_reducible refine Kd.C_drew ?_)))
                (case side2 => exact HC235_3.out)
                (case side3 => repeat (first | exact (Kd.C_below HR235_8.out HB.out) | (with_reducible refine Kd.C_alloc ?_ _) | (with_reducible refine Kd.C_drewN ?_ _) | (with_reducible refine Kd.C_drew ?_)))
                (case side4 => exact HC235_8.out)
                (case side5 => repeat (first | exact (Kd.C_below HR235_9.out HB.out) | (with_reducible refine Kd.C_alloc ?_ _) | (with_reducible refine Kd.C_drewN ?_ _) | (with_reducible refine Kd.C_drew ?_)))
                (case side6 => exact HC235_9.out)
                (case side7 => repeat (first | exact (Kd.C_below HR235_10.out HB.out) | (with_reducible refine Kd.C_alloc ?_ _) | (with_reducible refine Kd.C_drewN ?_ _) | (with_reducible refine Kd.C_drew ?_)))
                (case side8 => exact HC235_10.out)
                (case side9 => repeat (first | exact (Kd.C_below HR236_3.out HB.out) | (with_reducible refine Kd.C_alloc ?_ _) | (with_reducible refine Kd.C_drewN ?_ _) | (with_reducible refine Kd.C_drew ?_)))
                (case side10 => exact HC236_3.out)
                (case side11 => repeat (first | exact (Kd.C_below HR236_8.out HB.out) | (with_reducible refine Kd.C_alloc ?_ _) | (with_reducible refine Kd.C_drewN ?_ _) | (with_reducible refine Kd.C_drew ?_)))
                (case side12 => exact HC236_8.out)
                (case side13 => repeat (first | exact (Kd.C_below HR236_9.out HB.out) | (with_reducible refine Kd.C_alloc ?_ _) | (with_reducible refine Kd.C_drewN ?_ _) | (with_reducible refine Kd.C_drew ?_)))
                (case side14 => exact HC236_9.out)
                (case side15 => repeat (first | exact (Kd.C_below HR236_10.out HB.out) | (with_reducible refine Kd.C_alloc ?_ _) | (with_reducible refine Kd.C_drewN ?_ _) | (with_reducible refine Kd.C_drew ?_)))
                (case side16 => exact HC236_10.out)
                rintro e w10 ⟨rfl, hb⟩
                refine ⟨_, rfl, ?_⟩
                have n0_ := Aside0.mk (below_step (by repeat (first | (with_reducible first | exact HB.out | apply below_alloc | apply pw_below_drewN | apply below_drew1) | exact HB.out)) hb)
                clear HB
                have HB := n0_
                clear n0_
                (try clear hb)
                (try clear hb2)
                (try clear hk)
                (try clear hi)
                refine hK.out _ _ ⟨((HB.out.cell (World.block_lt_of_cell? w _ hw235_0)).trans hw235_0), ((HB.out.cell (World.block_lt_of_cell? w _ hw235_1)).trans hw235_1), ((HB.out.cell (World.block_lt_of_cell? w _ hw235_2)).trans hw235_2), ((HB.out.cell (World.block_lt_of_cell? w _ hw235_3)).trans hw235_3), ((HB.out.cell (World.block_lt_of_cell? w _ hw235_4)).trans hw235_4), ((HB.out.cell (World.block_lt_of_cell? w _ hw235_5)).trans hw235_5), ((HB.out.cell (World.block_lt_of_cell? w _ hw235_6)).trans hw235_6), ((HB.out.cell (World.block_lt_of_cell? w _ hw235_7)).trans hw235_7), ((HB.out.cell (World.block_lt_of_cell? w _ hw235_8)).trans hw235_8), ((HB.out.cell (World.block_lt_of_cell? w _ hw235_9)).trans hw235_9), ((HB.out.cell (World.block_lt_of_cell? w _ hw235_10)).trans hw235_10), ((HB.out.cell (World.block_lt_of_cell? w _ hw235_11)).trans hw235_11), ((HB.out.cell (World.block_lt_of_cell? w _ hw235_12)).trans hw235_12), ((HB.out.cell (World.block_lt_of_cell? w _ hw236_0)).trans hw236_0), ((HB.out.cell (World.block_lt_of_cell? w _ hw236_1)).trans hw236_1), ((HB.out.cell (World.block_lt_of_cell? w _ hw236_2)).trans hw236_2), ((HB.out.cell (World.block_lt_of_cell? w _ hw236_3)).trans hw236_3), ((HB.out.cell (World.block_lt_of_cell? w _ hw236_4)).trans hw236_4), ((HB.out.cell (World.block_lt_of_cell? w _ hw236_5)).trans hw236_5), ((HB.out.cell (World.block_lt_of_cell? w _ hw236_6)).trans hw236_6), ((HB.out.cell (World.block_lt_of_cell? w _ hw236_7)).trans hw236_7), ((HB.out.cell (World.block_lt_of_cell? w _ hw236_8)).trans hw236_8), ((HB.out.cell (World.block_lt_of_cell? w _ hw236_9)).trans hw236_9), ((HB.out.cell (World.block_lt_of_cell? w _ hw236_10)).trans hw236_10), ((HB.out.cell (World.block_lt_of_cell? w _ hw236_11)).trans hw236_11), ((HB.out.cell (World.block_lt_of_cell? w _ hw236_12)).trans hw236_12)⟩ (fun hHeld => ?_)
                clear hK K
                refine norm_ (a' := ?_) ?_ ?_
                rotate_left
                · show Act.put _ (some 25) _ = _
                  simp only [Act.put, List.setIfInBounds_toArray, List.set_cons_zero, List.set_cons_succ, i64_w, i32_w]
                  rfl
                refine pure_ (i := 9) (N := some 26) (v := ?_) (a' := ?_) #[true, true, true, true, true, true, true, true, true, true] rfl rfl (any_of HT_.out (by kernel_rfl)) (fun _ _ _ h => h) (Or.inl ⟨by rfl, ?_⟩) ?_ ?_
                rotate_left
                · intro w'
                  go_simp
                  with_reducible rfl
                rotate_left
                · simp only [Act.put, List.setIfInBounds_toArray, List.set_cons_zero, List.set_cons_succ, i64_w, i32_w]
                  rfl
                refine done_ (done_of HT_.out (by kernel_rfl)) ?_
                try go_wp2
                go_roundg k1
                case measure => have := HK1.out; omega
                case rel => exact ⟨(wrap64 (x5_1 + 1)), (by first | rfl | (simp; done) | (simp [*]; done)), H', ⟨by have := HK1.out; omega⟩, ⟨by repeat (first | (with_reducible first | exact HB.out | apply below_alloc | apply pw_below_drewN | apply below_drew1) | exact HB.out)⟩⟩
              · replace c8 := Bool.eq_false_iff.mpr c8
                subst c8
                have H1 : (some false) = some r := by rw [if_neg (show ¬ (false = true) by decide)] at H; exact H
                clear H
                have H := H1
                clear H1
                obtain rfl := Option.some.inj H
                try go_wp2
                have n0_ := Aside0.mk (below_drew1 HB.out)
                clear HB
                have HB := n0_
                clear n0_
                have p235 : 0 ≤ (x5_1 : Int) := of_decide_eq_true (by first | (with_reducible assumption) | assumption)
                have q235 : x5_1 < (l0.length : Int) := of_decide_eq_true (by first | (with_reducible assumption) | assumption)
                obtain ⟨ad235, A235_3, c235_3, A235_8, c235_8, A235_9, c235_9, A235_10, c235_10, e235, hx235_0, hx235_1, hx235_2, hx235_3, hx235_4, hx235_5, hx235_6, hx235_7, hx235_8, hx235_9, hx235_10, hx235_11, hx235_12, hl235_3, hi235_3, hl235_8, hi235_8, hl235_9, hi235_9, hl235_10, hi235_10⟩ := at_T72 HR0.out x5_1 p235 q235
                have hw235_12 := hx235_12
                have hw235_11 := hx235_11
                have hw235_10 := hx235_10
                have hw235_9 := hx235_9
                have hw235_8 := hx235_8
                have hw235_7 := hx235_7
                have hw235_6 := hx235_6
                have hw235_5 := hx235_5
                have hw235_4 := hx235_4
                have hw235_3 := hx235_3
                have hw235_2 := hx235_2
                have hw235_1 := hx235_1
                have hw235_0 := hx235_0
                cases e235
                replace hx235_0 := (HB.out.cell (World.block_lt_of_cell? w _ hx235_0)).trans hx235_0
                replace hx235_1 := (HB.out.cell (World.block_lt_of_cell? w _ hx235_1)).trans hx235_1
                replace hx235_2 := (HB.out.cell (World.block_lt_of_cell? w _ hx235_2)).trans hx235_2
                replace hx235_3 := (HB.out.cell (World.block_lt_of_cell? w _ hx235_3)).trans hx235_3
                replace hx235_4 := (HB.out.cell (World.block_lt_of_cell? w _ hx235_4)).trans hx235_4
                replace hx235_5 := (HB.out.cell (World.block_lt_of_cell? w _ hx235_5)).trans hx235_5
                replace hx235_6 := (HB.out.cell (World.block_lt_of_cell? w _ hx235_6)).trans hx235_6
                replace hx235_7 := (HB.out.cell (World.block_lt_of_cell? w _ hx235_7)).trans hx235_7
                replace hx235_8 := (HB.out.cell (World.block_lt_of_cell? w _ hx235_8)).trans hx235_8
                replace hx235_9 := (HB.out.cell (World.block_lt_of_cell? w _ hx235_9)).trans hx235_9
                replace hx235_10 := (HB.out.cell (World.block_lt_of_cell? w _ hx235_10)).trans hx235_10
                replace hx235_11 := (HB.out.cell (World.block_lt_of_cell? w _ hx235_11)).trans hx235_11
                replace hx235_12 := (HB.out.cell (World.block_lt_of_cell? w _ hx235_12)).trans hx235_12
                have HR235_3 := Aside0.mk hi235_3
                have HC235_3 := Aside0.mk hl235_3
                clear hi235_3 hl235_3
                have HR235_8 := Aside0.mk hi235_8
                have HC235_8 := Aside0.mk hl235_8
                clear hi235_8 hl235_8
                have HR235_9 := Aside0.mk hi235_9
                have HC235_9 := Aside0.mk hl235_9
                clear hi235_9 hl235_9
                have HR235_10 := Aside0.mk hi235_10
                have HC235_10 := Aside0.mk hl235_10
                clear hi235_10 hl235_10
                replace p235 := eq_true p235
                replace q235 := eq_true q235
                have p236 : 0 ≤ (x5_1 : Int) := of_decide_eq_true (by first | (with_reducible assumption) | assumption)
                have q236 : x5_1 < (l1.length : Int) := of_decide_eq_true (by first | (with_reducible assumption) | assumption)
                obtain ⟨ad236, A236_3, c236_3, A236_8, c236_8, A236_9, c236_9, A236_10, c236_10, e236, hx236_0, hx236_1, hx236_2, hx236_3, hx236_4, hx236_5, hx236_6, hx236_7, hx236_8, hx236_9, hx236_10, hx236_11, hx236_12, hl236_3, hi236_3, hl236_8, hi236_8, hl236_9, hi236_9, hl236_10, hi236_10⟩ := at_T72 HR1.out x5_1 p236 q236
                have hw236_12 := hx236_12
                have hw236_11 := hx236_11
                have hw236_10 := hx236_10
                have hw236_9 := hx236_9
                have hw236_8 := hx236_8
                have hw236_7 := hx236_7
                have hw236_6 := hx236_6
                have hw236_5 := hx236_5
                have hw236_4 := hx236_4
                have hw236_3 := hx236_3
                have hw236_2 := hx236_2
                have hw236_1 := hx236_1
                have hw236_0 := hx236_0
                cases e236
                replace hx236_0 := (HB.out.cell (World.block_lt_of_cell? w _ hx236_0)).trans hx236_0
                replace hx236_1 := (HB.out.cell (World.block_lt_of_cell? w _ hx236_1)).trans hx236_1
                replace hx236_2 := (HB.out.cell (World.block_lt_of_cell? w _ hx236_2)).trans hx236_2
                replace hx236_3 := (HB.out.cell (World.block_lt_of_cell? w _ hx236_3)).trans hx236_3
                replace hx236_4 := (HB.out.cell (World.block_lt_of_cell? w _ hx236_4)).trans hx236_4
                replace hx236_5 := (HB.out.cell (World.block_lt_of_cell? w _ hx236_5)).trans hx236_5
                replace hx236_6 := (HB.out.cell (World.block_lt_of_cell? w _ hx236_6)).trans hx236_6
                replace hx236_7 := (HB.out.cell (World.block_lt_of_cell? w _ hx236_7)).trans hx236_7
                replace hx236_8 := (HB.out.cell (World.block_lt_of_cell? w _ hx236_8)).trans hx236_8
                replace hx236_9 := (HB.out.cell (World.block_lt_of_cell? w _ hx236_9)).trans hx236_9
                replace hx236_10 := (HB.out.cell (World.block_lt_of_cell? w _ hx236_10)).trans hx236_10
                replace hx236_11 := (HB.out.cell (World.block_lt_of_cell? w _ hx236_11)).trans hx236_11
                replace hx236_12 := (HB.out.cell (World.block_lt_of_cell? w _ hx236_12)).trans hx236_12
                have HR236_3 := Aside0.mk hi236_3
                have HC236_3 := Aside0.mk hl236_3
                clear hi236_3 hl236_3
                have HR236_8 := Aside0.mk hi236_8
                have HC236_8 := Aside0.mk hl236_8
                clear hi236_8 hl236_8
                have HR236_9 := Aside0.mk hi236_9
                have HC236_9 := Aside0.mk hl236_9
                clear hi236_9 hl236_9
                have HR236_10 := Aside0.mk hi236_10
                have HC236_10 := Aside0.mk hl236_10
                clear hi236_10 hl236_10
                replace p236 := eq_true p236
                replace q236 := eq_true q236
                refine start_ (n := 10) (S := fun w' => w'.cell? (ad235.add ((x5_1).toNat * 13)) = some (.int .i64 ((rd_T72 l0 x5_1).f0)) ∧ w'.cell? ⟨(ad235.add ((x5_1).toNat * 13)).block, (ad235.add ((x5_1).toNat * 13)).off + 1, none⟩ = some (.int .i64 ((rd_T72 l0 x5_1).f1)) ∧ w'.cell? ⟨(ad235.add ((x5_1).toNat * 13)).block, (ad235.add ((x5_1).toNat * 13)).off + 2, none⟩ = some (.int .i64 ((rd_T72 l0 x5_1).f2)) ∧ w'.cell? ⟨(ad235.add ((x5_1).toNat * 13)).block, (ad235.add ((x5_1).toNat * 13)).off + 3, none⟩ = some (.slice A235_3 ((rd_T72 l0 x5_1).f3).length c235_3) ∧ w'.cell? ⟨(ad235.add ((x5_1).toNat * 13)).block, (ad235.add ((x5_1).toNat * 13)).off + 4, none⟩ = some (.int .i64 ((rd_T72 l0 x5_1).f4)) ∧ w'.cell? ⟨(ad235.add ((x5_1).toNat * 13)).block, (ad235.add ((x5_1).toNat * 13)).off + 5, none⟩ = some (.int .i64 ((rd_T72 l0 x5_1).f5)) ∧ w'.cell? ⟨(ad235.add ((x5_1).toNat * 13)).block, (ad235.add ((x5_1).toNat * 13)).off + 6, none⟩ = some (.int .i64 ((rd_T72 l0 x5_1).f6)) ∧ w'.cell? ⟨(ad235.add ((x5_1).toNat * 13)).block, (ad235.add ((x5_1).toNat * 13)).off + 7, none⟩ = some (.int .i64 ((rd_T72 l0 x5_1).f7)) ∧ w'.cell? ⟨(ad235.add ((x5_1).toNat * 13)).block, (ad235.add ((x5_1).toNat * 13)).off + 8, none⟩ = some (.slice A235_8 ((rd_T72 l0 x5_1).f8).length c235_8) ∧ w'.cell? ⟨(ad235.add ((x5_1).toNat * 13)).block, (ad235.add ((x5_1).toNat * 13)).off + 9, none⟩ = some (.slice A235_9 ((rd_T72 l0 x5_1).f9).length c235_9) ∧ w'.cell? ⟨(ad235.add ((x5_1).toNat * 13)).block, (ad235.add ((x5_1).toNat * 13)).off + 10, none⟩ = some (.slice A235_10 ((rd_T72 l0 x5_1).f10).length c235_10) ∧ w'.cell? ⟨(ad235.add ((x5_1).toNat * 13)).block, (ad235.add ((x5_1).toNat * 13)).off + 11, none⟩ = some (.int .i64 ((rd_T72 l0 x5_1).f11)) ∧ w'.cell? ⟨(ad235.add ((x5_1).toNat * 13)).block, (ad235.add ((x5_1).toNat * 13)).off + 12, none⟩ = some (.int .i64 ((rd_T72 l0 x5_1).f12)) ∧ w'.cell? (ad236.add ((x5_1).toNat * 13)) = some (.int .i64 ((rd_T72 l1 x5_1).f0)) ∧ w'.cell? ⟨(ad236.add ((x5_1).toNat * 13)).block, (ad236.add ((x5_1).toNat * 13)).off + 1, none⟩ = some (.int .i64 ((rd_T72 l1 x5_1).f1)) ∧ w'.cell? ⟨(ad236.add ((x5_1).toNat * 13)).block, (ad236.add ((x5_1).toNat * 13)).off + 2, none⟩ = some (.int .i64 ((rd_T72 l1 x5_1).f2)) ∧ w'.cell? ⟨(ad236.add ((x5_1).toNat * 13)).block, (ad236.add ((x5_1).toNat * 13)).off + 3, none⟩ = some (.slice A236_3 ((rd_T72 l1 x5_1).f3).length c236_3) ∧ w'.cell? ⟨(ad236.add ((x5_1).toNat * 13)).block, (ad236.add ((x5_1).toNat * 13)).off + 4, none⟩ = some (.int .i64 ((rd_T72 l1 x5_1).f4)) ∧ w'.cell? ⟨(ad236.add ((x5_1).toNat * 13)).block, (ad236.add ((x5_1).toNat * 13)).off + 5, none⟩ = some (.int .i64 ((rd_T72 l1 x5_1).f5)) ∧ w'.cell? ⟨(ad236.add ((x5_1).toNat * 13)).block, (ad236.add ((x5_1).toNat * 13)).off + 6, none⟩ = some (.int .i64 ((rd_T72 l1 x5_1).f6)) ∧ w'.cell? ⟨(ad236.add ((x5_1).toNat * 13)).block, (ad236.add ((x5_1).toNat * 13)).off + 7, none⟩ = some (.int .i64 ((rd_T72 l1 x5_1).f7)) ∧ w'.cell? ⟨(ad236.add ((x5_1).toNat * 13)).block, (ad236.add ((x5_1).toNat * 13)).off + 8, none⟩ = some (.slice A236_8 ((rd_T72 l1 x5_1).f8).length c236_8) ∧ w'.cell? ⟨(ad236.add ((x5_1).toNat * 13)).block, (ad236.add ((x5_1).toNat * 13)).off + 9, none⟩ = some (.slice A236_9 ((rd_T72 l1 x5_1).f9).length c236_9) ∧ w'.cell? ⟨(ad236.add ((x5_1).toNat * 13)).block, (ad236.add ((x5_1).toNat * 13)).off + 10, none⟩ = some (.slice A236_10 ((rd_T72 l1 x5_1).f10).length c236_10) ∧ w'.cell? ⟨(ad236.add ((x5_1).toNat * 13)).block, (ad236.add ((x5_1).toNat * 13)).off + 11, none⟩ = some (.int .i64 ((rd_T72 l1 x5_1).f11)) ∧ w'.cell? ⟨(ad236.add ((x5_1).toNat * 13)).block, (ad236.add ((x5_1).toNat * 13)).off + 12, none⟩ = some (.int .i64 ((rd_T72 l1 x5_1).f12))) (ds := []) #[false, false, false, false, false, false, false, false, false, false] (by kernel_rfl) rfl rfl ⟨((HB.out.cell (World.block_lt_of_cell? w _ hw235_0)).trans hw235_0), ((HB.out.cell (World.block_lt_of_cell? w _ hw235_1)).trans hw235_1), ((HB.out.cell (World.block_lt_of_cell? w _ hw235_2)).trans hw235_2), ((HB.out.cell (World.block_lt_of_cell? w _ hw235_3)).trans hw235_3), ((HB.out.cell (World.block_lt_of_cell? w _ hw235_4)).trans hw235_4), ((HB.out.cell (World.block_lt_of_cell? w _ hw235_5)).trans hw235_5), ((HB.out.cell (World.block_lt_of_cell? w _ hw235_6)).trans hw235_6), ((HB.out.cell (World.block_lt_of_cell? w _ hw235_7)).trans hw235_7), ((HB.out.cell (World.block_lt_of_cell? w _ hw235_8)).trans hw235_8), ((HB.out.cell (World.block_lt_of_cell? w _ hw235_9)).trans hw235_9), ((HB.out.cell (World.block_lt_of_cell? w _ hw235_10)).trans hw235_10), ((HB.out.cell (World.block_lt_of_cell? w _ hw235_11)).trans hw235_11), ((HB.out.cell (World.block_lt_of_cell? w _ hw235_12)).trans hw235_12), ((HB.out.cell (World.block_lt_of_cell? w _ hw236_0)).trans hw236_0), ((HB.out.cell (World.block_lt_of_cell? w _ hw236_1)).trans hw236_1), ((HB.out.cell (World.block_lt_of_cell? w _ hw236_2)).trans hw236_2), ((HB.out.cell (World.block_lt_of_cell? w _ hw236_3)).trans hw236_3), ((HB.out.cell (World.block_lt_of_cell? w _ hw236_4)).trans hw236_4), ((HB.out.cell (World.block_lt_of_cell? w _ hw236_5)).trans hw236_5), ((HB.out.cell (World.block_lt_of_cell? w _ hw236_6)).trans hw236_6), ((HB.out.cell (World.block_lt_of_cell? w _ hw236_7)).trans hw236_7), ((HB.out.cell (World.block_lt_of_cell? w _ hw236_8)).trans hw236_8), ((HB.out.cell (World.block_lt_of_cell? w _ hw236_9)).trans hw236_9), ((HB.out.cell (World.block_lt_of_cell? w _ hw236_10)).trans hw236_10), ((HB.out.cell (World.block_lt_of_cell? w _ hw236_11)).trans hw236_11), ((HB.out.cell (World.block_lt_of_cell? w _ hw236_12)).trans hw236_12)⟩ (fun hHeld => ?_); refine with_tabW laws_eqTaskS.tab6 laws_eqTaskS.bits6 (fun HT_ HW_ => ?_)
                generalize wr.drew = w11 at HB HR235_10 HR235_3 HR235_8 HR235_9 HR236_10 HR236_3 HR236_8 HR236_9 hx235_0 hx235_1 hx235_10 hx235_11 hx235_12 hx235_2 hx235_3 hx235_4 hx235_5 hx235_6 hx235_7 hx235_8 hx235_9 hx236_0 hx236_1 hx236_10 hx236_11 hx236_12 hx236_2 hx236_3 hx236_4 hx236_5 hx236_6 hx236_7 hx236_8 hx236_9 hHeld ⊢
                refine pure_ (i := 0) (N := some 17) (v := ?_) (a' := ?_) #[true, false, false, false, false, false, false, false, false, false] rfl rfl (any_of HT_.out (by kernel_rfl)) (fun _ _ _ h => h) (Or.inl ⟨by rfl, ?_⟩) ?_ ?_
                rotate_left
                · intro w'
                  go_simp
                  with_reducible rfl
                rotate_left
                · simp only [Act.put, List.setIfInBounds_toArray, List.set_cons_zero, List.set_cons_succ, i64_w, i32_w]
                  rfl
                refine pure_ (i := 1) (N := some 18) (v := ?_) (a' := ?_) #[true, true, false, false, false, false, false, false, false, false] rfl rfl (any_of HT_.out (by kernel_rfl)) (fun _ _ _ h => h) (Or.inl ⟨by rfl, ?_⟩) ?_ ?_
                rotate_left
                · intro w'
                  go_simp
                  with_reducible rfl
                rotate_left
                · simp only [Act.put, List.setIfInBounds_toArray, List.set_cons_zero, List.set_cons_succ, i64_w, i32_w]
                  rfl
                refine pure_ (i := 2) (N := some 19) (v := ?_) (a' := ?_) #[true, true, true, false, false, false, false, false, false, false] rfl rfl (any_of HT_.out (by kernel_rfl)) (fun _ _ _ h => h) (Or.inl ⟨by rfl, ?_⟩) ?_ ?_
                rotate_left
                · intro w'
                  go_simp
                  with_reducible rfl
                rotate_left
                · simp only [Act.put, List.setIfInBounds_toArray, List.set_cons_zero, List.set_cons_succ, i64_w, i32_w]
                  rfl
                refine pure_ (i := 4) (N := some 21) (v := ?_) (a' := ?_) #[true, true, true, false, true, false, false, false, false, false] rfl rfl (any_of HT_.out (by kernel_rfl)) (fun _ _ _ h => h) (Or.inl ⟨by rfl, ?_⟩) ?_ ?_
                rotate_left
                · intro w'
                  go_simp
                  with_reducible rfl
                rotate_left
                · simp only [Act.put, List.setIfInBounds_toArray, List.set_cons_zero, List.set_cons_succ, i64_w, i32_w]
                  rfl
                refine pure_ (i := 5) (N := some 22) (v := ?_) (a' := ?_) #[true, true, true, false, true, true, false, false, false, false] rfl rfl (any_of HT_.out (by kernel_rfl)) (fun _ _ _ h => h) (Or.inl ⟨by rfl, ?_⟩) ?_ ?_
                rotate_left
                · intro w'
                  go_simp
                  with_reducible rfl
                rotate_left
                · simp only [Act.put, List.setIfInBounds_toArray, List.set_cons_zero, List.set_cons_succ, i64_w, i32_w]
                  rfl
                refine pure_ (i := 6) (N := some 23) (v := ?_) (a' := ?_) #[true, true, true, false, true, true, true, false, false, false] rfl rfl (any_of HT_.out (by kernel_rfl)) (fun _ _ _ h => h) (Or.inl ⟨by rfl, ?_⟩) ?_ ?_
                rotate_left
                · intro w'
                  go_simp
                  with_reducible rfl
                rotate_left
                · simp only [Act.put, List.setIfInBounds_toArray, List.set_cons_zero, List.set_cons_succ, i64_w, i32_w]
                  rfl
                refine take_ (i := 3) (N := some 20) (v := ?_) (a' := ?_) #[true, true, true, true, true, true, true, false, false, false] rfl rfl (take_ofW HT_.out HW_.out (by kernel_rfl)) (fun _ _ _ h => h) (Or.inl ⟨by rfl, ?_⟩) hHeld ?_ ?_
                rotate_left
                · rintro w' ⟨s0, s1, s2, s3, s4, s5, s6, s7, s8, s9, s10, s11, s12, s13, s14, s15, s16, s17, s18, s19, s20, s21, s22, s23, s24, s25⟩
                  go_simp
                  with_reducible rfl
                rotate_left
                · simp only [Act.put, List.setIfInBounds_toArray, List.set_cons_zero, List.set_cons_succ, i64_w, i32_w]
                  rfl
                refine take_ (i := 7) (N := some 24) (v := ?_) (a' := ?_) #[true, true, true, true, true, true, true, true, false, false] rfl rfl (take_ofW HT_.out HW_.out (by kernel_rfl)) (fun _ _ _ h => h) (Or.inl ⟨by rfl, ?_⟩) hHeld ?_ ?_
                rotate_left
                · rintro w' ⟨s0, s1, s2, s3, s4, s5, s6, s7, s8, s9, s10, s11, s12, s13, s14, s15, s16, s17, s18, s19, s20, s21, s22, s23, s24, s25⟩
                  go_simp
                  with_reducible rfl
                rotate_left
                · simp only [Act.put, List.setIfInBounds_toArray, List.set_cons_zero, List.set_cons_succ, i64_w, i32_w]
                  rfl
                refine one_ (i := 8) (N := some 25) #[true, true, true, true, true, true, true, true, true, false] rfl rfl (one_of HT_.out (by kernel_rfl)) (by decide) (fun K hK => ?_)
                refine goes_ Try.func71 (by kernel_rfl) rfl #[.agg #[.int .i64 ((rd_T72 l0 x5_1).f0), .int .i64 ((rd_T72 l0 x5_1).f1), .int .i64 ((rd_T72 l0 x5_1).f2), .slice A235_3 ((rd_T72 l0 x5_1).f3).length c235_3, .int .i64 ((rd_T72 l0 x5_1).f4), .int .i64 ((rd_T72 l0 x5_1).f5), .int .i64 ((rd_T72 l0 x5_1).f6), .int .i64 ((rd_T72 l0 x5_1).f7), .slice A235_8 ((rd_T72 l0 x5_1).f8).length c235_8, .slice A235_9 ((rd_T72 l0 x5_1).f9).length c235_9, .slice A235_10 ((rd_T72 l0 x5_1).f10).length c235_10, .int .i64 ((rd_T72 l0 x5_1).f11), .int .i64 ((rd_T72 l0 x5_1).f12)], .agg #[.int .i64 ((rd_T72 l1 x5_1).f0), .int .i64 ((rd_T72 l1 x5_1).f1), .int .i64 ((rd_T72 l1 x5_1).f2), .slice A236_3 ((rd_T72 l1 x5_1).f3).length c236_3, .int .i64 ((rd_T72 l1 x5_1).f4), .int .i64 ((rd_T72 l1 x5_1).f5), .int .i64 ((rd_T72 l1 x5_1).f6), .int .i64 ((rd_T72 l1 x5_1).f7), .slice A236_8 ((rd_T72 l1 x5_1).f8).length c236_8, .slice A236_9 ((rd_T72 l1 x5_1).f9).length c236_9, .slice A236_10 ((rd_T72 l1 x5_1).f10).length c236_10, .int .i64 ((rd_T72 l1 x5_1).f11), .int .i64 ((rd_T72 l1 x5_1).f12)]] (by rfl) rfl rfl (by (try simp only [List.map_toArray, List.map_cons, List.map_nil]); first | done | rfl | (simp only [List.length_drop, List.length_take]; rfl)) ?_
                with_reducible refine (laws_eqTask.calls k1 ((rd_T72 l0 x5_1).f0) ((rd_T72 l0 x5_1).f1) ((rd_T72 l0 x5_1).f2) _ _ ((rd_T72 l0 x5_1).f3) ((rd_T72 l0 x5_1).f4) ((rd_T72 l0 x5_1).f5) ((rd_T72 l0 x5_1).f6) ((rd_T72 l0 x5_1).f7) _ _ ((rd_T72 l0 x5_1).f8) _ _ ((rd_T72 l0 x5_1).f9) _ _ ((rd_T72 l0 x5_1).f10) ((rd_T72 l0 x5_1).f11) ((rd_T72 l0 x5_1).f12) ((rd_T72 l1 x5_1).f0) ((rd_T72 l1 x5_1).f1) ((rd_T72 l1 x5_1).f2) _ _ ((rd_T72 l1 x5_1).f3) ((rd_T72 l1 x5_1).f4) ((rd_T72 l1 x5_1).f5) ((rd_T72 l1 x5_1).f6) ((rd_T72 l1 x5_1).f7) _ _ ((rd_T72 l1 x5_1).f8) _ _ ((rd_T72 l1 x5_1).f9) _ _ ((rd_T72 l1 x5_1).f10) ((rd_T72 l1 x5_1).f11) ((rd_T72 l1 x5_1).f12) false _ ?side1 ?side2 ?side3 ?side4 ?side5 ?side6 ?side7 ?side8 ?side9 ?side10 ?side11 ?side12 ?side13 ?side14 ?side15 ?side16 A7.out).mono ?_
                (case side1 => repeat (first | exact (Kd.C_below HR235_3.out HB.out) | (with_reducible refine Kd.C_alloc ?_ _) | (with_reducible refine Kd.C_drewN ?_ _) | (with_reducible refine Kd.C_drew ?_)))
                (case side2 => exact HC235_3.out)
                (case side3 => repeat (first | exact (Kd.C_below HR235_8.out HB.out) | (with_reducible refine Kd.C_alloc ?_ _) | (with_reducible refine Kd.C_drewN ?_ _) | (with_reducible refine Kd.C_drew ?_)))
                (case side4 => exact HC235_8.out)
                (case side5 => repeat (first | exact (Kd.C_below HR235_9.out HB.out) | (with_reducible refine Kd.C_alloc ?_ _) | (with_reducible refine Kd.C_drewN ?_ _) | (with_reducible refine Kd.C_drew ?_)))
                (case side6 => exact HC235_9.out)
                (case side7 => repeat (first | exact (Kd.C_below HR235_10.out HB.out) | (with_reducible refine Kd.C_alloc ?_ _) | (with_reducible refine Kd.C_drewN ?_ _) | (with_reducible refine Kd.C_drew ?_)))
                (case side8 => exact HC235_10.out)
                (case side9 => repeat (first | exact (Kd.C_below HR236_3.out HB.out) | (with_reducible refine Kd.C_alloc ?_ _) | (with_reducible refine Kd.C_drewN ?_ _) | (with_reducible refine Kd.C_drew ?_)))
                (case side10 => exact HC236_3.out)
                (case side11 => repeat (first | exact (Kd.C_below HR236_8.out HB.out) | (with_reducible refine Kd.C_alloc ?_ _) | (with_reducible refine Kd.C_drewN ?_ _) | (with_reducible refine Kd.C_drew ?_)))
                (case side12 => exact HC236_8.out)
                (case side13 => repeat (first | exact (Kd.C_below HR236_9.out HB.out) | (with_reducible refine Kd.C_alloc ?_ _) | (with_reducible refine Kd.C_drewN ?_ _) | (with_reducible refine Kd.C_drew ?_)))
                (case side14 => exact HC236_9.out)
                (case side15 => repeat (first | exact (Kd.C_below HR236_10.out HB.out) | (with_reducible refine Kd.C_alloc ?_ _) | (with_reducible refine Kd.C_drewN ?_ _) | (with_reducible refine Kd.C_drew ?_)))
                (case side16 => exact HC236_10.out)
                rintro e w12 ⟨rfl, hb⟩
                refine ⟨_, rfl, ?_⟩
                have n0_ := Aside0.mk (below_step (by repeat (first | (with_reducible first | exact HB.out | apply below_alloc | apply pw_below_drewN | apply below_drew1) | exact HB.out)) hb)
                clear HB
                have HB := n0_
                clear n0_
                (try clear hb)
                (try clear hb2)
                (try clear hk)
                (try clear hi)
                refine hK.out _ _ ⟨((HB.out.cell (World.block_lt_of_cell? w _ hw235_0)).trans hw235_0), ((HB.out.cell (World.block_lt_of_cell? w _ hw235_1)).trans hw235_1), ((HB.out.cell (World.block_lt_of_cell? w _ hw235_2)).trans hw235_2), ((HB.out.cell (World.block_lt_of_cell? w _ hw235_3)).trans hw235_3), ((HB.out.cell (World.block_lt_of_cell? w _ hw235_4)).trans hw235_4), ((HB.out.cell (World.block_lt_of_cell? w _ hw235_5)).trans hw235_5), ((HB.out.cell (World.block_lt_of_cell? w _ hw235_6)).trans hw235_6), ((HB.out.cell (World.block_lt_of_cell? w _ hw235_7)).trans hw235_7), ((HB.out.cell (World.block_lt_of_cell? w _ hw235_8)).trans hw235_8), ((HB.out.cell (World.block_lt_of_cell? w _ hw235_9)).trans hw235_9), ((HB.out.cell (World.block_lt_of_cell? w _ hw235_10)).trans hw235_10), ((HB.out.cell (World.block_lt_of_cell? w _ hw235_11)).trans hw235_11), ((HB.out.cell (World.block_lt_of_cell? w _ hw235_12)).trans hw235_12), ((HB.out.cell (World.block_lt_of_cell? w _ hw236_0)).trans hw236_0), ((HB.out.cell (World.block_lt_of_cell? w _ hw236_1)).trans hw236_1), ((HB.out.cell (World.block_lt_of_cell? w _ hw236_2)).trans hw236_2), ((HB.out.cell (World.block_lt_of_cell? w _ hw236_3)).trans hw236_3), ((HB.out.cell (World.block_lt_of_cell? w _ hw236_4)).trans hw236_4), ((HB.out.cell (World.block_lt_of_cell? w _ hw236_5)).trans hw236_5), ((HB.out.cell (World.block_lt_of_cell? w _ hw236_6)).trans hw236_6), ((HB.out.cell (World.block_lt_of_cell? w _ hw236_7)).trans hw236_7), ((HB.out.cell (World.block_lt_of_cell? w _ hw236_8)).trans hw236_8), ((HB.out.cell (World.block_lt_of_cell? w _ hw236_9)).trans hw236_9), ((HB.out.cell (World.block_lt_of_cell? w _ hw236_10)).trans hw236_10), ((HB.out.cell (World.block_lt_of_cell? w _ hw236_11)).trans hw236_11), ((HB.out.cell (World.block_lt_of_cell? w _ hw236_12)).trans hw236_12)⟩ (fun hHeld => ?_)
                clear hK K
                refine norm_ (a' := ?_) ?_ ?_
                rotate_left
                · show Act.put _ (some 25) _ = _
                  simp only [Act.put, List.setIfInBounds_toArray, List.set_cons_zero, List.set_cons_succ, i64_w, i32_w]
                  rfl
                refine pure_ (i := 9) (N := some 26) (v := ?_) (a' := ?_) #[true, true, true, true, true, true, true, true, true, true] rfl rfl (any_of HT_.out (by kernel_rfl)) (fun _ _ _ h => h) (Or.inl ⟨by rfl, ?_⟩) ?_ ?_
                rotate_left
                · intro w'
                  go_simp
                  with_reducible rfl
                rotate_left
                · simp only [Act.put, List.setIfInBounds_toArray, List.set_cons_zero, List.set_cons_succ, i64_w, i32_w]
                  rfl
                refine done_ (done_of HT_.out (by kernel_rfl)) ?_
                try go_wp2
                go_ret
                exact ⟨by first | rfl | (simp [errW_none, errW_some] <;> rfl) | (simp [*, errW_none, errW_some] <;> rfl), by repeat (first | (with_reducible first | exact HB.out | apply below_alloc | apply pw_below_drewN | apply below_drew1) | exact HB.out)⟩
            · rw [if_neg c6] at H
              exact absurd H (by simp)
          · rw [if_neg c5] at H
            exact absurd H (by simp)
        · rw [if_neg c4] at H
          have c4b0 : decide (x5_1 < (l0.length : Int)) = false := decide_eq_false c4
          clear c4
          obtain rfl := Option.some.inj H
          go_wp2
          go_ret
          exact ⟨by first | rfl | (simp [errW_none, errW_some] <;> rfl) | (simp [*, errW_none, errW_some] <;> rfl), by repeat (first | (with_reducible first | exact HB.out | apply below_alloc | apply pw_below_drewN | apply below_drew1) | exact HB.out)⟩
  · rw [if_neg c3] at H
    have c3b0 : ((l0.length : Int) == (l1.length : Int)) = false := beq_eq_false_iff_ne.mpr c3
    have c3b1 : ((l0.length : Int) != (l1.length : Int)) = true := bne_iff_ne.mpr c3
    have c3b2 : (l0.length == l1.length) = false := by first | simpa using c3 | (simp at c3 ⊢; omega)
    obtain rfl := Option.some.inj H
    go_enter Try.func44, Try.ntmps44
    go_wp2
    go_ret
    exact ⟨by first | rfl | (simp [errW_none, errW_some] <;> rfl) | (simp [*, errW_none, errW_some] <;> rfl), by repeat (first | (with_reducible first | exact HB.out | apply below_alloc | apply pw_below_drewN | apply below_drew1) | exact HB.out)⟩

end Go.Proofs.Ytpodhdpkdhcnoaa.QSC
