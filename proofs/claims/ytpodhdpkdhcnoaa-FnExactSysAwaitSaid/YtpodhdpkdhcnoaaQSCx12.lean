-- Written by a program of this session (wip/tools/myprint.py).
import Derived.Test.YtpodhdpkdhcnoaaQSCx0
import Derived.Test.YtpodhdpkdhcnoaaQSCx5
import Derived.Test.YtpodhdpkdhcnoaaQSCx7
import Derived.Test.YtpodhdpkdhcnoaaQSCx8
namespace Go.Proofs.Ytpodhdpkdhcnoaa.QSC
open Go.RowKit Go.Proofs.YtpodhdpkdhcnoaaW.PrintWords Go.Proofs.YtpodhdpkdhcnoaaW.PrintLast Go.Proofs.YtpodhdpkdhcnoaaW.PrintMore
attribute [local go_sem] max2_int min2_int max_two min_two max_three min_three max_four min_four   -- for this text's walks alone
set_option linter.unusedVariables false
set_option linter.unusedSimpArgs false

/-! ### laws_eqTask: function 71 -/
-- decS110 decS110
def laws_eqTask.f (k : Nat) (a0_0 : Int) (a0_1 : Int) (a0_2 : Int) (l0_3 : List Int) (a0_4 : Int) (a0_5 : Int) (a0_6 : Int) (a0_7 : Int) (l0_8 : List Int) (l0_9 : List S110) (l0_10 : List S110) (a0_11 : Int) (a0_12 : Int) (a1_0 : Int) (a1_1 : Int) (a1_2 : Int) (l1_3 : List Int) (a1_4 : Int) (a1_5 : Int) (a1_6 : Int) (a1_7 : Int) (l1_8 : List Int) (l1_9 : List S110) (l1_10 : List S110) (a1_11 : Int) (a1_12 : Int) : Option Bool := if a0_0 = a1_0 ∧ a0_1 = a1_1 ∧ a0_2 = a1_2 ∧ l0_3 = l1_3 ∧ a0_4 = a1_4 ∧ a0_5 = a1_5 ∧ a0_6 = a1_6 ∧ a0_7 = a1_7 ∧ l0_8 = l1_8 ∧ l0_9 = l1_9 ∧ l0_10 = l1_10 ∧ a0_11 = a1_11 ∧ a0_12 = a1_12 then ((laws_eqIntS.f k l0_3 l0_3).bind fun b3 => (if b3 = true then ((laws_eqIntS.f k l0_8 l0_8).bind fun b8 => (if b8 = true then ((laws_eqPutS.f k l0_9 l0_9).bind fun b9 => (if b9 = true then ((laws_eqPutS.f k l0_10 l0_10).bind fun b10 => (if b10 = true then (some true) else (none))) else (none))) else (none))) else (none))) else none
theorem laws_eqTask.mono : ∀ a0_0 a0_1 a0_2 l0_3 a0_4 a0_5 a0_6 a0_7 l0_8 l0_9 l0_10 a0_11 a0_12 a1_0 a1_1 a1_2 l1_3 a1_4 a1_5 a1_6 a1_7 l1_8 l1_9 l1_10 a1_11 a1_12 k, LeO (laws_eqTask.f k a0_0 a0_1 a0_2 l0_3 a0_4 a0_5 a0_6 a0_7 l0_8 l0_9 l0_10 a0_11 a0_12 a1_0 a1_1 a1_2 l1_3 a1_4 a1_5 a1_6 a1_7 l1_8 l1_9 l1_10 a1_11 a1_12) (laws_eqTask.f (k + 1) a0_0 a0_1 a0_2 l0_3 a0_4 a0_5 a0_6 a0_7 l0_8 l0_9 l0_10 a0_11 a0_12 a1_0 a1_1 a1_2 l1_3 a1_4 a1_5 a1_6 a1_7 l1_8 l1_9 l1_10 a1_11 a1_12) := by
  intro a0_0 a0_1 a0_2 l0_3 a0_4 a0_5 a0_6 a0_7 l0_8 l0_9 l0_10 a0_11 a0_12 a1_0 a1_1 a1_2 l1_3 a1_4 a1_5 a1_6 a1_7 l1_8 l1_9 l1_10 a1_11 a1_12 k
  unfold laws_eqTask.f
  repeat' first
      | (with_reducible exact LeO.refl _)
      | (with_reducible exact LeO.none _)
      | (with_reducible refine LeO.ite ?_ ?_)
      | (with_reducible refine LeO.bind ?_ (fun _ => ?_))
      | exact laws_eqIntS.mono _ _ _
      | exact laws_eqIntS.mono _ _ _
      | exact laws_eqPutS.mono _ _ _
      | exact laws_eqPutS.mono _ _ _
set_option maxHeartbeats 4000000 in
set_option maxRecDepth 100000 in
theorem laws_eqTask.calls (k : Nat) (a0_0 : Int) (a0_1 : Int) (a0_2 : Int) (A0_3 : Option Addr) (c0_3 : Nat) (l0_3 : List Int) (a0_4 : Int) (a0_5 : Int) (a0_6 : Int) (a0_7 : Int) (A0_8 : Option Addr) (c0_8 : Nat) (l0_8 : List Int) (A0_9 : Option Addr) (c0_9 : Nat) (l0_9 : List S110) (A0_10 : Option Addr) (c0_10 : Nat) (l0_10 : List S110) (a0_11 : Int) (a0_12 : Int) (a1_0 : Int) (a1_1 : Int) (a1_2 : Int) (A1_3 : Option Addr) (c1_3 : Nat) (l1_3 : List Int) (a1_4 : Int) (a1_5 : Int) (a1_6 : Int) (a1_7 : Int) (A1_8 : Option Addr) (c1_8 : Nat) (l1_8 : List Int) (A1_9 : Option Addr) (c1_9 : Nat) (l1_9 : List S110) (A1_10 : Option Addr) (c1_10 : Nat) (l1_10 : List S110) (a1_11 : Int) (a1_12 : Int) (r : Bool) (w : World) (hr0_3 : Kd.C (Kd.int .i64) w A0_3 l0_3.length l0_3) (hc0_3 : l0_3.length ≤ c0_3) (hr0_8 : Kd.C (Kd.int .i64) w A0_8 l0_8.length l0_8) (hc0_8 : l0_8.length ≤ c0_8) (hr0_9 : Kd.C k110 w A0_9 l0_9.length l0_9) (hc0_9 : l0_9.length ≤ c0_9) (hr0_10 : Kd.C k110 w A0_10 l0_10.length l0_10) (hc0_10 : l0_10.length ≤ c0_10) (hr1_3 : Kd.C (Kd.int .i64) w A1_3 l1_3.length l1_3) (hc1_3 : l1_3.length ≤ c1_3) (hr1_8 : Kd.C (Kd.int .i64) w A1_8 l1_8.length l1_8) (hc1_8 : l1_8.length ≤ c1_8) (hr1_9 : Kd.C k110 w A1_9 l1_9.length l1_9) (hc1_9 : l1_9.length ≤ c1_9) (hr1_10 : Kd.C k110 w A1_10 l1_10.length l1_10) (hc1_10 : l1_10.length ≤ c1_10) (h : laws_eqTask.f k a0_0 a0_1 a0_2 l0_3 a0_4 a0_5 a0_6 a0_7 l0_8 l0_9 l0_10 a0_11 a0_12 a1_0 a1_1 a1_2 l1_3 a1_4 a1_5 a1_6 a1_7 l1_8 l1_9 l1_10 a1_11 a1_12 = some r) :
    Calls Try.prog 71 #[.agg #[.int .i64 a0_0, .int .i64 a0_1, .int .i64 a0_2, .slice A0_3 l0_3.length c0_3, .int .i64 a0_4, .int .i64 a0_5, .int .i64 a0_6, .int .i64 a0_7, .slice A0_8 l0_8.length c0_8, .slice A0_9 l0_9.length c0_9, .slice A0_10 l0_10.length c0_10, .int .i64 a0_11, .int .i64 a0_12], .agg #[.int .i64 a1_0, .int .i64 a1_1, .int .i64 a1_2, .slice A1_3 l1_3.length c1_3, .int .i64 a1_4, .int .i64 a1_5, .int .i64 a1_6, .int .i64 a1_7, .slice A1_8 l1_8.length c1_8, .slice A1_9 l1_9.length c1_9, .slice A1_10 l1_10.length c1_10, .int .i64 a1_11, .int .i64 a1_12]] w fun e w' => e = .returned (.bool r) ∧ Below w.heap.size w w' := by
  unfold laws_eqTask.f at h
  by_cases c : a0_0 = a1_0 ∧ a0_1 = a1_1 ∧ a0_2 = a1_2 ∧ l0_3 = l1_3 ∧ a0_4 = a1_4 ∧ a0_5 = a1_5 ∧ a0_6 = a1_6 ∧ a0_7 = a1_7 ∧ l0_8 = l1_8 ∧ l0_9 = l1_9 ∧ l0_10 = l1_10 ∧ a0_11 = a1_11 ∧ a0_12 = a1_12
  case neg => rw [if_neg c] at h; cases h
  rw [if_pos c] at h
  obtain ⟨rfl, rfl, rfl, rfl, rfl, rfl, rfl, rfl, rfl, rfl, rfl, rfl, rfl⟩ := c
  obtain ⟨b3, hq3, h⟩ := Option.bind_eq_some_iff.1 h
  cases b3 with
  | false => simp at h
  | true =>
  rw [if_pos rfl] at h
  have HQ3 := Aside0.mk hq3
  clear hq3
  obtain ⟨b8, hq8, h⟩ := Option.bind_eq_some_iff.1 h
  cases b8 with
  | false => simp at h
  | true =>
  rw [if_pos rfl] at h
  have HQ8 := Aside0.mk hq8
  clear hq8
  obtain ⟨b9, hq9, h⟩ := Option.bind_eq_some_iff.1 h
  cases b9 with
  | false => simp at h
  | true =>
  rw [if_pos rfl] at h
  have HQ9 := Aside0.mk hq9
  clear hq9
  obtain ⟨b10, hq10, h⟩ := Option.bind_eq_some_iff.1 h
  cases b10 with
  | false => simp at h
  | true =>
  rw [if_pos rfl] at h
  have HQ10 := Aside0.mk hq10
  clear hq10
  obtain rfl := Option.some.inj h
  clear h
  have HR0_3 := Aside0.mk hr0_3
  have HC0_3 := Aside0.mk hc0_3
  clear hr0_3 hc0_3
  have HR0_8 := Aside0.mk hr0_8
  have HC0_8 := Aside0.mk hc0_8
  clear hr0_8 hc0_8
  have HR0_9 := Aside0.mk hr0_9
  have HC0_9 := Aside0.mk hc0_9
  clear hr0_9 hc0_9
  have HR0_10 := Aside0.mk hr0_10
  have HC0_10 := Aside0.mk hc0_10
  clear hr0_10 hc0_10
  have HR1_3 := Aside0.mk hr1_3
  have HC1_3 := Aside0.mk hc1_3
  clear hr1_3 hc1_3
  have HR1_8 := Aside0.mk hr1_8
  have HC1_8 := Aside0.mk hc1_8
  clear hr1_8 hc1_8
  have HR1_9 := Aside0.mk hr1_9
  have HC1_9 := Aside0.mk hc1_9
  clear hr1_9 hc1_9
  have HR1_10 := Aside0.mk hr1_10
  have HC1_10 := Aside0.mk hc1_10
  clear hr1_10 hc1_10
  have hu3 := Try.underlying3
  have hu28 := Try.underlying28
  have hu70 := Try.underlying70
  have hu72 := Try.underlying72
  have HL0 := Aside0.mk (show Below w.heap.size w ((w.alloc (.cells #[.int .i64 a0_0, .int .i64 a0_1, .int .i64 a0_2, .slice A0_3 l0_3.length c0_3, .int .i64 a0_4, .int .i64 a0_5, .int .i64 a0_6, .int .i64 a0_7, .slice A0_8 l0_8.length c0_8, .slice A0_9 l0_9.length c0_9, .slice A0_10 l0_10.length c0_10, .int .i64 a0_11, .int .i64 a0_12] 72)).alloc (.cells #[.int .i64 a0_0, .int .i64 a0_1, .int .i64 a0_2, .slice A1_3 l0_3.length c1_3, .int .i64 a0_4, .int .i64 a0_5, .int .i64 a0_6, .int .i64 a0_7, .slice A1_8 l0_8.length c1_8, .slice A1_9 l0_9.length c1_9, .slice A1_10 l0_10.length c1_10, .int .i64 a0_11, .int .i64 a0_12] 72)) from below_alloc (below_alloc (Below.refl _ _) _) _)
  have HZ0 := Aside0.mk (show w.heap.size + 2 ≤ ((w.alloc (.cells #[.int .i64 a0_0, .int .i64 a0_1, .int .i64 a0_2, .slice A0_3 l0_3.length c0_3, .int .i64 a0_4, .int .i64 a0_5, .int .i64 a0_6, .int .i64 a0_7, .slice A0_8 l0_8.length c0_8, .slice A0_9 l0_9.length c0_9, .slice A0_10 l0_10.length c0_10, .int .i64 a0_11, .int .i64 a0_12] 72)).alloc (.cells #[.int .i64 a0_0, .int .i64 a0_1, .int .i64 a0_2, .slice A1_3 l0_3.length c1_3, .int .i64 a0_4, .int .i64 a0_5, .int .i64 a0_6, .int .i64 a0_7, .slice A1_8 l0_8.length c1_8, .slice A1_9 l0_9.length c1_9, .slice A1_10 l0_10.length c1_10, .int .i64 a0_11, .int .i64 a0_12] 72)).heap.size by simp)
  have HA0 := Aside0.mk (show ((w.alloc (.cells #[.int .i64 a0_0, .int .i64 a0_1, .int .i64 a0_2, .slice A0_3 l0_3.length c0_3, .int .i64 a0_4, .int .i64 a0_5, .int .i64 a0_6, .int .i64 a0_7, .slice A0_8 l0_8.length c0_8, .slice A0_9 l0_9.length c0_9, .slice A0_10 l0_10.length c0_10, .int .i64 a0_11, .int .i64 a0_12] 72)).alloc (.cells #[.int .i64 a0_0, .int .i64 a0_1, .int .i64 a0_2, .slice A1_3 l0_3.length c1_3, .int .i64 a0_4, .int .i64 a0_5, .int .i64 a0_6, .int .i64 a0_7, .slice A1_8 l0_8.length c1_8, .slice A1_9 l0_9.length c1_9, .slice A1_10 l0_10.length c1_10, .int .i64 a0_11, .int .i64 a0_12] 72)).heap[w.heap.size]? = some (.cells #[.int .i64 a0_0, .int .i64 a0_1, .int .i64 a0_2, .slice A0_3 l0_3.length c0_3, .int .i64 a0_4, .int .i64 a0_5, .int .i64 a0_6, .int .i64 a0_7, .slice A0_8 l0_8.length c0_8, .slice A0_9 l0_9.length c0_9, .slice A0_10 l0_10.length c0_10, .int .i64 a0_11, .int .i64 a0_12] 72 (0, 0)) from blk_alloc (heap_alloc_new w _) _)
  have HD0 := Aside0.mk (show ((w.alloc (.cells #[.int .i64 a0_0, .int .i64 a0_1, .int .i64 a0_2, .slice A0_3 l0_3.length c0_3, .int .i64 a0_4, .int .i64 a0_5, .int .i64 a0_6, .int .i64 a0_7, .slice A0_8 l0_8.length c0_8, .slice A0_9 l0_9.length c0_9, .slice A0_10 l0_10.length c0_10, .int .i64 a0_11, .int .i64 a0_12] 72)).alloc (.cells #[.int .i64 a0_0, .int .i64 a0_1, .int .i64 a0_2, .slice A1_3 l0_3.length c1_3, .int .i64 a0_4, .int .i64 a0_5, .int .i64 a0_6, .int .i64 a0_7, .slice A1_8 l0_8.length c1_8, .slice A1_9 l0_9.length c1_9, .slice A1_10 l0_10.length c1_10, .int .i64 a0_11, .int .i64 a0_12] 72)).heap[w.heap.size + 1]? = some (.cells #[.int .i64 a0_0, .int .i64 a0_1, .int .i64 a0_2, .slice A1_3 l0_3.length c1_3, .int .i64 a0_4, .int .i64 a0_5, .int .i64 a0_6, .int .i64 a0_7, .slice A1_8 l0_8.length c1_8, .slice A1_9 l0_9.length c1_9, .slice A1_10 l0_10.length c1_10, .int .i64 a0_11, .int .i64 a0_12] 72 (0, 0)) from by have := heap_alloc_new (w.alloc (.cells #[.int .i64 a0_0, .int .i64 a0_1, .int .i64 a0_2, .slice A0_3 l0_3.length c0_3, .int .i64 a0_4, .int .i64 a0_5, .int .i64 a0_6, .int .i64 a0_7, .slice A0_8 l0_8.length c0_8, .slice A0_9 l0_9.length c0_9, .slice A0_10 l0_10.length c0_10, .int .i64 a0_11, .int .i64 a0_12] 72)) (.cells #[.int .i64 a0_0, .int .i64 a0_1, .int .i64 a0_2, .slice A1_3 l0_3.length c1_3, .int .i64 a0_4, .int .i64 a0_5, .int .i64 a0_6, .int .i64 a0_7, .slice A1_8 l0_8.length c1_8, .slice A1_9 l0_9.length c1_9, .slice A1_10 l0_10.length c1_10, .int .i64 a0_11, .int .i64 a0_12] 72); simpa using this)
  go_enter Try.func71, Try.ntmps71
  go_wp2_with fail
  refine (laws_eqIntS.calls k _ _ _ _ _ _ true _ (Kd.C_below HR0_3.out HL0.out) HC0_3.out (Kd.C_below HR1_3.out HL0.out) HC1_3.out HQ3.out).mono ?_
  rintro e w1 ⟨rfl, hb_⟩
  have hb0 : Below _ _ w1 := (by first | exact hb_ | exact hb_.below)
  clear hb_
  have HL1 := Aside0.mk (show Below w.heap.size w w1 from below_then HL0.out HL0.out.size hb0)
  have HZ1 := Aside0.mk (Nat.le_trans HZ0.out hb0.size)
  have HA1 := Aside0.mk ((hb0.block _ (by have := HZ0.out; omega)).trans HA0.out)
  have HD1 := Aside0.mk ((hb0.block _ (by have := HZ0.out; omega)).trans HD0.out)
  clear hb0
  have hx4 : w1.cell? ⟨w.heap.size, 4, none⟩ = some (.int .i64 a0_4) := (blk_cell HA1.out 4).trans rfl
  have hy4 : w1.cell? ⟨w.heap.size + 1, 4, none⟩ = some (.int .i64 a0_4) := (blk_cell HD1.out 4).trans rfl
  have hx5 : w1.cell? ⟨w.heap.size, 5, none⟩ = some (.int .i64 a0_5) := (blk_cell HA1.out 5).trans rfl
  have hy5 : w1.cell? ⟨w.heap.size + 1, 5, none⟩ = some (.int .i64 a0_5) := (blk_cell HD1.out 5).trans rfl
  have hx6 : w1.cell? ⟨w.heap.size, 6, none⟩ = some (.int .i64 a0_6) := (blk_cell HA1.out 6).trans rfl
  have hy6 : w1.cell? ⟨w.heap.size + 1, 6, none⟩ = some (.int .i64 a0_6) := (blk_cell HD1.out 6).trans rfl
  have hx7 : w1.cell? ⟨w.heap.size, 7, none⟩ = some (.int .i64 a0_7) := (blk_cell HA1.out 7).trans rfl
  have hy7 : w1.cell? ⟨w.heap.size + 1, 7, none⟩ = some (.int .i64 a0_7) := (blk_cell HD1.out 7).trans rfl
  have hx8 : w1.cell? ⟨w.heap.size, 8, none⟩ = some (.slice A0_8 l0_8.length c0_8) := (blk_cell HA1.out 8).trans rfl
  have hy8 : w1.cell? ⟨w.heap.size + 1, 8, none⟩ = some (.slice A1_8 l0_8.length c1_8) := (blk_cell HD1.out 8).trans rfl
  have hx9 : w1.cell? ⟨w.heap.size, 9, none⟩ = some (.slice A0_9 l0_9.length c0_9) := (blk_cell HA1.out 9).trans rfl
  have hy9 : w1.cell? ⟨w.heap.size + 1, 9, none⟩ = some (.slice A1_9 l0_9.length c1_9) := (blk_cell HD1.out 9).trans rfl
  have hx10 : w1.cell? ⟨w.heap.size, 10, none⟩ = some (.slice A0_10 l0_10.length c0_10) := (blk_cell HA1.out 10).trans rfl
  have hy10 : w1.cell? ⟨w.heap.size + 1, 10, none⟩ = some (.slice A1_10 l0_10.length c1_10) := (blk_cell HD1.out 10).trans rfl
  have hx11 : w1.cell? ⟨w.heap.size, 11, none⟩ = some (.int .i64 a0_11) := (blk_cell HA1.out 11).trans rfl
  have hy11 : w1.cell? ⟨w.heap.size + 1, 11, none⟩ = some (.int .i64 a0_11) := (blk_cell HD1.out 11).trans rfl
  have hx12 : w1.cell? ⟨w.heap.size, 12, none⟩ = some (.int .i64 a0_12) := (blk_cell HA1.out 12).trans rfl
  have hy12 : w1.cell? ⟨w.heap.size + 1, 12, none⟩ = some (.int .i64 a0_12) := (blk_cell HD1.out 12).trans rfl
  go_wp2_with fail
  refine (laws_eqIntS.calls k _ _ _ _ _ _ true _ (Kd.C_below HR0_8.out HL1.out) HC0_8.out (Kd.C_below HR1_8.out HL1.out) HC1_8.out HQ8.out).mono ?_
  rintro e w2 ⟨rfl, hb_⟩
  have hb1 : Below _ _ w2 := (by first | exact hb_ | exact hb_.below)
  clear hb_
  have HL2 := Aside0.mk (show Below w.heap.size w w2 from below_then HL1.out HL1.out.size hb1)
  have HZ2 := Aside0.mk (Nat.le_trans HZ1.out hb1.size)
  have HA2 := Aside0.mk ((hb1.block _ (by have := HZ1.out; omega)).trans HA1.out)
  have HD2 := Aside0.mk ((hb1.block _ (by have := HZ1.out; omega)).trans HD1.out)
  clear hb1
  clear hx9 hy9
  clear hx10 hy10
  clear hx11 hy11
  clear hx12 hy12
  clear hx8 hy8
  have hx9 : w2.cell? ⟨w.heap.size, 9, none⟩ = some (.slice A0_9 l0_9.length c0_9) := (blk_cell HA2.out 9).trans rfl
  have hy9 : w2.cell? ⟨w.heap.size + 1, 9, none⟩ = some (.slice A1_9 l0_9.length c1_9) := (blk_cell HD2.out 9).trans rfl
  have hx10 : w2.cell? ⟨w.heap.size, 10, none⟩ = some (.slice A0_10 l0_10.length c0_10) := (blk_cell HA2.out 10).trans rfl
  have hy10 : w2.cell? ⟨w.heap.size + 1, 10, none⟩ = some (.slice A1_10 l0_10.length c1_10) := (blk_cell HD2.out 10).trans rfl
  have hx11 : w2.cell? ⟨w.heap.size, 11, none⟩ = some (.int .i64 a0_11) := (blk_cell HA2.out 11).trans rfl
  have hy11 : w2.cell? ⟨w.heap.size + 1, 11, none⟩ = some (.int .i64 a0_11) := (blk_cell HD2.out 11).trans rfl
  have hx12 : w2.cell? ⟨w.heap.size, 12, none⟩ = some (.int .i64 a0_12) := (blk_cell HA2.out 12).trans rfl
  have hy12 : w2.cell? ⟨w.heap.size + 1, 12, none⟩ = some (.int .i64 a0_12) := (blk_cell HD2.out 12).trans rfl
  go_wp2_with fail
  refine (laws_eqPutS.calls k _ _ _ _ _ _ true _ (Kd.C_below HR0_9.out HL2.out) HC0_9.out (Kd.C_below HR1_9.out HL2.out) HC1_9.out HQ9.out).mono ?_
  rintro e w3 ⟨rfl, hb_⟩
  have hb2 : Below _ _ w3 := (by first | exact hb_ | exact hb_.below)
  clear hb_
  have HL3 := Aside0.mk (show Below w.heap.size w w3 from below_then HL2.out HL2.out.size hb2)
  have HZ3 := Aside0.mk (Nat.le_trans HZ2.out hb2.size)
  have HA3 := Aside0.mk ((hb2.block _ (by have := HZ2.out; omega)).trans HA2.out)
  have HD3 := Aside0.mk ((hb2.block _ (by have := HZ2.out; omega)).trans HD2.out)
  clear hb2
  clear hx10 hy10
  clear hx11 hy11
  clear hx12 hy12
  clear hx9 hy9
  have hx10 : w3.cell? ⟨w.heap.size, 10, none⟩ = some (.slice A0_10 l0_10.length c0_10) := (blk_cell HA3.out 10).trans rfl
  have hy10 : w3.cell? ⟨w.heap.size + 1, 10, none⟩ = some (.slice A1_10 l0_10.length c1_10) := (blk_cell HD3.out 10).trans rfl
  have hx11 : w3.cell? ⟨w.heap.size, 11, none⟩ = some (.int .i64 a0_11) := (blk_cell HA3.out 11).trans rfl
  have hy11 : w3.cell? ⟨w.heap.size + 1, 11, none⟩ = some (.int .i64 a0_11) := (blk_cell HD3.out 11).trans rfl
  have hx12 : w3.cell? ⟨w.heap.size, 12, none⟩ = some (.int .i64 a0_12) := (blk_cell HA3.out 12).trans rfl
  have hy12 : w3.cell? ⟨w.heap.size + 1, 12, none⟩ = some (.int .i64 a0_12) := (blk_cell HD3.out 12).trans rfl
  go_wp2_with fail
  refine (laws_eqPutS.calls k _ _ _ _ _ _ true _ (Kd.C_below HR0_10.out HL3.out) HC0_10.out (Kd.C_below HR1_10.out HL3.out) HC1_10.out HQ10.out).mono ?_
  rintro e w4 ⟨rfl, hb_⟩
  have hb3 : Below _ _ w4 := (by first | exact hb_ | exact hb_.below)
  clear hb_
  have HL4 := Aside0.mk (show Below w.heap.size w w4 from below_then HL3.out HL3.out.size hb3)
  have HZ4 := Aside0.mk (Nat.le_trans HZ3.out hb3.size)
  have HA4 := Aside0.mk ((hb3.block _ (by have := HZ3.out; omega)).trans HA3.out)
  have HD4 := Aside0.mk ((hb3.block _ (by have := HZ3.out; omega)).trans HD3.out)
  clear hb3
  clear hx11 hy11
  clear hx12 hy12
  clear hx10 hy10
  have hx11 : w4.cell? ⟨w.heap.size, 11, none⟩ = some (.int .i64 a0_11) := (blk_cell HA4.out 11).trans rfl
  have hy11 : w4.cell? ⟨w.heap.size + 1, 11, none⟩ = some (.int .i64 a0_11) := (blk_cell HD4.out 11).trans rfl
  have hx12 : w4.cell? ⟨w.heap.size, 12, none⟩ = some (.int .i64 a0_12) := (blk_cell HA4.out 12).trans rfl
  have hy12 : w4.cell? ⟨w.heap.size + 1, 12, none⟩ = some (.int .i64 a0_12) := (blk_cell HD4.out 12).trans rfl
  go_wp2
  go_ret
  exact ⟨rfl, HL4.out⟩

end Go.Proofs.Ytpodhdpkdhcnoaa.QSC
