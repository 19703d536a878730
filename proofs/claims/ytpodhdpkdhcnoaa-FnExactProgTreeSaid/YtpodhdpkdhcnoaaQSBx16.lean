-- Written by a program of this session (wip/tools/myprint.py).
import Derived.Test.YtpodhdpkdhcnoaaQSBx0
import Derived.Test.YtpodhdpkdhcnoaaQSBx14
import Derived.Test.YtpodhdpkdhcnoaaQSBx15
namespace Go.Proofs.Ytpodhdpkdhcnoaa.QSB
open Go.RowKit Go.Proofs.YtpodhdpkdhcnoaaW.PrintWords Go.Proofs.YtpodhdpkdhcnoaaW.PrintLast Go.Proofs.YtpodhdpkdhcnoaaW.PrintMore
attribute [local go_sem] max2_int min2_int max_two min_two max_three min_three max_four min_four   -- for this text's walks alone
set_option linter.unusedVariables false
set_option linter.unusedSimpArgs false

/-! ### laws_eqAct: function 92 -/
instance instDecS138 : DecidableEq S138 := fun x y => decidable_of_iff (x.f0 = y.f0 ∧ x.f1 = y.f1 ∧ x.f2 = y.f2) (by cases x; cases y; simp)
theorem decS138 : True := trivial
-- decS138
def laws_eqAct.f (k : Nat) (a0_0 : Int) (l0_1 : List S138) (l0_2 : List Int) (a0_3 : Int) (a1_0 : Int) (l1_1 : List S138) (l1_2 : List Int) (a1_3 : Int) : Option Bool := if a0_0 = a1_0 ∧ l0_1 = l1_1 ∧ l0_2 = l1_2 ∧ a0_3 = a1_3 then ((laws_eqDeedS.f k l0_1 l0_1).bind fun b1 => (if b1 = true then ((laws_eqIntS.f k l0_2 l0_2).bind fun b2 => (if b2 = true then (some true) else (none))) else (none))) else none
theorem laws_eqAct.mono : ∀ a0_0 l0_1 l0_2 a0_3 a1_0 l1_1 l1_2 a1_3 k, LeO (laws_eqAct.f k a0_0 l0_1 l0_2 a0_3 a1_0 l1_1 l1_2 a1_3) (laws_eqAct.f (k + 1) a0_0 l0_1 l0_2 a0_3 a1_0 l1_1 l1_2 a1_3) := by
  intro a0_0 l0_1 l0_2 a0_3 a1_0 l1_1 l1_2 a1_3 k
  unfold laws_eqAct.f
  repeat' first
      | (with_reducible exact LeO.refl _)
      | (with_reducible exact LeO.none _)
      | (with_reducible refine LeO.ite ?_ ?_)
      | (with_reducible refine LeO.bind ?_ (fun _ => ?_))
      | exact laws_eqDeedS.mono _ _ _
      | exact laws_eqIntS.mono _ _ _
set_option maxHeartbeats 4000000 in
set_option maxRecDepth 100000 in
theorem laws_eqAct.calls (k : Nat) (a0_0 : Int) (A0_1 : Option Addr) (c0_1 : Nat) (l0_1 : List S138) (A0_2 : Option Addr) (c0_2 : Nat) (l0_2 : List Int) (a0_3 : Int) (a1_0 : Int) (A1_1 : Option Addr) (c1_1 : Nat) (l1_1 : List S138) (A1_2 : Option Addr) (c1_2 : Nat) (l1_2 : List Int) (a1_3 : Int) (r : Bool) (w : World) (hr0_1 : Kd.C k138 w A0_1 l0_1.length l0_1) (hc0_1 : l0_1.length ≤ c0_1) (hr0_2 : Kd.C (Kd.int .i64) w A0_2 l0_2.length l0_2) (hc0_2 : l0_2.length ≤ c0_2) (hr1_1 : Kd.C k138 w A1_1 l1_1.length l1_1) (hc1_1 : l1_1.length ≤ c1_1) (hr1_2 : Kd.C (Kd.int .i64) w A1_2 l1_2.length l1_2) (hc1_2 : l1_2.length ≤ c1_2) (h : laws_eqAct.f k a0_0 l0_1 l0_2 a0_3 a1_0 l1_1 l1_2 a1_3 = some r) :
    Calls Try.prog 92 #[.agg #[.int .i64 a0_0, .slice A0_1 l0_1.length c0_1, .slice A0_2 l0_2.length c0_2, .int .i64 a0_3], .agg #[.int .i64 a1_0, .slice A1_1 l1_1.length c1_1, .slice A1_2 l1_2.length c1_2, .int .i64 a1_3]] w fun e w' => e = .returned (.bool r) ∧ Below w.heap.size w w' := by
  unfold laws_eqAct.f at h
  by_cases c : a0_0 = a1_0 ∧ l0_1 = l1_1 ∧ l0_2 = l1_2 ∧ a0_3 = a1_3
  case neg => rw [if_neg c] at h; cases h
  rw [if_pos c] at h
  obtain ⟨rfl, rfl, rfl, rfl⟩ := c
  obtain ⟨b1, hq1, h⟩ := Option.bind_eq_some_iff.1 h
  cases b1 with
  | false => simp at h
  | true =>
  rw [if_pos rfl] at h
  have HQ1 := Aside0.mk hq1
  clear hq1
  obtain ⟨b2, hq2, h⟩ := Option.bind_eq_some_iff.1 h
  cases b2 with
  | false => simp at h
  | true =>
  rw [if_pos rfl] at h
  have HQ2 := Aside0.mk hq2
  clear hq2
  obtain rfl := Option.some.inj h
  clear h
  have HR0_1 := Aside0.mk hr0_1
  have HC0_1 := Aside0.mk hc0_1
  clear hr0_1 hc0_1
  have HR0_2 := Aside0.mk hr0_2
  have HC0_2 := Aside0.mk hc0_2
  clear hr0_2 hc0_2
  have HR1_1 := Aside0.mk hr1_1
  have HC1_1 := Aside0.mk hc1_1
  clear hr1_1 hc1_1
  have HR1_2 := Aside0.mk hr1_2
  have HC1_2 := Aside0.mk hc1_2
  clear hr1_2 hc1_2
  have hu3 := Try.underlying3
  have hu28 := Try.underlying28
  have hu88 := Try.underlying88
  have hu90 := Try.underlying90
  have HL0 := Aside0.mk (show Below w.heap.size w ((w.alloc (.cells #[.int .i64 a0_0, .slice A0_1 l0_1.length c0_1, .slice A0_2 l0_2.length c0_2, .int .i64 a0_3] 90)).alloc (.cells #[.int .i64 a0_0, .slice A1_1 l0_1.length c1_1, .slice A1_2 l0_2.length c1_2, .int .i64 a0_3] 90)) from below_alloc (below_alloc (Below.refl _ _) _) _)
  have HZ0 := Aside0.mk (show w.heap.size + 2 ≤ ((w.alloc (.cells #[.int .i64 a0_0, .slice A0_1 l0_1.length c0_1, .slice A0_2 l0_2.length c0_2, .int .i64 a0_3] 90)).alloc (.cells #[.int .i64 a0_0, .slice A1_1 l0_1.length c1_1, .slice A1_2 l0_2.length c1_2, .int .i64 a0_3] 90)).heap.size by simp)
  have HA0 := Aside0.mk (show ((w.alloc (.cells #[.int .i64 a0_0, .slice A0_1 l0_1.length c0_1, .slice A0_2 l0_2.length c0_2, .int .i64 a0_3] 90)).alloc (.cells #[.int .i64 a0_0, .slice A1_1 l0_1.length c1_1, .slice A1_2 l0_2.length c1_2, .int .i64 a0_3] 90)).heap[w.heap.size]? = some (.cells #[.int .i64 a0_0, .slice A0_1 l0_1.length c0_1, .slice A0_2 l0_2.length c0_2, .int .i64 a0_3] 90 (0, 0)) from blk_alloc (heap_alloc_new w _) _)
  have HD0 := Aside0.mk (show ((w.alloc (.cells #[.int .i64 a0_0, .slice A0_1 l0_1.length c0_1, .slice A0_2 l0_2.length c0_2, .int .i64 a0_3] 90)).alloc (.cells #[.int .i64 a0_0, .slice A1_1 l0_1.length c1_1, .slice A1_2 l0_2.length c1_2, .int .i64 a0_3] 90)).heap[w.heap.size + 1]? = some (.cells #[.int .i64 a0_0, .slice A1_1 l0_1.length c1_1, .slice A1_2 l0_2.length c1_2, .int .i64 a0_3] 90 (0, 0)) from by have := heap_alloc_new (w.alloc (.cells #[.int .i64 a0_0, .slice A0_1 l0_1.length c0_1, .slice A0_2 l0_2.length c0_2, .int .i64 a0_3] 90)) (.cells #[.int .i64 a0_0, .slice A1_1 l0_1.length c1_1, .slice A1_2 l0_2.length c1_2, .int .i64 a0_3] 90); simpa using this)
  go_enter Try.func92, Try.ntmps92
  go_wp2_with fail
  refine (laws_eqDeedS.calls k _ _ _ _ _ _ true _ (Kd.C_below HR0_1.out HL0.out) HC0_1.out (Kd.C_below HR1_1.out HL0.out) HC1_1.out HQ1.out).mono ?_
  rintro e w1 ⟨rfl, hb_⟩
  have hb0 : Below _ _ w1 := (by first | exact hb_ | exact hb_.below)
  clear hb_
  have HL1 := Aside0.mk (show Below w.heap.size w w1 from below_then HL0.out HL0.out.size hb0)
  have HZ1 := Aside0.mk (Nat.le_trans HZ0.out hb0.size)
  have HA1 := Aside0.mk ((hb0.block _ (by have := HZ0.out; omega)).trans HA0.out)
  have HD1 := Aside0.mk ((hb0.block _ (by have := HZ0.out; omega)).trans HD0.out)
  clear hb0
  have hx2 : w1.cell? ⟨w.heap.size, 2, none⟩ = some (.slice A0_2 l0_2.length c0_2) := (blk_cell HA1.out 2).trans rfl
  have hy2 : w1.cell? ⟨w.heap.size + 1, 2, none⟩ = some (.slice A1_2 l0_2.length c1_2) := (blk_cell HD1.out 2).trans rfl
  have hx3 : w1.cell? ⟨w.heap.size, 3, none⟩ = some (.int .i64 a0_3) := (blk_cell HA1.out 3).trans rfl
  have hy3 : w1.cell? ⟨w.heap.size + 1, 3, none⟩ = some (.int .i64 a0_3) := (blk_cell HD1.out 3).trans rfl
  go_wp2_with fail
  refine (laws_eqIntS.calls k _ _ _ _ _ _ true _ (Kd.C_below HR0_2.out HL1.out) HC0_2.out (Kd.C_below HR1_2.out HL1.out) HC1_2.out HQ2.out).mono ?_
  rintro e w2 ⟨rfl, hb_⟩
  have hb1 : Below _ _ w2 := (by first | exact hb_ | exact hb_.below)
  clear hb_
  have HL2 := Aside0.mk (show Below w.heap.size w w2 from below_then HL1.out HL1.out.size hb1)
  have HZ2 := Aside0.mk (Nat.le_trans HZ1.out hb1.size)
  have HA2 := Aside0.mk ((hb1.block _ (by have := HZ1.out; omega)).trans HA1.out)
  have HD2 := Aside0.mk ((hb1.block _ (by have := HZ1.out; omega)).trans HD1.out)
  clear hb1
  clear hx3 hy3
  clear hx2 hy2
  have hx3 : w2.cell? ⟨w.heap.size, 3, none⟩ = some (.int .i64 a0_3) := (blk_cell HA2.out 3).trans rfl
  have hy3 : w2.cell? ⟨w.heap.size + 1, 3, none⟩ = some (.int .i64 a0_3) := (blk_cell HD2.out 3).trans rfl
  go_wp2
  go_ret
  exact ⟨rfl, HL2.out⟩

end Go.Proofs.Ytpodhdpkdhcnoaa.QSB
