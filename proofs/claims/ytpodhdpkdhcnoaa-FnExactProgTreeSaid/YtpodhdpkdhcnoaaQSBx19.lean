-- Written by a program of this session (wip/tools/myprint.py).
import Derived.Test.YtpodhdpkdhcnoaaQSBx0
import Derived.Test.YtpodhdpkdhcnoaaQSBx14
import Derived.Test.YtpodhdpkdhcnoaaQSBx16
import Derived.Test.YtpodhdpkdhcnoaaQSBx18
namespace Go.Proofs.Ytpodhdpkdhcnoaa.QSB
open Go.RowKit Go.Proofs.YtpodhdpkdhcnoaaW.PrintWords Go.Proofs.YtpodhdpkdhcnoaaW.PrintLast Go.Proofs.YtpodhdpkdhcnoaaW.PrintMore
attribute [local go_sem] max2_int min2_int max_two min_two max_three min_three max_four min_four   -- for this text's walks alone
set_option linter.unusedVariables false
set_option linter.unusedSimpArgs false

/-! ### laws_eqProg: function 36 -/
instance instDecS90 : DecidableEq S90 := fun x y => decidable_of_iff (x.f0 = y.f0 ∧ x.f1 = y.f1 ∧ x.f2 = y.f2 ∧ x.f3 = y.f3) (by cases x; cases y; simp)
theorem decS90 : True := trivial
-- decS138 decS90
def laws_eqProg.f (k : Nat) (l0_0 : List Int) (l0_1 : List (List S90)) (l1_0 : List Int) (l1_1 : List (List S90)) : Option Bool := if l0_0 = l1_0 ∧ l0_1 = l1_1 then ((laws_eqIntS.f k l0_0 l0_0).bind fun b0 => (if b0 = true then ((laws_eqActSS.f k l0_1 l0_1).bind fun b1 => (if b1 = true then (some true) else (none))) else (none))) else none
theorem laws_eqProg.mono : ∀ l0_0 l0_1 l1_0 l1_1 k, LeO (laws_eqProg.f k l0_0 l0_1 l1_0 l1_1) (laws_eqProg.f (k + 1) l0_0 l0_1 l1_0 l1_1) := by
  intro l0_0 l0_1 l1_0 l1_1 k
  unfold laws_eqProg.f
  repeat' first
      | (with_reducible exact LeO.refl _)
      | (with_reducible exact LeO.none _)
      | (with_reducible refine LeO.ite ?_ ?_)
      | (with_reducible refine LeO.bind ?_ (fun _ => ?_))
      | exact laws_eqIntS.mono _ _ _
      | exact laws_eqActSS.mono _ _ _
set_option maxHeartbeats 4000000 in
set_option maxRecDepth 100000 in
theorem laws_eqProg.calls (k : Nat) (A0_0 : Option Addr) (c0_0 : Nat) (l0_0 : List Int) (A0_1 : Option Addr) (c0_1 : Nat) (l0_1 : List (List S90)) (A1_0 : Option Addr) (c1_0 : Nat) (l1_0 : List Int) (A1_1 : Option Addr) (c1_1 : Nat) (l1_1 : List (List S90)) (r : Bool) (w : World) (hr0_0 : Kd.C (Kd.int .i64) w A0_0 l0_0.length l0_0) (hc0_0 : l0_0.length ≤ c0_0) (hr0_1 : Kd.C (Kd.slice 90 k90) w A0_1 l0_1.length l0_1) (hc0_1 : l0_1.length ≤ c0_1) (hr1_0 : Kd.C (Kd.int .i64) w A1_0 l1_0.length l1_0) (hc1_0 : l1_0.length ≤ c1_0) (hr1_1 : Kd.C (Kd.slice 90 k90) w A1_1 l1_1.length l1_1) (hc1_1 : l1_1.length ≤ c1_1) (h : laws_eqProg.f k l0_0 l0_1 l1_0 l1_1 = some r) :
    Calls Try.prog 36 #[.agg #[.slice A0_0 l0_0.length c0_0, .slice A0_1 l0_1.length c0_1], .agg #[.slice A1_0 l1_0.length c1_0, .slice A1_1 l1_1.length c1_1]] w fun e w' => e = .returned (.bool r) ∧ Below w.heap.size w w' := by
  unfold laws_eqProg.f at h
  by_cases c : l0_0 = l1_0 ∧ l0_1 = l1_1
  case neg => rw [if_neg c] at h; cases h
  rw [if_pos c] at h
  obtain ⟨rfl, rfl⟩ := c
  obtain ⟨b0, hq0, h⟩ := Option.bind_eq_some_iff.1 h
  cases b0 with
  | false => simp at h
  | true =>
  rw [if_pos rfl] at h
  have HQ0 := Aside0.mk hq0
  clear hq0
  obtain ⟨b1, hq1, h⟩ := Option.bind_eq_some_iff.1 h
  cases b1 with
  | false => simp at h
  | true =>
  rw [if_pos rfl] at h
  have HQ1 := Aside0.mk hq1
  clear hq1
  obtain rfl := Option.some.inj h
  clear h
  have HR0_0 := Aside0.mk hr0_0
  have HC0_0 := Aside0.mk hc0_0
  clear hr0_0 hc0_0
  have HR0_1 := Aside0.mk hr0_1
  have HC0_1 := Aside0.mk hc0_1
  clear hr0_1 hc0_1
  have HR1_0 := Aside0.mk hr1_0
  have HC1_0 := Aside0.mk hc1_0
  clear hr1_0 hc1_0
  have HR1_1 := Aside0.mk hr1_1
  have HC1_1 := Aside0.mk hc1_1
  clear hr1_1 hc1_1
  have hu28 := Try.underlying28
  have hu52 := Try.underlying52
  have hu54 := Try.underlying54
  have HL0 := Aside0.mk (show Below w.heap.size w ((w.alloc (.cells #[.slice A0_0 l0_0.length c0_0, .slice A0_1 l0_1.length c0_1] 54)).alloc (.cells #[.slice A1_0 l0_0.length c1_0, .slice A1_1 l0_1.length c1_1] 54)) from below_alloc (below_alloc (Below.refl _ _) _) _)
  have HZ0 := Aside0.mk (show w.heap.size + 2 ≤ ((w.alloc (.cells #[.slice A0_0 l0_0.length c0_0, .slice A0_1 l0_1.length c0_1] 54)).alloc (.cells #[.slice A1_0 l0_0.length c1_0, .slice A1_1 l0_1.length c1_1] 54)).heap.size by simp)
  have HA0 := Aside0.mk (show ((w.alloc (.cells #[.slice A0_0 l0_0.length c0_0, .slice A0_1 l0_1.length c0_1] 54)).alloc (.cells #[.slice A1_0 l0_0.length c1_0, .slice A1_1 l0_1.length c1_1] 54)).heap[w.heap.size]? = some (.cells #[.slice A0_0 l0_0.length c0_0, .slice A0_1 l0_1.length c0_1] 54 (0, 0)) from blk_alloc (heap_alloc_new w _) _)
  have HD0 := Aside0.mk (show ((w.alloc (.cells #[.slice A0_0 l0_0.length c0_0, .slice A0_1 l0_1.length c0_1] 54)).alloc (.cells #[.slice A1_0 l0_0.length c1_0, .slice A1_1 l0_1.length c1_1] 54)).heap[w.heap.size + 1]? = some (.cells #[.slice A1_0 l0_0.length c1_0, .slice A1_1 l0_1.length c1_1] 54 (0, 0)) from by have := heap_alloc_new (w.alloc (.cells #[.slice A0_0 l0_0.length c0_0, .slice A0_1 l0_1.length c0_1] 54)) (.cells #[.slice A1_0 l0_0.length c1_0, .slice A1_1 l0_1.length c1_1] 54); simpa using this)
  go_enter Try.func36, Try.ntmps36
  go_wp2_with fail
  refine (laws_eqIntS.calls k _ _ _ _ _ _ true _ (Kd.C_below HR0_0.out HL0.out) HC0_0.out (Kd.C_below HR1_0.out HL0.out) HC1_0.out HQ0.out).mono ?_
  rintro e w1 ⟨rfl, hb_⟩
  have hb0 : Below _ _ w1 := (by first | exact hb_ | exact hb_.below)
  clear hb_
  have HL1 := Aside0.mk (show Below w.heap.size w w1 from below_then HL0.out HL0.out.size hb0)
  have HZ1 := Aside0.mk (Nat.le_trans HZ0.out hb0.size)
  have HA1 := Aside0.mk ((hb0.block _ (by have := HZ0.out; omega)).trans HA0.out)
  have HD1 := Aside0.mk ((hb0.block _ (by have := HZ0.out; omega)).trans HD0.out)
  clear hb0
  have hx1 : w1.cell? ⟨w.heap.size, 1, none⟩ = some (.slice A0_1 l0_1.length c0_1) := (blk_cell HA1.out 1).trans rfl
  have hy1 : w1.cell? ⟨w.heap.size + 1, 1, none⟩ = some (.slice A1_1 l0_1.length c1_1) := (blk_cell HD1.out 1).trans rfl
  go_wp2_with fail
  refine (laws_eqActSS.calls k _ _ _ _ _ _ true _ (Kd.C_below HR0_1.out HL1.out) HC0_1.out (Kd.C_below HR1_1.out HL1.out) HC1_1.out HQ1.out).mono ?_
  rintro e w2 ⟨rfl, hb_⟩
  have hb1 : Below _ _ w2 := (by first | exact hb_ | exact hb_.below)
  clear hb_
  have HL2 := Aside0.mk (show Below w.heap.size w w2 from below_then HL1.out HL1.out.size hb1)
  have HZ2 := Aside0.mk (Nat.le_trans HZ1.out hb1.size)
  have HA2 := Aside0.mk ((hb1.block _ (by have := HZ1.out; omega)).trans HA1.out)
  have HD2 := Aside0.mk ((hb1.block _ (by have := HZ1.out; omega)).trans HD1.out)
  clear hb1
  clear hx1 hy1
  go_wp2
  go_ret
  exact ⟨rfl, HL2.out⟩

end Go.Proofs.Ytpodhdpkdhcnoaa.QSB
