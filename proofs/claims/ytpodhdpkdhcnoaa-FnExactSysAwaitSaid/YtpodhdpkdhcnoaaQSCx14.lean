-- Written by a program of this session (wip/tools/myprint.py).
import Derived.Test.YtpodhdpkdhcnoaaQSCx0
import Derived.Test.YtpodhdpkdhcnoaaQSCx8
import Derived.Test.YtpodhdpkdhcnoaaQSCx9
import Derived.Test.YtpodhdpkdhcnoaaQSCx11
import Derived.Test.YtpodhdpkdhcnoaaQSCx13
namespace Go.Proofs.Ytpodhdpkdhcnoaa.QSC
open Go.RowKit Go.Proofs.YtpodhdpkdhcnoaaW.PrintWords Go.Proofs.YtpodhdpkdhcnoaaW.PrintLast Go.Proofs.YtpodhdpkdhcnoaaW.PrintMore
attribute [local go_sem] max2_int min2_int max_two min_two max_three min_three max_four min_four   -- for this text's walks alone
set_option linter.unusedVariables false
set_option linter.unusedSimpArgs false

/-! ### laws_eqSys: function 15 -/
instance instDecS63 : DecidableEq S63 := fun x y => decidable_of_iff (x.f0 = y.f0 ∧ x.f1 = y.f1 ∧ x.f2 = y.f2) (by cases x; cases y; simp)
theorem decS63 : True := trivial
instance instDecS72 : DecidableEq S72 := fun x y => decidable_of_iff (x.f0 = y.f0 ∧ x.f1 = y.f1 ∧ x.f2 = y.f2 ∧ x.f3 = y.f3 ∧ x.f4 = y.f4 ∧ x.f5 = y.f5 ∧ x.f6 = y.f6 ∧ x.f7 = y.f7 ∧ x.f8 = y.f8 ∧ x.f9 = y.f9 ∧ x.f10 = y.f10 ∧ x.f11 = y.f11 ∧ x.f12 = y.f12) (by cases x; cases y; simp)
theorem decS72 : True := trivial
instance instDecS78 : DecidableEq S78 := fun x y => decidable_of_iff (x.f0 = y.f0 ∧ x.f1 = y.f1 ∧ x.f2 = y.f2 ∧ x.f3 = y.f3 ∧ x.f4 = y.f4 ∧ x.f5 = y.f5) (by cases x; cases y; simp)
theorem decS78 : True := trivial
-- decS63 decS110 decS110 decS72 decS110 decS110 decS78
def laws_eqSys.f (k : Nat) (l0_0 : List S63) (l0_1 : List S72) (a0_2 : Int) (l0_3 : List S78) (l1_0 : List S63) (l1_1 : List S72) (a1_2 : Int) (l1_3 : List S78) : Option Bool := if l0_0 = l1_0 ∧ l0_1 = l1_1 ∧ a0_2 = a1_2 ∧ l0_3 = l1_3 then ((laws_eqCellS.f k l0_0 l0_0).bind fun b0 => (if b0 = true then ((laws_eqTaskS.f k l0_1 l0_1).bind fun b1 => (if b1 = true then ((laws_eqEntryS.f k l0_3 l0_3).bind fun b3 => (if b3 = true then (some true) else (none))) else (none))) else (none))) else none
theorem laws_eqSys.mono : ∀ l0_0 l0_1 a0_2 l0_3 l1_0 l1_1 a1_2 l1_3 k, LeO (laws_eqSys.f k l0_0 l0_1 a0_2 l0_3 l1_0 l1_1 a1_2 l1_3) (laws_eqSys.f (k + 1) l0_0 l0_1 a0_2 l0_3 l1_0 l1_1 a1_2 l1_3) := by
  intro l0_0 l0_1 a0_2 l0_3 l1_0 l1_1 a1_2 l1_3 k
  unfold laws_eqSys.f
  repeat' first
      | (with_reducible exact LeO.refl _)
      | (with_reducible exact LeO.none _)
      | (with_reducible refine LeO.ite ?_ ?_)
      | (with_reducible refine LeO.bind ?_ (fun _ => ?_))
      | exact laws_eqCellS.mono _ _ _
      | exact laws_eqTaskS.mono _ _ _
      | exact laws_eqEntryS.mono _ _ _
set_option maxHeartbeats 4000000 in
set_option maxRecDepth 100000 in
theorem laws_eqSys.calls (k : Nat) (A0_0 : Option Addr) (c0_0 : Nat) (l0_0 : List S63) (A0_1 : Option Addr) (c0_1 : Nat) (l0_1 : List S72) (a0_2 : Int) (A0_3 : Option Addr) (c0_3 : Nat) (l0_3 : List S78) (A1_0 : Option Addr) (c1_0 : Nat) (l1_0 : List S63) (A1_1 : Option Addr) (c1_1 : Nat) (l1_1 : List S72) (a1_2 : Int) (A1_3 : Option Addr) (c1_3 : Nat) (l1_3 : List S78) (r : Bool) (w : World) (hr0_0 : Kd.C k63 w A0_0 l0_0.length l0_0) (hc0_0 : l0_0.length ≤ c0_0) (hr0_1 : Kd.C k72 w A0_1 l0_1.length l0_1) (hc0_1 : l0_1.length ≤ c0_1) (hr0_3 : Kd.C k78 w A0_3 l0_3.length l0_3) (hc0_3 : l0_3.length ≤ c0_3) (hr1_0 : Kd.C k63 w A1_0 l1_0.length l1_0) (hc1_0 : l1_0.length ≤ c1_0) (hr1_1 : Kd.C k72 w A1_1 l1_1.length l1_1) (hc1_1 : l1_1.length ≤ c1_1) (hr1_3 : Kd.C k78 w A1_3 l1_3.length l1_3) (hc1_3 : l1_3.length ≤ c1_3) (h : laws_eqSys.f k l0_0 l0_1 a0_2 l0_3 l1_0 l1_1 a1_2 l1_3 = some r) :
    Calls Try.prog 15 #[.agg #[.slice A0_0 l0_0.length c0_0, .slice A0_1 l0_1.length c0_1, .int .i64 a0_2, .slice A0_3 l0_3.length c0_3], .agg #[.slice A1_0 l1_0.length c1_0, .slice A1_1 l1_1.length c1_1, .int .i64 a1_2, .slice A1_3 l1_3.length c1_3]] w fun e w' => e = .returned (.bool r) ∧ Below w.heap.size w w' := by
  unfold laws_eqSys.f at h
  by_cases c : l0_0 = l1_0 ∧ l0_1 = l1_1 ∧ a0_2 = a1_2 ∧ l0_3 = l1_3
  case neg => rw [if_neg c] at h; cases h
  rw [if_pos c] at h
  obtain ⟨rfl, rfl, rfl, rfl⟩ := c
  obtain ⟨b0, hq0, h⟩ := Option.bind_eq_some_iff.1 h
  cases b0 with
  | false => simp at h
  | true =>
  rw [if_pos rfl] at h
  have HQ0 := Aside0.mk hq0
  clear hq0
  obtain ⟨b1, hq1, h⟩ := Option.bind_eq_some_iff.1 h
  cases b1 with
  | false => simp at h
  | true =>
  rw [if_pos rfl] at h
  have HQ1 := Aside0.mk hq1
  clear hq1
  obtain ⟨b3, hq3, h⟩ := Option.bind_eq_some_iff.1 h
  cases b3 with
  | false => simp at h
  | true =>
  rw [if_pos rfl] at h
  have HQ3 := Aside0.mk hq3
  clear hq3
  obtain rfl := Option.some.inj h
  clear h
  have HR0_0 := Aside0.mk hr0_0
  have HC0_0 := Aside0.mk hc0_0
  clear hr0_0 hc0_0
  have HR0_1 := Aside0.mk hr0_1
  have HC0_1 := Aside0.mk hc0_1
  clear hr0_1 hc0_1
  have HR0_3 := Aside0.mk hr0_3
  have HC0_3 := Aside0.mk hc0_3
  clear hr0_3 hc0_3
  have HR1_0 := Aside0.mk hr1_0
  have HC1_0 := Aside0.mk hc1_0
  clear hr1_0 hc1_0
  have HR1_1 := Aside0.mk hr1_1
  have HC1_1 := Aside0.mk hc1_1
  clear hr1_1 hc1_1
  have HR1_3 := Aside0.mk hr1_3
  have HC1_3 := Aside0.mk hc1_3
  clear hr1_3 hc1_3
  have hu3 := Try.underlying3
  have hu30 := Try.underlying30
  have hu31 := Try.underlying31
  have hu32 := Try.underlying32
  have hu34 := Try.underlying34
  have HL0 := Aside0.mk (show Below w.heap.size w ((w.alloc (.cells #[.slice A0_0 l0_0.length c0_0, .slice A0_1 l0_1.length c0_1, .int .i64 a0_2, .slice A0_3 l0_3.length c0_3] 34)).alloc (.cells #[.slice A1_0 l0_0.length c1_0, .slice A1_1 l0_1.length c1_1, .int .i64 a0_2, .slice A1_3 l0_3.length c1_3] 34)) from below_alloc (below_alloc (Below.refl _ _) _) _)
  have HZ0 := Aside0.mk (show w.heap.size + 2 ≤ ((w.alloc (.cells #[.slice A0_0 l0_0.length c0_0, .slice A0_1 l0_1.length c0_1, .int .i64 a0_2, .slice A0_3 l0_3.length c0_3] 34)).alloc (.cells #[.slice A1_0 l0_0.length c1_0, .slice A1_1 l0_1.length c1_1, .int .i64 a0_2, .slice A1_3 l0_3.length c1_3] 34)).heap.size by simp)
  have HA0 := Aside0.mk (show ((w.alloc (.cells #[.slice A0_0 l0_0.length c0_0, .slice A0_1 l0_1.length c0_1, .int .i64 a0_2, .slice A0_3 l0_3.length c0_3] 34)).alloc (.cells #[.slice A1_0 l0_0.length c1_0, .slice A1_1 l0_1.length c1_1, .int .i64 a0_2, .slice A1_3 l0_3.length c1_3] 34)).heap[w.heap.size]? = some (.cells #[.slice A0_0 l0_0.length c0_0, .slice A0_1 l0_1.length c0_1, .int .i64 a0_2, .slice A0_3 l0_3.length c0_3] 34 (0, 0)) from blk_alloc (heap_alloc_new w _) _)
  have HD0 := Aside0.mk (show ((w.alloc (.cells #[.slice A0_0 l0_0.length c0_0, .slice A0_1 l0_1.length c0_1, .int .i64 a0_2, .slice A0_3 l0_3.length c0_3] 34)).alloc (.cells #[.slice A1_0 l0_0.length c1_0, .slice A1_1 l0_1.length c1_1, .int .i64 a0_2, .slice A1_3 l0_3.length c1_3] 34)).heap[w.heap.size + 1]? = some (.cells #[.slice A1_0 l0_0.length c1_0, .slice A1_1 l0_1.length c1_1, .int .i64 a0_2, .slice A1_3 l0_3.length c1_3] 34 (0, 0)) from by have := heap_alloc_new (w.alloc (.cells #[.slice A0_0 l0_0.length c0_0, .slice A0_1 l0_1.length c0_1, .int .i64 a0_2, .slice A0_3 l0_3.length c0_3] 34)) (.cells #[.slice A1_0 l0_0.length c1_0, .slice A1_1 l0_1.length c1_1, .int .i64 a0_2, .slice A1_3 l0_3.length c1_3] 34); simpa using this)
  go_enter Try.func15, Try.ntmps15
  go_wp2_with fail
  refine (laws_eqCellS.calls k _ _ _ _ _ _ true _ (Kd.C_below HR0_0.out HL0.out) HC0_0.out (Kd.C_below HR1_0.out HL0.out) HC1_0.out HQ0.out).mono ?_
  rintro e w1 ⟨rfl, hb_⟩
  have hb0 : Below _ _ w1 := (by first | exact hb_ | exact hb_.below)
  clear hb_
  have HL1 := Aside0.mk (show Below w.heap.size w w1 from below_then HL0.out HL0.out.size hb0)
  have HZ1 := Aside0.mk (Nat.le_trans HZ0.out hb0.size)
  have HA1 := Aside0.mk ((hb0.block _ (by have := HZ0.out; omega)).trans HA0.out)
  have HD1 := Aside0.mk ((hb0.block _ (by have := HZ0.out; omega)).trans HD0.out)
  clear hb0
  have hx1 : w1.cell? ⟨w.heap.size, 1, none⟩ = some (.slice A0_1 l0_1.length c0_1) := (blk_cell HA1.out 1).trans rfl
  have hy1 : w1.cell? ⟨w.heap.size + 1, 1, none⟩ = some (.slice A1_1 l0_1.length c1_1) := (blk_cell HD1.out 1).trans rfl
  have hx2 : w1.cell? ⟨w.heap.size, 2, none⟩ = some (.int .i64 a0_2) := (blk_cell HA1.out 2).trans rfl
  have hy2 : w1.cell? ⟨w.heap.size + 1, 2, none⟩ = some (.int .i64 a0_2) := (blk_cell HD1.out 2).trans rfl
  have hx3 : w1.cell? ⟨w.heap.size, 3, none⟩ = some (.slice A0_3 l0_3.length c0_3) := (blk_cell HA1.out 3).trans rfl
  have hy3 : w1.cell? ⟨w.heap.size + 1, 3, none⟩ = some (.slice A1_3 l0_3.length c1_3) := (blk_cell HD1.out 3).trans rfl
  go_wp2_with fail
  refine (laws_eqTaskS.calls k _ _ _ _ _ _ true _ (Kd.C_below HR0_1.out HL1.out) HC0_1.out (Kd.C_below HR1_1.out HL1.out) HC1_1.out HQ1.out).mono ?_
  rintro e w2 ⟨rfl, hb_⟩
  have hb1 : Below _ _ w2 := (by first | exact hb_ | exact hb_.below)
  clear hb_
  have HL2 := Aside0.mk (show Below w.heap.size w w2 from below_then HL1.out HL1.out.size hb1)
  have HZ2 := Aside0.mk (Nat.le_trans HZ1.out hb1.size)
  have HA2 := Aside0.mk ((hb1.block _ (by have := HZ1.out; omega)).trans HA1.out)
  have HD2 := Aside0.mk ((hb1.block _ (by have := HZ1.out; omega)).trans HD1.out)
  clear hb1
  clear hx2 hy2
  clear hx3 hy3
  clear hx1 hy1
  have hx2 : w2.cell? ⟨w.heap.size, 2, none⟩ = some (.int .i64 a0_2) := (blk_cell HA2.out 2).trans rfl
  have hy2 : w2.cell? ⟨w.heap.size + 1, 2, none⟩ = some (.int .i64 a0_2) := (blk_cell HD2.out 2).trans rfl
  have hx3 : w2.cell? ⟨w.heap.size, 3, none⟩ = some (.slice A0_3 l0_3.length c0_3) := (blk_cell HA2.out 3).trans rfl
  have hy3 : w2.cell? ⟨w.heap.size + 1, 3, none⟩ = some (.slice A1_3 l0_3.length c1_3) := (blk_cell HD2.out 3).trans rfl
  go_wp2_with fail
  refine (laws_eqEntryS.calls k _ _ _ _ _ _ true _ (Kd.C_below HR0_3.out HL2.out) HC0_3.out (Kd.C_below HR1_3.out HL2.out) HC1_3.out HQ3.out).mono ?_
  rintro e w3 ⟨rfl, hb_⟩
  have hb2 : Below _ _ w3 := (by first | exact hb_ | exact hb_.below)
  clear hb_
  have HL3 := Aside0.mk (show Below w.heap.size w w3 from below_then HL2.out HL2.out.size hb2)
  have HZ3 := Aside0.mk (Nat.le_trans HZ2.out hb2.size)
  have HA3 := Aside0.mk ((hb2.block _ (by have := HZ2.out; omega)).trans HA2.out)
  have HD3 := Aside0.mk ((hb2.block _ (by have := HZ2.out; omega)).trans HD2.out)
  clear hb2
  clear hx3 hy3
  go_wp2
  go_ret
  exact ⟨rfl, HL3.out⟩

/-! ### laws_markPutS: function 52 -/
def laws_markPutS.l0 : Nat → List (S110) → Int → Int → Option (Int × (List (S110)))
  | 0, _, _, _ => none
  | k + 1, x0, x1, x5 => if x5 < (x0.length : Int) then (if 0 ≤ x5 then ((some (x0.set (x5 : Int).toNat (⟨x1, (rd_T110 x0 x5).f1⟩ : S110) : List (S110))).bind fun y238 => (laws_markPutS.l0 k (y238.set (x5 : Int).toNat (⟨(rd_T110 y238 x5).f0, wrap64 (x1 + 1)⟩ : S110)) (wrap64 ((wrap64 (x1 + 1)) + 1)) (wrap64 (x5 + 1)))) else (none)) else (some (x1, x0))
def laws_markPutS.f (k : Nat) (l0 : List (S110)) (a1 : Int) : Option (Int × (List (S110))) := laws_markPutS.l0 k l0 a1 0
theorem laws_markPutS.mono_l : ∀ k, (∀ y0 y1 y2, LeO (laws_markPutS.l0 k y0 y1 y2) (laws_markPutS.l0 (k + 1) y0 y1 y2))
  | 0 => fun _ _ _ r h => by simp [laws_markPutS.l0] at h
  | k + 1 => by
    have ih0 := laws_markPutS.mono_l k
    · intro y0 y1 y2
      unfold laws_markPutS.l0
      repeat' first
      | (with_reducible exact ih0 _ _ _)
      | (with_reducible exact LeO.refl _)
      | (with_reducible exact LeO.none _)
      | (with_reducible refine LeO.ite ?_ ?_)
      | (with_reducible refine LeO.bind ?_ (fun _ => ?_))
      | exact ih0 _ _ _
      | exact LeO.none _
      | refine LeO.ite ?_ ?_
      | refine LeO.bind ?_ (fun _ => ?_)
theorem laws_markPutS.mono : ∀ a0 a1 k, LeO (laws_markPutS.f k a0 a1) (laws_markPutS.f (k + 1) a0 a1) := by
  intro a0 a1 k
  have ih0 := laws_markPutS.mono_l k
  unfold laws_markPutS.f
  repeat' first
      | (with_reducible exact ih0 _ _ _)
      | (with_reducible exact LeO.refl _)
      | (with_reducible exact LeO.none _)
      | (with_reducible refine LeO.ite ?_ ?_)
      | (with_reducible refine LeO.bind ?_ (fun _ => ?_))
      | exact ih0 _ _ _
      | exact LeO.none _
      | refine LeO.ite ?_ ?_
      | refine LeO.bind ?_ (fun _ => ?_)
set_option maxHeartbeats 8000000 in
set_option maxRecDepth 100000 in
theorem laws_markPutS.calls (k : Nat) (P0_ : Nat → Prop) (u9000_ : Value) (l0 : List (S110)) (a1 : Int) (r1 : Int) (r2 : List (S110)) (w0 w : World) (hB : Below w0.heap.size w0 w) (ho0 : Kd.R k110 110 w w0.heap.size P0_ u9000_ l0) (h : laws_markPutS.f k l0 a1 = some (r1, r2)) :
    Calls Try.prog 52 #[u9000_, .int .i64 a1] w fun e w' => e = .returned (.int .i64 r1) ∧ Kd.R k110 110 w' w0.heap.size (fun k_ => (P0_ k_ ∨ w.heap.size ≤ k_)) u9000_ r2 ∧ Below w0.heap.size w0 w' ∧ Kept w w' (fun k_ => P0_ k_) := by
  have HO0 := Aside0.mk (show Kd.R k110 110 w w0.heap.size (fun k_ => (P0_ k_ ∨ w.heap.size ≤ k_)) u9000_ l0 from Kd.R_mono ho0 (fun k_ hk => (.inl hk)))
  have HK := Aside0.mk (Kept.refl w (fun k_ => P0_ k_))
  have HW0 := Aside0.mk hB.size
  have HB := Aside0.mk hB
  clear hB
  have H : (laws_markPutS.l0 k l0 a1 0) = some (r1, r2) := h
  clear h
  have H' := Aside0.mk H
  clear H
  go_enter Try.func52, Try.ntmps52
  go_wp2
  go_loopg [1, 5] k (fun kq v1 v5 w' => ∃ (x0_1 : List (S110)) (x1_1 : Int) (x5_1 : Int), v1 = .int .i64 x1_1 ∧ v5 = .int .i64 x5_1 ∧ Aside0 (laws_markPutS.l0 kq x0_1 x1_1 x5_1 = some (r1, r2)) ∧ Aside0 (kq ≤ k) ∧ Aside0 (Kd.R k110 110 w' w0.heap.size (fun k_ => (P0_ k_ ∨ w.heap.size ≤ k_)) u9000_ x0_1) ∧ Aside0 (Kept w w' (fun k_ => P0_ k_)) ∧ Aside0 (Below w0.heap.size w0 w'))
  case atStart => exact ⟨(l0), (a1), (0), (by first | rfl | (simp; done) | (simp [*]; done)), (by first | rfl | (simp; done) | (simp [*]; done)), H', ⟨Nat.le_refl _⟩, ⟨by (with_reducible repeat (first | apply Kd.R_alloc | apply Kd.R_drewN | apply Kd.R_drew)); exact HO0.out⟩, ⟨by repeat (first | (with_reducible first | exact HK.out | apply Kept.alloc | apply Kept.drewN | apply Kept.drew) | exact HK.out)⟩, ⟨by repeat (first | (with_reducible first | exact HB.out | apply below_alloc | apply pw_below_drewN | apply below_drew1) | exact HB.out)⟩⟩
  case round =>
    clear H'
    try clear p2
    obtain ⟨x0_1, x1_1, x5_1, rfl, rfl, HA, HK1, HO_0, HK, HB⟩ := hrel
    cases gk with
    | zero => exact absurd HA.out (by simp [laws_markPutS.l0])
    | succ k1 =>
      have H := HA.out
      clear HA
      simp only [laws_markPutS.l0] at H
      by_cases c3 : x5_1 < (x0_1.length : Int)
      · rw [if_pos c3] at H
        have c3b0 : decide (x5_1 < (x0_1.length : Int)) = true := decide_eq_true c3
        clear c3
        by_cases c4 : 0 ≤ x5_1
        · rw [if_pos c4] at H
          have c4b0 : decide (0 ≤ x5_1) = true := decide_eq_true c4
          clear c4
          obtain ⟨y238, hy238⟩ : ∃ y_ : List (S110), y_ = (x0_1.set (x5_1 : Int).toNat (⟨x1_1, (rd_T110 x0_1 x5_1).f1⟩ : S110)) := ⟨_, rfl⟩
          replace H : (laws_markPutS.l0 k1 (y238.set (x5_1 : Int).toNat (⟨(rd_T110 y238 x5_1).f0, wrap64 (x1_1 + 1)⟩ : S110)) (wrap64 ((wrap64 (x1_1 + 1)) + 1)) (wrap64 (x5_1 + 1))) = some (r1, r2) := by first | (rw [hy238]; with_reducible exact H) | (have H2_ := (Option.bind_some _ _).symm.trans H; rw [hy238]; with_reducible exact H2_) | (have H2_ := (Option.bind_some _ _).symm.trans H; with_reducible exact H2_) | with_reducible exact H | (rw [hy238]; exact H) | exact H
          have Ny238 := Aside0.mk hy238
          clear hy238
          obtain ⟨y239, hy239⟩ : ∃ y_ : List (S110), y_ = (y238.set (x5_1 : Int).toNat (⟨(rd_T110 y238 x5_1).f0, wrap64 (x1_1 + 1)⟩ : S110)) := ⟨_, rfl⟩
          replace H : (laws_markPutS.l0 k1 y239 (wrap64 ((wrap64 (x1_1 + 1)) + 1)) (wrap64 (x5_1 + 1))) = some (r1, r2) := by first | (rw [hy239]; with_reducible exact H) | (have H2_ := (Option.bind_some _ _).symm.trans H; rw [hy239]; with_reducible exact H2_) | (have H2_ := (Option.bind_some _ _).symm.trans H; with_reducible exact H2_) | with_reducible exact H | (rw [hy239]; exact H) | exact H
          have Ny239 := Aside0.mk hy239
          clear hy239
          have H' := Aside0.mk H
          clear H
          obtain ⟨Ao7, co7, eo7⟩ := Kd.R_slice HO_0.out
          subst eo7
          have p5 : 0 ≤ (x5_1 : Int) := of_decide_eq_true (by first | (with_reducible assumption) | assumption)
          have q5 : (x5_1 : Int) < ((x0_1.length : Int) : Int) := of_decide_eq_true (by first | (with_reducible assumption) | assumption)
          obtain ⟨go5, co5, eo5, gb5, gl5, cl5, HG5⟩ := Kd.R_form HO_0.out (by omega)
          (first | cases eo5 | (injection eo5 with ea_ en_ ec_; (first | subst ea_ | (injection ea_ with ea_; subst ea_)); subst ec_; clear en_))
          have GB5 := Aside0.mk gb5
          have GG5 := Aside0.mk HG5
          clear gb5 gl5 HG5
          have HMgo5 := Aside0.mk (show (P0_ go5 ∨ w.heap.size ≤ go5) from (HO_0.out.1 _ rfl))
          obtain ⟨ce5, hcl5, hM5, hcc5, hfr5⟩ := Kd.R_elem HO_0.out z110 (x5_1 : Int) p5 q5
          obtain rfl := k110_openM hM5
          have hx5_0 : wr.cell? ⟨go5, (x5_1 : Int).toNat * 2, none⟩ = some (.int .i64 ((rd_T110 x0_1 x5_1).f0)) := hcc5 0 _ rfl
          have hx5_1 : wr.cell? ⟨go5, (x5_1 : Int).toNat * 2 + 1, none⟩ = some (.int .i64 ((rd_T110 x0_1 x5_1).f1)) := hcc5 1 _ rfl
          have hf5_0 : wr.frozen? ⟨go5, (x5_1 : Int).toNat * 2, none⟩ = false := hfr5 0
          have hf5_1 : wr.frozen? ⟨go5, (x5_1 : Int).toNat * 2 + 1, none⟩ = false := hfr5 1
          clear hcl5 hcc5 hfr5 hM5
          replace p5 := eq_true p5
          replace q5 := eq_true q5
          have HX8 := Aside0.mk (show Kd.R k110 110 wr w0.heap.size (fun k_ => (P0_ k_ ∨ w.heap.size ≤ k_)) (.slice (some ⟨go5, 0, none⟩) x0_1.length co7) x0_1 from (by (with_reducible repeat (first | apply Kd.R_alloc | apply Kd.R_drewN | apply Kd.R_drew)); exact HO_0.out))
          obtain ⟨ce8, hcl8, hM8, hcc8, hfr8⟩ := Kd.R_elem HX8.out z110 (x5_1 : Int) (of_decide_eq_true (by first | (with_reducible assumption) | assumption)) (by have h_ : (x5_1 : Int) < ((x0_1.length : Int) : Int) := of_decide_eq_true (by first | (with_reducible assumption) | assumption); first | exact h_ | (have e_ := (Kd.R_reads' HO_0.out).1; omega) | simpa using h_)
          obtain rfl := k110_openM hM8
          have HP8 := Kd.R_seg HX8.out (x5_1 : Int) (of_decide_eq_true (by first | (with_reducible assumption) | assumption)) (by have h_ : (x5_1 : Int) < ((x0_1.length : Int) : Int) := of_decide_eq_true (by first | (with_reducible assumption) | assumption); first | exact h_ | (have e_ := (Kd.R_reads' HO_0.out).1; omega) | simpa using h_) (seg := [.int .i64 x1_1]) (j := 0) hcl8 hcc8 (show 1 ≤ 2 from by decide) (x' := (⟨x1_1, (rd_T110 x0_1 x5_1).f1⟩ : S110)) (k110_mkM _ _ _ (⟨x1_1, (rd_T110 x0_1 x5_1).f1⟩ : S110) ) (fun _ hk => hk)
          have hx8_0 := hcc8 0 _ rfl
          (try simp only [show (k110).sz = 2 from rfl, Nat.mul_one, Nat.add_zero] at hx8_0)
          have hf8_0 := hfr8 0
          (try simp only [show (k110).sz = 2 from rfl, Nat.mul_one, Nat.add_zero] at hf8_0)
          clear hcl8 hcc8 hfr8 hM8
          go_wp2_with (first | ((with_reducible refine gate_store (t := 3) (p := 16) rfl ?_); refine store_event (t := 3) (p := 16) (v := ?vo_w9) (w1 := (wr.setCell ⟨go5, (x5_1 : Int).toNat * 2, none⟩ (.int .i64 x1_1))) ?hg ?ho ?hn ?hr ?_; (case ho => rfl); (case hg => rfl); (case hn => rfl); (case hr => first | (go_simp; done) | (go_simp; rfl)); intro w9 hw; have hg : wr.grownBy w9 (some go5) := (by rw [hw]; exact HP8.2); have hp_ : Kd.R k110 110 w9 w0.heap.size (fun k_ => (P0_ k_ ∨ w.heap.size ≤ k_)) (.slice (some ⟨go5, 0, none⟩) x0_1.length co7) y238 := (by rw [hw, Ny238.out]; exact HP8.1); clear HP8; have n0_ := Aside0.mk (hp_); have n1_ := Aside0.mk ((by rw [hw]; exact below_set (HB.out) GB5.out : Below w0.heap.size w0 w9)); have n2_ := Aside0.mk (Kept.of_grown (S := (fun k_ => P0_ k_)) hg (by repeat (first | (with_reducible first | exact HK.out | apply Kept.alloc | apply Kept.drewN | apply Kept.drew) | exact HK.out)) (fun k_ e_ => (HO_0.out.1 k_ e_))); clear HO_0; clear HB; clear HK; have HO_0 := n0_; have HB := n1_; have HK := n2_; clear n0_ n1_ n2_; clear hg hw hp_; have p6 : 0 ≤ (x5_1 : Int) := of_decide_eq_true (by first | (with_reducible assumption) | assumption); have q6 : (x5_1 : Int) < ((x0_1.length : Int) : Int) := of_decide_eq_true (by first | (with_reducible assumption) | assumption); obtain ⟨ce6, hcl6, hM6, hcc6, hfr6⟩ := Kd.R_elem HO_0.out z110 (x5_1 : Int) p6 q6; obtain rfl := k110_openM hM6; have hx6_0 : w9.cell? ⟨go5, (x5_1 : Int).toNat * 2, none⟩ = some (.int .i64 ((rd_T110 y238 x5_1).f0)) := hcc6 0 _ rfl; have hx6_1 : w9.cell? ⟨go5, (x5_1 : Int).toNat * 2 + 1, none⟩ = some (.int .i64 ((rd_T110 y238 x5_1).f1)) := hcc6 1 _ rfl; have hf6_0 : w9.frozen? ⟨go5, (x5_1 : Int).toNat * 2, none⟩ = false := hfr6 0; have hf6_1 : w9.frozen? ⟨go5, (x5_1 : Int).toNat * 2 + 1, none⟩ = false := hfr6 1; clear hcl6 hcc6 hfr6; (try clear hM6); replace p6 := eq_true p6; replace q6 := eq_true q6; have HX10 := Aside0.mk (show Kd.R k110 110 w9 w0.heap.size (fun k_ => (P0_ k_ ∨ w.heap.size ≤ k_)) (.slice (some ⟨go5, 0, none⟩) x0_1.length co7) y238 from (by (with_reducible repeat (first | apply Kd.R_alloc | apply Kd.R_drewN | apply Kd.R_drew)); exact HO_0.out)); obtain ⟨ce10, hcl10, hM10, hcc10, hfr10⟩ := Kd.R_elem HX10.out z110 (x5_1 : Int) (of_decide_eq_true (by first | (with_reducible assumption) | assumption)) (by have h_ : (x5_1 : Int) < ((x0_1.length : Int) : Int) := of_decide_eq_true (by first | (with_reducible assumption) | assumption); first | exact h_ | (have e_ := (Kd.R_reads' HO_0.out).1; omega) | simpa using h_); obtain rfl := k110_openM hM10; have HP10 := Kd.R_seg HX10.out (x5_1 : Int) (of_decide_eq_true (by first | (with_reducible assumption) | assumption)) (by have h_ : (x5_1 : Int) < ((x0_1.length : Int) : Int) := of_decide_eq_true (by first | (with_reducible assumption) | assumption); first | exact h_ | (have e_ := (Kd.R_reads' HO_0.out).1; omega) | simpa using h_) (seg := [.int .i64 (wrap64 (x1_1 + 1))]) (j := 1) hcl10 hcc10 (show 2 ≤ 2 from by decide) (x' := (⟨(rd_T110 y238 x5_1).f0, wrap64 (x1_1 + 1)⟩ : S110)) (k110_mkM _ _ _ (⟨(rd_T110 y238 x5_1).f0, wrap64 (x1_1 + 1)⟩ : S110) ) (fun _ hk => hk); have hx10_1 := hcc10 1 _ rfl; (try simp only [show (k110).sz = 2 from rfl, Nat.mul_one, Nat.add_zero] at hx10_1); have hf10_1 := hfr10 1; (try simp only [show (k110).sz = 2 from rfl, Nat.mul_one, Nat.add_zero] at hf10_1); clear hcl10 hcc10 hfr10 hM10) | ((with_reducible refine gate_store (t := 3) (p := 23) rfl ?_); refine store_event (t := 3) (p := 23) (v := ?vo_w11) (w1 := (w9.setCell ⟨go5, (x5_1 : Int).toNat * 2 + 1, none⟩ (.int .i64 (wrap64 (x1_1 + 1))))) ?hg ?ho ?hn ?hr ?_; (case ho => rfl); (case hg => rfl); (case hn => rfl); (case hr => first | (go_simp; done) | (go_simp; rfl)); intro w11 hw; have hg : w9.grownBy w11 (some go5) := (by rw [hw]; exact HP10.2); have hp_ : Kd.R k110 110 w11 w0.heap.size (fun k_ => (P0_ k_ ∨ w.heap.size ≤ k_)) (.slice (some ⟨go5, 0, none⟩) x0_1.length co7) y239 := (by rw [hw, Ny239.out]; exact HP10.1); clear HP10; have n0_ := Aside0.mk (hp_); have n1_ := Aside0.mk ((by rw [hw]; exact below_set (HB.out) GB5.out : Below w0.heap.size w0 w11)); have n2_ := Aside0.mk (Kept.of_grown (S := (fun k_ => P0_ k_)) hg (by repeat (first | (with_reducible first | exact HK.out | apply Kept.alloc | apply Kept.drewN | apply Kept.drew) | exact HK.out)) (fun k_ e_ => (HO_0.out.1 k_ e_))); clear HO_0; clear HB; clear HK; have HO_0 := n0_; have HB := n1_; have HK := n2_; clear n0_ n1_ n2_; clear hg hw hp_))
          go_roundg k1
          case measure => have := HK1.out; omega
          case rel => exact ⟨(y239), (wrap64 ((wrap64 (x1_1 + 1)) + 1)), (wrap64 (x5_1 + 1)), (by first | rfl | (simp; done) | (simp [*]; done)), (by first | rfl | (simp; done) | (simp [*]; done)), H', ⟨by have := HK1.out; omega⟩, ⟨by (with_reducible repeat (first | apply Kd.R_alloc | apply Kd.R_drewN | apply Kd.R_drew)); exact HO_0.out⟩, ⟨by repeat (first | (with_reducible first | exact HK.out | apply Kept.alloc | apply Kept.drewN | apply Kept.drew) | exact HK.out)⟩, ⟨by repeat (first | (with_reducible first | exact HB.out | apply below_alloc | apply pw_below_drewN | apply below_drew1) | exact HB.out)⟩⟩
        · rw [if_neg c4] at H
          exact absurd H (by simp)
      · rw [if_neg c3] at H
        have c3b0 : decide (x5_1 < (x0_1.length : Int)) = false := decide_eq_false c3
        clear c3
        simp only [Option.some.injEq, Prod.mk.injEq] at H
        obtain ⟨rfl, rfl⟩ := H
        obtain ⟨Ao12, co12, eo12⟩ := Kd.R_slice HO_0.out
        subst eo12
        go_wp2
        go_ret
        exact ⟨by first | rfl | (simp [errW_none, errW_some] <;> rfl) | (simp [*, errW_none, errW_some] <;> rfl), by (with_reducible repeat (first | apply Kd.R_alloc | apply Kd.R_drewN | apply Kd.R_drew)); exact HO_0.out, by repeat (first | (with_reducible first | exact HB.out | apply below_alloc | apply pw_below_drewN | apply below_drew1) | exact HB.out), by repeat (first | (with_reducible first | exact HK.out | apply Kept.alloc | apply Kept.drewN | apply Kept.drew) | exact HK.out)⟩

/-! ### laws_markEntryS: function 30 -/
def lens78 (x : S78) : L78 := ⟨x.f3.length, x.f4.length⟩
theorem sh78 {w : World} {base n c : Nat} {P : Nat → Prop} {A : Option Addr} {l : List S78} (h : Kd.R k78 78 w base P (.slice A n c) l) : n = l.length ∧ Sh78 w (fun k_ => P k_ ∧ base ≤ k_) A (l.map lens78) := by
  have hr := Kd.R_reads' h
  have hn : n = l.length := hr.1
  subst hn
  refine ⟨rfl, by rw [List.length_map]; exact hr.2.2.2.1, fun hpos => ?_⟩
  rw [List.length_map] at hpos
  obtain ⟨g, cap, hv, hbg, _⟩ := Kd.R_form h hpos
  injection hv with h1 h2 h3
  subst h1 h3
  refine ⟨g, rfl, ⟨h.1 g rfl, hbg⟩, fun j => ?_, fun i q hq => ?_⟩
  · obtain ⟨_, _, _, _, hfr⟩ := Kd.R_elem h z78 0 (Int.le_refl _) (by omega)
    have := hfr j
    simpa using this
  · rw [List.getElem?_map] at hq
    obtain ⟨x, hx, rfl⟩ := Option.map_eq_some_iff.1 hq
    have hi : i < l.length := (List.getElem?_eq_some_iff.1 hx).1
    obtain ⟨c, hcl, hM, hcc, _⟩ := Kd.R_elem h z78 (i : Int) (by omega) (by omega)
    have ex : l.getD (i : Int).toNat z78 = x := by rw [List.getD_eq_getElem?_getD, show (i : Int).toNat = i from rfl, hx]; rfl
    rw [ex] at hM
    have hc : ∀ j u, c[j]? = some u → w.cell? ⟨g, i * 6 + j, none⟩ = some u := hcc
    obtain ⟨v3, v4, rfl, g3, g4⟩ := k78_openM hM
    obtain ⟨A3, c3, rfl⟩ := Kd.R_slice g3
    have s3 := (ShR_of_R g3 (by decide) z110 (by intro w base ok x cs h u hu; rw [k110_openM h] at hu; simp only [List.mem_cons, List.not_mem_nil, or_false] at hu; rcases hu with rfl | rfl <;> exact ⟨_, rfl⟩))
    obtain ⟨A4, c4, rfl⟩ := Kd.R_slice g4
    have s4 := (ShR_of_R g4 (by decide) z110 (by intro w base ok x cs h u hu; rw [k110_openM h] at hu; simp only [List.mem_cons, List.not_mem_nil, or_false] at hu; rcases hu with rfl | rfl <;> exact ⟨_, rfl⟩))
    exact ⟨⟨_, (hc 0 _ rfl)⟩, ⟨_, (hc 1 _ rfl)⟩, ⟨_, (hc 2 _ rfl)⟩, ⟨A3, c3, (hc 3 _ rfl), s3.2.mono (fun k hk => ⟨hk.1.1, hk.2⟩)⟩, ⟨A4, c4, (hc 4 _ rfl), s4.2.mono (fun k hk => ⟨hk.1.1, hk.2⟩)⟩, ⟨_, (hc 5 _ rfl)⟩⟩
def laws_markEntryS.f (l0 : List S78) (a1 : Int) : Option Int := some (mkI (cnt78 (l0.map lens78)) a1)
theorem laws_markEntryS.calls (P0_ : Nat → Prop) (u9000_ : Value) (l0 : List S78) (a1 : Int) (r : Int) (w0 w : World) (hB : Below w0.heap.size w0 w) (ho0 : Kd.R k78 78 w w0.heap.size P0_ u9000_ l0) (h : laws_markEntryS.f l0 a1 = some r) :
    Calls Try.prog 30 #[u9000_, .int .i64 a1] w fun e w' => e = .returned (.int .i64 r) ∧ Below w0.heap.size w0 w' ∧ Kept w w' (fun k_ => P0_ k_) := by
  obtain ⟨A, c, rfl⟩ := Kd.R_slice ho0
  obtain rfl := Option.some.inj h
  have hs := (sh78 ho0).2
  have hc := markEntryS_sh _ A _ c a1 w hs
  rw [List.length_map] at hc
  refine hc.mono fun e w' ⟨he, hi⟩ => ⟨he, hi.below hB (fun k hk => hk.2), hi.kept.mono (fun k hk => hk.1)⟩

end Go.Proofs.Ytpodhdpkdhcnoaa.QSC
