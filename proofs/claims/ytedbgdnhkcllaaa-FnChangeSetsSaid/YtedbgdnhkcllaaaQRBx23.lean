-- Written by a program of this session (wip/tools/myprint.py).
import Derived.Test.YtedbgdnhkcllaaaQRBx0
import Derived.Test.YtedbgdnhkcllaaaQRBx10
import Derived.Test.YtedbgdnhkcllaaaQRBx19
import Derived.Test.YtedbgdnhkcllaaaQRBx20
import Derived.Test.YtedbgdnhkcllaaaQRBx21
import Derived.Test.YtedbgdnhkcllaaaQRBx22
namespace Go.Proofs.Ytedbgdnhkcllaaa.QRB
open Go.RowKit Go.Proofs.YtedbgdnhkcllaaaW.PrintWords Go.Proofs.YtedbgdnhkcllaaaW.PrintLast Go.Proofs.YtedbgdnhkcllaaaW.PrintMore
attribute [local go_sem] max2_int min2_int max_two min_two max_three min_three max_four min_four   -- for this text's walks alone
set_option linter.unusedVariables false
set_option linter.unusedSimpArgs false

/-! ### laws_FnChangeSets: function 11 -/
mutual
def laws_FnChangeSets.j0 : Nat → List (S41) → List Int → List Int → Bool → Option (Bool)
  | 0, _, _, _, _ => none
  | k + 1, x3, x4, x5, x27 => if x27 = true then (some false) else (laws_FnChangeSets.l0 k x3 x4 x5 0)
def laws_FnChangeSets.l0 : Nat → List (S41) → List Int → List Int → Int → Option (Bool)
  | 0, _, _, _, _ => none
  | k + 1, x3, x4, x5, x6 => if x6 < (x3.length : Int) then (if 0 ≤ x6 then (if ((rd_T41 x3 x6).f0) = 2 then ((laws_lqHas.f k x5 ((rd_T41 x3 x6).f1)).bind fun t524 => (if t524 = true then (if ((rd_T41 x3 x6).f0) = 1 then ((laws_lqHas.f k x4 ((rd_T41 x3 x6).f2)).bind fun t527 => (if t527 = true then (laws_FnChangeSets.l0 k x3 x4 x5 (wrap64 (x6 + 1))) else ((laws_lqHas.f k x5 ((rd_T41 x3 x6).f2)).bind fun t529 => (if t529 = true then (laws_FnChangeSets.l0 k x3 x4 x5 (wrap64 (x6 + 1))) else (some false))))) else (laws_FnChangeSets.l0 k x3 x4 x5 (wrap64 (x6 + 1)))) else (some false))) else (if ((rd_T41 x3 x6).f0) = 1 then ((laws_lqHas.f k x4 ((rd_T41 x3 x6).f2)).bind fun t532 => (if t532 = true then (laws_FnChangeSets.l0 k x3 x4 x5 (wrap64 (x6 + 1))) else ((laws_lqHas.f k x5 ((rd_T41 x3 x6).f2)).bind fun t534 => (if t534 = true then (laws_FnChangeSets.l0 k x3 x4 x5 (wrap64 (x6 + 1))) else (some false))))) else (laws_FnChangeSets.l0 k x3 x4 x5 (wrap64 (x6 + 1))))) else (none)) else ((laws_lqUp.f k x4).bind fun t520 => (if t520 = true then ((laws_lqUp.f k x5).bind fun t521 => (some t521)) else (some false)))
end
def laws_FnChangeSets.f (k : Nat) (l0 : List Int) : Option (Bool) := if (l0.length : Int) > 1048576 then (some true) else ((spec_DrawChangeReads.f k l0).bind fun t503 => ((impl_ChangeReads.f k t503).bind fun t506 => ((impl_ChangeWrites.f k t503).bind fun t509 => ((spec_ChangeReads.f k t503).bind fun t512 => ((laws_lqInts.f k t506 t512).bind fun t515 => (if t515 = true then ((spec_ChangeWrites.f k t503).bind fun t516 => ((laws_lqInts.f k t509 t516).bind fun t519 => (laws_FnChangeSets.j0 k t503 t506 t509 (!t519)))) else (laws_FnChangeSets.j0 k t503 t506 t509 true)))))))
theorem laws_FnChangeSets.mono_l : ∀ k, (∀ y0 y1 y2 y3, LeO (laws_FnChangeSets.j0 k y0 y1 y2 y3) (laws_FnChangeSets.j0 (k + 1) y0 y1 y2 y3)) ∧ (∀ y0 y1 y2 y3, LeO (laws_FnChangeSets.l0 k y0 y1 y2 y3) (laws_FnChangeSets.l0 (k + 1) y0 y1 y2 y3))
  | 0 => ⟨fun _ _ _ _ r h => by simp [laws_FnChangeSets.j0] at h, fun _ _ _ _ r h => by simp [laws_FnChangeSets.l0] at h⟩
  | k + 1 => by
    obtain ⟨ih0, ih1⟩ := laws_FnChangeSets.mono_l k
    refine ⟨?_, ?_⟩
    · intro y0 y1 y2 y3
      unfold laws_FnChangeSets.j0
      repeat' first
      | (with_reducible exact ih0 _ _ _ _)
      | (with_reducible exact ih1 _ _ _ _)
      | (with_reducible exact impl_ChangeReads.mono _ _)
      | (with_reducible exact impl_ChangeWrites.mono _ _)
      | (with_reducible exact laws_lqHas.mono _ _ _)
      | (with_reducible exact laws_lqInts.mono _ _ _)
      | (with_reducible exact laws_lqUp.mono _ _)
      | (with_reducible exact spec_ChangeReads.mono _ _)
      | (with_reducible exact spec_ChangeWrites.mono _ _)
      | (with_reducible exact spec_DrawChangeReads.mono _ _)
      | (with_reducible exact LeO.refl _)
      | (with_reducible exact LeO.none _)
      | (with_reducible refine LeO.ite ?_ ?_)
      | (with_reducible refine LeO.bind ?_ (fun _ => ?_))
      | exact ih0 _ _ _ _
      | exact ih1 _ _ _ _
      | exact impl_ChangeReads.mono _ _
      | exact impl_ChangeWrites.mono _ _
      | exact laws_lqHas.mono _ _ _
      | exact laws_lqInts.mono _ _ _
      | exact laws_lqUp.mono _ _
      | exact spec_ChangeReads.mono _ _
      | exact spec_ChangeWrites.mono _ _
      | exact spec_DrawChangeReads.mono _ _
      | exact LeO.none _
      | refine LeO.ite ?_ ?_
      | refine LeO.bind ?_ (fun _ => ?_)
    · intro y0 y1 y2 y3
      unfold laws_FnChangeSets.l0
      repeat' first
      | (with_reducible exact ih0 _ _ _ _)
      | (with_reducible exact ih1 _ _ _ _)
      | (with_reducible exact impl_ChangeReads.mono _ _)
      | (with_reducible exact impl_ChangeWrites.mono _ _)
      | (with_reducible exact laws_lqHas.mono _ _ _)
      | (with_reducible exact laws_lqInts.mono _ _ _)
      | (with_reducible exact laws_lqUp.mono _ _)
      | (with_reducible exact spec_ChangeReads.mono _ _)
      | (with_reducible exact spec_ChangeWrites.mono _ _)
      | (with_reducible exact spec_DrawChangeReads.mono _ _)
      | (with_reducible exact LeO.refl _)
      | (with_reducible exact LeO.none _)
      | (with_reducible refine LeO.ite ?_ ?_)
      | (with_reducible refine LeO.bind ?_ (fun _ => ?_))
      | exact ih0 _ _ _ _
      | exact ih1 _ _ _ _
      | exact impl_ChangeReads.mono _ _
      | exact impl_ChangeWrites.mono _ _
      | exact laws_lqHas.mono _ _ _
      | exact laws_lqInts.mono _ _ _
      | exact laws_lqUp.mono _ _
      | exact spec_ChangeReads.mono _ _
      | exact spec_ChangeWrites.mono _ _
      | exact spec_DrawChangeReads.mono _ _
      | exact LeO.none _
      | refine LeO.ite ?_ ?_
      | refine LeO.bind ?_ (fun _ => ?_)
theorem laws_FnChangeSets.mono : ∀ a0 k, LeO (laws_FnChangeSets.f k a0) (laws_FnChangeSets.f (k + 1) a0) := by
  intro a0 k
  obtain ⟨ih0, ih1⟩ := laws_FnChangeSets.mono_l k
  unfold laws_FnChangeSets.f
  repeat' first
      | (with_reducible exact ih0 _ _ _ _)
      | (with_reducible exact ih1 _ _ _ _)
      | (with_reducible exact impl_ChangeReads.mono _ _)
      | (with_reducible exact impl_ChangeWrites.mono _ _)
      | (with_reducible exact laws_lqHas.mono _ _ _)
      | (with_reducible exact laws_lqInts.mono _ _ _)
      | (with_reducible exact laws_lqUp.mono _ _)
      | (with_reducible exact spec_ChangeReads.mono _ _)
      | (with_reducible exact spec_ChangeWrites.mono _ _)
      | (with_reducible exact spec_DrawChangeReads.mono _ _)
      | (with_reducible exact LeO.refl _)
      | (with_reducible exact LeO.none _)
      | (with_reducible refine LeO.ite ?_ ?_)
      | (with_reducible refine LeO.bind ?_ (fun _ => ?_))
      | exact ih0 _ _ _ _
      | exact ih1 _ _ _ _
      | exact impl_ChangeReads.mono _ _
      | exact impl_ChangeWrites.mono _ _
      | exact laws_lqHas.mono _ _ _
      | exact laws_lqInts.mono _ _ _
      | exact laws_lqUp.mono _ _
      | exact spec_ChangeReads.mono _ _
      | exact spec_ChangeWrites.mono _ _
      | exact spec_DrawChangeReads.mono _ _
      | exact LeO.none _
      | refine LeO.ite ?_ ?_
      | refine LeO.bind ?_ (fun _ => ?_)
set_option maxHeartbeats 8000000 in
set_option maxRecDepth 100000 in
theorem laws_FnChangeSets.calls (k : Nat) (A0 : Option Addr) (c0 : Nat) (l0 : List Int) (r : Bool) (w : World) (hr0 : Kd.C (Kd.int .u8) w A0 l0.length l0) (hc0 : l0.length ≤ c0) (h : laws_FnChangeSets.f k l0 = some r) :
    Calls Try.prog 11 #[.slice A0 l0.length c0] w fun e w' => e = .returned (.bool r) ∧ Below w.heap.size w w' := by
  have HR0 := Aside0.mk hr0
  have HC0 := Aside0.mk hc0
  clear hr0 hc0
  have HB := Aside0.mk (Below.refl w.heap.size w)
  have H : (if (l0.length : Int) > 1048576 then (some true) else ((spec_DrawChangeReads.f k l0).bind fun t503 => ((impl_ChangeReads.f k t503).bind fun t506 => ((impl_ChangeWrites.f k t503).bind fun t509 => ((spec_ChangeReads.f k t503).bind fun t512 => ((laws_lqInts.f k t506 t512).bind fun t515 => (if t515 = true then ((spec_ChangeWrites.f k t503).bind fun t516 => ((laws_lqInts.f k t509 t516).bind fun t519 => (laws_FnChangeSets.j0 k t503 t506 t509 (!t519)))) else (laws_FnChangeSets.j0 k t503 t506 t509 true)))))))) = some r := h
  clear h
  by_cases c2 : (l0.length : Int) > 1048576
  · rw [if_pos c2] at H
    have c2b0 : decide (1048576 < (l0.length : Int)) = true := decide_eq_true c2
    have c2b1 : decide (1048576 < l0.length) = true := decide_eq_true (by omega)
    clear c2
    obtain rfl := Option.some.inj H
    go_enter Try.func11, Try.ntmps11
    go_wp2
    go_ret
    exact ⟨by first | rfl | (simp [errW_none, errW_some] <;> rfl) | (simp [*, errW_none, errW_some] <;> rfl), by repeat (first | (with_reducible first | exact HB.out | apply below_alloc | apply pw_below_drewN | apply below_drew1) | exact HB.out)⟩
  · rw [if_neg c2] at H
    have c2b0 : decide (1048576 < (l0.length : Int)) = false := decide_eq_false c2
    have c2b1 : decide (1048576 < l0.length) = false := decide_eq_false (by omega)
    clear c2
    replace H := Option.bind_eq_some_iff.mp H
    obtain ⟨t503, A30, H⟩ := H
    replace H : ((impl_ChangeReads.f k t503).bind fun t506 => ((impl_ChangeWrites.f k t503).bind fun t509 => ((spec_ChangeReads.f k t503).bind fun t512 => ((laws_lqInts.f k t506 t512).bind fun t515 => (if t515 = true then ((spec_ChangeWrites.f k t503).bind fun t516 => ((laws_lqInts.f k t509 t516).bind fun t519 => (laws_FnChangeSets.j0 k t503 t506 t509 (!t519)))) else (laws_FnChangeSets.j0 k t503 t506 t509 true)))))) = some r := H
    have A3 := Aside0.mk A30
    clear A30
    replace H := Option.bind_eq_some_iff.mp H
    obtain ⟨t506, A40, H⟩ := H
    replace H : ((impl_ChangeWrites.f k t503).bind fun t509 => ((spec_ChangeReads.f k t503).bind fun t512 => ((laws_lqInts.f k t506 t512).bind fun t515 => (if t515 = true then ((spec_ChangeWrites.f k t503).bind fun t516 => ((laws_lqInts.f k t509 t516).bind fun t519 => (laws_FnChangeSets.j0 k t503 t506 t509 (!t519)))) else (laws_FnChangeSets.j0 k t503 t506 t509 true))))) = some r := H
    have A4 := Aside0.mk A40
    clear A40
    replace H := Option.bind_eq_some_iff.mp H
    obtain ⟨t509, A50, H⟩ := H
    replace H : ((spec_ChangeReads.f k t503).bind fun t512 => ((laws_lqInts.f k t506 t512).bind fun t515 => (if t515 = true then ((spec_ChangeWrites.f k t503).bind fun t516 => ((laws_lqInts.f k t509 t516).bind fun t519 => (laws_FnChangeSets.j0 k t503 t506 t509 (!t519)))) else (laws_FnChangeSets.j0 k t503 t506 t509 true)))) = some r := H
    have A5 := Aside0.mk A50
    clear A50
    have HC6 := Aside0.mk H
    clear H
    go_enter Try.func11, Try.ntmps11
    go_upto_region 6 with (first | ((with_reducible refine gate_callee (f := 33) rfl ?_); refine goesL_ (some 11) rfl rfl Try.func33 (by kernel_rfl) rfl #[.slice A0 l0.length c0] rfl (by (try simp only [List.map_toArray, List.map_cons, List.map_nil]); first | done | rfl | (simp only [List.length_drop, List.length_take]; rfl)) ?_; (with_reducible refine (spec_DrawChangeReads.calls k _ _ l0 t503 _ ?side1 ?side2 A3.out).mono ?_); (case side1 => repeat (first | exact HR0.out | (with_reducible refine Kd.C_alloc ?_ _) | (with_reducible refine Kd.C_drewN ?_ _) | (with_reducible refine Kd.C_drew ?_))); (case side2 => exact HC0.out); rintro e w7 ⟨v504, rfl, ho0, hb⟩; refine ⟨_, rfl, ?_⟩; have n0_ := Aside0.mk (Kd.R_lower ho0 (below_size (by repeat (first | (with_reducible first | exact HB.out | apply below_alloc | apply pw_below_drewN | apply below_drew1) | exact HB.out)))); have n1_ := Aside0.mk (below_step (by repeat (first | (with_reducible first | exact HB.out | apply below_alloc | apply pw_below_drewN | apply below_drew1) | exact HB.out)) hb); clear HB; have HO505 := n0_; have HB := n1_; clear n0_ n1_; (try clear hb); (try clear hb2); (try clear hk); (try clear hi); (try clear ho0); obtain ⟨Ao8, co8, eo8⟩ := Kd.R_slice HO505.out; subst eo8) | ((with_reducible refine gate_callee (f := 29) rfl ?_); refine goesL_ (some 13) rfl rfl Try.func29 (by kernel_rfl) rfl #[.slice Ao8 t503.length co8] rfl (by (try simp only [List.map_toArray, List.map_cons, List.map_nil]); first | done | rfl | (simp only [List.length_drop, List.length_take]; rfl)) ?_; (with_reducible refine (impl_ChangeReads.calls k _ _ t503 t506 _ ?side1 ?side2 A4.out).mono ?_); (case side1 => repeat (first | exact (Kd.R_reads' HO505.out).2.2 | (with_reducible refine Kd.C_alloc ?_ _) | (with_reducible refine Kd.C_drewN ?_ _) | (with_reducible refine Kd.C_drew ?_))); (case side2 => exact (Kd.R_reads' HO505.out).2.1); rintro e w9 ⟨v507, rfl, ho0, hb⟩; refine ⟨_, rfl, ?_⟩; have n0_ := Aside0.mk (Kd.R_below (by (with_reducible repeat (first | apply Kd.R_alloc | apply Kd.R_drewN | apply Kd.R_drew)); exact HO505.out) hb); have n1_ := Aside0.mk (Kd.R_lower ho0 (below_size (by repeat (first | (with_reducible first | exact HB.out | apply below_alloc | apply pw_below_drewN | apply below_drew1) | exact HB.out)))); have n2_ := Aside0.mk (below_step (by repeat (first | (with_reducible first | exact HB.out | apply below_alloc | apply pw_below_drewN | apply below_drew1) | exact HB.out)) hb); clear HO505; clear HB; have HO505 := n0_; have HO508 := n1_; have HB := n2_; clear n0_ n1_ n2_; (try clear hb); (try clear hb2); (try clear hk); (try clear hi); (try clear ho0)) | ((with_reducible refine gate_callee (f := 27) rfl ?_); refine goesL_ (some 15) rfl rfl Try.func27 (by kernel_rfl) rfl #[.slice Ao8 t503.length co8] rfl (by (try simp only [List.map_toArray, List.map_cons, List.map_nil]); first | done | rfl | (simp only [List.length_drop, List.length_take]; rfl)) ?_; (with_reducible refine (impl_ChangeWrites.calls k _ _ t503 t509 _ ?side1 ?side2 A5.out).mono ?_); (case side1 => repeat (first | exact (Kd.R_reads' HO505.out).2.2 | (with_reducible refine Kd.C_alloc ?_ _) | (with_reducible refine Kd.C_drewN ?_ _) | (with_reducible refine Kd.C_drew ?_))); (case side2 => exact (Kd.R_reads' HO505.out).2.1); rintro e w10 ⟨v510, rfl, ho0, hb⟩; refine ⟨_, rfl, ?_⟩; have n0_ := Aside0.mk (Kd.R_below (by (with_reducible repeat (first | apply Kd.R_alloc | apply Kd.R_drewN | apply Kd.R_drew)); exact HO505.out) hb); have n1_ := Aside0.mk (Kd.R_elder' (by (with_reducible repeat (first | apply Kd.R_alloc | apply Kd.R_drewN | apply Kd.R_drew)); exact HO508.out) (Kd.R_base ho0) hb); have n2_ := Aside0.mk (Kd.R_lower (Kd.R_new' ho0 (Kd.R_lt (by (with_reducible repeat (first | apply Kd.R_alloc | apply Kd.R_drewN | apply Kd.R_drew)); exact HO508.out))) (below_size (by repeat (first | (with_reducible first | exact HB.out | apply below_alloc | apply pw_below_drewN | apply below_drew1) | exact HB.out)))); have n3_ := Aside0.mk (below_step (by repeat (first | (with_reducible first | exact HB.out | apply below_alloc | apply pw_below_drewN | apply below_drew1) | exact HB.out)) hb); clear HO505; clear HO508; clear HB; have HO505 := n0_; have HO508 := n1_; have HO511 := n2_; have HB := n3_; clear n0_ n1_ n2_ n3_; (try clear hb); (try clear hb2); (try clear hk); (try clear hi); (try clear ho0)))
    (try simp only [Act.put, List.setIfInBounds_toArray, List.set_cons_zero, List.set_cons_succ])
    go_cut [27] (fun v27 wc => ∃ (kq : Nat) (x27_5 : Bool), v27 = .bool x27_5 ∧ Aside0 (laws_FnChangeSets.j0 kq t503 t506 t509 x27_5 = some r) ∧ Aside0 (kq ≤ k) ∧ Aside0 (Kd.R k41 41 wc w.heap.size (fun _ => True) (.slice Ao8 t503.length co8) t503) ∧ Aside0 (Kd.R (Kd.int .i64) 3 wc w.heap.size (fun k_ => some k_ ≠ (v510 : Value).ownBlock) v507 t506) ∧ Aside0 (Kd.R (Kd.int .i64) 3 wc w.heap.size (fun k_ => some k_ ≠ (v507 : Value).ownBlock) v510 t509) ∧ Aside0 (Below w.heap.size w wc))
    case first =>
      have H := HC6.out
      clear HC6
      replace H := Option.bind_eq_some_iff.mp H
      obtain ⟨t512, A110, H⟩ := H
      replace H : ((laws_lqInts.f k t506 t512).bind fun t515 => (if t515 = true then ((spec_ChangeWrites.f k t503).bind fun t516 => ((laws_lqInts.f k t509 t516).bind fun t519 => (laws_FnChangeSets.j0 k t503 t506 t509 (!t519)))) else (laws_FnChangeSets.j0 k t503 t506 t509 true))) = some r := H
      have A11 := Aside0.mk A110
      clear A110
      replace H := Option.bind_eq_some_iff.mp H
      obtain ⟨t515, A120, H⟩ := H
      replace H : (if t515 = true then ((spec_ChangeWrites.f k t503).bind fun t516 => ((laws_lqInts.f k t509 t516).bind fun t519 => (laws_FnChangeSets.j0 k t503 t506 t509 (!t519)))) else (laws_FnChangeSets.j0 k t503 t506 t509 true)) = some r := H
      have A12 := Aside0.mk A120
      clear A120
      by_cases c13 : t515 = true
      · subst c13
        have H1 : ((spec_ChangeWrites.f k t503).bind fun t516 => ((laws_lqInts.f k t509 t516).bind fun t519 => (laws_FnChangeSets.j0 k t503 t506 t509 (!t519)))) = some r := by rw [if_pos rfl] at H; exact H
        clear H
        have H := H1
        clear H1
        replace H := Option.bind_eq_some_iff.mp H
        obtain ⟨t516, A140, H⟩ := H
        replace H : ((laws_lqInts.f k t509 t516).bind fun t519 => (laws_FnChangeSets.j0 k t503 t506 t509 (!t519))) = some r := H
        have A14 := Aside0.mk A140
        clear A140
        replace H := Option.bind_eq_some_iff.mp H
        obtain ⟨t519, A150, H⟩ := H
        replace H : (laws_FnChangeSets.j0 k t503 t506 t509 (!t519)) = some r := H
        have A15 := Aside0.mk A150
        clear A150
        have H' := Aside0.mk H
        clear H
        go_wp2_with (first | ((with_reducible refine gate_callee (f := 34) rfl ?_); refine goesL_ (some 18) rfl rfl Try.func34 (by kernel_rfl) rfl #[.slice Ao8 t503.length co8] rfl (by (try simp only [List.map_toArray, List.map_cons, List.map_nil]); first | done | rfl | (simp only [List.length_drop, List.length_take]; rfl)) ?_; (with_reducible refine (spec_ChangeReads.calls k _ _ t503 t512 _ ?side1 ?side2 A11.out).mono ?_); (case side1 => repeat (first | exact (Kd.R_reads' HO505.out).2.2 | (with_reducible refine Kd.C_alloc ?_ _) | (with_reducible refine Kd.C_drewN ?_ _) | (with_reducible refine Kd.C_drew ?_))); (case side2 => exact (Kd.R_reads' HO505.out).2.1); rintro e w16 ⟨v513, rfl, ho0, hb⟩; refine ⟨_, rfl, ?_⟩; have n0_ := Aside0.mk (Kd.R_below (by (with_reducible repeat (first | apply Kd.R_alloc | apply Kd.R_drewN | apply Kd.R_drew)); exact HO505.out) hb); have n1_ := Aside0.mk (Kd.R_elder' (by (with_reducible repeat (first | apply Kd.R_alloc | apply Kd.R_drewN | apply Kd.R_drew)); exact HO508.out) (Kd.R_base ho0) hb); have n2_ := Aside0.mk (Kd.R_elder' (by (with_reducible repeat (first | apply Kd.R_alloc | apply Kd.R_drewN | apply Kd.R_drew)); exact HO511.out) (Kd.R_base ho0) hb); have n3_ := Aside0.mk (Kd.R_lower (Kd.R_new' (Kd.R_new' ho0 (Kd.R_lt (by (with_reducible repeat (first | apply Kd.R_alloc | apply Kd.R_drewN | apply Kd.R_drew)); exact HO508.out))) (Kd.R_lt (by (with_reducible repeat (first | apply Kd.R_alloc | apply Kd.R_drewN | apply Kd.R_drew)); exact HO511.out))) (below_size (by repeat (first | (with_reducible first | exact HB.out | apply below_alloc | apply pw_below_drewN | apply below_drew1) | exact HB.out)))); have n4_ := Aside0.mk (below_step (by repeat (first | (with_reducible first | exact HB.out | apply below_alloc | apply pw_below_drewN | apply below_drew1) | exact HB.out)) hb); clear HO505; clear HO508; clear HO511; clear HB; have HO505 := n0_; have HO508 := n1_; have HO511 := n2_; have HO514 := n3_; have HB := n4_; clear n0_ n1_ n2_ n3_ n4_; (try clear hb); (try clear hb2); (try clear hk); (try clear hi); (try clear ho0); obtain ⟨Ao17, co17, eo17⟩ := Kd.R_slice HO508.out; subst eo17; obtain ⟨Ao18, co18, eo18⟩ := Kd.R_slice HO514.out; subst eo18) | ((with_reducible refine gate_callee (f := 26) rfl ?_); refine goesL_ (some 19) rfl rfl Try.func26 (by kernel_rfl) rfl #[.slice Ao17 t506.length co17, .slice Ao18 t512.length co18] rfl (by (try simp only [List.map_toArray, List.map_cons, List.map_nil]); first | done | rfl | (simp only [List.length_drop, List.length_take]; rfl)) ?_; (with_reducible refine (laws_lqInts.calls k _ _ t506 _ _ t512 true _ ?side1 ?side2 ?side3 ?side4 A12.out).mono ?_); (case side1 => repeat (first | exact (Kd.R_reads' HO508.out).2.2 | (with_reducible refine Kd.C_alloc ?_ _) | (with_reducible refine Kd.C_drewN ?_ _) | (with_reducible refine Kd.C_drew ?_))); (case side2 => exact (Kd.R_reads' HO508.out).2.1); (case side3 => repeat (first | exact (Kd.R_reads' HO514.out).2.2 | (with_reducible refine Kd.C_alloc ?_ _) | (with_reducible refine Kd.C_drewN ?_ _) | (with_reducible refine Kd.C_drew ?_))); (case side4 => exact (Kd.R_reads' HO514.out).2.1); rintro e w' ⟨rfl, ⟨nd, rfl⟩⟩; refine ⟨_, rfl, ?_⟩) | (go_at_call 31; (with_reducible refine (spec_ChangeWrites.calls k _ _ t503 t516 _ ?side1 ?side2 A14.out).mono ?_); (case side1 => repeat (first | exact (Kd.R_reads' HO505.out).2.2 | (with_reducible refine Kd.C_alloc ?_ _) | (with_reducible refine Kd.C_drewN ?_ _) | (with_reducible refine Kd.C_drew ?_))); (case side2 => exact (Kd.R_reads' HO505.out).2.1); rintro e w19 ⟨v517, rfl, ho0, hb⟩; have n0_ := Aside0.mk (Kd.R_below (by (with_reducible repeat (first | apply Kd.R_alloc | apply Kd.R_drewN | apply Kd.R_drew)); exact HO505.out) hb); have n1_ := Aside0.mk (Kd.R_elder' (by (with_reducible repeat (first | apply Kd.R_alloc | apply Kd.R_drewN | apply Kd.R_drew)); exact HO508.out) (Kd.R_base ho0) hb); have n2_ := Aside0.mk (Kd.R_elder' (by (with_reducible repeat (first | apply Kd.R_alloc | apply Kd.R_drewN | apply Kd.R_drew)); exact HO511.out) (Kd.R_base ho0) hb); have n3_ := Aside0.mk (Kd.R_elder' (by (with_reducible repeat (first | apply Kd.R_alloc | apply Kd.R_drewN | apply Kd.R_drew)); exact HO514.out) (Kd.R_base ho0) hb); have n4_ := Aside0.mk (Kd.R_lower (Kd.R_new' (Kd.R_new' (Kd.R_new' ho0 (Kd.R_lt (by (with_reducible repeat (first | apply Kd.R_alloc | apply Kd.R_drewN | apply Kd.R_drew)); exact HO508.out))) (Kd.R_lt (by (with_reducible repeat (first | apply Kd.R_alloc | apply Kd.R_drewN | apply Kd.R_drew)); exact HO511.out))) (Kd.R_lt (by (with_reducible repeat (first | apply Kd.R_alloc | apply Kd.R_drewN | apply Kd.R_drew)); exact HO514.out))) (below_size (by repeat (first | (with_reducible first | exact HB.out | apply below_alloc | apply pw_below_drewN | apply below_drew1) | exact HB.out)))); have n5_ := Aside0.mk (below_step (by repeat (first | (with_reducible first | exact HB.out | apply below_alloc | apply pw_below_drewN | apply below_drew1) | exact HB.out)) hb); clear HO505; clear HO508; clear HO511; clear HO514; clear HB; have HO505 := n0_; have HO508 := n1_; have HO511 := n2_; have HO514 := n3_; have HO518 := n4_; have HB := n5_; clear n0_ n1_ n2_ n3_ n4_ n5_; (try clear hb); (try clear hb2); (try clear hk); (try clear hi); (try clear ho0); obtain ⟨Ao20, co20, eo20⟩ := Kd.R_slice HO511.out; subst eo20; obtain ⟨Ao21, co21, eo21⟩ := Kd.R_slice HO518.out; subst eo21) | (go_at_call 26; (with_reducible refine (laws_lqInts.calls k _ _ t509 _ _ t516 t519 _ ?side1 ?side2 ?side3 ?side4 A15.out).mono ?_); (case side1 => repeat (first | exact (Kd.R_reads' HO511.out).2.2 | (with_reducible refine Kd.C_alloc ?_ _) | (with_reducible refine Kd.C_drewN ?_ _) | (with_reducible refine Kd.C_drew ?_))); (case side2 => exact (Kd.R_reads' HO511.out).2.1); (case side3 => repeat (first | exact (Kd.R_reads' HO518.out).2.2 | (with_reducible refine Kd.C_alloc ?_ _) | (with_reducible refine Kd.C_drewN ?_ _) | (with_reducible refine Kd.C_drew ?_))); (case side4 => exact (Kd.R_reads' HO518.out).2.1); rintro e w' ⟨rfl, ⟨nd, rfl⟩⟩))
        go_meet
        case rel => exact ⟨_, (!t519), (by first | rfl | (simp; done) | (simp [*]; done)), H', ⟨by first | omega | exact Nat.le_refl _⟩, ⟨by (with_reducible repeat (first | apply Kd.R_alloc | apply Kd.R_drewN | apply Kd.R_drew)); exact HO505.out⟩, ⟨by (with_reducible repeat (first | apply Kd.R_alloc | apply Kd.R_drewN | apply Kd.R_drew)); exact Kd.R_mono HO508.out (fun _ hk => hk.1.1.2)⟩, ⟨by (with_reducible repeat (first | apply Kd.R_alloc | apply Kd.R_drewN | apply Kd.R_drew)); exact Kd.R_mono HO511.out (fun _ hk => hk.1.1.2)⟩, ⟨by repeat (first | (with_reducible first | exact HB.out | apply below_alloc | apply pw_below_drewN | apply below_drew1) | exact HB.out)⟩⟩
      · replace c13 := Bool.eq_false_iff.mpr c13
        subst c13
        have H1 : (laws_FnChangeSets.j0 k t503 t506 t509 true) = some r := by rw [if_neg (show ¬ (false = true) by decide)] at H; exact H
        clear H
        have H := H1
        clear H1
        have H' := Aside0.mk H
        clear H
        go_wp2_with (first | ((with_reducible refine gate_callee (f := 34) rfl ?_); refine goesL_ (some 18) rfl rfl Try.func34 (by kernel_rfl) rfl #[.slice Ao8 t503.length co8] rfl (by (try simp only [List.map_toArray, List.map_cons, List.map_nil]); first | done | rfl | (simp only [List.length_drop, List.length_take]; rfl)) ?_; (with_reducible refine (spec_ChangeReads.calls k _ _ t503 t512 _ ?side1 ?side2 A11.out).mono ?_); (case side1 => repeat (first | exact (Kd.R_reads' HO505.out).2.2 | (with_reducible refine Kd.C_alloc ?_ _) | (with_reducible refine Kd.C_drewN ?_ _) | (with_reducible refine Kd.C_drew ?_))); (case side2 => exact (Kd.R_reads' HO505.out).2.1); rintro e w22 ⟨v513, rfl, ho0, hb⟩; refine ⟨_, rfl, ?_⟩; have n0_ := Aside0.mk (Kd.R_below (by (with_reducible repeat (first | apply Kd.R_alloc | apply Kd.R_drewN | apply Kd.R_drew)); exact HO505.out) hb); have n1_ := Aside0.mk (Kd.R_elder' (by (with_reducible repeat (first | apply Kd.R_alloc | apply Kd.R_drewN | apply Kd.R_drew)); exact HO508.out) (Kd.R_base ho0) hb); have n2_ := Aside0.mk (Kd.R_elder' (by (with_reducible repeat (first | apply Kd.R_alloc | apply Kd.R_drewN | apply Kd.R_drew)); exact HO511.out) (Kd.R_base ho0) hb); have n3_ := Aside0.mk (Kd.R_lower (Kd.R_new' (Kd.R_new' ho0 (Kd.R_lt (by (with_reducible repeat (first | apply Kd.R_alloc | apply Kd.R_drewN | apply Kd.R_drew)); exact HO508.out))) (Kd.R_lt (by (with_reducible repeat (first | apply Kd.R_alloc | apply Kd.R_drewN | apply Kd.R_drew)); exact HO511.out))) (below_size (by repeat (first | (with_reducible first | exact HB.out | apply below_alloc | apply pw_below_drewN | apply below_drew1) | exact HB.out)))); have n4_ := Aside0.mk (below_step (by repeat (first | (with_reducible first | exact HB.out | apply below_alloc | apply pw_below_drewN | apply below_drew1) | exact HB.out)) hb); clear HO505; clear HO508; clear HO511; clear HB; have HO505 := n0_; have HO508 := n1_; have HO511 := n2_; have HO514 := n3_; have HB := n4_; clear n0_ n1_ n2_ n3_ n4_; (try clear hb); (try clear hb2); (try clear hk); (try clear hi); (try clear ho0); obtain ⟨Ao23, co23, eo23⟩ := Kd.R_slice HO508.out; subst eo23; obtain ⟨Ao24, co24, eo24⟩ := Kd.R_slice HO514.out; subst eo24) | ((with_reducible refine gate_callee (f := 26) rfl ?_); refine goesL_ (some 19) rfl rfl Try.func26 (by kernel_rfl) rfl #[.slice Ao23 t506.length co23, .slice Ao24 t512.length co24] rfl (by (try simp only [List.map_toArray, List.map_cons, List.map_nil]); first | done | rfl | (simp only [List.length_drop, List.length_take]; rfl)) ?_; (with_reducible refine (laws_lqInts.calls k _ _ t506 _ _ t512 false _ ?side1 ?side2 ?side3 ?side4 A12.out).mono ?_); (case side1 => repeat (first | exact (Kd.R_reads' HO508.out).2.2 | (with_reducible refine Kd.C_alloc ?_ _) | (with_reducible refine Kd.C_drewN ?_ _) | (with_reducible refine Kd.C_drew ?_))); (case side2 => exact (Kd.R_reads' HO508.out).2.1); (case side3 => repeat (first | exact (Kd.R_reads' HO514.out).2.2 | (with_reducible refine Kd.C_alloc ?_ _) | (with_reducible refine Kd.C_drewN ?_ _) | (with_reducible refine Kd.C_drew ?_))); (case side4 => exact (Kd.R_reads' HO514.out).2.1); rintro e w' ⟨rfl, ⟨nd, rfl⟩⟩; refine ⟨_, rfl, ?_⟩))
        go_meet
        case rel => exact ⟨_, (true), (by first | rfl | (simp; done) | (simp [*]; done)), H', ⟨by first | omega | exact Nat.le_refl _⟩, ⟨by (with_reducible repeat (first | apply Kd.R_alloc | apply Kd.R_drewN | apply Kd.R_drew)); exact HO505.out⟩, ⟨by (with_reducible repeat (first | apply Kd.R_alloc | apply Kd.R_drewN | apply Kd.R_drew)); exact Kd.R_mono HO508.out (fun _ hk => hk.1.2)⟩, ⟨by (with_reducible repeat (first | apply Kd.R_alloc | apply Kd.R_drewN | apply Kd.R_drew)); exact Kd.R_mono HO511.out (fun _ hk => hk.1.2)⟩, ⟨by repeat (first | (with_reducible first | exact HB.out | apply below_alloc | apply pw_below_drewN | apply below_drew1) | exact HB.out)⟩⟩
    case rest =>
      clear HC6
      try clear c1
      try clear c2
      try clear c2b0
      try clear c2b1
      try clear p2
      try clear c3
      try clear c11
      try clear c13
      obtain ⟨kq, x27_5, rfl, HA, HJ5, HO_3, HO_4, HO_5, HB⟩ := hcut
      cases kq with
      | zero => exact absurd HA.out (by simp [laws_FnChangeSets.j0])
      | succ kj5 =>
        have H := HA.out
        clear HA
        simp only [laws_FnChangeSets.j0] at H
        by_cases c25 : x27_5 = true
        · subst c25
          have H1 : (some false) = some r := by rw [if_pos rfl] at H; exact H
          clear H
          have H := H1
          clear H1
          obtain rfl := Option.some.inj H
          go_wp2
          go_ret
          exact ⟨by first | rfl | (simp [errW_none, errW_some] <;> rfl) | (simp [*, errW_none, errW_some] <;> rfl), by repeat (first | (with_reducible first | exact HB.out | apply below_alloc | apply pw_below_drewN | apply below_drew1) | exact HB.out)⟩
        · replace c25 := Bool.eq_false_iff.mpr c25
          subst c25
          have H1 : (laws_FnChangeSets.l0 kj5 t503 t506 t509 0) = some r := by rw [if_neg (show ¬ (false = true) by decide)] at H; exact H
          clear H
          have H := H1
          clear H1
          have H' := Aside0.mk H
          clear H
          go_wp2
          go_loopg [6] kj5 (fun kq v6 w' => ∃ (x6_2 : Int), v6 = .int .i64 x6_2 ∧ Aside0 (laws_FnChangeSets.l0 kq t503 t506 t509 x6_2 = some r) ∧ Aside0 (kq ≤ kj5) ∧ Aside0 (Kd.R k41 41 w' w.heap.size (fun _ => True) (.slice Ao8 t503.length co8) t503) ∧ Aside0 (Kd.R (Kd.int .i64) 3 w' w.heap.size (fun k_ => some k_ ≠ (v510 : Value).ownBlock) v507 t506) ∧ Aside0 (Kd.R (Kd.int .i64) 3 w' w.heap.size (fun k_ => some k_ ≠ (v507 : Value).ownBlock) v510 t509) ∧ Aside0 (Below w.heap.size w w'))
          case atStart => exact ⟨(0), (by first | rfl | (simp; done) | (simp [*]; done)), H', ⟨Nat.le_refl _⟩, ⟨by (with_reducible repeat (first | apply Kd.R_alloc | apply Kd.R_drewN | apply Kd.R_drew)); exact HO_3.out⟩, ⟨by (with_reducible repeat (first | apply Kd.R_alloc | apply Kd.R_drewN | apply Kd.R_drew)); exact HO_4.out⟩, ⟨by (with_reducible repeat (first | apply Kd.R_alloc | apply Kd.R_drewN | apply Kd.R_drew)); exact HO_5.out⟩, ⟨by repeat (first | (with_reducible first | exact HB.out | apply below_alloc | apply pw_below_drewN | apply below_drew1) | exact HB.out)⟩⟩
          case round =>
            clear H'
            try clear c1
            try clear c2
            try clear c2b0
            try clear c2b1
            try clear p2
            try clear c3
            try clear c11
            try clear c13
            try clear c25
            try clear p2
            obtain ⟨x6_2, rfl, HA, HK2, HO_3, HO_4, HO_5, HB⟩ := hrel
            cases gk with
            | zero => exact absurd HA.out (by simp [laws_FnChangeSets.l0])
            | succ k2 =>
              have H := HA.out
              clear HA
              simp only [laws_FnChangeSets.l0] at H
              by_cases c26 : x6_2 < (t503.length : Int)
              · rw [if_pos c26] at H
                have c26b0 : decide (x6_2 < (t503.length : Int)) = true := decide_eq_true c26
                clear c26
                by_cases c27 : 0 ≤ x6_2
                · rw [if_pos c27] at H
                  have c27b0 : decide (0 ≤ x6_2) = true := decide_eq_true c27
                  clear c27
                  by_cases c28 : ((rd_T41 t503 x6_2).f0) = 2
                  · rw [if_pos c28] at H
                    have c28b0 : (((rd_T41 t503 x6_2).f0) == 2) = true := beq_iff_eq.mpr c28
                    have c28b1 : (((rd_T41 t503 x6_2).f0) != 2) = false := bne_eq_false_iff_eq.mpr c28
                    clear c28
                    replace H := Option.bind_eq_some_iff.mp H
                    obtain ⟨t524, A290, H⟩ := H
                    replace H : (if t524 = true then (if ((rd_T41 t503 x6_2).f0) = 1 then ((laws_lqHas.f k2 t506 ((rd_T41 t503 x6_2).f2)).bind fun t527 => (if t527 = true then (laws_FnChangeSets.l0 k2 t503 t506 t509 (wrap64 (x6_2 + 1))) else ((laws_lqHas.f k2 t509 ((rd_T41 t503 x6_2).f2)).bind fun t529 => (if t529 = true then (laws_FnChangeSets.l0 k2 t503 t506 t509 (wrap64 (x6_2 + 1))) else (some false))))) else (laws_FnChangeSets.l0 k2 t503 t506 t509 (wrap64 (x6_2 + 1)))) else (some false)) = some r := H
                    have A29 := Aside0.mk A290
                    clear A290
                    by_cases c30 : t524 = true
                    · subst c30
                      have H1 : (if ((rd_T41 t503 x6_2).f0) = 1 then ((laws_lqHas.f k2 t506 ((rd_T41 t503 x6_2).f2)).bind fun t527 => (if t527 = true then (laws_FnChangeSets.l0 k2 t503 t506 t509 (wrap64 (x6_2 + 1))) else ((laws_lqHas.f k2 t509 ((rd_T41 t503 x6_2).f2)).bind fun t529 => (if t529 = true then (laws_FnChangeSets.l0 k2 t503 t506 t509 (wrap64 (x6_2 + 1))) else (some false))))) else (laws_FnChangeSets.l0 k2 t503 t506 t509 (wrap64 (x6_2 + 1)))) = some r := by rw [if_pos rfl] at H; exact H
                      clear H
                      have H := H1
                      clear H1
                      by_cases c31 : ((rd_T41 t503 x6_2).f0) = 1
                      · rw [if_pos c31] at H
                        have c31b0 : (((rd_T41 t503 x6_2).f0) == 1) = true := beq_iff_eq.mpr c31
                        have c31b1 : (((rd_T41 t503 x6_2).f0) != 1) = false := bne_eq_false_iff_eq.mpr c31
                        clear c31
                        replace H := Option.bind_eq_some_iff.mp H
                        obtain ⟨t527, A320, H⟩ := H
                        replace H : (if t527 = true then (laws_FnChangeSets.l0 k2 t503 t506 t509 (wrap64 (x6_2 + 1))) else ((laws_lqHas.f k2 t509 ((rd_T41 t503 x6_2).f2)).bind fun t529 => (if t529 = true then (laws_FnChangeSets.l0 k2 t503 t506 t509 (wrap64 (x6_2 + 1))) else (some false)))) = some r := H
                        have A32 := Aside0.mk A320
                        clear A320
                        by_cases c33 : t527 = true
                        · subst c33
                          have H1 : (laws_FnChangeSets.l0 k2 t503 t506 t509 (wrap64 (x6_2 + 1))) = some r := by rw [if_pos rfl] at H; exact H
                          clear H
                          have H := H1
                          clear H1
                          have H' := Aside0.mk H
                          clear H
                          have p522 : 0 ≤ (x6_2 : Int) := of_decide_eq_true (by first | (with_reducible assumption) | assumption)
                          have q522 : x6_2 < (t503.length : Int) := of_decide_eq_true (by first | (with_reducible assumption) | assumption)
                          obtain ⟨ad522, e522, hx522_0, hx522_1, hx522_2⟩ := at_T41 (Kd.R_reads' HO_3.out).2.2 x6_2 p522 q522
                          cases e522
                          replace p522 := eq_true p522
                          replace q522 := eq_true q522
                          have p523 : 0 ≤ (x6_2 : Int) := of_decide_eq_true (by first | (with_reducible assumption) | assumption)
                          have q523 : x6_2 < (t503.length : Int) := of_decide_eq_true (by first | (with_reducible assumption) | assumption)
                          obtain ⟨ad523, e523, hx523_0, hx523_1, hx523_2⟩ := at_T41 (Kd.R_reads' HO_3.out).2.2 x6_2 p523 q523
                          obtain rfl : ad522 = ad523 := (by injection e523)
                          replace p523 := eq_true p523
                          replace q523 := eq_true q523
                          obtain ⟨Ao34, co34, eo34⟩ := Kd.R_slice HO_5.out
                          subst eo34
                          go_wp2_with (first | (go_at_call 28; (with_reducible refine (laws_lqHas.calls k2 _ _ t509 ((rd_T41 t503 x6_2).f1) true _ ?side1 ?side2 A29.out).mono ?_); (case side1 => repeat (first | exact (Kd.R_reads' HO_5.out).2.2 | (with_reducible refine Kd.C_alloc ?_ _) | (with_reducible refine Kd.C_drewN ?_ _) | (with_reducible refine Kd.C_drew ?_))); (case side2 => exact (Kd.R_reads' HO_5.out).2.1); rintro e w' ⟨rfl, ⟨nd, rfl⟩⟩; have p525 : 0 ≤ (x6_2 : Int) := of_decide_eq_true (by first | (with_reducible assumption) | assumption); have q525 : x6_2 < (t503.length : Int) := of_decide_eq_true (by first | (with_reducible assumption) | assumption); obtain ⟨ad525, e525, hx525_0, hx525_1, hx525_2⟩ := at_T41 (Kd.R_reads' HO_3.out).2.2 x6_2 p525 q525; obtain rfl : ad522 = ad525 := (by injection e525); replace p525 := eq_true p525; replace q525 := eq_true q525; have p526 : 0 ≤ (x6_2 : Int) := of_decide_eq_true (by first | (with_reducible assumption) | assumption); have q526 : x6_2 < (t503.length : Int) := of_decide_eq_true (by first | (with_reducible assumption) | assumption); obtain ⟨ad526, e526, hx526_0, hx526_1, hx526_2⟩ := at_T41 (Kd.R_reads' HO_3.out).2.2 x6_2 p526 q526; obtain rfl : ad522 = ad526 := (by injection e526); replace p526 := eq_true p526; replace q526 := eq_true q526; obtain ⟨Ao35, co35, eo35⟩ := Kd.R_slice HO_4.out; subst eo35) | (go_at_call 28; (with_reducible refine (laws_lqHas.calls k2 _ _ t506 ((rd_T41 t503 x6_2).f2) true _ ?side1 ?side2 A32.out).mono ?_); (case side1 => repeat (first | exact (Kd.R_reads' HO_4.out).2.2 | (with_reducible refine Kd.C_alloc ?_ _) | (with_reducible refine Kd.C_drewN ?_ _) | (with_reducible refine Kd.C_drew ?_))); (case side2 => exact (Kd.R_reads' HO_4.out).2.1); rintro e w' ⟨rfl, ⟨nd, rfl⟩⟩))
                          go_roundg k2
                          case measure => have := HJ5.out; have := HK2.out; omega
                          case rel => exact ⟨(wrap64 (x6_2 + 1)), (by first | rfl | (simp; done) | (simp [*]; done)), H', ⟨by have := HJ5.out; have := HK2.out; omega⟩, ⟨by (with_reducible repeat (first | apply Kd.R_alloc | apply Kd.R_drewN | apply Kd.R_drew)); exact HO_3.out⟩, ⟨by (with_reducible repeat (first | apply Kd.R_alloc | apply Kd.R_drewN | apply Kd.R_drew)); exact HO_4.out⟩, ⟨by (with_reducible repeat (first | apply Kd.R_alloc | apply Kd.R_drewN | apply Kd.R_drew)); exact HO_5.out⟩, ⟨by repeat (first | (with_reducible first | exact HB.out | apply below_alloc | apply pw_below_drewN | apply below_drew1) | exact HB.out)⟩⟩
                        · replace c33 := Bool.eq_false_iff.mpr c33
                          subst c33
                          have H1 : ((laws_lqHas.f k2 t509 ((rd_T41 t503 x6_2).f2)).bind fun t529 => (if t529 = true then (laws_FnChangeSets.l0 k2 t503 t506 t509 (wrap64 (x6_2 + 1))) else (some false))) = some r := by rw [if_neg (show ¬ (false = true) by decide)] at H; exact H
                          clear H
                          have H := H1
                          clear H1
                          replace H := Option.bind_eq_some_iff.mp H
                          obtain ⟨t529, A360, H⟩ := H
                          replace H : (if t529 = true then (laws_FnChangeSets.l0 k2 t503 t506 t509 (wrap64 (x6_2 + 1))) else (some false)) = some r := H
                          have A36 := Aside0.mk A360
                          clear A360
                          by_cases c37 : t529 = true
                          · subst c37
                            have H1 : (laws_FnChangeSets.l0 k2 t503 t506 t509 (wrap64 (x6_2 + 1))) = some r := by rw [if_pos rfl] at H; exact H
                            clear H
                            have H := H1
                            clear H1
                            have H' := Aside0.mk H
                            clear H
                            have p522 : 0 ≤ (x6_2 : Int) := of_decide_eq_true (by first | (with_reducible assumption) | assumption)
                            have q522 : x6_2 < (t503.length : Int) := of_decide_eq_true (by first | (with_reducible assumption) | assumption)
                            obtain ⟨ad522, e522, hx522_0, hx522_1, hx522_2⟩ := at_T41 (Kd.R_reads' HO_3.out).2.2 x6_2 p522 q522
                            cases e522
                            replace p522 := eq_true p522
                            replace q522 := eq_true q522
                            have p523 : 0 ≤ (x6_2 : Int) := of_decide_eq_true (by first | (with_reducible assumption) | assumption)
                            have q523 : x6_2 < (t503.length : Int) := of_decide_eq_true (by first | (with_reducible assumption) | assumption)
                            obtain ⟨ad523, e523, hx523_0, hx523_1, hx523_2⟩ := at_T41 (Kd.R_reads' HO_3.out).2.2 x6_2 p523 q523
                            obtain rfl : ad522 = ad523 := (by injection e523)
                            replace p523 := eq_true p523
                            replace q523 := eq_true q523
                            obtain ⟨Ao38, co38, eo38⟩ := Kd.R_slice HO_5.out
                            subst eo38
                            go_wp2_with (first | (go_at_call 28; (with_reducible refine (laws_lqHas.calls k2 _ _ t509 ((rd_T41 t503 x6_2).f1) true _ ?side1 ?side2 A29.out).mono ?_); (case side1 => repeat (first | exact (Kd.R_reads' HO_5.out).2.2 | (with_reducible refine Kd.C_alloc ?_ _) | (with_reducible refine Kd.C_drewN ?_ _) | (with_reducible refine Kd.C_drew ?_))); (case side2 => exact (Kd.R_reads' HO_5.out).2.1); rintro e w' ⟨rfl, ⟨nd, rfl⟩⟩; have p525 : 0 ≤ (x6_2 : Int) := of_decide_eq_true (by first | (with_reducible assumption) | assumption); have q525 : x6_2 < (t503.length : Int) := of_decide_eq_true (by first | (with_reducible assumption) | assumption); obtain ⟨ad525, e525, hx525_0, hx525_1, hx525_2⟩ := at_T41 (Kd.R_reads' HO_3.out).2.2 x6_2 p525 q525; obtain rfl : ad522 = ad525 := (by injection e525); replace p525 := eq_true p525; replace q525 := eq_true q525; have p526 : 0 ≤ (x6_2 : Int) := of_decide_eq_true (by first | (with_reducible assumption) | assumption); have q526 : x6_2 < (t503.length : Int) := of_decide_eq_true (by first | (with_reducible assumption) | assumption); obtain ⟨ad526, e526, hx526_0, hx526_1, hx526_2⟩ := at_T41 (Kd.R_reads' HO_3.out).2.2 x6_2 p526 q526; obtain rfl : ad522 = ad526 := (by injection e526); replace p526 := eq_true p526; replace q526 := eq_true q526; obtain ⟨Ao39, co39, eo39⟩ := Kd.R_slice HO_4.out; subst eo39) | (go_at_call 28; (with_reducible refine (laws_lqHas.calls k2 _ _ t506 ((rd_T41 t503 x6_2).f2) false _ ?side1 ?side2 A32.out).mono ?_); (case side1 => repeat (first | exact (Kd.R_reads' HO_4.out).2.2 | (with_reducible refine Kd.C_alloc ?_ _) | (with_reducible refine Kd.C_drewN ?_ _) | (with_reducible refine Kd.C_drew ?_))); (case side2 => exact (Kd.R_reads' HO_4.out).2.1); rintro e w' ⟨rfl, ⟨nd, rfl⟩⟩; have p528 : 0 ≤ (x6_2 : Int) := of_decide_eq_true (by first | (with_reducible assumption) | assumption); have q528 : x6_2 < (t503.length : Int) := of_decide_eq_true (by first | (with_reducible assumption) | assumption); obtain ⟨ad528, e528, hx528_0, hx528_1, hx528_2⟩ := at_T41 (Kd.R_reads' HO_3.out).2.2 x6_2 p528 q528; obtain rfl : ad522 = ad528 := (by injection e528); replace p528 := eq_true p528; replace q528 := eq_true q528) | (go_at_call 28; (with_reducible refine (laws_lqHas.calls k2 _ _ t509 ((rd_T41 t503 x6_2).f2) true _ ?side1 ?side2 A36.out).mono ?_); (case side1 => repeat (first | exact (Kd.R_reads' HO_5.out).2.2 | (with_reducible refine Kd.C_alloc ?_ _) | (with_reducible refine Kd.C_drewN ?_ _) | (with_reducible refine Kd.C_drew ?_))); (case side2 => exact (Kd.R_reads' HO_5.out).2.1); rintro e w' ⟨rfl, ⟨nd, rfl⟩⟩))
                            go_roundg k2
                            case measure => have := HJ5.out; have := HK2.out; omega
                            case rel => exact ⟨(wrap64 (x6_2 + 1)), (by first | rfl | (simp; done) | (simp [*]; done)), H', ⟨by have := HJ5.out; have := HK2.out; omega⟩, ⟨by (with_reducible repeat (first | apply Kd.R_alloc | apply Kd.R_drewN | apply Kd.R_drew)); exact HO_3.out⟩, ⟨by (with_reducible repeat (first | apply Kd.R_alloc | apply Kd.R_drewN | apply Kd.R_drew)); exact HO_4.out⟩, ⟨by (with_reducible repeat (first | apply Kd.R_alloc | apply Kd.R_drewN | apply Kd.R_drew)); exact HO_5.out⟩, ⟨by repeat (first | (with_reducible first | exact HB.out | apply below_alloc | apply pw_below_drewN | apply below_drew1) | exact HB.out)⟩⟩
                          · replace c37 := Bool.eq_false_iff.mpr c37
                            subst c37
                            have H1 : (some false) = some r := by rw [if_neg (show ¬ (false = true) by decide)] at H; exact H
                            clear H
                            have H := H1
                            clear H1
                            obtain rfl := Option.some.inj H
                            have p522 : 0 ≤ (x6_2 : Int) := of_decide_eq_true (by first | (with_reducible assumption) | assumption)
                            have q522 : x6_2 < (t503.length : Int) := of_decide_eq_true (by first | (with_reducible assumption) | assumption)
                            obtain ⟨ad522, e522, hx522_0, hx522_1, hx522_2⟩ := at_T41 (Kd.R_reads' HO_3.out).2.2 x6_2 p522 q522
                            cases e522
                            replace p522 := eq_true p522
                            replace q522 := eq_true q522
                            have p523 : 0 ≤ (x6_2 : Int) := of_decide_eq_true (by first | (with_reducible assumption) | assumption)
                            have q523 : x6_2 < (t503.length : Int) := of_decide_eq_true (by first | (with_reducible assumption) | assumption)
                            obtain ⟨ad523, e523, hx523_0, hx523_1, hx523_2⟩ := at_T41 (Kd.R_reads' HO_3.out).2.2 x6_2 p523 q523
                            obtain rfl : ad522 = ad523 := (by injection e523)
                            replace p523 := eq_true p523
                            replace q523 := eq_true q523
                            obtain ⟨Ao40, co40, eo40⟩ := Kd.R_slice HO_5.out
                            subst eo40
                            go_wp2_with (first | (go_at_call 28; (with_reducible refine (laws_lqHas.calls k2 _ _ t509 ((rd_T41 t503 x6_2).f1) true _ ?side1 ?side2 A29.out).mono ?_); (case side1 => repeat (first | exact (Kd.R_reads' HO_5.out).2.2 | (with_reducible refine Kd.C_alloc ?_ _) | (with_reducible refine Kd.C_drewN ?_ _) | (with_reducible refine Kd.C_drew ?_))); (case side2 => exact (Kd.R_reads' HO_5.out).2.1); rintro e w' ⟨rfl, ⟨nd, rfl⟩⟩; have p525 : 0 ≤ (x6_2 : Int) := of_decide_eq_true (by first | (with_reducible assumption) | assumption); have q525 : x6_2 < (t503.length : Int) := of_decide_eq_true (by first | (with_reducible assumption) | assumption); obtain ⟨ad525, e525, hx525_0, hx525_1, hx525_2⟩ := at_T41 (Kd.R_reads' HO_3.out).2.2 x6_2 p525 q525; obtain rfl : ad522 = ad525 := (by injection e525); replace p525 := eq_true p525; replace q525 := eq_true q525; have p526 : 0 ≤ (x6_2 : Int) := of_decide_eq_true (by first | (with_reducible assumption) | assumption); have q526 : x6_2 < (t503.length : Int) := of_decide_eq_true (by first | (with_reducible assumption) | assumption); obtain ⟨ad526, e526, hx526_0, hx526_1, hx526_2⟩ := at_T41 (Kd.R_reads' HO_3.out).2.2 x6_2 p526 q526; obtain rfl : ad522 = ad526 := (by injection e526); replace p526 := eq_true p526; replace q526 := eq_true q526; obtain ⟨Ao41, co41, eo41⟩ := Kd.R_slice HO_4.out; subst eo41) | (go_at_call 28; (with_reducible refine (laws_lqHas.calls k2 _ _ t506 ((rd_T41 t503 x6_2).f2) false _ ?side1 ?side2 A32.out).mono ?_); (case side1 => repeat (first | exact (Kd.R_reads' HO_4.out).2.2 | (with_reducible refine Kd.C_alloc ?_ _) | (with_reducible refine Kd.C_drewN ?_ _) | (with_reducible refine Kd.C_drew ?_))); (case side2 => exact (Kd.R_reads' HO_4.out).2.1); rintro e w' ⟨rfl, ⟨nd, rfl⟩⟩; have p528 : 0 ≤ (x6_2 : Int) := of_decide_eq_true (by first | (with_reducible assumption) | assumption); have q528 : x6_2 < (t503.length : Int) := of_decide_eq_true (by first | (with_reducible assumption) | assumption); obtain ⟨ad528, e528, hx528_0, hx528_1, hx528_2⟩ := at_T41 (Kd.R_reads' HO_3.out).2.2 x6_2 p528 q528; obtain rfl : ad522 = ad528 := (by injection e528); replace p528 := eq_true p528; replace q528 := eq_true q528) | (go_at_call 28; (with_reducible refine (laws_lqHas.calls k2 _ _ t509 ((rd_T41 t503 x6_2).f2) false _ ?side1 ?side2 A36.out).mono ?_); (case side1 => repeat (first | exact (Kd.R_reads' HO_5.out).2.2 | (with_reducible refine Kd.C_alloc ?_ _) | (with_reducible refine Kd.C_drewN ?_ _) | (with_reducible refine Kd.C_drew ?_))); (case side2 => exact (Kd.R_reads' HO_5.out).2.1); rintro e w' ⟨rfl, ⟨nd, rfl⟩⟩))
                            go_ret
                            exact ⟨by first | rfl | (simp [errW_none, errW_some] <;> rfl) | (simp [*, errW_none, errW_some] <;> rfl), by repeat (first | (with_reducible first | exact HB.out | apply below_alloc | apply pw_below_drewN | apply below_drew1) | exact HB.out)⟩
                      · rw [if_neg c31] at H
                        have c31b0 : (((rd_T41 t503 x6_2).f0) == 1) = false := beq_eq_false_iff_ne.mpr c31
                        have c31b1 : (((rd_T41 t503 x6_2).f0) != 1) = true := bne_iff_ne.mpr c31
                        have H' := Aside0.mk H
                        clear H
                        have p522 : 0 ≤ (x6_2 : Int) := of_decide_eq_true (by first | (with_reducible assumption) | assumption)
                        have q522 : x6_2 < (t503.length : Int) := of_decide_eq_true (by first | (with_reducible assumption) | assumption)
                        obtain ⟨ad522, e522, hx522_0, hx522_1, hx522_2⟩ := at_T41 (Kd.R_reads' HO_3.out).2.2 x6_2 p522 q522
                        cases e522
                        replace p522 := eq_true p522
                        replace q522 := eq_true q522
                        have p523 : 0 ≤ (x6_2 : Int) := of_decide_eq_true (by first | (with_reducible assumption) | assumption)
                        have q523 : x6_2 < (t503.length : Int) := of_decide_eq_true (by first | (with_reducible assumption) | assumption)
                        obtain ⟨ad523, e523, hx523_0, hx523_1, hx523_2⟩ := at_T41 (Kd.R_reads' HO_3.out).2.2 x6_2 p523 q523
                        obtain rfl : ad522 = ad523 := (by injection e523)
                        replace p523 := eq_true p523
                        replace q523 := eq_true q523
                        obtain ⟨Ao42, co42, eo42⟩ := Kd.R_slice HO_5.out
                        subst eo42
                        go_wp2_with (first | (go_at_call 28; (with_reducible refine (laws_lqHas.calls k2 _ _ t509 ((rd_T41 t503 x6_2).f1) true _ ?side1 ?side2 A29.out).mono ?_); (case side1 => repeat (first | exact (Kd.R_reads' HO_5.out).2.2 | (with_reducible refine Kd.C_alloc ?_ _) | (with_reducible refine Kd.C_drewN ?_ _) | (with_reducible refine Kd.C_drew ?_))); (case side2 => exact (Kd.R_reads' HO_5.out).2.1); rintro e w' ⟨rfl, ⟨nd, rfl⟩⟩; have p525 : 0 ≤ (x6_2 : Int) := of_decide_eq_true (by first | (with_reducible assumption) | assumption); have q525 : x6_2 < (t503.length : Int) := of_decide_eq_true (by first | (with_reducible assumption) | assumption); obtain ⟨ad525, e525, hx525_0, hx525_1, hx525_2⟩ := at_T41 (Kd.R_reads' HO_3.out).2.2 x6_2 p525 q525; obtain rfl : ad522 = ad525 := (by injection e525); replace p525 := eq_true p525; replace q525 := eq_true q525))
                        go_roundg k2
                        case measure => have := HJ5.out; have := HK2.out; omega
                        case rel => exact ⟨(wrap64 (x6_2 + 1)), (by first | rfl | (simp; done) | (simp [*]; done)), H', ⟨by have := HJ5.out; have := HK2.out; omega⟩, ⟨by (with_reducible repeat (first | apply Kd.R_alloc | apply Kd.R_drewN | apply Kd.R_drew)); exact HO_3.out⟩, ⟨by (with_reducible repeat (first | apply Kd.R_alloc | apply Kd.R_drewN | apply Kd.R_drew)); exact HO_4.out⟩, ⟨by (with_reducible repeat (first | apply Kd.R_alloc | apply Kd.R_drewN | apply Kd.R_drew)); exact HO_5.out⟩, ⟨by repeat (first | (with_reducible first | exact HB.out | apply below_alloc | apply pw_below_drewN | apply below_drew1) | exact HB.out)⟩⟩
                    · replace c30 := Bool.eq_false_iff.mpr c30
                      subst c30
                      have H1 : (some false) = some r := by rw [if_neg (show ¬ (false = true) by decide)] at H; exact H
                      clear H
                      have H := H1
                      clear H1
                      obtain rfl := Option.some.inj H
                      have p522 : 0 ≤ (x6_2 : Int) := of_decide_eq_true (by first | (with_reducible assumption) | assumption)
                      have q522 : x6_2 < (t503.length : Int) := of_decide_eq_true (by first | (with_reducible assumption) | assumption)
                      obtain ⟨ad522, e522, hx522_0, hx522_1, hx522_2⟩ := at_T41 (Kd.R_reads' HO_3.out).2.2 x6_2 p522 q522
                      cases e522
                      replace p522 := eq_true p522
                      replace q522 := eq_true q522
                      have p523 : 0 ≤ (x6_2 : Int) := of_decide_eq_true (by first | (with_reducible assumption) | assumption)
                      have q523 : x6_2 < (t503.length : Int) := of_decide_eq_true (by first | (with_reducible assumption) | assumption)
                      obtain ⟨ad523, e523, hx523_0, hx523_1, hx523_2⟩ := at_T41 (Kd.R_reads' HO_3.out).2.2 x6_2 p523 q523
                      obtain rfl : ad522 = ad523 := (by injection e523)
                      replace p523 := eq_true p523
                      replace q523 := eq_true q523
                      obtain ⟨Ao43, co43, eo43⟩ := Kd.R_slice HO_5.out
                      subst eo43
                      go_wp2_with (first | (go_at_call 28; (with_reducible refine (laws_lqHas.calls k2 _ _ t509 ((rd_T41 t503 x6_2).f1) false _ ?side1 ?side2 A29.out).mono ?_); (case side1 => repeat (first | exact (Kd.R_reads' HO_5.out).2.2 | (with_reducible refine Kd.C_alloc ?_ _) | (with_reducible refine Kd.C_drewN ?_ _) | (with_reducible refine Kd.C_drew ?_))); (case side2 => exact (Kd.R_reads' HO_5.out).2.1); rintro e w' ⟨rfl, ⟨nd, rfl⟩⟩))
                      go_ret
                      exact ⟨by first | rfl | (simp [errW_none, errW_some] <;> rfl) | (simp [*, errW_none, errW_some] <;> rfl), by repeat (first | (with_reducible first | exact HB.out | apply below_alloc | apply pw_below_drewN | apply below_drew1) | exact HB.out)⟩
                  · rw [if_neg c28] at H
                    have c28b0 : (((rd_T41 t503 x6_2).f0) == 2) = false := beq_eq_false_iff_ne.mpr c28
                    have c28b1 : (((rd_T41 t503 x6_2).f0) != 2) = true := bne_iff_ne.mpr c28
                    by_cases c44 : ((rd_T41 t503 x6_2).f0) = 1
                    · rw [if_pos c44] at H
                      have c44b0 : (((rd_T41 t503 x6_2).f0) == 1) = true := beq_iff_eq.mpr c44
                      have c44b1 : (((rd_T41 t503 x6_2).f0) != 1) = false := bne_eq_false_iff_eq.mpr c44
                      clear c44
                      replace H := Option.bind_eq_some_iff.mp H
                      obtain ⟨t532, A450, H⟩ := H
                      replace H : (if t532 = true then (laws_FnChangeSets.l0 k2 t503 t506 t509 (wrap64 (x6_2 + 1))) else ((laws_lqHas.f k2 t509 ((rd_T41 t503 x6_2).f2)).bind fun t534 => (if t534 = true then (laws_FnChangeSets.l0 k2 t503 t506 t509 (wrap64 (x6_2 + 1))) else (some false)))) = some r := H
                      have A45 := Aside0.mk A450
                      clear A450
                      by_cases c46 : t532 = true
                      · subst c46
                        have H1 : (laws_FnChangeSets.l0 k2 t503 t506 t509 (wrap64 (x6_2 + 1))) = some r := by rw [if_pos rfl] at H; exact H
                        clear H
                        have H := H1
                        clear H1
                        have H' := Aside0.mk H
                        clear H
                        have p522 : 0 ≤ (x6_2 : Int) := of_decide_eq_true (by first | (with_reducible assumption) | assumption)
                        have q522 : x6_2 < (t503.length : Int) := of_decide_eq_true (by first | (with_reducible assumption) | assumption)
                        obtain ⟨ad522, e522, hx522_0, hx522_1, hx522_2⟩ := at_T41 (Kd.R_reads' HO_3.out).2.2 x6_2 p522 q522
                        cases e522
                        replace p522 := eq_true p522
                        replace q522 := eq_true q522
                        have p530 : 0 ≤ (x6_2 : Int) := of_decide_eq_true (by first | (with_reducible assumption) | assumption)
                        have q530 : x6_2 < (t503.length : Int) := of_decide_eq_true (by first | (with_reducible assumption) | assumption)
                        obtain ⟨ad530, e530, hx530_0, hx530_1, hx530_2⟩ := at_T41 (Kd.R_reads' HO_3.out).2.2 x6_2 p530 q530
                        obtain rfl : ad522 = ad530 := (by injection e530)
                        replace p530 := eq_true p530
                        replace q530 := eq_true q530
                        have p531 : 0 ≤ (x6_2 : Int) := of_decide_eq_true (by first | (with_reducible assumption) | assumption)
                        have q531 : x6_2 < (t503.length : Int) := of_decide_eq_true (by first | (with_reducible assumption) | assumption)
                        obtain ⟨ad531, e531, hx531_0, hx531_1, hx531_2⟩ := at_T41 (Kd.R_reads' HO_3.out).2.2 x6_2 p531 q531
                        obtain rfl : ad522 = ad531 := (by injection e531)
                        replace p531 := eq_true p531
                        replace q531 := eq_true q531
                        obtain ⟨Ao47, co47, eo47⟩ := Kd.R_slice HO_4.out
                        subst eo47
                        go_wp2_with (first | (go_at_call 28; (with_reducible refine (laws_lqHas.calls k2 _ _ t506 ((rd_T41 t503 x6_2).f2) true _ ?side1 ?side2 A45.out).mono ?_); (case side1 => repeat (first | exact (Kd.R_reads' HO_4.out).2.2 | (with_reducible refine Kd.C_alloc ?_ _) | (with_reducible refine Kd.C_drewN ?_ _) | (with_reducible refine Kd.C_drew ?_))); (case side2 => exact (Kd.R_reads' HO_4.out).2.1); rintro e w' ⟨rfl, ⟨nd, rfl⟩⟩))
                        go_roundg k2
                        case measure => have := HJ5.out; have := HK2.out; omega
                        case rel => exact ⟨(wrap64 (x6_2 + 1)), (by first | rfl | (simp; done) | (simp [*]; done)), H', ⟨by have := HJ5.out; have := HK2.out; omega⟩, ⟨by (with_reducible repeat (first | apply Kd.R_alloc | apply Kd.R_drewN | apply Kd.R_drew)); exact HO_3.out⟩, ⟨by (with_reducible repeat (first | apply Kd.R_alloc | apply Kd.R_drewN | apply Kd.R_drew)); exact HO_4.out⟩, ⟨by (with_reducible repeat (first | apply Kd.R_alloc | apply Kd.R_drewN | apply Kd.R_drew)); exact HO_5.out⟩, ⟨by repeat (first | (with_reducible first | exact HB.out | apply below_alloc | apply pw_below_drewN | apply below_drew1) | exact HB.out)⟩⟩
                      · replace c46 := Bool.eq_false_iff.mpr c46
                        subst c46
                        have H1 : ((laws_lqHas.f k2 t509 ((rd_T41 t503 x6_2).f2)).bind fun t534 => (if t534 = true then (laws_FnChangeSets.l0 k2 t503 t506 t509 (wrap64 (x6_2 + 1))) else (some false))) = some r := by rw [if_neg (show ¬ (false = true) by decide)] at H; exact H
                        clear H
                        have H := H1
                        clear H1
                        replace H := Option.bind_eq_some_iff.mp H
                        obtain ⟨t534, A480, H⟩ := H
                        replace H : (if t534 = true then (laws_FnChangeSets.l0 k2 t503 t506 t509 (wrap64 (x6_2 + 1))) else (some false)) = some r := H
                        have A48 := Aside0.mk A480
                        clear A480
                        by_cases c49 : t534 = true
                        · subst c49
                          have H1 : (laws_FnChangeSets.l0 k2 t503 t506 t509 (wrap64 (x6_2 + 1))) = some r := by rw [if_pos rfl] at H; exact H
                          clear H
                          have H := H1
                          clear H1
                          have H' := Aside0.mk H
                          clear H
                          have p522 : 0 ≤ (x6_2 : Int) := of_decide_eq_true (by first | (with_reducible assumption) | assumption)
                          have q522 : x6_2 < (t503.length : Int) := of_decide_eq_true (by first | (with_reducible assumption) | assumption)
                          obtain ⟨ad522, e522, hx522_0, hx522_1, hx522_2⟩ := at_T41 (Kd.R_reads' HO_3.out).2.2 x6_2 p522 q522
                          cases e522
                          replace p522 := eq_true p522
                          replace q522 := eq_true q522
                          have p530 : 0 ≤ (x6_2 : Int) := of_decide_eq_true (by first | (with_reducible assumption) | assumption)
                          have q530 : x6_2 < (t503.length : Int) := of_decide_eq_true (by first | (with_reducible assumption) | assumption)
                          obtain ⟨ad530, e530, hx530_0, hx530_1, hx530_2⟩ := at_T41 (Kd.R_reads' HO_3.out).2.2 x6_2 p530 q530
                          obtain rfl : ad522 = ad530 := (by injection e530)
                          replace p530 := eq_true p530
                          replace q530 := eq_true q530
                          have p531 : 0 ≤ (x6_2 : Int) := of_decide_eq_true (by first | (with_reducible assumption) | assumption)
                          have q531 : x6_2 < (t503.length : Int) := of_decide_eq_true (by first | (with_reducible assumption) | assumption)
                          obtain ⟨ad531, e531, hx531_0, hx531_1, hx531_2⟩ := at_T41 (Kd.R_reads' HO_3.out).2.2 x6_2 p531 q531
                          obtain rfl : ad522 = ad531 := (by injection e531)
                          replace p531 := eq_true p531
                          replace q531 := eq_true q531
                          obtain ⟨Ao50, co50, eo50⟩ := Kd.R_slice HO_4.out
                          subst eo50
                          go_wp2_with (first | (go_at_call 28; (with_reducible refine (laws_lqHas.calls k2 _ _ t506 ((rd_T41 t503 x6_2).f2) false _ ?side1 ?side2 A45.out).mono ?_); (case side1 => repeat (first | exact (Kd.R_reads' HO_4.out).2.2 | (with_reducible refine Kd.C_alloc ?_ _) | (with_reducible refine Kd.C_drewN ?_ _) | (with_reducible refine Kd.C_drew ?_))); (case side2 => exact (Kd.R_reads' HO_4.out).2.1); rintro e w' ⟨rfl, ⟨nd, rfl⟩⟩; have p533 : 0 ≤ (x6_2 : Int) := of_decide_eq_true (by first | (with_reducible assumption) | assumption); have q533 : x6_2 < (t503.length : Int) := of_decide_eq_true (by first | (with_reducible assumption) | assumption); obtain ⟨ad533, e533, hx533_0, hx533_1, hx533_2⟩ := at_T41 (Kd.R_reads' HO_3.out).2.2 x6_2 p533 q533; obtain rfl : ad522 = ad533 := (by injection e533); replace p533 := eq_true p533; replace q533 := eq_true q533; obtain ⟨Ao51, co51, eo51⟩ := Kd.R_slice HO_5.out; subst eo51) | (go_at_call 28; (with_reducible refine (laws_lqHas.calls k2 _ _ t509 ((rd_T41 t503 x6_2).f2) true _ ?side1 ?side2 A48.out).mono ?_); (case side1 => repeat (first | exact (Kd.R_reads' HO_5.out).2.2 | (with_reducible refine Kd.C_alloc ?_ _) | (with_reducible refine Kd.C_drewN ?_ _) | (with_reducible refine Kd.C_drew ?_))); (case side2 => exact (Kd.R_reads' HO_5.out).2.1); rintro e w' ⟨rfl, ⟨nd, rfl⟩⟩))
                          go_roundg k2
                          case measure => have := HJ5.out; have := HK2.out; omega
                          case rel => exact ⟨(wrap64 (x6_2 + 1)), (by first | rfl | (simp; done) | (simp [*]; done)), H', ⟨by have := HJ5.out; have := HK2.out; omega⟩, ⟨by (with_reducible repeat (first | apply Kd.R_alloc | apply Kd.R_drewN | apply Kd.R_drew)); exact HO_3.out⟩, ⟨by (with_reducible repeat (first | apply Kd.R_alloc | apply Kd.R_drewN | apply Kd.R_drew)); exact HO_4.out⟩, ⟨by (with_reducible repeat (first | apply Kd.R_alloc | apply Kd.R_drewN | apply Kd.R_drew)); exact HO_5.out⟩, ⟨by repeat (first | (with_reducible first | exact HB.out | apply below_alloc | apply pw_below_drewN | apply below_drew1) | exact HB.out)⟩⟩
                        · replace c49 := Bool.eq_false_iff.mpr c49
                          subst c49
                          have H1 : (some false) = some r := by rw [if_neg (show ¬ (false = true) by decide)] at H; exact H
                          clear H
                          have H := H1
                          clear H1
                          obtain rfl := Option.some.inj H
                          have p522 : 0 ≤ (x6_2 : Int) := of_decide_eq_true (by first | (with_reducible assumption) | assumption)
                          have q522 : x6_2 < (t503.length : Int) := of_decide_eq_true (by first | (with_reducible assumption) | assumption)
                          obtain ⟨ad522, e522, hx522_0, hx522_1, hx522_2⟩ := at_T41 (Kd.R_reads' HO_3.out).2.2 x6_2 p522 q522
                          cases e522
                          replace p522 := eq_true p522
                          replace q522 := eq_true q522
                          have p530 : 0 ≤ (x6_2 : Int) := of_decide_eq_true (by first | (with_reducible assumption) | assumption)
                          have q530 : x6_2 < (t503.length : Int) := of_decide_eq_true (by first | (with_reducible assumption) | assumption)
                          obtain ⟨ad530, e530, hx530_0, hx530_1, hx530_2⟩ := at_T41 (Kd.R_reads' HO_3.out).2.2 x6_2 p530 q530
                          obtain rfl : ad522 = ad530 := (by injection e530)
                          replace p530 := eq_true p530
                          replace q530 := eq_true q530
                          have p531 : 0 ≤ (x6_2 : Int) := of_decide_eq_true (by first | (with_reducible assumption) | assumption)
                          have q531 : x6_2 < (t503.length : Int) := of_decide_eq_true (by first | (with_reducible assumption) | assumption)
                          obtain ⟨ad531, e531, hx531_0, hx531_1, hx531_2⟩ := at_T41 (Kd.R_reads' HO_3.out).2.2 x6_2 p531 q531
                          obtain rfl : ad522 = ad531 := (by injection e531)
                          replace p531 := eq_true p531
                          replace q531 := eq_true q531
                          obtain ⟨Ao52, co52, eo52⟩ := Kd.R_slice HO_4.out
                          subst eo52
                          go_wp2_with (first | (go_at_call 28; (with_reducible refine (laws_lqHas.calls k2 _ _ t506 ((rd_T41 t503 x6_2).f2) false _ ?side1 ?side2 A45.out).mono ?_); (case side1 => repeat (first | exact (Kd.R_reads' HO_4.out).2.2 | (with_reducible refine Kd.C_alloc ?_ _) | (with_reducible refine Kd.C_drewN ?_ _) | (with_reducible refine Kd.C_drew ?_))); (case side2 => exact (Kd.R_reads' HO_4.out).2.1); rintro e w' ⟨rfl, ⟨nd, rfl⟩⟩; have p533 : 0 ≤ (x6_2 : Int) := of_decide_eq_true (by first | (with_reducible assumption) | assumption); have q533 : x6_2 < (t503.length : Int) := of_decide_eq_true (by first | (with_reducible assumption) | assumption); obtain ⟨ad533, e533, hx533_0, hx533_1, hx533_2⟩ := at_T41 (Kd.R_reads' HO_3.out).2.2 x6_2 p533 q533; obtain rfl : ad522 = ad533 := (by injection e533); replace p533 := eq_true p533; replace q533 := eq_true q533; obtain ⟨Ao53, co53, eo53⟩ := Kd.R_slice HO_5.out; subst eo53) | (go_at_call 28; (with_reducible refine (laws_lqHas.calls k2 _ _ t509 ((rd_T41 t503 x6_2).f2) false _ ?side1 ?side2 A48.out).mono ?_); (case side1 => repeat (first | exact (Kd.R_reads' HO_5.out).2.2 | (with_reducible refine Kd.C_alloc ?_ _) | (with_reducible refine Kd.C_drewN ?_ _) | (with_reducible refine Kd.C_drew ?_))); (case side2 => exact (Kd.R_reads' HO_5.out).2.1); rintro e w' ⟨rfl, ⟨nd, rfl⟩⟩))
                          go_ret
                          exact ⟨by first | rfl | (simp [errW_none, errW_some] <;> rfl) | (simp [*, errW_none, errW_some] <;> rfl), by repeat (first | (with_reducible first | exact HB.out | apply below_alloc | apply pw_below_drewN | apply below_drew1) | exact HB.out)⟩
                    · rw [if_neg c44] at H
                      have c44b0 : (((rd_T41 t503 x6_2).f0) == 1) = false := beq_eq_false_iff_ne.mpr c44
                      have c44b1 : (((rd_T41 t503 x6_2).f0) != 1) = true := bne_iff_ne.mpr c44
                      have H' := Aside0.mk H
                      clear H
                      have p522 : 0 ≤ (x6_2 : Int) := of_decide_eq_true (by first | (with_reducible assumption) | assumption)
                      have q522 : x6_2 < (t503.length : Int) := of_decide_eq_true (by first | (with_reducible assumption) | assumption)
                      obtain ⟨ad522, e522, hx522_0, hx522_1, hx522_2⟩ := at_T41 (Kd.R_reads' HO_3.out).2.2 x6_2 p522 q522
                      cases e522
                      replace p522 := eq_true p522
                      replace q522 := eq_true q522
                      have p530 : 0 ≤ (x6_2 : Int) := of_decide_eq_true (by first | (with_reducible assumption) | assumption)
                      have q530 : x6_2 < (t503.length : Int) := of_decide_eq_true (by first | (with_reducible assumption) | assumption)
                      obtain ⟨ad530, e530, hx530_0, hx530_1, hx530_2⟩ := at_T41 (Kd.R_reads' HO_3.out).2.2 x6_2 p530 q530
                      obtain rfl : ad522 = ad530 := (by injection e530)
                      replace p530 := eq_true p530
                      replace q530 := eq_true q530
                      go_wp2
                      go_roundg k2
                      case measure => have := HJ5.out; have := HK2.out; omega
                      case rel => exact ⟨(wrap64 (x6_2 + 1)), (by first | rfl | (simp; done) | (simp [*]; done)), H', ⟨by have := HJ5.out; have := HK2.out; omega⟩, ⟨by (with_reducible repeat (first | apply Kd.R_alloc | apply Kd.R_drewN | apply Kd.R_drew)); exact HO_3.out⟩, ⟨by (with_reducible repeat (first | apply Kd.R_alloc | apply Kd.R_drewN | apply Kd.R_drew)); exact HO_4.out⟩, ⟨by (with_reducible repeat (first | apply Kd.R_alloc | apply Kd.R_drewN | apply Kd.R_drew)); exact HO_5.out⟩, ⟨by repeat (first | (with_reducible first | exact HB.out | apply below_alloc | apply pw_below_drewN | apply below_drew1) | exact HB.out)⟩⟩
                · rw [if_neg c27] at H
                  exact absurd H (by simp)
              · rw [if_neg c26] at H
                have c26b0 : decide (x6_2 < (t503.length : Int)) = false := decide_eq_false c26
                clear c26
                replace H := Option.bind_eq_some_iff.mp H
                obtain ⟨t520, A540, H⟩ := H
                replace H : (if t520 = true then ((laws_lqUp.f k2 t509).bind fun t521 => (some t521)) else (some false)) = some r := H
                have A54 := Aside0.mk A540
                clear A540
                by_cases c55 : t520 = true
                · subst c55
                  have H1 : ((laws_lqUp.f k2 t509).bind fun t521 => (some t521)) = some r := by rw [if_pos rfl] at H; exact H
                  clear H
                  have H := H1
                  clear H1
                  replace H := Option.bind_eq_some_iff.mp H
                  obtain ⟨t521, A560, H⟩ := H
                  replace H : (some t521) = some r := H
                  have A56 := Aside0.mk A560
                  clear A560
                  obtain rfl := Option.some.inj H
                  obtain ⟨Ao57, co57, eo57⟩ := Kd.R_slice HO_4.out
                  subst eo57
                  go_wp2_with (first | ((with_reducible refine gate_callee (f := 35) rfl ?_); refine goesL_ (some 79) rfl rfl Try.func35 (by kernel_rfl) rfl #[.slice Ao57 t506.length co57] rfl (by (try simp only [List.map_toArray, List.map_cons, List.map_nil]); first | done | rfl | (simp only [List.length_drop, List.length_take]; rfl)) ?_; (with_reducible refine (laws_lqUp.calls k2 _ _ t506 true _ ?side1 ?side2 A54.out).mono ?_); (case side1 => repeat (first | exact (Kd.R_reads' HO_4.out).2.2 | (with_reducible refine Kd.C_alloc ?_ _) | (with_reducible refine Kd.C_drewN ?_ _) | (with_reducible refine Kd.C_drew ?_))); (case side2 => exact (Kd.R_reads' HO_4.out).2.1); rintro e w' ⟨rfl, ⟨nd, rfl⟩⟩; refine ⟨_, rfl, ?_⟩; obtain ⟨Ao58, co58, eo58⟩ := Kd.R_slice HO_5.out; subst eo58) | (go_at_call 35; (with_reducible refine (laws_lqUp.calls k2 _ _ t509 t521 _ ?side1 ?side2 A56.out).mono ?_); (case side1 => repeat (first | exact (Kd.R_reads' HO_5.out).2.2 | (with_reducible refine Kd.C_alloc ?_ _) | (with_reducible refine Kd.C_drewN ?_ _) | (with_reducible refine Kd.C_drew ?_))); (case side2 => exact (Kd.R_reads' HO_5.out).2.1); rintro e w' ⟨rfl, ⟨nd, rfl⟩⟩))
                  go_ret
                  exact ⟨by first | rfl | (simp [errW_none, errW_some] <;> rfl) | (simp [*, errW_none, errW_some] <;> rfl), by repeat (first | (with_reducible first | exact HB.out | apply below_alloc | apply pw_below_drewN | apply below_drew1) | exact HB.out)⟩
                · replace c55 := Bool.eq_false_iff.mpr c55
                  subst c55
                  have H1 : (some false) = some r := by rw [if_neg (show ¬ (false = true) by decide)] at H; exact H
                  clear H
                  have H := H1
                  clear H1
                  obtain rfl := Option.some.inj H
                  obtain ⟨Ao59, co59, eo59⟩ := Kd.R_slice HO_4.out
                  subst eo59
                  go_wp2_with (first | ((with_reducible refine gate_callee (f := 35) rfl ?_); refine goesL_ (some 79) rfl rfl Try.func35 (by kernel_rfl) rfl #[.slice Ao59 t506.length co59] rfl (by (try simp only [List.map_toArray, List.map_cons, List.map_nil]); first | done | rfl | (simp only [List.length_drop, List.length_take]; rfl)) ?_; (with_reducible refine (laws_lqUp.calls k2 _ _ t506 false _ ?side1 ?side2 A54.out).mono ?_); (case side1 => repeat (first | exact (Kd.R_reads' HO_4.out).2.2 | (with_reducible refine Kd.C_alloc ?_ _) | (with_reducible refine Kd.C_drewN ?_ _) | (with_reducible refine Kd.C_drew ?_))); (case side2 => exact (Kd.R_reads' HO_4.out).2.1); rintro e w' ⟨rfl, ⟨nd, rfl⟩⟩; refine ⟨_, rfl, ?_⟩))
                  go_ret
                  exact ⟨by first | rfl | (simp [errW_none, errW_some] <;> rfl) | (simp [*, errW_none, errW_some] <;> rfl), by repeat (first | (with_reducible first | exact HB.out | apply below_alloc | apply pw_below_drewN | apply below_drew1) | exact HB.out)⟩

/-- THE ONE PURE STATEMENT of laws_FnChangeSets: yours. -/
def laws_FnChangeSets.Pure : Prop := ∀ (l0 : List Int), l0.length ≤ maxLen → l0.length * 1 ≤ 140737488351232 → (∀ x ∈ l0, (Lit.int .u8 x).wf = true) → ∃ k, laws_FnChangeSets.f k l0 = some true
theorem laws_FnChangeSets.walk (P : laws_FnChangeSets.Pure) (a0 : Option Addr) (len0 cap0 : Nat) (z0 : List Int) (w : World) (w0 : (a0 = none ∧ len0 = 0 ∧ cap0 = 0 ∧ z0 = []) ∨ ∃ x, a0 = some x ∧ len0 ≤ cap0 ∧ cap0 ≤ maxLen ∧ z0.length = cap0 ∧ (∀ i, i < z0.length → w.cell? (x.add i) = some (.int .u8 (z0.getD i 0))) ∧ ∀ n ∈ z0, (Lit.int .u8 n).wf = true) (y0 : len0 * 1 ≤ 140737488351232) :
    Calls Try.prog 11 #[.slice a0 len0 cap0] w fun e w' => e = .returned (.bool true) ∧ Below w.heap.size w w' := by
  obtain ⟨l0, rfl, hr0, hm0, hw0, hc0⟩ := ReadsInt.ofRowC w0
  obtain ⟨k, h⟩ := P l0 hm0 y0 hw0
  refine (laws_FnChangeSets.calls k _ _ l0 true w (Kd.C_of_reads (d := (0 : Int)) (h1 := fun _ => rfl) hr0) hc0 h).mono ?_
  rintro e w' ⟨rfl, hd⟩
  exact ⟨rfl, hd⟩

end Go.Proofs.Ytedbgdnhkcllaaa.QRB
