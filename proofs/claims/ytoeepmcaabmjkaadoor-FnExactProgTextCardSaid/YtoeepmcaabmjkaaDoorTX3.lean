/- Part 3 of what FnExactProgText leans on: contracts of Go functions, and plain lemmas, each under its own premises. Put together by wip/tools/pack.py. -/
import Derived.Test.YtoeepmcaabmjkaaDoorTX0
import Derived.Test.YtoeepmcaabmjkaaDoorTX1
import Derived.Test.YtoeepmcaabmjkaaDoorTX2
namespace Go.Proofs.YtoeepmcaabmjkaaDoor.QTX
open Go.RowKit Go.Proofs.YtoeepmcaabmjkaaDoorW.PrintWords Go.Proofs.YtoeepmcaabmjkaaDoorW.PrintLast Go.Proofs.YtoeepmcaabmjkaaDoorW.PrintMore
attribute [local go_sem] max2_int min2_int max_two min_two max_three min_three max_four min_four   -- for this text's walks alone
set_option linter.unusedVariables false
set_option linter.unusedSimpArgs false
def laws_toActS.l0 : Nat → List (S111) → List (S52) → Int → Option ((List (S52)))
  | 0, _, _, _ => none
  | k + 1, x0, x3, x4 => if x4 < (x0.length : Int) then (if 0 ≤ x4 then ((laws_toAct.f k ((rd_T111 x0 x4).f0) ((rd_T111 x0 x4).f1) ((rd_T111 x0 x4).f2) ((rd_T111 x0 x4).f3)).bind fun bt219 => (if x4 < (x3.length : Int) then (laws_toActS.l0 k x0 (x3.set (x4 : Int).toNat (⟨bt219.1, bt219.2.1, bt219.2.2.1, bt219.2.2.2⟩ : S52)) (wrap64 (x4 + 1))) else (none))) else (none)) else (some x3)
def laws_toActS.f (k : Nat) (l0 : List (S111)) : Option ((List (S52))) := if 0 ≤ (l0.length : Int) then (if ((l0.length : Int) : Int).toNat ≤ 4398046511104 then (laws_toActS.l0 k l0 (List.replicate ((l0.length : Int) : Int).toNat z52) 0) else (none)) else (none)
set_option maxHeartbeats 8000000 in
set_option maxRecDepth 100000 in
theorem laws_toActS.calls (k : Nat) (A0 : Option Addr) (c0 : Nat) (l0 : List (S111)) (r : List (S52)) (w : World) (hr0 : Kd.C k111 w A0 l0.length l0) (hc0 : l0.length ≤ c0) (h : laws_toActS.f k l0 = some r) :
    Calls Tryd.prog 45 #[.slice A0 l0.length c0] w fun e w' => ∃ v0_ : Value, e = .returned (v0_) ∧ Kd.S k52 52 w' w.heap.size (fun _ => True) v0_ r ∧ Below w.heap.size w w' := by
  have hu111 := Tryd.underlying111
  have hu52 := Tryd.underlying52
  have HR0 := Aside0.mk hr0
  have HC0 := Aside0.mk hc0
  clear hr0 hc0
  have HB := Aside0.mk (Below.refl w.heap.size w)
  have H : (if 0 ≤ (l0.length : Int) then (if ((l0.length : Int) : Int).toNat ≤ 4398046511104 then (laws_toActS.l0 k l0 (List.replicate ((l0.length : Int) : Int).toNat z52) 0) else (none)) else (none)) = some r := h
  clear h
  by_cases c2 : 0 ≤ (l0.length : Int)
  · rw [if_pos c2] at H
    have c2b0 := eq_true c2
    have c2b1 : decide (0 ≤ (l0.length : Int)) = true := decide_eq_true c2
    clear c2
    by_cases c3 : ((l0.length : Int) : Int).toNat ≤ 4398046511104
    · rw [if_pos c3] at H
      have c3b0 := eq_true c3
      have c3b1 : decide (((l0.length : Int) : Int).toNat ≤ 4398046511104) = true := decide_eq_true c3
      clear c3
      obtain ⟨y215, hy215⟩ : ∃ y_ : List (S52), y_ = (List.replicate ((l0.length : Int) : Int).toNat z52) := ⟨_, rfl⟩
      replace H : (laws_toActS.l0 k l0 y215 0) = some r := by first | (rw [hy215]; with_reducible exact H) | (have H2_ := (Option.bind_some _ _).symm.trans H; rw [hy215]; with_reducible exact H2_) | (have H2_ := (Option.bind_some _ _).symm.trans H; with_reducible exact H2_) | with_reducible exact H | (rw [hy215]; exact H) | exact H
      have Ny215 := Aside0.mk hy215
      clear hy215
      have H' := Aside0.mk H
      clear H
      go_enter Tryd.func45, Tryd.ntmps45
      go_wp2_with (first | ((with_reducible refine gate_dst (N := 7) rfl ?_); refine Kd.S_make k52 _ 52 rfl (N := 7) rfl 48 _ _ rfl (l0.length : Int) rfl rfl Tryd.underlying48 (.agg #[(.int .i64 0), (.slice none 0 0), (.slice none 0 0), (.int .i64 0)]) 64 info52 rfl (by decide) (by omega) z52 (ok := fun _ => True) (okp := fun _ => True) (k52_mkM _ _ _ z52 (Kd.R_nil _ _ _ _ _) (Kd.R_nil _ _ _ _ _)) (fun _ hk => hk) trivial (of_decide_eq_true (by first | (with_reducible assumption) | assumption)) (Nat.le_trans (Nat.mul_le_mul_right _ (of_decide_eq_true (by first | (with_reducible assumption) | assumption) : (l0.length : Int).toNat ≤ 4398046511104)) (by omega)) (Below.refl _ _) (Nat.le_refl _) ?_; intro v216 w4 ho5 hb hg_ hnew_; clear hg_ hnew_; (first | rw [← Ny215.out] at ho5 | (simp only [Int.reduceToNat] at ho5; rw [← Ny215.out] at ho5)); have n0_ := Aside0.mk (Kd.S_lower ho5 (below_size (by repeat (first | (with_reducible first | exact HB.out | apply below_alloc | apply pw_below_drewN | apply below_drew1) | exact HB.out)))); have n1_ := Aside0.mk (below_step (by repeat (first | (with_reducible first | exact HB.out | apply below_alloc | apply pw_below_drewN | apply below_drew1) | exact HB.out)) hb); clear HB; have HO217 := n0_; have HB := n1_; clear n0_ n1_; clear hb ho5))
      go_loopg [4] k (fun kq v4 w' => ∃ (x3_1 : List (S52)) (x4_1 : Int), v4 = .int .i64 x4_1 ∧ Aside0 (laws_toActS.l0 kq l0 x3_1 x4_1 = some r) ∧ Aside0 (kq ≤ k) ∧ Aside0 (Kd.S k52 52 w' w.heap.size (fun _ => True) v216 x3_1) ∧ Aside0 (Below w.heap.size w w'))
      case atStart => exact ⟨(y215), (0), (by first | rfl | (simp; done) | (simp [*]; done)), H', ⟨Nat.le_refl _⟩, ⟨by (with_reducible repeat (first | apply Kd.S_alloc | apply Kd.S_drewN | apply Kd.S_drew)); exact HO217.out⟩, ⟨by repeat (first | (with_reducible first | exact HB.out | apply below_alloc | apply pw_below_drewN | apply below_drew1) | exact HB.out)⟩⟩
      case round =>
        clear H'
        try clear c2
        try clear c2b0
        try clear c2b1
        try clear p2
        try clear c3
        try clear c3b0
        try clear c3b1
        try clear c4
        obtain ⟨x3_1, x4_1, rfl, HA, HK1, HO_3, HB⟩ := hrel
        cases gk with
        | zero => exact absurd HA.out (by simp [laws_toActS.l0])
        | succ k1 =>
          have H := HA.out
          clear HA
          simp only [laws_toActS.l0] at H
          by_cases c6 : x4_1 < (l0.length : Int)
          · rw [if_pos c6] at H
            have c6b0 : decide (x4_1 < (l0.length : Int)) = true := decide_eq_true c6
            clear c6
            by_cases c7 : 0 ≤ x4_1
            · rw [if_pos c7] at H
              have c7b0 : decide (0 ≤ x4_1) = true := decide_eq_true c7
              clear c7
              replace H := Option.bind_eq_some_iff.mp H
              obtain ⟨⟨t219, t220, t223, t226⟩, A80, H⟩ := H
              replace H : (if x4_1 < (x3_1.length : Int) then (laws_toActS.l0 k1 l0 (x3_1.set (x4_1 : Int).toNat (⟨t219, t220, t223, t226⟩ : S52)) (wrap64 (x4_1 + 1))) else (none)) = some r := H
              have A8 := Aside0.mk A80
              clear A80
              by_cases c9 : x4_1 < (x3_1.length : Int)
              · rw [if_pos c9] at H
                have c9b0 : decide (x4_1 < (x3_1.length : Int)) = true := decide_eq_true c9
                clear c9
                obtain ⟨y227, hy227⟩ : ∃ y_ : List (S52), y_ = (x3_1.set (x4_1 : Int).toNat (⟨t219, t220, t223, t226⟩ : S52)) := ⟨_, rfl⟩
                replace H : (laws_toActS.l0 k1 l0 y227 (wrap64 (x4_1 + 1))) = some r := by first | (rw [hy227]; with_reducible exact H) | (have H2_ := (Option.bind_some _ _).symm.trans H; rw [hy227]; with_reducible exact H2_) | (have H2_ := (Option.bind_some _ _).symm.trans H; with_reducible exact H2_) | with_reducible exact H | (rw [hy227]; exact H) | exact H
                have Ny227 := Aside0.mk hy227
                clear hy227
                have H' := Aside0.mk H
                clear H
                have p218 : 0 ≤ (x4_1 : Int) := of_decide_eq_true (by first | (with_reducible assumption) | assumption)
                have q218 : x4_1 < (l0.length : Int) := of_decide_eq_true (by first | (with_reducible assumption) | assumption)
                obtain ⟨ad218, A218_1, c218_1, A218_2, c218_2, e218, hx218_0, hx218_1, hx218_2, hx218_3, hl218_1, hi218_1, hl218_2, hi218_2⟩ := at_T111 HR0.out x4_1 p218 q218
                cases e218
                replace hx218_0 := (HB.out.cell (World.block_lt_of_cell? w _ hx218_0)).trans hx218_0
                replace hx218_1 := (HB.out.cell (World.block_lt_of_cell? w _ hx218_1)).trans hx218_1
                replace hx218_2 := (HB.out.cell (World.block_lt_of_cell? w _ hx218_2)).trans hx218_2
                replace hx218_3 := (HB.out.cell (World.block_lt_of_cell? w _ hx218_3)).trans hx218_3
                have HR218_1 := Aside0.mk hi218_1
                have HC218_1 := Aside0.mk hl218_1
                clear hi218_1 hl218_1
                have HR218_2 := Aside0.mk hi218_2
                have HC218_2 := Aside0.mk hl218_2
                clear hi218_2 hl218_2
                replace p218 := eq_true p218
                replace q218 := eq_true q218
                go_wp2_with (first | ((with_reducible refine gate_callee (f := 65) rfl ?_); refine goesL_ (some 20) rfl rfl Tryd.func65 (by kernel_rfl) rfl #[.agg #[.int .i64 ((rd_T111 l0 x4_1).f0), .slice A218_1 ((rd_T111 l0 x4_1).f1).length c218_1, .slice A218_2 ((rd_T111 l0 x4_1).f2).length c218_2, .int .i64 ((rd_T111 l0 x4_1).f3)]] rfl (by (try simp only [List.map_toArray, List.map_cons, List.map_nil]); first | done | rfl | (simp only [List.length_drop, List.length_take]; rfl)) ?_; (with_reducible refine (laws_toAct.calls k1 ((rd_T111 l0 x4_1).f0) _ _ ((rd_T111 l0 x4_1).f1) _ _ ((rd_T111 l0 x4_1).f2) ((rd_T111 l0 x4_1).f3) t219 t220 t223 t226 _ ?side1 ?side2 ?side3 ?side4 A8.out).mono ?_); (case side1 => repeat (first | exact (Kd.C_below HR218_1.out HB.out) | (with_reducible refine Kd.C_alloc ?_ _) | (with_reducible refine Kd.C_drewN ?_ _) | (with_reducible refine Kd.C_drew ?_))); (case side2 => exact HC218_1.out); (case side3 => repeat (first | exact (Kd.C_below HR218_2.out HB.out) | (with_reducible refine Kd.C_alloc ?_ _) | (with_reducible refine Kd.C_drewN ?_ _) | (with_reducible refine Kd.C_drew ?_))); (case side4 => exact HC218_2.out); rintro e w11 ⟨v221, v224, rfl, ho0, ho1, hb⟩; have st_v221 : ∀ (a_ : Addr) (m_ : Mode) (W_ : World), (store a_ v221 m_).run Tryd.prog W_ = stored Tryd.prog W_ a_ v221 m_ := (fun a_ m_ W_ => run_store _ W_ a_ _ m_ (by first | exact (Kd.R_val ho0).2 | exact (Kd.R_val (Kd.S_R ho0)).2 | exact (Kd.N_val ho0).2)); (try have sl_v221 := Aside0.mk (by first | exact Kd.R_slice ho0 | exact Kd.R_slice (Kd.S_R ho0))); have st_v224 : ∀ (a_ : Addr) (m_ : Mode) (W_ : World), (store a_ v224 m_).run Tryd.prog W_ = stored Tryd.prog W_ a_ v224 m_ := (fun a_ m_ W_ => run_store _ W_ a_ _ m_ (by first | exact (Kd.R_val ho1).2 | exact (Kd.R_val (Kd.S_R ho1)).2 | exact (Kd.N_val ho1).2)); (try have sl_v224 := Aside0.mk (by first | exact Kd.R_slice ho1 | exact Kd.R_slice (Kd.S_R ho1))); refine ⟨_, rfl, ?_⟩; have n0_ := Aside0.mk (Kd.S_mono (Kd.S_told (Kd.S_told (Kd.S_old (by (with_reducible repeat (first | apply Kd.S_alloc | apply Kd.S_drewN | apply Kd.S_drew)); exact HO_3.out) hb) (Kd.R_base ho0)) (Kd.R_base ho1)) (fun _ h_ => h_.1)); have n1_ := Aside0.mk (Kd.R_lower ho0 (below_size (by repeat (first | (with_reducible first | exact HB.out | apply below_alloc | apply pw_below_drewN | apply below_drew1) | exact HB.out)))); have n2_ := Aside0.mk (Kd.R_lower ho1 (below_size (by repeat (first | (with_reducible first | exact HB.out | apply below_alloc | apply pw_below_drewN | apply below_drew1) | exact HB.out)))); have n3_ := Aside0.mk (below_step (by repeat (first | (with_reducible first | exact HB.out | apply below_alloc | apply pw_below_drewN | apply below_drew1) | exact HB.out)) hb); clear HO_3; clear HB; have HO_3 := n0_; have HO222 := n1_; have HO225 := n2_; have HB := n3_; clear n0_ n1_ n2_ n3_; (try clear hb); (try clear hb2); (try clear hk); (try clear hi); (try clear ho0); (try clear ho1); have p10 : 0 ≤ (x4_1 : Int) := of_decide_eq_true (by first | (with_reducible assumption) | assumption); have q10 : (x4_1 : Int) < ((x3_1.length : Int) : Int) := of_decide_eq_true (by first | (with_reducible assumption) | assumption); obtain ⟨go10, co10, eo10, gb10, gl10, cl10, HG10⟩ := Kd.S_form HO_3.out (by omega); (first | cases eo10 | (injection eo10 with ea_ en_ ec_; (first | subst ea_ | (injection ea_ with ea_; subst ea_)); subst ec_; clear en_)); have GB10 := Aside0.mk gb10; have GG10 := Aside0.mk HG10; clear gb10 gl10 HG10; obtain ⟨_, ce10, hcl10, hM10, hcc10, hfr10, _, _⟩ := Kd.S_elem HO_3.out z52 (x4_1 : Int) p10 q10; obtain ⟨ve10_1, ve10_2, rfl, ge10_1, ge10_2⟩ := k52_openM hM10; have hx10_0 : w11.cell? ⟨go10, (x4_1 : Int).toNat * 4, none⟩ = some (.int .i64 ((rd_T52 x3_1 x4_1).f0)) := hcc10 0 _ rfl; have hx10_1 : w11.cell? ⟨go10, (x4_1 : Int).toNat * 4 + 1, none⟩ = some (ve10_1) := hcc10 1 _ rfl; have hx10_2 : w11.cell? ⟨go10, (x4_1 : Int).toNat * 4 + 2, none⟩ = some (ve10_2) := hcc10 2 _ rfl; have hx10_3 : w11.cell? ⟨go10, (x4_1 : Int).toNat * 4 + 3, none⟩ = some (.int .i64 ((rd_T52 x3_1 x4_1).f3)) := hcc10 3 _ rfl; have hf10_0 : w11.frozen? ⟨go10, (x4_1 : Int).toNat * 4, none⟩ = false := hfr10 0; have hf10_1 : w11.frozen? ⟨go10, (x4_1 : Int).toNat * 4 + 1, none⟩ = false := hfr10 1; have hf10_2 : w11.frozen? ⟨go10, (x4_1 : Int).toNat * 4 + 2, none⟩ = false := hfr10 2; have hf10_3 : w11.frozen? ⟨go10, (x4_1 : Int).toNat * 4 + 3, none⟩ = false := hfr10 3; clear hcl10 hcc10 hfr10; (try clear hM10); replace p10 := eq_true p10; replace q10 := eq_true q10; have n_ := Aside0.mk (Kd.S_mono (ok' := (fun k_ => some k_ ≠ (v221 : Value).ownBlock ∧ some k_ ≠ (v224 : Value).ownBlock)) HO_3.out (fun k_ hk => ⟨hk.1.2, hk.2⟩)); clear HO_3; have HO_3 := n_; clear n_; have HX12 := Aside0.mk (show Kd.S k52 52 w11 w.heap.size (fun k_ => ((fun _ => True)) k_ ∧ ¬ ((fun k_ => some k_ = (v221 : Value).ownBlock ∨ some k_ = (v224 : Value).ownBlock)) k_) (.slice (some ⟨go10, 0, none⟩) x3_1.length co10) x3_1 from (by (with_reducible repeat (first | apply Kd.S_alloc | apply Kd.S_drewN | apply Kd.S_drew)); exact Kd.S_mono HO_3.out (fun k_ hk => ⟨trivial, fun e_ => e_.elim (fun h_ => hk.1 h_) (fun h_ => hk.2 h_)⟩))); obtain ⟨oki12, ce12, hcl12, hM12, hcc12, hfr12, hoki12, hH12⟩ := Kd.S_elem HX12.out z52 (x4_1 : Int) (of_decide_eq_true (by first | (with_reducible assumption) | assumption)) (by have h_ : (x4_1 : Int) < ((x3_1.length : Int) : Int) := of_decide_eq_true (by first | (with_reducible assumption) | assumption); first | exact h_ | (have e_ := (Kd.S_reads' HO_3.out).1; omega) | simpa using h_); obtain ⟨ve12_1, ve12_2, rfl, ge12_1, ge12_2⟩ := k52_openM hM12; have HP12 := Kd.S_seg hH12 (of_decide_eq_true (by first | (with_reducible assumption) | assumption)) (by have h_ : (x4_1 : Int) < ((x3_1.length : Int) : Int) := of_decide_eq_true (by first | (with_reducible assumption) | assumption); first | exact h_ | (have e_ := (Kd.S_reads' HO_3.out).1; omega) | simpa using h_) (seg := [.int .i64 t219, v221, v224, .int .i64 t226]) (j := 0) (show 4 ≤ 4 from by decide) (x' := (⟨t219, t220, t223, t226⟩ : S52)) (k52_mkM _ _ _ (⟨t219, t220, t223, t226⟩ : S52) (Kd.R_mono (Kd.R_tight rfl (Kd.R_mono (ok' := fun k_ => ((fun _ => True)) k_ ∧ k_ ≠ go10) (Kd.R_apart' (HO222.out) (Kd.S_typed HO_3.out) (by decide)) (fun k_ hk => ⟨trivial, fun e_ => (hk.2) (by rw [e_]; rfl)⟩))) (fun _ h_ => Or.inr (Or.inl h_))) (Kd.R_mono (Kd.R_tight rfl (Kd.R_mono (ok' := fun k_ => ((fun _ => True)) k_ ∧ k_ ≠ go10) (Kd.R_apart' (HO225.out) (Kd.S_typed HO_3.out) (by decide)) (fun k_ hk => ⟨trivial, fun e_ => (hk.2) (by rw [e_]; rfl)⟩))) (fun _ h_ => Or.inr (Or.inr (h_))))) (fun _ hk => hk) (fun k_ hk_ => hk_.elim (fun h_ => ((Kd.R_mono (ok' := fun k_ => ((fun _ => True)) k_ ∧ k_ ≠ go10) (Kd.R_apart' (HO222.out) (Kd.S_typed HO_3.out) (by decide)) (fun k_ hk => ⟨trivial, fun e_ => (hk.2) (by rw [e_]; rfl)⟩))).1 k_ h_.symm) (fun h_ => ((Kd.R_mono (ok' := fun k_ => ((fun _ => True)) k_ ∧ k_ ≠ go10) (Kd.R_apart' (HO225.out) (Kd.S_typed HO_3.out) (by decide)) (fun k_ hk => ⟨trivial, fun e_ => (hk.2) (by rw [e_]; rfl)⟩))).1 k_ h_.symm)); have hx12_0 := hcc12 0 _ rfl; (try simp only [show (k52).sz = 4 from rfl, Nat.mul_one, Nat.add_zero] at hx12_0); have hf12_0 := hfr12 0; (try simp only [show (k52).sz = 4 from rfl, Nat.mul_one, Nat.add_zero] at hf12_0); have hx12_1 := hcc12 1 _ rfl; (try simp only [show (k52).sz = 4 from rfl, Nat.mul_one, Nat.add_zero] at hx12_1); have hf12_1 := hfr12 1; (try simp only [show (k52).sz = 4 from rfl, Nat.mul_one, Nat.add_zero] at hf12_1); have hx12_2 := hcc12 2 _ rfl; (try simp only [show (k52).sz = 4 from rfl, Nat.mul_one, Nat.add_zero] at hx12_2); have hf12_2 := hfr12 2; (try simp only [show (k52).sz = 4 from rfl, Nat.mul_one, Nat.add_zero] at hf12_2); have hx12_3 := hcc12 3 _ rfl; (try simp only [show (k52).sz = 4 from rfl, Nat.mul_one, Nat.add_zero] at hx12_3); have hf12_3 := hfr12 3; (try simp only [show (k52).sz = 4 from rfl, Nat.mul_one, Nat.add_zero] at hf12_3); clear hcl12 hcc12 hfr12 hM12 hoki12 hH12) | ((with_reducible refine gate_store (t := 52) (p := 21) rfl ?_); refine store_event (t := 52) (p := 21) (v := ?vo_w13) (w1 := ((((w11.setCell ⟨go10, (x4_1 : Int).toNat * 4, none⟩ (.int .i64 t219)).setCell ⟨go10, (x4_1 : Int).toNat * 4 + 1, none⟩ (v221)).setCell ⟨go10, (x4_1 : Int).toNat * 4 + 2, none⟩ (v224)).setCell ⟨go10, (x4_1 : Int).toNat * 4 + 3, none⟩ (.int .i64 t226))) ?hg ?ho ?hn ?hr ?_; (case ho => rfl); (case hg => rfl); (case hn => rfl); (case hr => first | (go_simp; done) | (go_simp; rfl) | (obtain ⟨A_, c_, e_⟩ := sl_v221.out; subst e_; first | (go_simp; done) | (go_simp; rfl)) | (obtain ⟨A_, c_, e_⟩ := sl_v224.out; subst e_; first | (go_simp; done) | (go_simp; rfl))); intro w13 hw; have hg : w11.grownBy w13 (some go10) := (by rw [hw]; exact HP12.2); have hp_ : Kd.S k52 52 w13 w.heap.size (fun _ => True) (.slice (some ⟨go10, 0, none⟩) x3_1.length co10) y227 := (by rw [hw, Ny227.out]; exact HP12.1); clear HP12; have n0_ := Aside0.mk (hp_); have n1_ := Aside0.mk ((by rw [hw]; exact below_set (below_set (below_set (below_set (HB.out) GB10.out) GB10.out) GB10.out) GB10.out : Below w.heap.size w w13)); clear HO_3; clear HB; clear HO222; clear HO225; have HO_3 := n0_; have HB := n1_; clear n0_ n1_; clear hg hw hp_))
                go_roundg k1
                case measure => have := HK1.out; omega
                case rel => exact ⟨(y227), (wrap64 (x4_1 + 1)), (by first | rfl | (simp; done) | (simp [*]; done)), H', ⟨by have := HK1.out; omega⟩, ⟨by (with_reducible repeat (first | apply Kd.S_alloc | apply Kd.S_drewN | apply Kd.S_drew)); exact HO_3.out⟩, ⟨by repeat (first | (with_reducible first | exact HB.out | apply below_alloc | apply pw_below_drewN | apply below_drew1) | exact HB.out)⟩⟩
              · rw [if_neg c9] at H
                exact absurd H (by simp)
            · rw [if_neg c7] at H
              exact absurd H (by simp)
          · rw [if_neg c6] at H
            have c6b0 : decide (x4_1 < (l0.length : Int)) = false := decide_eq_false c6
            clear c6
            obtain rfl := Option.some.inj H
            go_wp2
            go_ret
            exact ⟨_, by first | rfl | (simp [errW_none, errW_some] <;> rfl) | (simp [*, errW_none, errW_some] <;> rfl), by (with_reducible repeat (first | apply Kd.S_alloc | apply Kd.S_drewN | apply Kd.S_drew)); exact HO_3.out, by repeat (first | (with_reducible first | exact HB.out | apply below_alloc | apply pw_below_drewN | apply below_drew1) | exact HB.out)⟩
    · rw [if_neg c3] at H
      exact absurd H (by simp)
  · rw [if_neg c2] at H
    exact absurd H (by simp)
def laws_toActSS.l0 : Nat → List (List (S111)) → List (List (S52)) → Int → Option ((List (List (S52))))
  | 0, _, _, _ => none
  | k + 1, x0, x3, x4 => if x4 < (x0.length : Int) then (if 0 ≤ x4 then ((laws_toActS.f k (rd_L5 x0 x4)).bind fun t232 => (if x4 < (x3.length : Int) then (laws_toActSS.l0 k x0 (x3.set (x4 : Int).toNat t232) (wrap64 (x4 + 1))) else (none))) else (none)) else (some x3)
def laws_toActSS.f (k : Nat) (l0 : List (List (S111))) : Option ((List (List (S52)))) := if 0 ≤ (l0.length : Int) then (if ((l0.length : Int) : Int).toNat ≤ 11728124029610 then (laws_toActSS.l0 k l0 (List.replicate ((l0.length : Int) : Int).toNat []) 0) else (none)) else (none)
set_option maxHeartbeats 8000000 in
set_option maxRecDepth 100000 in
theorem laws_toActSS.calls (k : Nat) (A0 : Option Addr) (c0 : Nat) (l0 : List (List (S111))) (r : List (List (S52))) (w : World) (hr0 : Kd.C (Kd.slice 111 k111) w A0 l0.length l0) (hc0 : l0.length ≤ c0) (h : laws_toActSS.f k l0 = some r) :
    Calls Tryd.prog 24 #[.slice A0 l0.length c0] w fun e w' => ∃ v0_ : Value, e = .returned (v0_) ∧ Kd.R (Kd.slice 52 k52) 48 w' w.heap.size (fun _ => True) v0_ r ∧ Below w.heap.size w w' := by
  have HR0 := Aside0.mk hr0
  have HC0 := Aside0.mk hc0
  clear hr0 hc0
  have HB := Aside0.mk (Below.refl w.heap.size w)
  have H : (if 0 ≤ (l0.length : Int) then (if ((l0.length : Int) : Int).toNat ≤ 11728124029610 then (laws_toActSS.l0 k l0 (List.replicate ((l0.length : Int) : Int).toNat []) 0) else (none)) else (none)) = some r := h
  clear h
  by_cases c2 : 0 ≤ (l0.length : Int)
  · rw [if_pos c2] at H
    have c2b0 := eq_true c2
    have c2b1 : decide (0 ≤ (l0.length : Int)) = true := decide_eq_true c2
    clear c2
    by_cases c3 : ((l0.length : Int) : Int).toNat ≤ 11728124029610
    · rw [if_pos c3] at H
      have c3b0 := eq_true c3
      have c3b1 : decide (((l0.length : Int) : Int).toNat ≤ 11728124029610) = true := decide_eq_true c3
      clear c3
      obtain ⟨y228, hy228⟩ : ∃ y_ : List (List (S52)), y_ = (List.replicate ((l0.length : Int) : Int).toNat []) := ⟨_, rfl⟩
      replace H : (laws_toActSS.l0 k l0 y228 0) = some r := by first | (rw [hy228]; with_reducible exact H) | (have H2_ := (Option.bind_some _ _).symm.trans H; rw [hy228]; with_reducible exact H2_) | (have H2_ := (Option.bind_some _ _).symm.trans H; with_reducible exact H2_) | with_reducible exact H | (rw [hy228]; exact H) | exact H
      have Ny228 := Aside0.mk hy228
      clear hy228
      have H' := Aside0.mk H
      clear H
      go_enter Tryd.func24, Tryd.ntmps24
      go_wp2_with (first | ((with_reducible refine gate_dst (N := 7) rfl ?_); refine Kd.R_make (Kd.slice 52 k52) _ 48 rfl (N := 7) rfl 28 _ _ rfl (l0.length : Int) rfl rfl Tryd.underlying28 (.slice none 0 0) 24 info48 rfl (by decide) (by omega) [] (ok := fun _ => True) (okp := fun _ => True) ⟨_, rfl, Kd.R_nil _ _ _ _ _⟩ (fun _ hk => hk) trivial (of_decide_eq_true (by first | (with_reducible assumption) | assumption)) (Nat.le_trans (Nat.mul_le_mul_right _ (of_decide_eq_true (by first | (with_reducible assumption) | assumption) : (l0.length : Int).toNat ≤ 11728124029610)) (by omega)) (Below.refl _ _) (Nat.le_refl _) ?_; intro v229 w4 ho5 hb hg_ hnew_; clear hg_ hnew_; (first | rw [← Ny228.out] at ho5 | (simp only [Int.reduceToNat] at ho5; rw [← Ny228.out] at ho5)); have n0_ := Aside0.mk (Kd.R_lower ho5 (below_size (by repeat (first | (with_reducible first | exact HB.out | apply below_alloc | apply pw_below_drewN | apply below_drew1) | exact HB.out)))); have n1_ := Aside0.mk (below_step (by repeat (first | (with_reducible first | exact HB.out | apply below_alloc | apply pw_below_drewN | apply below_drew1) | exact HB.out)) hb); clear HB; have HO230 := n0_; have HB := n1_; clear n0_ n1_; clear hb ho5))
      go_loopg [4] k (fun kq v4 w' => ∃ (x3_1 : List (List (S52))) (x4_1 : Int), v4 = .int .i64 x4_1 ∧ Aside0 (laws_toActSS.l0 kq l0 x3_1 x4_1 = some r) ∧ Aside0 (kq ≤ k) ∧ Aside0 (Kd.R (Kd.slice 52 k52) 48 w' w.heap.size (fun _ => True) v229 x3_1) ∧ Aside0 (Below w.heap.size w w'))
      case atStart => exact ⟨(y228), (0), (by first | rfl | (simp; done) | (simp [*]; done)), H', ⟨Nat.le_refl _⟩, ⟨by (with_reducible repeat (first | apply Kd.R_alloc | apply Kd.R_drewN | apply Kd.R_drew)); exact HO230.out⟩, ⟨by repeat (first | (with_reducible first | exact HB.out | apply below_alloc | apply pw_below_drewN | apply below_drew1) | exact HB.out)⟩⟩
      case round =>
        clear H'
        try clear c2
        try clear c2b0
        try clear c2b1
        try clear p2
        try clear c3
        try clear c3b0
        try clear c3b1
        obtain ⟨x3_1, x4_1, rfl, HA, HK1, HO_3, HB⟩ := hrel
        cases gk with
        | zero => exact absurd HA.out (by simp [laws_toActSS.l0])
        | succ k1 =>
          have H := HA.out
          clear HA
          simp only [laws_toActSS.l0] at H
          by_cases c6 : x4_1 < (l0.length : Int)
          · rw [if_pos c6] at H
            have c6b0 : decide (x4_1 < (l0.length : Int)) = true := decide_eq_true c6
            clear c6
            by_cases c7 : 0 ≤ x4_1
            · rw [if_pos c7] at H
              have c7b0 : decide (0 ≤ x4_1) = true := decide_eq_true c7
              clear c7
              replace H := Option.bind_eq_some_iff.mp H
              obtain ⟨t232, A80, H⟩ := H
              replace H : (if x4_1 < (x3_1.length : Int) then (laws_toActSS.l0 k1 l0 (x3_1.set (x4_1 : Int).toNat t232) (wrap64 (x4_1 + 1))) else (none)) = some r := H
              have A8 := Aside0.mk A80
              clear A80
              by_cases c9 : x4_1 < (x3_1.length : Int)
              · rw [if_pos c9] at H
                have c9b0 : decide (x4_1 < (x3_1.length : Int)) = true := decide_eq_true c9
                clear c9
                obtain ⟨y235, hy235⟩ : ∃ y_ : List (List (S52)), y_ = (x3_1.set (x4_1 : Int).toNat t232) := ⟨_, rfl⟩
                replace H : (laws_toActSS.l0 k1 l0 y235 (wrap64 (x4_1 + 1))) = some r := by first | (rw [hy235]; with_reducible exact H) | (have H2_ := (Option.bind_some _ _).symm.trans H; rw [hy235]; with_reducible exact H2_) | (have H2_ := (Option.bind_some _ _).symm.trans H; with_reducible exact H2_) | with_reducible exact H | (rw [hy235]; exact H) | exact H
                have Ny235 := Aside0.mk hy235
                clear hy235
                have H' := Aside0.mk H
                clear H
                have p231 : 0 ≤ (x4_1 : Int) := of_decide_eq_true (by first | (with_reducible assumption) | assumption)
                have q231 : x4_1 < (l0.length : Int) := of_decide_eq_true (by first | (with_reducible assumption) | assumption)
                obtain ⟨ad231, A231_0, c231_0, e231, hx231_0, hl231_0, hi231_0⟩ := at_L5 HR0.out x4_1 p231 q231
                cases e231
                replace hx231_0 := (HB.out.cell (World.block_lt_of_cell? w _ hx231_0)).trans hx231_0
                have HR231_0 := Aside0.mk hi231_0
                have HC231_0 := Aside0.mk hl231_0
                clear hi231_0 hl231_0
                replace p231 := eq_true p231
                replace q231 := eq_true q231
                go_wp2_with (first | ((with_reducible refine gate_callee (f := 45) rfl ?_); refine goesL_ (some 20) rfl rfl Tryd.func45 (by kernel_rfl) rfl #[.slice A231_0 (rd_L5 l0 x4_1).length c231_0] rfl (by (try simp only [List.map_toArray, List.map_cons, List.map_nil]); first | done | rfl | (simp only [List.length_drop, List.length_take]; rfl)) ?_; (with_reducible refine (laws_toActS.calls k1 _ _ (rd_L5 l0 x4_1) t232 _ ?side1 ?side2 A8.out).mono ?_); (case side1 => repeat (first | exact (Kd.C_below HR231_0.out HB.out) | (with_reducible refine Kd.C_alloc ?_ _) | (with_reducible refine Kd.C_drewN ?_ _) | (with_reducible refine Kd.C_drew ?_))); (case side2 => exact HC231_0.out); rintro e w11 ⟨v233, rfl, ho0, hb⟩; have st_v233 : ∀ (a_ : Addr) (m_ : Mode) (W_ : World), (store a_ v233 m_).run Tryd.prog W_ = stored Tryd.prog W_ a_ v233 m_ := (fun a_ m_ W_ => run_store _ W_ a_ _ m_ (by first | exact (Kd.R_val ho0).2 | exact (Kd.R_val (Kd.S_R ho0)).2 | exact (Kd.N_val ho0).2)); (try have sl_v233 := Aside0.mk (by first | exact Kd.R_slice ho0 | exact Kd.R_slice (Kd.S_R ho0))); refine ⟨_, rfl, ?_⟩; have n0_ := Aside0.mk (Kd.R_elder' (by (with_reducible repeat (first | apply Kd.R_alloc | apply Kd.R_drewN | apply Kd.R_drew)); exact HO_3.out) (Kd.S_base ho0) hb); have n1_ := Aside0.mk (Kd.S_lower ho0 (below_size (by repeat (first | (with_reducible first | exact HB.out | apply below_alloc | apply pw_below_drewN | apply below_drew1) | exact HB.out)))); have n2_ := Aside0.mk (below_step (by repeat (first | (with_reducible first | exact HB.out | apply below_alloc | apply pw_below_drewN | apply below_drew1) | exact HB.out)) hb); clear HO_3; clear HB; have HO_3 := n0_; have HO234 := n1_; have HB := n2_; clear n0_ n1_ n2_; (try clear hb); (try clear hb2); (try clear hk); (try clear hi); (try clear ho0); have p10 : 0 ≤ (x4_1 : Int) := of_decide_eq_true (by first | (with_reducible assumption) | assumption); have q10 : (x4_1 : Int) < ((x3_1.length : Int) : Int) := of_decide_eq_true (by first | (with_reducible assumption) | assumption); obtain ⟨go10, co10, eo10, gb10, gl10, cl10, HG10⟩ := Kd.R_form HO_3.out (by omega); (first | cases eo10 | (injection eo10 with ea_ en_ ec_; (first | subst ea_ | (injection ea_ with ea_; subst ea_)); subst ec_; clear en_)); have GB10 := Aside0.mk gb10; have GG10 := Aside0.mk HG10; clear gb10 gl10 HG10; obtain ⟨ce10, hcl10, hM10, hcc10, hfr10⟩ := Kd.R_elem HO_3.out [] (x4_1 : Int) p10 q10; obtain ⟨ve10_0, rfl, ge10_0⟩ := hM10; have hx10_0 := hcc10 0 _ rfl; have hf10_0 := hfr10 0; (try simp only [show ((Kd.slice 52 k52)).sz = 1 from rfl, Nat.mul_one, Nat.add_zero] at hx10_0); (try simp only [show ((Kd.slice 52 k52)).sz = 1 from rfl, Nat.mul_one, Nat.add_zero] at hf10_0); clear hcl10 hcc10 hfr10; (try clear hM10); replace p10 := eq_true p10; replace q10 := eq_true q10; have n_ := Aside0.mk (Kd.R_mono (ok' := (fun k_ => some k_ ≠ (v233 : Value).ownBlock)) HO_3.out (fun k_ hk => hk.2)); clear HO_3; have HO_3 := n_; clear n_; have HX12 := Aside0.mk (show Kd.R (Kd.slice 52 k52) 48 w11 w.heap.size (fun _ => True) (.slice (some ⟨go10, 0, none⟩) x3_1.length co10) x3_1 from (by (with_reducible repeat (first | apply Kd.R_alloc | apply Kd.R_drewN | apply Kd.R_drew)); exact Kd.R_mono HO_3.out (fun _ hk => trivial))); obtain ⟨ce12, hcl12, hM12, hcc12, hfr12⟩ := Kd.R_elem HX12.out [] (x4_1 : Int) (of_decide_eq_true (by first | (with_reducible assumption) | assumption)) (by have h_ : (x4_1 : Int) < ((x3_1.length : Int) : Int) := of_decide_eq_true (by first | (with_reducible assumption) | assumption); first | exact h_ | (have e_ := (Kd.R_reads' HO_3.out).1; omega) | simpa using h_); obtain ⟨ve12_0, rfl, ge12_0⟩ := hM12; have HP12 := Kd.R_seg HX12.out (x4_1 : Int) (of_decide_eq_true (by first | (with_reducible assumption) | assumption)) (by have h_ : (x4_1 : Int) < ((x3_1.length : Int) : Int) := of_decide_eq_true (by first | (with_reducible assumption) | assumption); first | exact h_ | (have e_ := (Kd.R_reads' HO_3.out).1; omega) | simpa using h_) (seg := [v233]) (j := 0) hcl12 hcc12 (show 1 ≤ 1 from by decide) (x' := t232) (Kd.M_row (Kd.R_mono (Kd.R_apart' ((Kd.S_R HO234.out)) (Kd.R_typed HO_3.out) (by decide)) (fun k_ hk => ⟨trivial, fun e_ => (hk.2) (by rw [e_]; rfl)⟩))) (fun _ hk => hk); have hx12_0 := hcc12 0 _ rfl; (try simp only [show ((Kd.slice 52 k52)).sz = 1 from rfl, Nat.mul_one, Nat.add_zero] at hx12_0); have hf12_0 := hfr12 0; (try simp only [show ((Kd.slice 52 k52)).sz = 1 from rfl, Nat.mul_one, Nat.add_zero] at hf12_0); clear hcl12 hcc12 hfr12; (try clear hM12); (try simp only [show ((Kd.slice 52 k52)).sz = 1 from rfl, Nat.mul_one, Nat.add_zero] at HP12)) | ((with_reducible refine gate_store (t := 48) (p := 21) rfl ?_); refine store_event (t := 48) (p := 21) (v := ?vo_w13) (w1 := (w11.setCell ⟨go10, (x4_1 : Int).toNat, none⟩ (v233))) ?hg ?ho ?hn ?hr ?_; (case ho => rfl); (case hg => rfl); (case hn => rfl); (case hr => first | (go_simp; done) | (go_simp; rfl) | (obtain ⟨A_, c_, e_⟩ := sl_v233.out; subst e_; first | (go_simp; done) | (go_simp; rfl))); intro w13 hw; have hg : w11.grownBy w13 (some go10) := (by rw [hw]; exact HP12.2); have hp_ : Kd.R (Kd.slice 52 k52) 48 w13 w.heap.size (fun _ => True) (.slice (some ⟨go10, 0, none⟩) x3_1.length co10) y235 := (by rw [hw, Ny235.out]; exact HP12.1); clear HP12; have n0_ := Aside0.mk (hp_); have n1_ := Aside0.mk ((by rw [hw]; exact below_set (HB.out) GB10.out : Below w.heap.size w w13)); clear HO_3; clear HB; clear HO234; have HO_3 := n0_; have HB := n1_; clear n0_ n1_; clear hg hw hp_))
                go_roundg k1
                case measure => have := HK1.out; omega
                case rel => exact ⟨(y235), (wrap64 (x4_1 + 1)), (by first | rfl | (simp; done) | (simp [*]; done)), H', ⟨by have := HK1.out; omega⟩, ⟨by (with_reducible repeat (first | apply Kd.R_alloc | apply Kd.R_drewN | apply Kd.R_drew)); exact HO_3.out⟩, ⟨by repeat (first | (with_reducible first | exact HB.out | apply below_alloc | apply pw_below_drewN | apply below_drew1) | exact HB.out)⟩⟩
              · rw [if_neg c9] at H
                exact absurd H (by simp)
            · rw [if_neg c7] at H
              exact absurd H (by simp)
          · rw [if_neg c6] at H
            have c6b0 : decide (x4_1 < (l0.length : Int)) = false := decide_eq_false c6
            clear c6
            obtain rfl := Option.some.inj H
            go_wp2
            go_ret
            exact ⟨_, by first | rfl | (simp [errW_none, errW_some] <;> rfl) | (simp [*, errW_none, errW_some] <;> rfl), by (with_reducible repeat (first | apply Kd.R_alloc | apply Kd.R_drewN | apply Kd.R_drew)); exact HO_3.out, by repeat (first | (with_reducible first | exact HB.out | apply below_alloc | apply pw_below_drewN | apply below_drew1) | exact HB.out)⟩
    · rw [if_neg c3] at H
      exact absurd H (by simp)
  · rw [if_neg c2] at H
    exact absurd H (by simp)
def laws_toProg.f (k : Nat) (l0_0 : List Int) (l0_1 : List (List (S111))) : Option (List Int × (List (List (S52)))) := (laws_toIntS.f k l0_0).bind fun t239 => ((laws_toActSS.f k l0_1).bind fun t242 => (some (t239, t242)))
set_option maxHeartbeats 8000000 in
set_option maxRecDepth 100000 in
theorem laws_toProg.calls (k : Nat) (A0_0 : Option Addr) (c0_0 : Nat) (l0_0 : List Int) (A0_1 : Option Addr) (c0_1 : Nat) (l0_1 : List (List (S111))) (r1 : List Int) (r2 : List (List (S52))) (w : World) (hr0_0 : Kd.C (Kd.int .i64) w A0_0 l0_0.length l0_0) (hc0_0 : l0_0.length ≤ c0_0) (hr0_1 : Kd.C (Kd.slice 111 k111) w A0_1 l0_1.length l0_1) (hc0_1 : l0_1.length ≤ c0_1) (h : laws_toProg.f k l0_0 l0_1 = some (r1, r2)) :
    Calls Tryd.prog 8 #[.agg #[.slice A0_0 l0_0.length c0_0, .slice A0_1 l0_1.length c0_1]] w fun e w' => ∃ v0_ v1_ : Value, e = .returned (.agg #[v0_, v1_]) ∧ Kd.R (Kd.int .i64) 3 w' w.heap.size (fun _ => True) v0_ r1 ∧ Kd.R (Kd.slice 52 k52) 48 w' w.heap.size (fun k_ => some k_ ≠ (v0_ : Value).ownBlock) v1_ r2 ∧ Below w.heap.size w w' := by
  have hu25 := Tryd.underlying25
  have hu30 := Tryd.underlying30
  have HR0_0 := Aside0.mk hr0_0
  have HC0_0 := Aside0.mk hc0_0
  clear hr0_0 hc0_0
  have HR0_1 := Aside0.mk hr0_1
  have HC0_1 := Aside0.mk hc0_1
  clear hr0_1 hc0_1
  have HB := Aside0.mk (Below.refl w.heap.size w)
  have H : ((laws_toIntS.f k l0_0).bind fun t239 => ((laws_toActSS.f k l0_1).bind fun t242 => (some (t239, t242)))) = some (r1, r2) := h
  clear h
  replace H := Option.bind_eq_some_iff.mp H
  obtain ⟨t239, A20, H⟩ := H
  replace H : ((laws_toActSS.f k l0_1).bind fun t242 => (some (t239, t242))) = some (r1, r2) := H
  have A2 := Aside0.mk A20
  clear A20
  replace H := Option.bind_eq_some_iff.mp H
  obtain ⟨t242, A30, H⟩ := H
  replace H : (some (t239, t242)) = some (r1, r2) := H
  have A3 := Aside0.mk A30
  clear A30
  simp only [Option.some.injEq, Prod.mk.injEq] at H
  obtain ⟨rfl, rfl⟩ := H
  go_enter Tryd.func8, Tryd.ntmps8
  go_wp2_with (first | ((with_reducible refine gate_dst (N := 1) rfl ?_); refine box_event ?hg (N := 1) ?hd (cs := #[.slice A0_0 l0_0.length c0_0, .slice A0_1 l0_1.length c0_1]) (t := 25) ?hr ?_; (case hd => rfl); (case hg => rfl); (case hr => first | (go_simp; done) | (go_simp; rfl)); intro gb236 hg w4 hbox hb; have n0_ := Aside0.mk (below_step (by repeat (first | (with_reducible first | exact HB.out | apply below_alloc | apply pw_below_drewN | apply below_drew1) | exact HB.out)) hb); have n1_ := Aside0.mk (hbox); have n2_ := Aside0.mk ((by rw [hg]; exact (below_size (by repeat (first | (with_reducible first | exact HB.out | apply below_alloc | apply pw_below_drewN | apply below_drew1) | exact HB.out))) : w.heap.size ≤ gb236)); have n3_ := Aside0.mk ((by rw [hg]; exact (below_size (by repeat (first | (with_reducible first | exact HB.out | apply below_alloc | apply pw_below_drewN | apply below_drew1) | exact HB.out))) : w.heap.size ≤ gb236)); clear HB; have HB := n0_; have BK236 := n1_; have GW236 := n2_; have GE236 := n3_; clear n0_ n1_ n2_ n3_; clear hb hbox hg) | ((with_reducible refine gate_dst (N := 2) rfl ?_); refine box_event ?hg (N := 2) ?hd (cs := #[.slice none 0 0, .slice none 0 0]) (t := 30) ?hr ?_; (case hd => rfl); (case hg => rfl); (case hr => first | (go_simp; done) | (go_simp; rfl)); intro gb237 hg w5 hbox hb; have n0_ := Aside0.mk (blk_below (g := gb236) (o := .cells #[.slice A0_0 l0_0.length c0_0, .slice A0_1 l0_1.length c0_1] 25 (0, 0)) (by (with_reducible repeat (first | refine blk_drewN ?_ _ | refine blk_drew ?_ | refine blk_alloc ?_ _)); exact BK236.out) hb); have n1_ := Aside0.mk (below_step (by repeat (first | (with_reducible first | exact HB.out | apply below_alloc | apply pw_below_drewN | apply below_drew1 | refine below_set ?_ GE236.out) | exact HB.out)) hb); have n2_ := Aside0.mk (hbox); have n3_ := Aside0.mk ((by rw [hg]; exact (below_size (by repeat (first | (with_reducible first | exact HB.out | apply below_alloc | apply pw_below_drewN | apply below_drew1 | refine below_set ?_ GE236.out) | exact HB.out))) : w.heap.size ≤ gb237)); have n4_ := Aside0.mk ((by rw [hg]; exact (below_size (by repeat (first | (with_reducible first | exact HB.out | apply below_alloc | apply pw_below_drewN | apply below_drew1 | refine below_set ?_ GE236.out) | exact HB.out))) : w.heap.size ≤ gb237)); have n5_ := Aside0.mk ((by rw [hg]; exact Nat.ne_of_lt (blk_lt (g := gb236) (o := .cells #[.slice A0_0 l0_0.length c0_0, .slice A0_1 l0_1.length c0_1] 25 (0, 0)) (by (with_reducible repeat (first | refine blk_drewN ?_ _ | refine blk_drew ?_ | refine blk_alloc ?_ _)); exact BK236.out)) : gb236 ≠ gb237)); have n6_ := Aside0.mk ((by rw [hg]; exact Nat.ne_of_gt (blk_lt (g := gb236) (o := .cells #[.slice A0_0 l0_0.length c0_0, .slice A0_1 l0_1.length c0_1] 25 (0, 0)) (by (with_reducible repeat (first | refine blk_drewN ?_ _ | refine blk_drew ?_ | refine blk_alloc ?_ _)); exact BK236.out)) : gb237 ≠ gb236)); clear BK236; clear HB; have BK236 := n0_; have HB := n1_; have BK237 := n2_; have GW237 := n3_; have GE237 := n4_; have NB236_237 := n5_; have NB237_236 := n6_; clear n0_ n1_ n2_ n3_ n4_ n5_ n6_; clear hb hbox hg) | ((with_reducible refine gate_dst (N := 3) rfl ?_); refine box_event ?hg (N := 3) ?hd (cs := #[.slice none 0 0, .slice none 0 0]) (t := 30) ?hr ?_; (case hd => rfl); (case hg => rfl); (case hr => first | (go_simp; done) | (go_simp; rfl)); intro gb238 hg w6 hbox hb; have n0_ := Aside0.mk (blk_below (g := gb236) (o := .cells #[.slice A0_0 l0_0.length c0_0, .slice A0_1 l0_1.length c0_1] 25 (0, 0)) (by (with_reducible repeat (first | refine blk_drewN ?_ _ | refine blk_drew ?_ | refine blk_alloc ?_ _)); exact BK236.out) hb); have n1_ := Aside0.mk (blk_below (g := gb237) (o := .cells #[.slice none 0 0, .slice none 0 0] 30 (0, 0)) (by (with_reducible repeat (first | refine blk_drewN ?_ _ | refine blk_drew ?_ | refine blk_alloc ?_ _)); exact BK237.out) hb); have n2_ := Aside0.mk (below_step (by repeat (first | (with_reducible first | exact HB.out | apply below_alloc | apply pw_below_drewN | apply below_drew1 | refine below_set ?_ GE236.out | refine below_set ?_ GE237.out) | exact HB.out)) hb); have n3_ := Aside0.mk (hbox); have n4_ := Aside0.mk ((by rw [hg]; exact (below_size (by repeat (first | (with_reducible first | exact HB.out | apply below_alloc | apply pw_below_drewN | apply below_drew1 | refine below_set ?_ GE236.out | refine below_set ?_ GE237.out) | exact HB.out))) : w.heap.size ≤ gb238)); have n5_ := Aside0.mk ((by rw [hg]; exact (below_size (by repeat (first | (with_reducible first | exact HB.out | apply below_alloc | apply pw_below_drewN | apply below_drew1 | refine below_set ?_ GE236.out | refine below_set ?_ GE237.out) | exact HB.out))) : w.heap.size ≤ gb238)); have n6_ := Aside0.mk ((by rw [hg]; exact Nat.ne_of_lt (blk_lt (g := gb236) (o := .cells #[.slice A0_0 l0_0.length c0_0, .slice A0_1 l0_1.length c0_1] 25 (0, 0)) (by (with_reducible repeat (first | refine blk_drewN ?_ _ | refine blk_drew ?_ | refine blk_alloc ?_ _)); exact BK236.out)) : gb236 ≠ gb238)); have n7_ := Aside0.mk ((by rw [hg]; exact Nat.ne_of_gt (blk_lt (g := gb236) (o := .cells #[.slice A0_0 l0_0.length c0_0, .slice A0_1 l0_1.length c0_1] 25 (0, 0)) (by (with_reducible repeat (first | refine blk_drewN ?_ _ | refine blk_drew ?_ | refine blk_alloc ?_ _)); exact BK236.out)) : gb238 ≠ gb236)); have n8_ := Aside0.mk ((by rw [hg]; exact Nat.ne_of_lt (blk_lt (g := gb237) (o := .cells #[.slice none 0 0, .slice none 0 0] 30 (0, 0)) (by (with_reducible repeat (first | refine blk_drewN ?_ _ | refine blk_drew ?_ | refine blk_alloc ?_ _)); exact BK237.out)) : gb237 ≠ gb238)); have n9_ := Aside0.mk ((by rw [hg]; exact Nat.ne_of_gt (blk_lt (g := gb237) (o := .cells #[.slice none 0 0, .slice none 0 0] 30 (0, 0)) (by (with_reducible repeat (first | refine blk_drewN ?_ _ | refine blk_drew ?_ | refine blk_alloc ?_ _)); exact BK237.out)) : gb238 ≠ gb237)); clear BK236; clear BK237; clear HB; have BK236 := n0_; have BK237 := n1_; have HB := n2_; have BK238 := n3_; have GW238 := n4_; have GE238 := n5_; have NB236_238 := n6_; have NB238_236 := n7_; have NB237_238 := n8_; have NB238_237 := n9_; clear n0_ n1_ n2_ n3_ n4_ n5_ n6_ n7_ n8_ n9_; clear hb hbox hg; have hnb7 := NB236_237.out; have hnc7 := NB237_236.out; have hnb8 := NB236_238.out; have hnc8 := NB238_236.out; have hcz9_0 : w6.cell? ⟨gb236, 0, none⟩ = some (.slice A0_0 l0_0.length c0_0) := (blk_cell BK236.out 0).trans rfl; have hcz9_1 : w6.cell? ⟨gb236, 1, none⟩ = some (.slice A0_1 l0_1.length c0_1) := (blk_cell BK236.out 1).trans rfl; have hfz9_0 := blk_frozen BK236.out 0; have hfz9_1 := blk_frozen BK236.out 1) | ((with_reducible refine gate_callee (f := 23) rfl ?_); refine goesL_ (some 6) rfl rfl Tryd.func23 (by kernel_rfl) rfl #[.slice A0_0 l0_0.length c0_0] rfl (by (try simp only [List.map_toArray, List.map_cons, List.map_nil]); first | done | rfl | (simp only [List.length_drop, List.length_take]; rfl)) ?_; (with_reducible refine (laws_toIntS.calls k _ _ l0_0 t239 _ ?side1 ?side2 A2.out).mono ?_); (case side1 => repeat (first | exact (Kd.C_below HR0_0.out HB.out) | (with_reducible refine Kd.C_alloc ?_ _) | (with_reducible refine Kd.C_drewN ?_ _) | (with_reducible refine Kd.C_drew ?_))); (case side2 => exact HC0_0.out); rintro e w10 ⟨v240, rfl, ho0, hb⟩; refine ⟨_, rfl, ?_⟩; have n0_ := Aside0.mk (Kd.R_lower ho0 (below_size (by repeat (first | (with_reducible first | exact HB.out | apply below_alloc | apply pw_below_drewN | apply below_drew1 | refine below_set ?_ GE236.out | refine below_set ?_ GE237.out | refine below_set ?_ GE238.out) | exact HB.out)))); have n1_ := Aside0.mk (blk_below (g := gb236) (o := .cells #[.slice A0_0 l0_0.length c0_0, .slice A0_1 l0_1.length c0_1] 25 (0, 0)) (by (with_reducible repeat (first | refine blk_drewN ?_ _ | refine blk_drew ?_ | refine blk_alloc ?_ _)); exact BK236.out) hb); have n2_ := Aside0.mk (blk_below (g := gb237) (o := .cells #[.slice none 0 0, .slice none 0 0] 30 (0, 0)) (by (with_reducible repeat (first | refine blk_drewN ?_ _ | refine blk_drew ?_ | refine blk_alloc ?_ _)); exact BK237.out) hb); have n3_ := Aside0.mk (blk_below (g := gb238) (o := .cells #[.slice none 0 0, .slice none 0 0] 30 (0, 0)) (by (with_reducible repeat (first | refine blk_drewN ?_ _ | refine blk_drew ?_ | refine blk_alloc ?_ _)); exact BK238.out) hb); have n4_ := Aside0.mk (below_step (by repeat (first | (with_reducible first | exact HB.out | apply below_alloc | apply pw_below_drewN | apply below_drew1 | refine below_set ?_ GE236.out | refine below_set ?_ GE237.out | refine below_set ?_ GE238.out) | exact HB.out)) hb); clear BK236; clear BK237; clear BK238; clear HB; have HO241 := n0_; have BK236 := n1_; have BK237 := n2_; have BK238 := n3_; have HB := n4_; clear n0_ n1_ n2_ n3_ n4_; (try clear hb); (try clear hb2); (try clear hk); (try clear hi); (try clear ho0); obtain ⟨Ao11, co11, eo11⟩ := Kd.R_slice HO241.out; subst eo11; have hnb12 := NB238_237.out; have hnc12 := NB237_238.out; have hcz13_0 : w10.cell? ⟨gb238, 0, none⟩ = some (.slice none 0 0) := (blk_cell BK238.out 0).trans rfl; have hcz13_1 : w10.cell? ⟨gb238, 1, none⟩ = some (.slice none 0 0) := (blk_cell BK238.out 1).trans rfl; have hfz13_0 := blk_frozen BK238.out 0; have hfz13_1 := blk_frozen BK238.out 1; have hcz14_0 : w10.cell? ⟨gb236, 0, none⟩ = some (.slice A0_0 l0_0.length c0_0) := (blk_cell BK236.out 0).trans rfl; have hcz14_1 : w10.cell? ⟨gb236, 1, none⟩ = some (.slice A0_1 l0_1.length c0_1) := (blk_cell BK236.out 1).trans rfl; have hfz14_0 := blk_frozen BK236.out 0; have hfz14_1 := blk_frozen BK236.out 1) | ((with_reducible refine gate_callee (f := 24) rfl ?_); refine goesL_ (some 10) rfl rfl Tryd.func24 (by kernel_rfl) rfl #[.slice A0_1 l0_1.length c0_1] rfl (by (try simp only [List.map_toArray, List.map_cons, List.map_nil]); first | done | rfl | (simp only [List.length_drop, List.length_take]; rfl)) ?_; (with_reducible refine (laws_toActSS.calls k _ _ l0_1 t242 _ ?side1 ?side2 A3.out).mono ?_); (case side1 => exact Kd.C_below HR0_1.out (by repeat (first | (with_reducible first | exact HB.out | apply below_alloc | apply pw_below_drewN | apply below_drew1 | refine below_set ?_ GE236.out | refine below_set ?_ GE237.out | refine below_set ?_ GE238.out) | exact HB.out))); (case side2 => exact HC0_1.out); rintro e w15 ⟨v243, rfl, ho0, hb⟩; refine ⟨_, rfl, ?_⟩; have n0_ := Aside0.mk (Kd.R_below (by (with_reducible repeat (first | apply Kd.R_alloc | apply Kd.R_drewN | apply Kd.R_drew)); exact (Kd.R_mono (Kd.R_far (p := ⟨gb238, 0, none⟩) (Kd.R_types HO241.out BK238.out (by decide)) (fun _ hk => hk.2) (.slice Ao11 t239.length co11)) (fun _ h_ => h_.1))) hb); have n1_ := Aside0.mk (Kd.R_lower (Kd.R_new' ho0 (Kd.R_lt (by (with_reducible repeat (first | apply Kd.R_alloc | apply Kd.R_drewN | apply Kd.R_drew)); exact (Kd.R_mono (Kd.R_far (p := ⟨gb238, 0, none⟩) (Kd.R_types HO241.out BK238.out (by decide)) (fun _ hk => hk.2) (.slice Ao11 t239.length co11)) (fun _ h_ => h_.1))))) (below_size (by repeat (first | (with_reducible first | exact HB.out | apply below_alloc | apply pw_below_drewN | apply below_drew1 | refine below_set ?_ GE236.out | refine below_set ?_ GE237.out | refine below_set ?_ GE238.out) | exact HB.out)))); have n2_ := Aside0.mk (blk_below (g := gb236) (o := .cells #[.slice A0_0 l0_0.length c0_0, .slice A0_1 l0_1.length c0_1] 25 (0, 0)) (by (with_reducible repeat (first | refine blk_drewN ?_ _ | refine blk_drew ?_ | refine blk_alloc ?_ _)); refine blk_far ?_ NB236_238.out _; (with_reducible repeat (first | refine blk_drewN ?_ _ | refine blk_drew ?_ | refine blk_alloc ?_ _)); exact BK236.out) hb); have n3_ := Aside0.mk (blk_below (g := gb237) (o := .cells #[.slice none 0 0, .slice none 0 0] 30 (0, 0)) (by (with_reducible repeat (first | refine blk_drewN ?_ _ | refine blk_drew ?_ | refine blk_alloc ?_ _)); refine blk_far ?_ NB237_238.out _; (with_reducible repeat (first | refine blk_drewN ?_ _ | refine blk_drew ?_ | refine blk_alloc ?_ _)); exact BK237.out) hb); have n4_ := Aside0.mk (blk_below (g := gb238) (o := .cells #[.slice Ao11 t239.length co11, .slice none 0 0] 30 (0, 0)) (by (with_reducible repeat (first | refine blk_drewN ?_ _ | refine blk_drew ?_ | refine blk_alloc ?_ _)); refine blk_put (cs := #[.slice none 0 0, .slice none 0 0]) ?_ 0 _ rfl; (with_reducible repeat (first | refine blk_drewN ?_ _ | refine blk_drew ?_ | refine blk_alloc ?_ _)); exact BK238.out) hb); have n5_ := Aside0.mk (below_step (by repeat (first | (with_reducible first | exact HB.out | apply below_alloc | apply pw_below_drewN | apply below_drew1 | refine below_set ?_ GE236.out | refine below_set ?_ GE237.out | refine below_set ?_ GE238.out) | exact HB.out)) hb); clear HO241; clear BK236; clear BK237; clear BK238; clear HB; have HO241 := n0_; have HO244 := n1_; have BK236 := n2_; have BK237 := n3_; have BK238 := n4_; have HB := n5_; clear n0_ n1_ n2_ n3_ n4_ n5_; (try clear hb); (try clear hb2); (try clear hk); (try clear hi); (try clear ho0); obtain ⟨Ao16, co16, eo16⟩ := Kd.R_slice HO244.out; subst eo16; have hcz17_0 : w15.cell? ⟨gb238, 0, none⟩ = some (.slice Ao11 t239.length co11) := (blk_cell BK238.out 0).trans rfl; have hcz17_1 : w15.cell? ⟨gb238, 1, none⟩ = some (.slice none 0 0) := (blk_cell BK238.out 1).trans rfl; have hfz17_0 := blk_frozen BK238.out 0; have hfz17_1 := blk_frozen BK238.out 1; have hcz18_0 : w15.cell? ⟨gb237, 0, none⟩ = some (.slice none 0 0) := (blk_cell BK237.out 0).trans rfl; have hcz18_1 : w15.cell? ⟨gb237, 1, none⟩ = some (.slice none 0 0) := (blk_cell BK237.out 1).trans rfl; have hfz18_0 := blk_frozen BK237.out 0; have hfz18_1 := blk_frozen BK237.out 1))
  refine bodyPost_ret (results_cell_row rfl _ _ gb237 30 #[.slice Ao11 t239.length co11, .slice Ao16 t242.length co16] (0, 0) _ rfl (by (with_reducible repeat (first | refine blk_drewN ?_ _ | refine blk_drew ?_ | refine blk_alloc ?_ _)); refine blk_put (cs := #[.slice Ao11 t239.length co11, .slice none 0 0]) ?_ 1 _ rfl; (with_reducible repeat (first | refine blk_drewN ?_ _ | refine blk_drew ?_ | refine blk_alloc ?_ _)); refine blk_put (cs := #[.slice none 0 0, .slice none 0 0]) ?_ 0 _ rfl; (with_reducible repeat (first | refine blk_drewN ?_ _ | refine blk_drew ?_ | refine blk_alloc ?_ _)); refine blk_far ?_ NB237_238.out _; (with_reducible repeat (first | refine blk_drewN ?_ _ | refine blk_drew ?_ | refine blk_alloc ?_ _)); exact BK237.out) Tryd.underlying30 rfl (by kernel_rfl)) rfl ?_
  exact ⟨_, _, by first | rfl | (simp [errW_none, errW_some] <;> rfl) | (simp [*, errW_none, errW_some] <;> rfl), by (with_reducible repeat (first | apply Kd.R_alloc | apply Kd.R_drewN | apply Kd.R_drew)); exact Kd.R_mono (Kd.R_far (p := ⟨gb237, 1, none⟩) (Kd.R_far (p := ⟨gb237, 0, none⟩) (Kd.R_far (p := ⟨gb238, 1, none⟩) (Kd.R_types (Kd.R_types HO241.out BK238.out (by decide)) BK237.out (by decide)) (fun _ hk => hk.1.2) (.slice Ao16 t242.length co16)) (fun _ hk => hk.2) (.slice Ao11 t239.length co11)) (fun _ hk => hk.2) (.slice Ao16 t242.length co16)) (fun _ hk => trivial), by (with_reducible repeat (first | apply Kd.R_alloc | apply Kd.R_drewN | apply Kd.R_drew)); exact Kd.R_mono (Kd.R_far (p := ⟨gb237, 1, none⟩) (Kd.R_far (p := ⟨gb237, 0, none⟩) (Kd.R_far (p := ⟨gb238, 1, none⟩) (Kd.R_types (Kd.R_types HO244.out BK238.out (by decide)) BK237.out (by decide)) (fun _ hk => hk.1.2) (.slice Ao16 t242.length co16)) (fun _ hk => hk.2) (.slice Ao11 t239.length co11)) (fun _ hk => hk.2) (.slice Ao16 t242.length co16)) (fun _ hk => hk.1.1.2), by repeat (first | (with_reducible first | exact HB.out | apply below_alloc | apply pw_below_drewN | apply below_drew1 | refine below_set ?_ GE236.out | refine below_set ?_ GE237.out | refine below_set ?_ GE238.out) | exact HB.out)⟩
theorem int_eq_nat (n : Nat) : (((n : Int) == 0) : Bool) = (n == 0) := by
  rw [Bool.eq_iff_iff]; simp
set_option maxHeartbeats 4000000 in
set_option maxRecDepth 100000 in
theorem impl_partOfAct.calls (k : Int) (A1 : Option Addr) (n1 c1 : Nat) (A2 : Option Addr) (n2 c2 : Nat) (r : Int) (w : World) :
    Calls Tryd.prog 28 #[.agg #[.int .i64 k, .slice A1 n1 c1, .slice A2 n2 c2, .int .i64 r]] w fun e w' => e = .returned (actW k (.slice A1 n1 c1) n1 (.slice A2 n2 c2) n2 r) ∧ Below w.heap.size w w' := by
  have hu := Tryd.underlying52
  have hu1 := Tryd.underlying89
  have hu2 := Tryd.underlying93
  have hu3 := Tryd.underlying95
  have hu4 := Tryd.underlying97
  have e1 := int_eq_nat n1
  have e2 := int_eq_nat n2
  obtain ⟨b1, hb1⟩ : ∃ b, b = (n1 == 0) := ⟨_, rfl⟩
  obtain ⟨b2, hb2⟩ : ∃ b, b = (n2 == 0) := ⟨_, rfl⟩
  obtain ⟨b3, hb3⟩ : ∃ b, b = (r == 0) := ⟨_, rfl⟩
  rw [← hb1] at e1
  rw [← hb2] at e2
  have H1 := Aside0.mk hb1
  have H2 := Aside0.mk hb2
  have H3 := Aside0.mk hb3
  have e3 : (r == 0) = b3 := hb3.symm
  clear hb1 hb2 hb3
  obtain ⟨q1, hq1⟩ : ∃ b, b = (k == 1) := ⟨_, rfl⟩
  obtain ⟨q2, hq2⟩ : ∃ b, b = (k == 2) := ⟨_, rfl⟩
  obtain ⟨q3, hq3⟩ : ∃ b, b = (k == 3) := ⟨_, rfl⟩
  obtain ⟨q4, hq4⟩ : ∃ b, b = (k == 4) := ⟨_, rfl⟩
  have f1 := hq1.symm
  have f2 := hq2.symm
  have f3 := hq3.symm
  have f4 := hq4.symm
  have K1 := Aside0.mk hq1
  have K2 := Aside0.mk hq2
  have K3 := Aside0.mk hq3
  have K4 := Aside0.mk hq4
  clear hq1 hq2 hq3 hq4
  go_enter Tryd.func28, Tryd.ntmps28
  go_wp2
  go_quiet (fail)
  go_wp2
  all_goals
    go_ret
    refine ⟨?_, by repeat (first | exact Below.refl _ _ | apply pw_below_drewN | apply below_drew1 | apply below_alloc)⟩
    have h1 := K1.out
    have h2 := K2.out
    have h3 := K3.out
    have h4 := K4.out
    have g1 := H1.out
    have g2 := H2.out
    have g3 := H3.out
    clear K1 K2 K3 K4 H1 H2 H3
    clear hu hu1 hu2 hu3 hu4 e1 e2
    try clear e3
    simp_all [actW]
end Go.Proofs.YtoeepmcaabmjkaaDoor.QTX
namespace Go.Proofs.YtoeepmcaabmjkaaDoor.QTX
open Go.RowKit Go.Proofs.YtoeepmcaabmjkaaDoorW.PrintWords Go.Proofs.YtoeepmcaabmjkaaDoorW.PrintLast Go.Proofs.YtoeepmcaabmjkaaDoorW.PrintMore
attribute [local go_sem] max2_int min2_int max_two min_two max_three min_three max_four min_four   -- for this text's walks alone
set_option linter.unusedVariables false
set_option linter.unusedSimpArgs false
def impl_isPlace.f (a0 : Int) (a1 : Int) : Option (Bool) := if 0 ≤ a0 then (some (decide (a0 < a1))) else (some false)
set_option maxHeartbeats 8000000 in
set_option maxRecDepth 100000 in
theorem impl_isPlace.calls (a0 : Int) (a1 : Int) (r : Bool) (w : World) (h : impl_isPlace.f a0 a1 = some r) :
    Calls Tryd.prog 84 #[.int .i64 a0, .int .i64 a1] w fun e w' => e = .returned (.bool r) ∧ Drawn0 w w' := by
  have H : (if 0 ≤ a0 then (some (decide (a0 < a1))) else (some false)) = some r := h
  clear h
  by_cases c3 : 0 ≤ a0
  · rw [if_pos c3] at H
    have c3b0 : decide (0 ≤ a0) = true := decide_eq_true c3
    clear c3
    obtain rfl := Option.some.inj H
    go_enter Tryd.func84, Tryd.ntmps84
    go_wp2
    go_ret
    exact ⟨by first | rfl | (simp; done) | (simp [*]; done), by repeat (first | exact Drawn0.refl _ | apply Drawn0.step)⟩
  · rw [if_neg c3] at H
    have c3b0 : decide (0 ≤ a0) = false := decide_eq_false c3
    clear c3
    obtain rfl := Option.some.inj H
    go_enter Tryd.func84, Tryd.ntmps84
    go_wp2
    go_ret
    exact ⟨by first | rfl | (simp; done) | (simp [*]; done), by repeat (first | exact Drawn0.refl _ | apply Drawn0.step)⟩
def impl_isNum.f (a0 : Int) : Option (Bool) := (impl_isPlace.f a0 100).bind fun t245 => (some t245)
set_option maxHeartbeats 8000000 in
set_option maxRecDepth 100000 in
theorem impl_isNum.calls (a0 : Int) (r : Bool) (w : World) (h : impl_isNum.f a0 = some r) :
    Calls Tryd.prog 66 #[.int .i64 a0] w fun e w' => e = .returned (.bool r) ∧ Drawn0 w w' := by
  have H : ((impl_isPlace.f a0 100).bind fun t245 => (some t245)) = some r := h
  clear h
  replace H := Option.bind_eq_some_iff.mp H
  obtain ⟨t245, A20, H⟩ := H
  replace H : (some t245) = some r := H
  have A2 := Aside0.mk A20
  clear A20
  obtain rfl := Option.some.inj H
  go_enter Tryd.func66, Tryd.ntmps66
  go_wp2_with (first | ((with_reducible refine gate_callee (f := 84) rfl ?_); refine goesL_ (some 4) rfl rfl Tryd.func84 (by kernel_rfl) rfl #[.int .i64 a0, .int .i64 100] rfl (by (try simp only [List.map_toArray, List.map_cons, List.map_nil]); first | done | rfl | (simp only [List.length_drop, List.length_take]; rfl)) ?_; (with_reducible refine (impl_isPlace.calls a0 100 t245 _ A2.out).mono ?_); rintro e w' ⟨rfl, ⟨nd, rfl⟩⟩; refine ⟨_, rfl, ?_⟩))
  go_ret
  exact ⟨by first | rfl | (simp; done) | (simp [*]; done), by repeat (first | exact Drawn0.refl _ | apply Drawn0.step)⟩
def impl_allNums.l0 : Nat → List Int → Int → Int → Option (Bool)
  | 0, _, _, _ => none
  | k + 1, x5, x6, x7 => if x7 < x6 then (if 0 ≤ x7 then (if x7 < (x5.length : Int) then ((impl_isNum.f (rd x5 x7)).bind fun t247 => (if t247 = true then (impl_allNums.l0 k x5 x6 (wrap64 (x7 + 1))) else (some false))) else (none)) else (none)) else (some true)
def impl_allNums.f (k : Nat) (l0 : List Int) : Option (Bool) := impl_allNums.l0 k l0 (l0.length : Int) 0
set_option maxHeartbeats 8000000 in
set_option maxRecDepth 100000 in
theorem impl_allNums.calls (k : Nat) (A0 : Option Addr) (c0 : Nat) (l0 : List Int) (r : Bool) (w : World) (hr0 : Kd.C (Kd.int .i64) w A0 l0.length l0) (hc0 : l0.length ≤ c0) (h : impl_allNums.f k l0 = some r) :
    Calls Tryd.prog 46 #[.slice A0 l0.length c0] w fun e w' => e = .returned (.bool r) ∧ Drawn0 w w' := by
  have HR0 := Aside0.mk hr0
  have HC0 := Aside0.mk hc0
  clear hr0 hc0
  have H : (impl_allNums.l0 k l0 (l0.length : Int) 0) = some r := h
  clear h
  have H' := Aside0.mk H
  clear H
  go_enter Tryd.func46, Tryd.ntmps46
  go_wp2
  go_loopg [7] k (fun kq v7 w' => ∃ (x7_1 : Int), v7 = .int .i64 x7_1 ∧ Aside0 (impl_allNums.l0 kq l0 (l0.length : Int) x7_1 = some r) ∧ Aside0 (kq ≤ k) ∧ Drawn0 w w')
  case atStart => exact ⟨(0), (by first | rfl | (simp; done) | (simp [*]; done)), H', ⟨Nat.le_refl _⟩, by repeat (first | exact Drawn0.refl _ | apply Drawn0.step)⟩
  case round =>
    clear H'
    obtain ⟨x7_1, rfl, HA, HK1, ⟨m1, rfl⟩⟩ := hrel
    cases gk with
    | zero => exact absurd HA.out (by simp [impl_allNums.l0])
    | succ k1 =>
      have H := HA.out
      clear HA
      simp only [impl_allNums.l0] at H
      by_cases c2 : x7_1 < (l0.length : Int)
      · rw [if_pos c2] at H
        have c2b0 : decide (x7_1 < (l0.length : Int)) = true := decide_eq_true c2
        clear c2
        by_cases c3 : 0 ≤ x7_1
        · rw [if_pos c3] at H
          have c3b0 : decide (0 ≤ x7_1) = true := decide_eq_true c3
          clear c3
          by_cases c4 : x7_1 < (l0.length : Int)
          · rw [if_pos c4] at H
            have c4b0 : decide (x7_1 < (l0.length : Int)) = true := decide_eq_true c4
            clear c4
            replace H := Option.bind_eq_some_iff.mp H
            obtain ⟨t247, A50, H⟩ := H
            replace H : (if t247 = true then (impl_allNums.l0 k1 l0 (l0.length : Int) (wrap64 (x7_1 + 1))) else (some false)) = some r := H
            have A5 := Aside0.mk A50
            clear A50
            by_cases c6 : t247 = true
            · subst c6
              have H1 : (impl_allNums.l0 k1 l0 (l0.length : Int) (wrap64 (x7_1 + 1))) = some r := by rw [if_pos rfl] at H; exact H
              clear H
              have H := H1
              clear H1
              have H' := Aside0.mk H
              clear H
              have p246 : 0 ≤ (x7_1 : Int) := of_decide_eq_true (by first | (with_reducible assumption) | assumption)
              have q246 : x7_1 < (l0.length : Int) := of_decide_eq_true (by first | (with_reducible assumption) | assumption)
              obtain ⟨ad246, e246, hx246_0⟩ := Kd.at_int HR0.out x7_1 p246 q246
              cases e246
              replace p246 := eq_true p246
              replace q246 := eq_true q246
              go_wp2_with (first | ((with_reducible refine gate_callee (f := 66) rfl ?_); refine goesL_ (some 12) rfl rfl Tryd.func66 (by kernel_rfl) rfl #[.int .i64 (rd l0 x7_1)] rfl (by (try simp only [List.map_toArray, List.map_cons, List.map_nil]); first | done | rfl | (simp only [List.length_drop, List.length_take]; rfl)) ?_; (with_reducible refine (impl_isNum.calls (rd l0 x7_1) true _ A5.out).mono ?_); rintro e w' ⟨rfl, ⟨nd, rfl⟩⟩; refine ⟨_, rfl, ?_⟩))
              go_roundg k1
              case measure => have := HK1.out; omega
              case rel => exact ⟨(wrap64 (x7_1 + 1)), (by first | rfl | (simp; done) | (simp [*]; done)), H', ⟨by have := HK1.out; omega⟩, by repeat (first | exact Drawn0.refl _ | apply Drawn0.step)⟩
            · replace c6 := Bool.eq_false_iff.mpr c6
              subst c6
              have H1 : (some false) = some r := by rw [if_neg (show ¬ (false = true) by decide)] at H; exact H
              clear H
              have H := H1
              clear H1
              obtain rfl := Option.some.inj H
              have p246 : 0 ≤ (x7_1 : Int) := of_decide_eq_true (by first | (with_reducible assumption) | assumption)
              have q246 : x7_1 < (l0.length : Int) := of_decide_eq_true (by first | (with_reducible assumption) | assumption)
              obtain ⟨ad246, e246, hx246_0⟩ := Kd.at_int HR0.out x7_1 p246 q246
              cases e246
              replace p246 := eq_true p246
              replace q246 := eq_true q246
              go_wp2_with (first | ((with_reducible refine gate_callee (f := 66) rfl ?_); refine goesL_ (some 12) rfl rfl Tryd.func66 (by kernel_rfl) rfl #[.int .i64 (rd l0 x7_1)] rfl (by (try simp only [List.map_toArray, List.map_cons, List.map_nil]); first | done | rfl | (simp only [List.length_drop, List.length_take]; rfl)) ?_; (with_reducible refine (impl_isNum.calls (rd l0 x7_1) false _ A5.out).mono ?_); rintro e w' ⟨rfl, ⟨nd, rfl⟩⟩; refine ⟨_, rfl, ?_⟩))
              go_ret
              exact ⟨by first | rfl | (simp; done) | (simp [*]; done), by repeat (first | exact Drawn0.refl _ | apply Drawn0.step)⟩
          · rw [if_neg c4] at H
            exact absurd H (by simp)
        · rw [if_neg c3] at H
          exact absurd H (by simp)
      · rw [if_neg c2] at H
        have c2b0 : decide (x7_1 < (l0.length : Int)) = false := decide_eq_false c2
        clear c2
        obtain rfl := Option.some.inj H
        go_wp2
        go_ret
        exact ⟨by first | rfl | (simp; done) | (simp [*]; done), by repeat (first | exact Drawn0.refl _ | apply Drawn0.step)⟩
def impl_partOfDeed.f (a0_0 : Int) (a0_1 : Int) (a0_2 : Int) : Option Part :=
  some (if a0_0 = 1 ∨ a0_0 = 2 ∨ a0_0 = 3 ∨ a0_0 = 4 then ⟨a0_0, a0_1, a0_2⟩ else if a0_0 = 5 then (if a0_2 = 0 then ⟨5, a0_1, 0⟩ else ⟨0, 0, 0⟩) else ⟨0, 0, 0⟩)
set_option maxHeartbeats 4000000 in
set_option maxRecDepth 100000 in
theorem impl_partOfDeed.calls (a0_0 : Int) (a0_1 : Int) (a0_2 : Int) (r : Part) (w : World) (h : impl_partOfDeed.f a0_0 a0_1 a0_2 = some r) :
    Calls Tryd.prog 51 #[.agg #[.int .i64 a0_0, .int .i64 a0_1, .int .i64 a0_2]] w fun e w' => e = .returned (partW r) ∧ Below w.heap.size w w' := by
  obtain rfl := Option.some.inj h
  clear h
  have hu := Tryd.underlying82
  have hu1 := Tryd.underlying119
  have hu2 := Tryd.underlying121
  have hu3 := Tryd.underlying123
  have hu4 := Tryd.underlying125
  have hu5 := Tryd.underlying126
  by_cases c1 : a0_0 = 1
  · subst c1
    go_enter Tryd.func51, Tryd.ntmps51
    go_wp2
    go_ret
    exact ⟨by simp [partW], below_alloc (Below.refl _ _) _⟩
  have c1b : (a0_0 == 1) = false := beq_eq_false_iff_ne.mpr c1
  by_cases c2 : a0_0 = 2
  · subst c2
    go_enter Tryd.func51, Tryd.ntmps51
    go_wp2
    go_ret
    exact ⟨by simp [partW], below_alloc (Below.refl _ _) _⟩
  have c2b : (a0_0 == 2) = false := beq_eq_false_iff_ne.mpr c2
  by_cases c3 : a0_0 = 3
  · subst c3
    go_enter Tryd.func51, Tryd.ntmps51
    go_wp2
    go_ret
    exact ⟨by simp [partW], below_alloc (Below.refl _ _) _⟩
  have c3b : (a0_0 == 3) = false := beq_eq_false_iff_ne.mpr c3
  by_cases c4 : a0_0 = 4
  · subst c4
    go_enter Tryd.func51, Tryd.ntmps51
    go_wp2
    go_ret
    exact ⟨by simp [partW], below_alloc (Below.refl _ _) _⟩
  have c4b : (a0_0 == 4) = false := beq_eq_false_iff_ne.mpr c4
  by_cases c5 : a0_0 = 5
  · subst c5
    by_cases c6 : a0_2 = 0
    · subst c6
      go_enter Tryd.func51, Tryd.ntmps51
      go_wp2
      go_ret
      exact ⟨by simp [partW], below_alloc (Below.refl _ _) _⟩
    · have c6b : (a0_2 == 0) = false := beq_eq_false_iff_ne.mpr c6
      go_enter Tryd.func51, Tryd.ntmps51
      go_wp2
      go_ret
      exact ⟨by simp [partW, c6], below_alloc (Below.refl _ _) _⟩
  have c5b : (a0_0 == 5) = false := beq_eq_false_iff_ne.mpr c5
  go_enter Tryd.func51, Tryd.ntmps51
  go_wp2
  go_ret
  exact ⟨by simp [partW, c1, c2, c3, c4, c5], below_alloc (Below.refl _ _) _⟩
def impl_isReg.f (a0 : Int) : Option (Bool) := (impl_isPlace.f a0 3).bind fun t248 => (some t248)
set_option maxHeartbeats 8000000 in
set_option maxRecDepth 100000 in
theorem impl_isReg.calls (a0 : Int) (r : Bool) (w : World) (h : impl_isReg.f a0 = some r) :
    Calls Tryd.prog 68 #[.int .i64 a0] w fun e w' => e = .returned (.bool r) ∧ Drawn0 w w' := by
  have H : ((impl_isPlace.f a0 3).bind fun t248 => (some t248)) = some r := h
  clear h
  replace H := Option.bind_eq_some_iff.mp H
  obtain ⟨t248, A20, H⟩ := H
  replace H : (some t248) = some r := H
  have A2 := Aside0.mk A20
  clear A20
  obtain rfl := Option.some.inj H
  go_enter Tryd.func68, Tryd.ntmps68
  go_wp2_with (first | ((with_reducible refine gate_callee (f := 84) rfl ?_); refine goesL_ (some 4) rfl rfl Tryd.func84 (by kernel_rfl) rfl #[.int .i64 a0, .int .i64 3] rfl (by (try simp only [List.map_toArray, List.map_cons, List.map_nil]); first | done | rfl | (simp only [List.length_drop, List.length_take]; rfl)) ?_; (with_reducible refine (impl_isPlace.calls a0 3 t248 _ A2.out).mono ?_); rintro e w' ⟨rfl, ⟨nd, rfl⟩⟩; refine ⟨_, rfl, ?_⟩))
  go_ret
  exact ⟨by first | rfl | (simp; done) | (simp [*]; done), by repeat (first | exact Drawn0.refl _ | apply Drawn0.step)⟩
end Go.Proofs.YtoeepmcaabmjkaaDoor.QTX
namespace Go.Proofs.YtoeepmcaabmjkaaDoor.QTX
open Go.RowKit Go.Proofs.YtoeepmcaabmjkaaDoorW.PrintWords Go.Proofs.YtoeepmcaabmjkaaDoorW.PrintLast Go.Proofs.YtoeepmcaabmjkaaDoorW.PrintMore
attribute [local go_sem] max2_int min2_int max_two min_two max_three min_three max_four min_four   -- for this text's walks alone
set_option linter.unusedVariables false
set_option linter.unusedSimpArgs false
def impl_deedOk.f (a0 : Part) (a1 : Int) : Option Bool :=
  if a0.t = 1 then (impl_isReg.f a0.a).bind fun b => if b = true then impl_isPlace.f a0.b a1 else some false
  else if a0.t = 2 then (impl_isPlace.f a0.a a1).bind fun b => if b = true then impl_isReg.f a0.b else some false
  else if a0.t = 3 then (impl_isReg.f a0.a).bind fun b => if b = true then impl_isNum.f a0.b else some false
  else if a0.t = 4 then (impl_isReg.f a0.a).bind fun b => if b = true then impl_isReg.f a0.b else some false
  else if a0.t = 5 then impl_isReg.f a0.a
  else some false
set_option maxHeartbeats 8000000 in
set_option maxRecDepth 100000 in
theorem impl_deedOk.calls (a0 : Part) (a1 : Int) (r : Bool) (w : World) (h : impl_deedOk.f a0 a1 = some r) :
    Calls Tryd.prog 85 #[partW a0, .int .i64 a1] w fun e w' => e = .returned (.bool r) ∧ Below w.heap.size w w' := by
  obtain ⟨t, a, b⟩ := a0
  have hu1 := Tryd.underlying119
  have hu2 := Tryd.underlying121
  have hu3 := Tryd.underlying123
  have hu4 := Tryd.underlying125
  have hu5 := Tryd.underlying126
  unfold impl_deedOk.f at h
  simp only at h
  by_cases c1 : t = 1
  · subst c1
    rw [if_pos rfl] at h
    show Calls Tryd.prog 85 #[.iface 119 (.agg #[.int .i64 a, .int .i64 b]), .int .i64 a1] w _
    have y1 : ∀ W, (Instr.typeAssert (.iface 119 (.agg #[.int .i64 a, .int .i64 b])) 57 119 true).run Tryd.prog W = .ok (.tuple #[.agg #[.int .i64 a, .int .i64 b], .bool true]) W := fun W => by kernel_rfl
    obtain ⟨b1, h1, h2⟩ := Option.bind_eq_some_iff.1 h
    clear h
    have H1 := Aside0.mk h1
    clear h1
    cases b1 with
    | false =>
      obtain rfl : r = false := by simpa using h2.symm
      clear h2
      go_enter Tryd.func85, Tryd.ntmps85
      go_wp2_with fail
      refine (impl_isReg.calls a false _ H1.out).mono ?_
      rintro e w1 ⟨rfl, hd⟩
      obtain ⟨nd, rfl⟩ := hd.out
      go_wp2
      go_ret
      exact ⟨rfl, pw_below_drewN (below_alloc (Below.refl _ _) _) _⟩
    | true =>
      have H2 := Aside0.mk (show impl_isPlace.f b a1 = some r from h2)
      clear h2
      go_enter Tryd.func85, Tryd.ntmps85
      go_wp2_with fail
      refine (impl_isReg.calls a true _ H1.out).mono ?_
      rintro e w1 ⟨rfl, hd⟩
      obtain ⟨nd, rfl⟩ := hd.out
      go_wp2_with fail
      refine (impl_isPlace.calls b a1 r _ H2.out).mono ?_
      rintro e w2 ⟨rfl, hd2⟩
      obtain ⟨nd2, rfl⟩ := hd2.out
      go_wp2
      go_ret
      exact ⟨rfl, by repeat (first | exact Below.refl _ _ | apply pw_below_drewN | apply below_alloc)⟩
  by_cases c2 : t = 2
  · subst c2
    rw [if_neg (by decide), if_pos rfl] at h
    show Calls Tryd.prog 85 #[.iface 121 (.agg #[.int .i64 a, .int .i64 b]), .int .i64 a1] w _
    have y1 : ∀ W, (Instr.typeAssert (.iface 121 (.agg #[.int .i64 a, .int .i64 b])) 57 119 true).run Tryd.prog W = .ok (.tuple #[.agg #[.int .i64 0, .int .i64 0], .bool false]) W := fun W => by kernel_rfl
    have y2 : ∀ W, (Instr.typeAssert (.iface 121 (.agg #[.int .i64 a, .int .i64 b])) 57 121 true).run Tryd.prog W = .ok (.tuple #[.agg #[.int .i64 a, .int .i64 b], .bool true]) W := fun W => by kernel_rfl
    obtain ⟨b1, h1, h2⟩ := Option.bind_eq_some_iff.1 h
    clear h
    have H1 := Aside0.mk h1
    clear h1
    cases b1 with
    | false =>
      obtain rfl : r = false := by simpa using h2.symm
      clear h2
      go_enter Tryd.func85, Tryd.ntmps85
      go_wp2_with fail
      refine (impl_isPlace.calls a a1 false _ H1.out).mono ?_
      rintro e w1 ⟨rfl, hd⟩
      obtain ⟨nd, rfl⟩ := hd.out
      go_wp2
      go_ret
      exact ⟨rfl, pw_below_drewN (below_alloc (Below.refl _ _) _) _⟩
    | true =>
      have H2 := Aside0.mk (show impl_isReg.f b = some r from h2)
      clear h2
      go_enter Tryd.func85, Tryd.ntmps85
      go_wp2_with fail
      refine (impl_isPlace.calls a a1 true _ H1.out).mono ?_
      rintro e w1 ⟨rfl, hd⟩
      obtain ⟨nd, rfl⟩ := hd.out
      go_wp2_with fail
      refine (impl_isReg.calls b r _ H2.out).mono ?_
      rintro e w2 ⟨rfl, hd2⟩
      obtain ⟨nd2, rfl⟩ := hd2.out
      go_wp2
      go_ret
      exact ⟨rfl, by repeat (first | exact Below.refl _ _ | apply pw_below_drewN | apply below_alloc)⟩
  by_cases c3 : t = 3
  · subst c3
    rw [if_neg (by decide), if_neg (by decide), if_pos rfl] at h
    show Calls Tryd.prog 85 #[.iface 123 (.agg #[.int .i64 a, .int .i64 b]), .int .i64 a1] w _
    have y1 : ∀ W, (Instr.typeAssert (.iface 123 (.agg #[.int .i64 a, .int .i64 b])) 57 119 true).run Tryd.prog W = .ok (.tuple #[.agg #[.int .i64 0, .int .i64 0], .bool false]) W := fun W => by kernel_rfl
    have y2 : ∀ W, (Instr.typeAssert (.iface 123 (.agg #[.int .i64 a, .int .i64 b])) 57 121 true).run Tryd.prog W = .ok (.tuple #[.agg #[.int .i64 0, .int .i64 0], .bool false]) W := fun W => by kernel_rfl
    have y3 : ∀ W, (Instr.typeAssert (.iface 123 (.agg #[.int .i64 a, .int .i64 b])) 57 123 true).run Tryd.prog W = .ok (.tuple #[.agg #[.int .i64 a, .int .i64 b], .bool true]) W := fun W => by kernel_rfl
    obtain ⟨b1, h1, h2⟩ := Option.bind_eq_some_iff.1 h
    clear h
    have H1 := Aside0.mk h1
    clear h1
    cases b1 with
    | false =>
      obtain rfl : r = false := by simpa using h2.symm
      clear h2
      go_enter Tryd.func85, Tryd.ntmps85
      go_wp2_with fail
      refine (impl_isReg.calls a false _ H1.out).mono ?_
      rintro e w1 ⟨rfl, hd⟩
      obtain ⟨nd, rfl⟩ := hd.out
      go_wp2
      go_ret
      exact ⟨rfl, pw_below_drewN (below_alloc (Below.refl _ _) _) _⟩
    | true =>
      have H2 := Aside0.mk (show impl_isNum.f b = some r from h2)
      clear h2
      go_enter Tryd.func85, Tryd.ntmps85
      go_wp2_with fail
      refine (impl_isReg.calls a true _ H1.out).mono ?_
      rintro e w1 ⟨rfl, hd⟩
      obtain ⟨nd, rfl⟩ := hd.out
      go_wp2_with fail
      refine (impl_isNum.calls b r _ H2.out).mono ?_
      rintro e w2 ⟨rfl, hd2⟩
      obtain ⟨nd2, rfl⟩ := hd2.out
      go_wp2
      go_ret
      exact ⟨rfl, by repeat (first | exact Below.refl _ _ | apply pw_below_drewN | apply below_alloc)⟩
  by_cases c4 : t = 4
  · subst c4
    rw [if_neg (by decide), if_neg (by decide), if_neg (by decide), if_pos rfl] at h
    show Calls Tryd.prog 85 #[.iface 125 (.agg #[.int .i64 a, .int .i64 b]), .int .i64 a1] w _
    have y1 : ∀ W, (Instr.typeAssert (.iface 125 (.agg #[.int .i64 a, .int .i64 b])) 57 119 true).run Tryd.prog W = .ok (.tuple #[.agg #[.int .i64 0, .int .i64 0], .bool false]) W := fun W => by kernel_rfl
    have y2 : ∀ W, (Instr.typeAssert (.iface 125 (.agg #[.int .i64 a, .int .i64 b])) 57 121 true).run Tryd.prog W = .ok (.tuple #[.agg #[.int .i64 0, .int .i64 0], .bool false]) W := fun W => by kernel_rfl
    have y3 : ∀ W, (Instr.typeAssert (.iface 125 (.agg #[.int .i64 a, .int .i64 b])) 57 123 true).run Tryd.prog W = .ok (.tuple #[.agg #[.int .i64 0, .int .i64 0], .bool false]) W := fun W => by kernel_rfl
    have y4 : ∀ W, (Instr.typeAssert (.iface 125 (.agg #[.int .i64 a, .int .i64 b])) 57 125 true).run Tryd.prog W = .ok (.tuple #[.agg #[.int .i64 a, .int .i64 b], .bool true]) W := fun W => by kernel_rfl
    obtain ⟨b1, h1, h2⟩ := Option.bind_eq_some_iff.1 h
    clear h
    have H1 := Aside0.mk h1
    clear h1
    cases b1 with
    | false =>
      obtain rfl : r = false := by simpa using h2.symm
      clear h2
      go_enter Tryd.func85, Tryd.ntmps85
      go_wp2_with fail
      refine (impl_isReg.calls a false _ H1.out).mono ?_
      rintro e w1 ⟨rfl, hd⟩
      obtain ⟨nd, rfl⟩ := hd.out
      go_wp2
      go_ret
      exact ⟨rfl, pw_below_drewN (below_alloc (Below.refl _ _) _) _⟩
    | true =>
      have H2 := Aside0.mk (show impl_isReg.f b = some r from h2)
      clear h2
      go_enter Tryd.func85, Tryd.ntmps85
      go_wp2_with fail
      refine (impl_isReg.calls a true _ H1.out).mono ?_
      rintro e w1 ⟨rfl, hd⟩
      obtain ⟨nd, rfl⟩ := hd.out
      go_wp2_with fail
      refine (impl_isReg.calls b r _ H2.out).mono ?_
      rintro e w2 ⟨rfl, hd2⟩
      obtain ⟨nd2, rfl⟩ := hd2.out
      go_wp2
      go_ret
      exact ⟨rfl, by repeat (first | exact Below.refl _ _ | apply pw_below_drewN | apply below_alloc)⟩
  by_cases c5 : t = 5
  · subst c5
    rw [if_neg (by decide), if_neg (by decide), if_neg (by decide), if_neg (by decide), if_pos rfl] at h
    show Calls Tryd.prog 85 #[.iface 126 (.agg #[.int .i64 a]), .int .i64 a1] w _
    have y1 : ∀ W, (Instr.typeAssert (.iface 126 (.agg #[.int .i64 a])) 57 119 true).run Tryd.prog W = .ok (.tuple #[.agg #[.int .i64 0, .int .i64 0], .bool false]) W := fun W => by kernel_rfl
    have y2 : ∀ W, (Instr.typeAssert (.iface 126 (.agg #[.int .i64 a])) 57 121 true).run Tryd.prog W = .ok (.tuple #[.agg #[.int .i64 0, .int .i64 0], .bool false]) W := fun W => by kernel_rfl
    have y3 : ∀ W, (Instr.typeAssert (.iface 126 (.agg #[.int .i64 a])) 57 123 true).run Tryd.prog W = .ok (.tuple #[.agg #[.int .i64 0, .int .i64 0], .bool false]) W := fun W => by kernel_rfl
    have y4 : ∀ W, (Instr.typeAssert (.iface 126 (.agg #[.int .i64 a])) 57 125 true).run Tryd.prog W = .ok (.tuple #[.agg #[.int .i64 0, .int .i64 0], .bool false]) W := fun W => by kernel_rfl
    have y5 : ∀ W, (Instr.typeAssert (.iface 126 (.agg #[.int .i64 a])) 57 126 true).run Tryd.prog W = .ok (.tuple #[.agg #[.int .i64 a], .bool true]) W := fun W => by kernel_rfl
    have H1 := Aside0.mk h
    clear h
    go_enter Tryd.func85, Tryd.ntmps85
    go_wp2_with fail
    refine (impl_isReg.calls a r _ H1.out).mono ?_
    rintro e w1 ⟨rfl, hd⟩
    obtain ⟨nd, rfl⟩ := hd.out
    go_wp2
    go_ret
    exact ⟨rfl, pw_below_drewN (below_alloc (Below.refl _ _) _) _⟩
  rw [if_neg c1, if_neg c2, if_neg c3, if_neg c4, if_neg c5] at h
  obtain rfl := Option.some.inj h
  have hp : partW ⟨t, a, b⟩ = .nilIface := by simp [partW, c1, c2, c3, c4, c5]
  rw [hp]
  clear hp c1 c2 c3 c4 c5 h
  have y1 : ∀ W, (Instr.typeAssert .nilIface 57 119 true).run Tryd.prog W = .ok (.tuple #[.agg #[.int .i64 0, .int .i64 0], .bool false]) W := fun W => by kernel_rfl
  have y2 : ∀ W, (Instr.typeAssert .nilIface 57 121 true).run Tryd.prog W = .ok (.tuple #[.agg #[.int .i64 0, .int .i64 0], .bool false]) W := fun W => by kernel_rfl
  have y3 : ∀ W, (Instr.typeAssert .nilIface 57 123 true).run Tryd.prog W = .ok (.tuple #[.agg #[.int .i64 0, .int .i64 0], .bool false]) W := fun W => by kernel_rfl
  have y4 : ∀ W, (Instr.typeAssert .nilIface 57 125 true).run Tryd.prog W = .ok (.tuple #[.agg #[.int .i64 0, .int .i64 0], .bool false]) W := fun W => by kernel_rfl
  have y5 : ∀ W, (Instr.typeAssert .nilIface 57 126 true).run Tryd.prog W = .ok (.tuple #[.agg #[.int .i64 0], .bool false]) W := fun W => by kernel_rfl
  go_enter Tryd.func85, Tryd.ntmps85
  go_wp2
  go_ret
  exact ⟨rfl, Below.refl _ _⟩
end Go.Proofs.YtoeepmcaabmjkaaDoor.QTX
namespace Go.Proofs.YtoeepmcaabmjkaaDoor.QTX
open Go.RowKit Go.Proofs.YtoeepmcaabmjkaaDoorW.PrintWords Go.Proofs.YtoeepmcaabmjkaaDoorW.PrintLast Go.Proofs.YtoeepmcaabmjkaaDoorW.PrintMore
attribute [local go_sem] max2_int min2_int max_two min_two max_three min_three max_four min_four   -- for this text's walks alone
set_option linter.unusedVariables false
set_option linter.unusedSimpArgs false
mutual
def impl_ChangeOk.j0 : Nat → List (S82) → Int → Bool → Option (Bool)
  | 0, _, _, _ => none
  | k + 1, x0, x1, x17 => if x17 = true then (some false) else (impl_ChangeOk.l0 k x1 x0 (x0.length : Int) 0)
def impl_ChangeOk.l0 : Nat → Int → List (S82) → Int → Int → Option (Bool)
  | 0, _, _, _, _ => none
  | k + 1, x1, x18, x19, x20 => if x20 < x19 then (if 0 ≤ x20 then (if x20 < (x18.length : Int) then ((impl_partOfDeed.f ((rd_T82 x18 x20).f0) ((rd_T82 x18 x20).f1) ((rd_T82 x18 x20).f2)).bind fun t251 => ((impl_deedOk.f t251 x1).bind fun t252 => (if t252 = true then (impl_ChangeOk.l0 k x1 x18 x19 (wrap64 (x20 + 1))) else (some false)))) else (none)) else (none)) else (some true)
end
def impl_ChangeOk.f (k : Nat) (l0 : List (S82)) (a1 : Int) : Option (Bool) := if a1 < 0 then (impl_ChangeOk.j0 k l0 a1 true) else (if a1 > 3 then (impl_ChangeOk.j0 k l0 a1 true) else (impl_ChangeOk.j0 k l0 a1 (decide ((l0.length : Int) > 5))))
set_option maxHeartbeats 8000000 in
set_option maxRecDepth 100000 in
theorem impl_ChangeOk.calls (k : Nat) (A0 : Option Addr) (c0 : Nat) (l0 : List (S82)) (a1 : Int) (r : Bool) (w : World) (hr0 : Kd.C k82 w A0 l0.length l0) (hc0 : l0.length ≤ c0) (h : impl_ChangeOk.f k l0 a1 = some r) :
    Calls Tryd.prog 67 #[.slice A0 l0.length c0, .int .i64 a1] w fun e w' => e = .returned (.bool r) ∧ Below w.heap.size w w' := by
  have hu82 := Tryd.underlying82
  have HR0 := Aside0.mk hr0
  have HC0 := Aside0.mk hc0
  clear hr0 hc0
  have HB := Aside0.mk (Below.refl w.heap.size w)
  have H : (if a1 < 0 then (impl_ChangeOk.j0 k l0 a1 true) else (if a1 > 3 then (impl_ChangeOk.j0 k l0 a1 true) else (impl_ChangeOk.j0 k l0 a1 (decide ((l0.length : Int) > 5))))) = some r := h
  clear h
  have HC3 := Aside0.mk H
  clear H
  go_enter Tryd.func67, Tryd.ntmps67
  go_upto_region 1 with (fail)
  go_cut [17] (fun v17 wc => ∃ (kq : Nat) (x17_2 : Bool), v17 = .bool x17_2 ∧ Aside0 (impl_ChangeOk.j0 kq l0 a1 x17_2 = some r) ∧ Aside0 (kq ≤ k) ∧ Aside0 (Below w.heap.size w wc))
  case first =>
    have H := HC3.out
    clear HC3
    by_cases c4 : a1 < 0
    · rw [if_pos c4] at H
      have c4b0 : decide (a1 < 0) = true := decide_eq_true c4
      clear c4
      (first | rw [c4b0] | (simp only [i64_w, i32_w]; rw [c4b0]) | skip)
      have H' := Aside0.mk H
      clear H
      go_wp2
      go_meet
      case rel => exact ⟨_, (true), (by first | rfl | (simp; done) | (simp [*]; done)), H', ⟨by first | omega | exact Nat.le_refl _⟩, ⟨by repeat (first | (with_reducible first | exact HB.out | apply below_alloc | apply pw_below_drewN | apply below_drew1) | exact HB.out)⟩⟩
    · rw [if_neg c4] at H
      have c4b0 : decide (a1 < 0) = false := decide_eq_false c4
      clear c4
      (first | rw [c4b0] | (simp only [i64_w, i32_w]; rw [c4b0]) | skip)
      by_cases c5 : a1 > 3
      · rw [if_pos c5] at H
        have c5b0 : decide (3 < a1) = true := decide_eq_true c5
        clear c5
        have H' := Aside0.mk H
        clear H
        go_wp2
        go_meet
        case rel => exact ⟨_, (true), (by first | rfl | (simp; done) | (simp [*]; done)), H', ⟨by first | omega | exact Nat.le_refl _⟩, ⟨by repeat (first | (with_reducible first | exact HB.out | apply below_alloc | apply pw_below_drewN | apply below_drew1) | exact HB.out)⟩⟩
      · rw [if_neg c5] at H
        have c5b0 : decide (3 < a1) = false := decide_eq_false c5
        clear c5
        have H' := Aside0.mk H
        clear H
        go_wp2
        go_meet
        case rel => exact ⟨_, (decide ((l0.length : Int) > 5)), (by first | rfl | (simp; done) | (simp [*]; done)), H', ⟨by first | omega | exact Nat.le_refl _⟩, ⟨by repeat (first | (with_reducible first | exact HB.out | apply below_alloc | apply pw_below_drewN | apply below_drew1) | exact HB.out)⟩⟩
  case rest =>
    clear HC3
    try clear p2
    try clear c4
    try clear c4b0
    try clear c5
    try clear c5b0
    obtain ⟨kq, x17_2, rfl, HA, HJ2, HB⟩ := hcut
    cases kq with
    | zero => exact absurd HA.out (by simp [impl_ChangeOk.j0])
    | succ kj2 =>
      have H := HA.out
      clear HA
      simp only [impl_ChangeOk.j0] at H
      by_cases c6 : x17_2 = true
      · subst c6
        have H1 : (some false) = some r := by rw [if_pos rfl] at H; exact H
        clear H
        have H := H1
        clear H1
        obtain rfl := Option.some.inj H
        go_wp2
        go_ret
        exact ⟨by first | rfl | (simp [errW_none, errW_some] <;> rfl) | (simp [*, errW_none, errW_some] <;> rfl), by repeat (first | (with_reducible first | exact HB.out | apply below_alloc | apply pw_below_drewN | apply below_drew1) | exact HB.out)⟩
      · replace c6 := Bool.eq_false_iff.mpr c6
        subst c6
        have H1 : (impl_ChangeOk.l0 kj2 a1 l0 (l0.length : Int) 0) = some r := by rw [if_neg (show ¬ (false = true) by decide)] at H; exact H
        clear H
        have H := H1
        clear H1
        have H' := Aside0.mk H
        clear H
        go_wp2
        go_loopg [20] kj2 (fun kq v20 w' => ∃ (x20_2 : Int), v20 = .int .i64 x20_2 ∧ Aside0 (impl_ChangeOk.l0 kq a1 l0 (l0.length : Int) x20_2 = some r) ∧ Aside0 (kq ≤ kj2) ∧ Aside0 (Below w.heap.size w w'))
        case atStart => exact ⟨(0), (by first | rfl | (simp; done) | (simp [*]; done)), H', ⟨Nat.le_refl _⟩, ⟨by repeat (first | (with_reducible first | exact HB.out | apply below_alloc | apply pw_below_drewN | apply below_drew1) | exact HB.out)⟩⟩
        case round =>
          clear H'
          try clear p2
          try clear c4
          try clear c4b0
          try clear c5
          try clear c5b0
          try clear c6
          try clear p2
          obtain ⟨x20_2, rfl, HA, HK2, HB⟩ := hrel
          cases gk with
          | zero => exact absurd HA.out (by simp [impl_ChangeOk.l0])
          | succ k2 =>
            have H := HA.out
            clear HA
            simp only [impl_ChangeOk.l0] at H
            by_cases c7 : x20_2 < (l0.length : Int)
            · rw [if_pos c7] at H
              have c7b0 : decide (x20_2 < (l0.length : Int)) = true := decide_eq_true c7
              clear c7
              by_cases c8 : 0 ≤ x20_2
              · rw [if_pos c8] at H
                have c8b0 : decide (0 ≤ x20_2) = true := decide_eq_true c8
                clear c8
                by_cases c9 : x20_2 < (l0.length : Int)
                · rw [if_pos c9] at H
                  have c9b0 : decide (x20_2 < (l0.length : Int)) = true := decide_eq_true c9
                  clear c9
                  replace H := Option.bind_eq_some_iff.mp H
                  obtain ⟨t251, A100, H⟩ := H
                  replace H : ((impl_deedOk.f t251 a1).bind fun t252 => (if t252 = true then (impl_ChangeOk.l0 k2 a1 l0 (l0.length : Int) (wrap64 (x20_2 + 1))) else (some false))) = some r := H
                  have A10 := Aside0.mk A100
                  clear A100
                  replace H := Option.bind_eq_some_iff.mp H
                  obtain ⟨t252, A110, H⟩ := H
                  replace H : (if t252 = true then (impl_ChangeOk.l0 k2 a1 l0 (l0.length : Int) (wrap64 (x20_2 + 1))) else (some false)) = some r := H
                  have A11 := Aside0.mk A110
                  clear A110
                  by_cases c12 : t252 = true
                  · subst c12
                    have H1 : (impl_ChangeOk.l0 k2 a1 l0 (l0.length : Int) (wrap64 (x20_2 + 1))) = some r := by rw [if_pos rfl] at H; exact H
                    clear H
                    have H := H1
                    clear H1
                    have H' := Aside0.mk H
                    clear H
                    have p249 : 0 ≤ (x20_2 : Int) := of_decide_eq_true (by first | (with_reducible assumption) | assumption)
                    have q249 : x20_2 < (l0.length : Int) := of_decide_eq_true (by first | (with_reducible assumption) | assumption)
                    obtain ⟨ad249, e249, hx249_0, hx249_1, hx249_2⟩ := at_T82 HR0.out x20_2 p249 q249
                    cases e249
                    replace hx249_0 := (HB.out.cell (World.block_lt_of_cell? w _ hx249_0)).trans hx249_0
                    replace hx249_1 := (HB.out.cell (World.block_lt_of_cell? w _ hx249_1)).trans hx249_1
                    replace hx249_2 := (HB.out.cell (World.block_lt_of_cell? w _ hx249_2)).trans hx249_2
                    replace p249 := eq_true p249
                    replace q249 := eq_true q249
                    go_wp2_with (first | ((with_reducible refine gate_dst (N := 6) rfl ?_); (try (refine gate_guard (by rfl) ?_; dsimp only)); refine box_event ?hg (N := 6) ?hd (cs := #[.int .i64 0, .int .i64 0, .int .i64 0]) (t := 82) ?hr ?_; (case hd => rfl); (case hg => rfl); (case hr => first | (go_simp; done) | (go_simp; rfl)); intro gb250 hg w13 hbox hb; have n0_ := Aside0.mk (below_step (by repeat (first | (with_reducible first | exact HB.out | apply below_alloc | apply pw_below_drewN | apply below_drew1) | exact HB.out)) hb); have n1_ := Aside0.mk (hbox); have n2_ := Aside0.mk ((by rw [hg]; exact (below_size (by repeat (first | (with_reducible first | exact HB.out | apply below_alloc | apply pw_below_drewN | apply below_drew1) | exact HB.out))) : w.heap.size ≤ gb250)); have n3_ := Aside0.mk ((by rw [hg]; exact (below_size (by repeat (first | (with_reducible first | exact HB.out | apply below_alloc | apply pw_below_drewN | apply below_drew1) | exact HB.out))) : w.heap.size ≤ gb250)); clear HB; have HB := n0_; have BK250 := n1_; have GW250 := n2_; have GE250 := n3_; clear n0_ n1_ n2_ n3_; clear hb hbox hg; have hcz14_0 : w13.cell? ⟨gb250, 0, none⟩ = some (.int .i64 0) := (blk_cell BK250.out 0).trans rfl; have hcz14_1 : w13.cell? ⟨gb250, 1, none⟩ = some (.int .i64 0) := (blk_cell BK250.out 1).trans rfl; have hcz14_2 : w13.cell? ⟨gb250, 2, none⟩ = some (.int .i64 0) := (blk_cell BK250.out 2).trans rfl; have hfz14_0 := blk_frozen BK250.out 0; have hfz14_1 := blk_frozen BK250.out 1; have hfz14_2 := blk_frozen BK250.out 2) | ((with_reducible refine gate_callee (f := 51) rfl ?_); refine goesL_ (some 25) rfl rfl Tryd.func51 (by kernel_rfl) rfl #[.agg #[.int .i64 ((rd_T82 l0 x20_2).f0), .int .i64 ((rd_T82 l0 x20_2).f1), .int .i64 ((rd_T82 l0 x20_2).f2)]] rfl (by (try simp only [List.map_toArray, List.map_cons, List.map_nil]); first | done | rfl | (simp only [List.length_drop, List.length_take]; rfl)) ?_; (with_reducible refine (impl_partOfDeed.calls ((rd_T82 l0 x20_2).f0) ((rd_T82 l0 x20_2).f1) ((rd_T82 l0 x20_2).f2) t251 _ A10.out).mono ?_); rintro e w15 ⟨rfl, hb⟩; refine ⟨_, rfl, ?_⟩; have n0_ := Aside0.mk (blk_below (g := gb250) (o := .cells #[.int .i64 ((rd_T82 l0 x20_2).f0), .int .i64 ((rd_T82 l0 x20_2).f1), .int .i64 ((rd_T82 l0 x20_2).f2)] 82 (0, 0)) (by (with_reducible repeat (first | refine blk_drewN ?_ _ | refine blk_drew ?_ | refine blk_alloc ?_ _)); refine blk_put (cs := #[.int .i64 ((rd_T82 l0 x20_2).f0), .int .i64 ((rd_T82 l0 x20_2).f1), .int .i64 0]) ?_ 2 _ rfl; (with_reducible repeat (first | refine blk_drewN ?_ _ | refine blk_drew ?_ | refine blk_alloc ?_ _)); refine blk_put (cs := #[.int .i64 ((rd_T82 l0 x20_2).f0), .int .i64 0, .int .i64 0]) ?_ 1 _ rfl; (with_reducible repeat (first | refine blk_drewN ?_ _ | refine blk_drew ?_ | refine blk_alloc ?_ _)); refine blk_put (cs := #[.int .i64 0, .int .i64 0, .int .i64 0]) ?_ 0 _ rfl; (with_reducible repeat (first | refine blk_drewN ?_ _ | refine blk_drew ?_ | refine blk_alloc ?_ _)); exact BK250.out) hb); have n1_ := Aside0.mk (below_step (by repeat (first | (with_reducible first | exact HB.out | apply below_alloc | apply pw_below_drewN | apply below_drew1 | refine below_set ?_ GE250.out) | exact HB.out)) hb); clear BK250; clear HB; have BK250 := n0_; have HB := n1_; clear n0_ n1_; (try clear hb); (try clear hb2); (try clear hk); (try clear hi)) | ((with_reducible refine gate_callee (f := 85) rfl ?_); refine goesL_ (some 27) rfl rfl Tryd.func85 (by kernel_rfl) rfl #[partW t251, .int .i64 a1] rfl (by (try simp only [List.map_toArray, List.map_cons, List.map_nil]); first | done | rfl | (simp only [List.length_drop, List.length_take]; rfl)) ?_; (with_reducible refine (impl_deedOk.calls t251 a1 true _ A11.out).mono ?_); rintro e w16 ⟨rfl, hb⟩; refine ⟨_, rfl, ?_⟩; have n0_ := Aside0.mk (blk_below (g := gb250) (o := .cells #[.int .i64 ((rd_T82 l0 x20_2).f0), .int .i64 ((rd_T82 l0 x20_2).f1), .int .i64 ((rd_T82 l0 x20_2).f2)] 82 (0, 0)) (by (with_reducible repeat (first | refine blk_drewN ?_ _ | refine blk_drew ?_ | refine blk_alloc ?_ _)); exact BK250.out) hb); have n1_ := Aside0.mk (below_step (by repeat (first | (with_reducible first | exact HB.out | apply below_alloc | apply pw_below_drewN | apply below_drew1 | refine below_set ?_ GE250.out) | exact HB.out)) hb); clear BK250; clear HB; have BK250 := n0_; have HB := n1_; clear n0_ n1_; (try clear hb); (try clear hb2); (try clear hk); (try clear hi)))
                    go_roundg k2
                    case measure => have := HJ2.out; have := HK2.out; omega
                    case rel => exact ⟨(wrap64 (x20_2 + 1)), (by first | rfl | (simp; done) | (simp [*]; done)), H', ⟨by have := HJ2.out; have := HK2.out; omega⟩, ⟨by repeat (first | (with_reducible first | exact HB.out | apply below_alloc | apply pw_below_drewN | apply below_drew1 | refine below_set ?_ GE250.out) | exact HB.out)⟩⟩
                  · replace c12 := Bool.eq_false_iff.mpr c12
                    subst c12
                    have H1 : (some false) = some r := by rw [if_neg (show ¬ (false = true) by decide)] at H; exact H
                    clear H
                    have H := H1
                    clear H1
                    obtain rfl := Option.some.inj H
                    have p249 : 0 ≤ (x20_2 : Int) := of_decide_eq_true (by first | (with_reducible assumption) | assumption)
                    have q249 : x20_2 < (l0.length : Int) := of_decide_eq_true (by first | (with_reducible assumption) | assumption)
                    obtain ⟨ad249, e249, hx249_0, hx249_1, hx249_2⟩ := at_T82 HR0.out x20_2 p249 q249
                    cases e249
                    replace hx249_0 := (HB.out.cell (World.block_lt_of_cell? w _ hx249_0)).trans hx249_0
                    replace hx249_1 := (HB.out.cell (World.block_lt_of_cell? w _ hx249_1)).trans hx249_1
                    replace hx249_2 := (HB.out.cell (World.block_lt_of_cell? w _ hx249_2)).trans hx249_2
                    replace p249 := eq_true p249
                    replace q249 := eq_true q249
                    go_wp2_with (first | ((with_reducible refine gate_dst (N := 6) rfl ?_); (try (refine gate_guard (by rfl) ?_; dsimp only)); refine box_event ?hg (N := 6) ?hd (cs := #[.int .i64 0, .int .i64 0, .int .i64 0]) (t := 82) ?hr ?_; (case hd => rfl); (case hg => rfl); (case hr => first | (go_simp; done) | (go_simp; rfl)); intro gb250 hg w17 hbox hb; have n0_ := Aside0.mk (below_step (by repeat (first | (with_reducible first | exact HB.out | apply below_alloc | apply pw_below_drewN | apply below_drew1) | exact HB.out)) hb); have n1_ := Aside0.mk (hbox); have n2_ := Aside0.mk ((by rw [hg]; exact (below_size (by repeat (first | (with_reducible first | exact HB.out | apply below_alloc | apply pw_below_drewN | apply below_drew1) | exact HB.out))) : w.heap.size ≤ gb250)); have n3_ := Aside0.mk ((by rw [hg]; exact (below_size (by repeat (first | (with_reducible first | exact HB.out | apply below_alloc | apply pw_below_drewN | apply below_drew1) | exact HB.out))) : w.heap.size ≤ gb250)); clear HB; have HB := n0_; have BK250 := n1_; have GW250 := n2_; have GE250 := n3_; clear n0_ n1_ n2_ n3_; clear hb hbox hg; have hcz18_0 : w17.cell? ⟨gb250, 0, none⟩ = some (.int .i64 0) := (blk_cell BK250.out 0).trans rfl; have hcz18_1 : w17.cell? ⟨gb250, 1, none⟩ = some (.int .i64 0) := (blk_cell BK250.out 1).trans rfl; have hcz18_2 : w17.cell? ⟨gb250, 2, none⟩ = some (.int .i64 0) := (blk_cell BK250.out 2).trans rfl; have hfz18_0 := blk_frozen BK250.out 0; have hfz18_1 := blk_frozen BK250.out 1; have hfz18_2 := blk_frozen BK250.out 2) | ((with_reducible refine gate_callee (f := 51) rfl ?_); refine goesL_ (some 25) rfl rfl Tryd.func51 (by kernel_rfl) rfl #[.agg #[.int .i64 ((rd_T82 l0 x20_2).f0), .int .i64 ((rd_T82 l0 x20_2).f1), .int .i64 ((rd_T82 l0 x20_2).f2)]] rfl (by (try simp only [List.map_toArray, List.map_cons, List.map_nil]); first | done | rfl | (simp only [List.length_drop, List.length_take]; rfl)) ?_; (with_reducible refine (impl_partOfDeed.calls ((rd_T82 l0 x20_2).f0) ((rd_T82 l0 x20_2).f1) ((rd_T82 l0 x20_2).f2) t251 _ A10.out).mono ?_); rintro e w19 ⟨rfl, hb⟩; refine ⟨_, rfl, ?_⟩; have n0_ := Aside0.mk (blk_below (g := gb250) (o := .cells #[.int .i64 ((rd_T82 l0 x20_2).f0), .int .i64 ((rd_T82 l0 x20_2).f1), .int .i64 ((rd_T82 l0 x20_2).f2)] 82 (0, 0)) (by (with_reducible repeat (first | refine blk_drewN ?_ _ | refine blk_drew ?_ | refine blk_alloc ?_ _)); refine blk_put (cs := #[.int .i64 ((rd_T82 l0 x20_2).f0), .int .i64 ((rd_T82 l0 x20_2).f1), .int .i64 0]) ?_ 2 _ rfl; (with_reducible repeat (first | refine blk_drewN ?_ _ | refine blk_drew ?_ | refine blk_alloc ?_ _)); refine blk_put (cs := #[.int .i64 ((rd_T82 l0 x20_2).f0), .int .i64 0, .int .i64 0]) ?_ 1 _ rfl; (with_reducible repeat (first | refine blk_drewN ?_ _ | refine blk_drew ?_ | refine blk_alloc ?_ _)); refine blk_put (cs := #[.int .i64 0, .int .i64 0, .int .i64 0]) ?_ 0 _ rfl; (with_reducible repeat (first | refine blk_drewN ?_ _ | refine blk_drew ?_ | refine blk_alloc ?_ _)); exact BK250.out) hb); have n1_ := Aside0.mk (below_step (by repeat (first | (with_reducible first | exact HB.out | apply below_alloc | apply pw_below_drewN | apply below_drew1 | refine below_set ?_ GE250.out) | exact HB.out)) hb); clear BK250; clear HB; have BK250 := n0_; have HB := n1_; clear n0_ n1_; (try clear hb); (try clear hb2); (try clear hk); (try clear hi)) | ((with_reducible refine gate_callee (f := 85) rfl ?_); refine goesL_ (some 27) rfl rfl Tryd.func85 (by kernel_rfl) rfl #[partW t251, .int .i64 a1] rfl (by (try simp only [List.map_toArray, List.map_cons, List.map_nil]); first | done | rfl | (simp only [List.length_drop, List.length_take]; rfl)) ?_; (with_reducible refine (impl_deedOk.calls t251 a1 false _ A11.out).mono ?_); rintro e w20 ⟨rfl, hb⟩; refine ⟨_, rfl, ?_⟩; have n0_ := Aside0.mk (blk_below (g := gb250) (o := .cells #[.int .i64 ((rd_T82 l0 x20_2).f0), .int .i64 ((rd_T82 l0 x20_2).f1), .int .i64 ((rd_T82 l0 x20_2).f2)] 82 (0, 0)) (by (with_reducible repeat (first | refine blk_drewN ?_ _ | refine blk_drew ?_ | refine blk_alloc ?_ _)); exact BK250.out) hb); have n1_ := Aside0.mk (below_step (by repeat (first | (with_reducible first | exact HB.out | apply below_alloc | apply pw_below_drewN | apply below_drew1 | refine below_set ?_ GE250.out) | exact HB.out)) hb); clear BK250; clear HB; have BK250 := n0_; have HB := n1_; clear n0_ n1_; (try clear hb); (try clear hb2); (try clear hk); (try clear hi)))
                    go_ret
                    exact ⟨by first | rfl | (simp [errW_none, errW_some] <;> rfl) | (simp [*, errW_none, errW_some] <;> rfl), by repeat (first | (with_reducible first | exact HB.out | apply below_alloc | apply pw_below_drewN | apply below_drew1 | refine below_set ?_ GE250.out) | exact HB.out)⟩
                · rw [if_neg c9] at H
                  exact absurd H (by simp)
              · rw [if_neg c8] at H
                exact absurd H (by simp)
            · rw [if_neg c7] at H
              have c7b0 : decide (x20_2 < (l0.length : Int)) = false := decide_eq_false c7
              clear c7
              obtain rfl := Option.some.inj H
              go_wp2
              go_ret
              exact ⟨by first | rfl | (simp [errW_none, errW_some] <;> rfl) | (simp [*, errW_none, errW_some] <;> rfl), by repeat (first | (with_reducible first | exact HB.out | apply below_alloc | apply pw_below_drewN | apply below_drew1) | exact HB.out)⟩
end Go.Proofs.YtoeepmcaabmjkaaDoor.QTX
namespace Go.Proofs.YtoeepmcaabmjkaaDoor.QTX
open Go.RowKit Go.Proofs.YtoeepmcaabmjkaaDoorW.PrintWords Go.Proofs.YtoeepmcaabmjkaaDoorW.PrintLast Go.Proofs.YtoeepmcaabmjkaaDoorW.PrintMore
attribute [local go_sem] max2_int min2_int max_two min_two max_three min_three max_four min_four   -- for this text's walks alone
set_option linter.unusedVariables false
set_option linter.unusedSimpArgs false
def kidOk (body bodies x : Int) : Bool := !(decide (x ≤ body) || decide (x ≥ bodies))
def kidsOk (l : List Int) (body bodies : Int) : Bool := l.all (kidOk body bodies) && (decide (1 ≤ l.length) && decide (l.length ≤ 2))
def impl_actOk.f (k : Nat) (a0 : Int) (l1 : List S82) (l2 : List Int) (a3 cells body bodies : Int) : Option Bool :=
  if a0 = 1 ∧ l2.length = 0 ∧ a3 = 0 then impl_ChangeOk.f k l1 cells
  else if a0 = 2 ∧ l1.length = 0 ∧ a3 = 0 then some (kidsOk l2 body bodies)
  else if a0 = 3 ∧ l1.length = 0 ∧ l2.length = 0 ∧ a3 = 0 then some true
  else if a0 = 4 ∧ l1.length = 0 ∧ l2.length = 0 then impl_isReg.f a3
  else some false
set_option maxHeartbeats 4000000 in
set_option maxRecDepth 100000 in
theorem impl_actOk.calls (k : Nat) (a0 : Int) (A1 : Option Addr) (c1 : Nat) (l1 : List S82) (A2 : Option Addr) (c2 : Nat) (l2 : List Int) (a3 cells body bodies : Int) (r : Bool) (w : World) (hr1 : Kd.C k82 w A1 l1.length l1) (hc1 : l1.length ≤ c1) (hr2 : Kd.C (Kd.int .i64) w A2 l2.length l2) (hc2 : l2.length ≤ c2) (h : impl_actOk.f k a0 l1 l2 a3 cells body bodies = some r) :
    Calls Tryd.prog 47 #[actW a0 (.slice A1 l1.length c1) l1.length (.slice A2 l2.length c2) l2.length a3, .int .i64 cells, .int .i64 body, .int .i64 bodies] w fun e w' => e = .returned (.bool r) ∧ Below w.heap.size w w' := by
  have hu1 := Tryd.underlying89
  have hu2 := Tryd.underlying93
  have hu3 := Tryd.underlying95
  have hu4 := Tryd.underlying97
  have hu5 := Tryd.underlying22
  have HR1 := Aside0.mk hr1
  have HC1 := Aside0.mk hc1
  have HR2 := Aside0.mk hr2
  have HC2 := Aside0.mk hc2
  clear hr1 hc1 hr2 hc2
  unfold impl_actOk.f at h
  unfold actW
  by_cases q1 : a0 = 1 ∧ l2.length = 0 ∧ a3 = 0
  · rw [if_pos q1] at h ⊢
    have H1 := Aside0.mk h
    clear h q1
    have y1 : ∀ W, (Instr.typeAssert (.iface 89 (.agg #[.slice A1 l1.length c1])) 57 89 true).run Tryd.prog W = .ok (.tuple #[.agg #[.slice A1 l1.length c1], .bool true]) W := fun W => by kernel_rfl
    go_enter Tryd.func47, Tryd.ntmps47
    go_wp2_with fail
    refine (impl_ChangeOk.calls k A1 c1 l1 cells r _ (Kd.C_alloc HR1.out _) HC1.out H1.out).mono ?_
    rintro e w1 ⟨rfl, hb⟩
    have HB := Aside0.mk hb
    clear hb
    go_wp2
    go_ret
    exact ⟨rfl, below_step (below_alloc (Below.refl _ _) _) HB.out⟩
  rw [if_neg q1] at h ⊢
  by_cases q2 : a0 = 2 ∧ l1.length = 0 ∧ a3 = 0
  · rw [if_pos q2] at h ⊢
    obtain rfl : kidsOk l2 body bodies = r := by simpa using h
    clear h q1 q2
    have y1 : ∀ W, (Instr.typeAssert (.iface 93 (.agg #[.slice A2 l2.length c2])) 57 89 true).run Tryd.prog W = .ok (.tuple #[.agg #[.slice none 0 0], .bool false]) W := fun W => by kernel_rfl
    have y2 : ∀ W, (Instr.typeAssert (.iface 93 (.agg #[.slice A2 l2.length c2])) 57 93 true).run Tryd.prog W = .ok (.tuple #[.agg #[.slice A2 l2.length c2], .bool true]) W := fun W => by kernel_rfl
    have HM := Aside0.mk (show l2.length ≤ 9223372036854775807 from HR2.out.2.1)
    have hb0 : (w.alloc (.cells #[.slice A2 l2.length c2] 93)).heap[w.heap.size]? = some (.cells #[.slice A2 l2.length c2] 93 (0, 0)) := heap_alloc_new w _
    have HB0 := Aside0.mk hb0
    clear hb0
    go_enter Tryd.func47, Tryd.ntmps47
    go_wp2
    go_loopw [29] (fun v29 wr => ∃ x : Int, v29 = .int .i64 x ∧ Aside0 (0 ≤ x ∧ x ≤ (l2.length : Nat)) ∧ Aside0 (∀ j : Nat, (j : Int) < x → kidOk body bodies (rd l2 (j : Int)) = true) ∧ Aside0 (Below w.heap.size w wr) ∧ Aside0 (wr.heap[w.heap.size]? = some (.cells #[.slice A2 l2.length c2] 93 (0, 0)))) (fun v29 _ => l2.length - (intOf v29).toNat)
    case atStart => exact ⟨0, rfl, ⟨by omega, by omega⟩, ⟨fun j hj => absurd hj (by omega)⟩, ⟨below_alloc (Below.refl _ _) _⟩, HB0⟩
    case round =>
      clear HB0
      obtain ⟨x, rfl, HX, HK, HB, HBX⟩ := hrel
      by_cases c0 : x < ((l2.length : Nat) : Int)
      · have c0b : decide (x < ((l2.length : Nat) : Int)) = true := decide_eq_true c0
        have hx0 := HX.out.1
        obtain ⟨ad, ea, hx⟩ := Kd.at_int (Kd.C_below HR2.out HB.out) x hx0 c0
        cases ea
        have HP := Aside0.mk c0
        have p0 := eq_true hx0
        have p1 := eq_true c0
        clear c0 hx0
        obtain ⟨y, hy⟩ : ∃ y, y = rd l2 x := ⟨_, rfl⟩
        rw [← hy] at hx
        have HY := Aside0.mk hy
        clear hy
        by_cases c3 : kidOk body bodies y = true
        · have HG := Aside0.mk c3
          unfold kidOk at c3
          have d1 : decide (y ≤ body) = false := by revert c3; cases decide (y ≤ body) <;> simp
          have d2 : decide (y ≥ bodies) = false := by revert c3; cases decide (y ≥ bodies) <;> simp
          have d2' : decide (bodies ≤ y) = false := d2
          clear c3
          go_wp2
          go_roundw
          case rel =>
            have e1 : (wrap64 (x + 1)) = x + 1 := by have h1 := HX.out.1; have h2 := HP.out; have h3 := HM.out; unfold wrap64; omega
            refine ⟨_, rfl, ⟨?_⟩, ⟨?_⟩, HB, HBX⟩
            · rw [e1]; exact ⟨by have := HX.out.1; omega, by have := HP.out; omega⟩
            · rw [e1]
              intro j hj
              by_cases hjx : (j : Int) = x
              · rw [hjx, ← HY.out]; exact HG.out
              · exact HK.out j (by omega)
          case measure =>
            have h1 := HX.out.1
            have h2 := HP.out
            have h3 := HM.out
            have e1 : (wrap64 (x + 1)) = x + 1 := by unfold wrap64; omega
            rw [e1]
            simp [intOf]
            omega
        · have hf : kidsOk l2 body bodies = false := by
            have hxl : x.toNat < l2.length := by have h1 := HX.out.1; have h2 := HP.out; omega
            have e : l2[x.toNat] = y := by rw [HY.out]; simp [rd, List.getD, hxl]
            unfold kidsOk
            rw [Bool.and_eq_false_iff]
            refine .inl (List.all_eq_false.2 ⟨l2[x.toNat], List.getElem_mem hxl, ?_⟩)
            rw [e]; exact c3
          have HF := Aside0.mk hf
          unfold kidOk at c3
          by_cases c4 : y ≤ body
          · have d1 : decide (y ≤ body) = true := decide_eq_true c4
            clear c3 c4 hf
            go_wp2
            go_ret
            exact ⟨by rw [HF.out]; rfl, HB.out⟩
          · have d1 : decide (y ≤ body) = false := decide_eq_false c4
            have d2 : decide (y ≥ bodies) = true := by rw [d1] at c3; simpa using c3
            have d2' : decide (bodies ≤ y) = true := d2
            clear c3 c4 hf
            go_wp2
            go_ret
            exact ⟨by rw [HF.out]; rfl, HB.out⟩
      · have c0b : decide (x < ((l2.length : Nat) : Int)) = false := decide_eq_false c0
        have HE := Aside0.mk (show x = (l2.length : Nat) by have := HX.out.1; have := HX.out.2; omega)
        clear c0
        have hbx : wr.cell? ⟨w.heap.size, 0, none⟩ = some (.slice A2 l2.length c2) := (blk_cell HBX.out 0).trans rfl
        have hall : l2.all (kidOk body bodies) = true := by
          rw [List.all_eq_true]
          intro z hz
          obtain ⟨j, hj, rfl⟩ := List.getElem_of_mem hz
          have := HK.out j (by rw [HE.out]; omega)
          simpa [rd, List.getD, hj] using this
        have hv : kidsOk l2 body bodies = (decide (1 ≤ l2.length) && decide (l2.length ≤ 2)) := by unfold kidsOk; rw [hall, Bool.true_and]
        have HV := Aside0.mk hv
        clear hall hv
        by_cases n1 : 1 ≤ l2.length
        · have m1 : decide ((l2.length : Int) ≥ 1) = true := decide_eq_true (by omega)
          have m1' : decide ((1 : Int) ≤ (l2.length : Int)) = true := decide_eq_true (by omega)
          have m1'' : decide (1 ≤ l2.length) = true := decide_eq_true n1
          by_cases n2 : l2.length ≤ 2
          · have m2 : decide ((l2.length : Int) ≤ 2) = true := decide_eq_true (by omega)
            have m2' : decide (l2.length ≤ 2) = true := decide_eq_true n2
            clear n1 n2
            go_wp2
            go_ret
            exact ⟨by rw [HV.out, m1'', m2']; rfl, HB.out⟩
          · have m2 : decide ((l2.length : Int) ≤ 2) = false := decide_eq_false (by omega)
            have m2' : decide (l2.length ≤ 2) = false := decide_eq_false n2
            clear n1 n2
            go_wp2
            go_ret
            exact ⟨by rw [HV.out, m1'', m2']; rfl, HB.out⟩
        · have m1 : decide ((l2.length : Int) ≥ 1) = false := decide_eq_false (by omega)
          have m1' : decide ((1 : Int) ≤ (l2.length : Int)) = false := decide_eq_false (by omega)
          have m1'' : decide (1 ≤ l2.length) = false := decide_eq_false n1
          clear n1
          go_wp2
          go_ret
          exact ⟨by rw [HV.out, m1'']; rfl, HB.out⟩
  rw [if_neg q2] at h ⊢
  by_cases q3 : a0 = 3 ∧ l1.length = 0 ∧ l2.length = 0 ∧ a3 = 0
  · rw [if_pos q3] at h ⊢
    obtain rfl : true = r := by simpa using h
    clear h q1 q2 q3
    have y1 : ∀ W, (Instr.typeAssert (.iface 95 (.agg #[])) 57 89 true).run Tryd.prog W = .ok (.tuple #[.agg #[.slice none 0 0], .bool false]) W := fun W => by kernel_rfl
    have y2 : ∀ W, (Instr.typeAssert (.iface 95 (.agg #[])) 57 93 true).run Tryd.prog W = .ok (.tuple #[.agg #[.slice none 0 0], .bool false]) W := fun W => by kernel_rfl
    have y3 : ∀ W, (Instr.typeAssert (.iface 95 (.agg #[])) 57 95 true).run Tryd.prog W = .ok (.tuple #[.agg #[], .bool true]) W := fun W => by kernel_rfl
    go_enter Tryd.func47, Tryd.ntmps47
    go_wp2
    go_ret
    exact ⟨rfl, by repeat (first | exact Below.refl _ _ | apply pw_below_drewN | apply below_alloc)⟩
  rw [if_neg q3] at h ⊢
  by_cases q4 : a0 = 4 ∧ l1.length = 0 ∧ l2.length = 0
  · rw [if_pos q4] at h ⊢
    have H1 := Aside0.mk h
    clear h q1 q2 q3 q4
    have y1 : ∀ W, (Instr.typeAssert (.iface 97 (.agg #[.int .i64 a3])) 57 89 true).run Tryd.prog W = .ok (.tuple #[.agg #[.slice none 0 0], .bool false]) W := fun W => by kernel_rfl
    have y2 : ∀ W, (Instr.typeAssert (.iface 97 (.agg #[.int .i64 a3])) 57 93 true).run Tryd.prog W = .ok (.tuple #[.agg #[.slice none 0 0], .bool false]) W := fun W => by kernel_rfl
    have y3 : ∀ W, (Instr.typeAssert (.iface 97 (.agg #[.int .i64 a3])) 57 95 true).run Tryd.prog W = .ok (.tuple #[.agg #[], .bool false]) W := fun W => by kernel_rfl
    have y4 : ∀ W, (Instr.typeAssert (.iface 97 (.agg #[.int .i64 a3])) 57 97 true).run Tryd.prog W = .ok (.tuple #[.agg #[.int .i64 a3], .bool true]) W := fun W => by kernel_rfl
    go_enter Tryd.func47, Tryd.ntmps47
    go_wp2_with fail
    refine (impl_isReg.calls a3 r _ H1.out).mono ?_
    rintro e w1 ⟨rfl, hd⟩
    obtain ⟨nd, rfl⟩ := hd.out
    go_wp2
    go_ret
    exact ⟨rfl, by repeat (first | exact Below.refl _ _ | apply pw_below_drewN | apply below_alloc)⟩
  rw [if_neg q4] at h ⊢
  obtain rfl : false = r := by simpa using h
  clear h q1 q2 q3 q4
  have y1 : ∀ W, (Instr.typeAssert .nilIface 57 89 true).run Tryd.prog W = .ok (.tuple #[.agg #[.slice none 0 0], .bool false]) W := fun W => by kernel_rfl
  have y2 : ∀ W, (Instr.typeAssert .nilIface 57 93 true).run Tryd.prog W = .ok (.tuple #[.agg #[.slice none 0 0], .bool false]) W := fun W => by kernel_rfl
  have y3 : ∀ W, (Instr.typeAssert .nilIface 57 95 true).run Tryd.prog W = .ok (.tuple #[.agg #[], .bool false]) W := fun W => by kernel_rfl
  have y4 : ∀ W, (Instr.typeAssert .nilIface 57 97 true).run Tryd.prog W = .ok (.tuple #[.agg #[.int .i64 0], .bool false]) W := fun W => by kernel_rfl
  go_enter Tryd.func47, Tryd.ntmps47
  go_wp2
  go_ret
  exact ⟨rfl, by repeat (first | exact Below.refl _ _ | apply pw_below_drewN | apply below_alloc)⟩
end Go.Proofs.YtoeepmcaabmjkaaDoor.QTX
namespace Go.Proofs.YtoeepmcaabmjkaaDoor.QTX
open Go.RowKit Go.Proofs.YtoeepmcaabmjkaaDoorW.PrintWords Go.Proofs.YtoeepmcaabmjkaaDoorW.PrintLast Go.Proofs.YtoeepmcaabmjkaaDoorW.PrintMore
attribute [local go_sem] max2_int min2_int max_two min_two max_three min_three max_four min_four   -- for this text's walks alone
set_option linter.unusedVariables false
set_option linter.unusedSimpArgs false
mutual
def impl_treeOf.l0 : Nat → Int → List (S52) → Int → Int → List Int → List (List (S52)) → Option (Int)
  | 0, _, _, _, _, _, _ => none
  | k + 1, x5, x14, x15, x16, x254000, x254001 => if x16 < x15 then (if 0 ≤ x16 then (if x16 < (x14.length : Int) then (impl_treeOf.l1 k x5 x14 x15 x16 ((rd_T52 x14 x16).f2) (((rd_T52 x14 x16).f2).length : Int) 0 x254000 x254001) else (none)) else (none)) else (some x5)
def impl_treeOf.l1 : Nat → Int → List (S52) → Int → Int → List Int → Int → Int → List Int → List (List (S52)) → Option (Int)
  | 0, _, _, _, _, _, _, _, _, _ => none
  | k + 1, x5, x14, x15, x16, x21, x22, x23, x254000, x254001 => if x23 < x22 then (if 0 ≤ x23 then (if x23 < (x21.length : Int) then ((impl_treeOf.f k x254000 x254001 (rd x21 x23)).bind fun t258 => (impl_treeOf.l1 k (wrap64 (x5 + t258)) x14 x15 x16 x21 x22 (wrap64 (x23 + 1)) x254000 x254001)) else (none)) else (none)) else (impl_treeOf.l0 k x5 x14 x15 (wrap64 (x16 + 1)) x254000 x254001)
def impl_treeOf.f : Nat → List Int → List (List (S52)) → Int → Option (Int)
  | 0, _, _, _ => none
  | k + 1, l0_0, l0_1, a1 => if 0 ≤ a1 then (if a1 < (l0_1.length : Int) then (impl_treeOf.l0 k 1 (rd_L9 l0_1 a1) ((rd_L9 l0_1 a1).length : Int) 0 l0_0 l0_1) else (none)) else (none)
end
set_option maxHeartbeats 8000000 in
set_option maxRecDepth 100000 in
theorem impl_treeOf.calls (k : Nat) : ∀ (A0_0 : Option Addr) (c0_0 : Nat) (l0_0 : List Int) (A0_1 : Option Addr) (c0_1 : Nat) (l0_1 : List (List (S52))) (a1 : Int) (r : Int) (w : World) (hr0_0 : Kd.C (Kd.int .i64) w A0_0 l0_0.length l0_0) (hc0_0 : l0_0.length ≤ c0_0) (hr0_1 : Kd.C (Kd.slice 52 k52) w A0_1 l0_1.length l0_1) (hc0_1 : l0_1.length ≤ c0_1) (h : impl_treeOf.f k l0_0 l0_1 a1 = some r),
    Calls Tryd.prog 48 #[.agg #[.slice A0_0 l0_0.length c0_0, .slice A0_1 l0_1.length c0_1], .int .i64 a1] w fun e w' => e = .returned (.int .i64 r) ∧ Below w.heap.size w w' := by
  induction k using Nat.strongRecOn with
  | _ k ih =>
  intro A0_0 c0_0 l0_0 A0_1 c0_1 l0_1 a1 r w hr0_0 hc0_0 hr0_1 hc0_1 h
  cases k with
  | zero => exact absurd h (by simp [impl_treeOf.f])
  | succ k =>
  simp only [impl_treeOf.f] at h
  have hu30 := Tryd.underlying30
  have hu52 := Tryd.underlying52
  have HR0_0 := Aside0.mk hr0_0
  have HC0_0 := Aside0.mk hc0_0
  clear hr0_0 hc0_0
  have HR0_1 := Aside0.mk hr0_1
  have HC0_1 := Aside0.mk hc0_1
  clear hr0_1 hc0_1
  have HB := Aside0.mk (Below.refl w.heap.size w)
  have H : (if 0 ≤ a1 then (if a1 < (l0_1.length : Int) then (impl_treeOf.l0 k 1 (rd_L9 l0_1 a1) ((rd_L9 l0_1 a1).length : Int) 0 l0_0 l0_1) else (none)) else (none)) = some r := h
  clear h
  by_cases c3 : 0 ≤ a1
  · rw [if_pos c3] at H
    have c3b0 : decide (0 ≤ a1) = true := decide_eq_true c3
    clear c3
    by_cases c4 : a1 < (l0_1.length : Int)
    · rw [if_pos c4] at H
      have c4b0 : decide (a1 < (l0_1.length : Int)) = true := decide_eq_true c4
      clear c4
      have H' := Aside0.mk H
      clear H
      go_enter Tryd.func48, Tryd.ntmps48
      go_wp2_with (first | ((with_reducible refine gate_dst (N := 2) rfl ?_); refine box_event ?hg (N := 2) ?hd (cs := #[.slice A0_0 l0_0.length c0_0, .slice A0_1 l0_1.length c0_1]) (t := 30) ?hr ?_; (case hd => rfl); (case hg => rfl); (case hr => first | (go_simp; done) | (go_simp; rfl)); intro gb253 hg w5 hbox hb; have n0_ := Aside0.mk (below_step (by repeat (first | (with_reducible first | exact HB.out | apply below_alloc | apply pw_below_drewN | apply below_drew1) | exact HB.out)) hb); have n1_ := Aside0.mk (hbox); have n2_ := Aside0.mk ((by rw [hg]; exact (below_size (by repeat (first | (with_reducible first | exact HB.out | apply below_alloc | apply pw_below_drewN | apply below_drew1) | exact HB.out))) : w.heap.size ≤ gb253)); have n3_ := Aside0.mk ((by rw [hg]; exact (below_size (by repeat (first | (with_reducible first | exact HB.out | apply below_alloc | apply pw_below_drewN | apply below_drew1) | exact HB.out))) : w.heap.size ≤ gb253)); clear HB; have HB := n0_; have BK253 := n1_; have GW253 := n2_; have GE253 := n3_; clear n0_ n1_ n2_ n3_; clear hb hbox hg; have hcz6_0 : w5.cell? ⟨gb253, 0, none⟩ = some (.slice A0_0 l0_0.length c0_0) := (blk_cell BK253.out 0).trans rfl; have hcz6_1 : w5.cell? ⟨gb253, 1, none⟩ = some (.slice A0_1 l0_1.length c0_1) := (blk_cell BK253.out 1).trans rfl; have hfz6_0 := blk_frozen BK253.out 0; have hfz6_1 := blk_frozen BK253.out 1; have p254 : 0 ≤ (a1 : Int) := of_decide_eq_true (by first | (with_reducible assumption) | assumption); have q254 : a1 < (l0_1.length : Int) := of_decide_eq_true (by first | (with_reducible assumption) | assumption); obtain ⟨ad254, A254_0, c254_0, e254, hx254_0, hl254_0, hi254_0⟩ := at_L9 HR0_1.out a1 p254 q254; cases e254; replace hx254_0 := (HB.out.cell (World.block_lt_of_cell? w _ hx254_0)).trans hx254_0; have HR254_0 := Aside0.mk hi254_0; have HC254_0 := Aside0.mk hl254_0; clear hi254_0 hl254_0; replace p254 := eq_true p254; replace q254 := eq_true q254))
      go_loopg [5, 16] k (fun kq v5 v16 w' => ∃ (x5_1 : Int) (x16_1 : Int), v5 = .int .i64 x5_1 ∧ v16 = .int .i64 x16_1 ∧ Aside0 (impl_treeOf.l0 kq x5_1 (rd_L9 l0_1 a1) ((rd_L9 l0_1 a1).length : Int) x16_1 l0_0 l0_1 = some r) ∧ Aside0 (kq ≤ k) ∧ Aside0 (w'.heap[gb253]? = some (.cells #[(.slice A0_0 l0_0.length c0_0), (.slice (some ad254) l0_1.length c0_1)] 30 (0, 0))) ∧ Aside0 (Below w.heap.size w w'))
      case atStart => exact ⟨(1), (0), (by first | rfl | (simp; done) | (simp [*]; done)), (by first | rfl | (simp; done) | (simp [*]; done)), H', ⟨Nat.le_refl _⟩, ⟨by (with_reducible repeat (first | refine blk_drewN ?_ _ | refine blk_drew ?_ | refine blk_alloc ?_ _)); exact BK253.out⟩, ⟨by repeat (first | (with_reducible first | exact HB.out | apply below_alloc | apply pw_below_drewN | apply below_drew1 | refine below_set ?_ GE253.out) | exact HB.out)⟩⟩
      case round =>
        clear H'
        try clear c2
        try clear p2
        try clear q2
        try clear hx2
        try clear c3
        try clear c3b0
        try clear c4
        try clear c4b0
        try clear hcz6_0
        try clear hcz6_1
        try clear hfz6_0
        try clear hfz6_1
        try clear hx254_0
        try clear p254
        try clear q254
        obtain ⟨x5_1, x16_1, rfl, rfl, HA, HK1, BK253, HB⟩ := hrel
        cases gk with
        | zero => exact absurd HA.out (by simp [impl_treeOf.l0])
        | succ k1 =>
          have H := HA.out
          clear HA
          simp only [impl_treeOf.l0] at H
          by_cases c7 : x16_1 < ((rd_L9 l0_1 a1).length : Int)
          · rw [if_pos c7] at H
            have c7b0 : decide (x16_1 < ((rd_L9 l0_1 a1).length : Int)) = true := decide_eq_true c7
            clear c7
            by_cases c8 : 0 ≤ x16_1
            · rw [if_pos c8] at H
              have c8b0 : decide (0 ≤ x16_1) = true := decide_eq_true c8
              clear c8
              by_cases c9 : x16_1 < ((rd_L9 l0_1 a1).length : Int)
              · rw [if_pos c9] at H
                have c9b0 : decide (x16_1 < ((rd_L9 l0_1 a1).length : Int)) = true := decide_eq_true c9
                clear c9
                have H' := Aside0.mk H
                clear H
                have p255 : 0 ≤ (x16_1 : Int) := of_decide_eq_true (by first | (with_reducible assumption) | assumption)
                have q255 : x16_1 < ((rd_L9 l0_1 a1).length : Int) := of_decide_eq_true (by first | (with_reducible assumption) | assumption)
                obtain ⟨ad255, A255_1, c255_1, A255_2, c255_2, e255, hx255_0, hx255_1, hx255_2, hx255_3, hl255_1, hi255_1, hl255_2, hi255_2⟩ := at_T52 HR254_0.out x16_1 p255 q255
                cases e255
                replace hx255_0 := (HB.out.cell (World.block_lt_of_cell? w _ hx255_0)).trans hx255_0
                replace hx255_1 := (HB.out.cell (World.block_lt_of_cell? w _ hx255_1)).trans hx255_1
                replace hx255_2 := (HB.out.cell (World.block_lt_of_cell? w _ hx255_2)).trans hx255_2
                replace hx255_3 := (HB.out.cell (World.block_lt_of_cell? w _ hx255_3)).trans hx255_3
                have HR255_1 := Aside0.mk hi255_1
                have HC255_1 := Aside0.mk hl255_1
                clear hi255_1 hl255_1
                have HR255_2 := Aside0.mk hi255_2
                have HC255_2 := Aside0.mk hl255_2
                clear hi255_2 hl255_2
                replace p255 := eq_true p255
                replace q255 := eq_true q255
                go_wp2_with (first | ((with_reducible refine gate_dst (N := 7) rfl ?_); refine box_event ?hg (N := 7) ?hd (cs := #[.int .i64 0, .slice none 0 0, .slice none 0 0, .int .i64 0]) (t := 52) ?hr ?_; (case hd => rfl); (case hg => rfl); (case hr => first | (go_simp; done) | (go_simp; rfl)); intro gb256 hg w10 hbox hb; have n0_ := Aside0.mk (blk_below (g := gb253) (o := .cells #[.slice A0_0 l0_0.length c0_0, .slice (some ad254) l0_1.length c0_1] 30 (0, 0)) (by (with_reducible repeat (first | refine blk_drewN ?_ _ | refine blk_drew ?_ | refine blk_alloc ?_ _)); exact BK253.out) hb); have n1_ := Aside0.mk (below_step (by repeat (first | (with_reducible first | exact HB.out | apply below_alloc | apply pw_below_drewN | apply below_drew1 | refine below_set ?_ GE253.out) | exact HB.out)) hb); have n2_ := Aside0.mk (hbox); have n3_ := Aside0.mk ((by rw [hg]; exact (below_size (by repeat (first | (with_reducible first | exact HB.out | apply below_alloc | apply pw_below_drewN | apply below_drew1 | refine below_set ?_ GE253.out) | exact HB.out))) : w.heap.size ≤ gb256)); have n4_ := Aside0.mk ((by rw [hg]; exact (below_size (by repeat (first | (with_reducible first | exact HB.out | apply below_alloc | apply pw_below_drewN | apply below_drew1 | refine below_set ?_ GE253.out) | exact HB.out))) : w.heap.size ≤ gb256)); have n5_ := Aside0.mk ((by rw [hg]; exact Nat.ne_of_lt (blk_lt (g := gb253) (o := .cells #[.slice A0_0 l0_0.length c0_0, .slice (some ad254) l0_1.length c0_1] 30 (0, 0)) (by (with_reducible repeat (first | refine blk_drewN ?_ _ | refine blk_drew ?_ | refine blk_alloc ?_ _)); exact BK253.out)) : gb253 ≠ gb256)); have n6_ := Aside0.mk ((by rw [hg]; exact Nat.ne_of_gt (blk_lt (g := gb253) (o := .cells #[.slice A0_0 l0_0.length c0_0, .slice (some ad254) l0_1.length c0_1] 30 (0, 0)) (by (with_reducible repeat (first | refine blk_drewN ?_ _ | refine blk_drew ?_ | refine blk_alloc ?_ _)); exact BK253.out)) : gb256 ≠ gb253)); clear BK253; clear HB; have BK253 := n0_; have HB := n1_; have BK256 := n2_; have GW256 := n3_; have GE256 := n4_; have NB253_256 := n5_; have NB256_253 := n6_; clear n0_ n1_ n2_ n3_ n4_ n5_ n6_; clear hb hbox hg; have hnb11 := NB256_253.out; have hnc11 := NB253_256.out; have hcz12_0 : w10.cell? ⟨gb256, 0, none⟩ = some (.int .i64 0) := (blk_cell BK256.out 0).trans rfl; have hcz12_1 : w10.cell? ⟨gb256, 1, none⟩ = some (.slice none 0 0) := (blk_cell BK256.out 1).trans rfl; have hcz12_2 : w10.cell? ⟨gb256, 2, none⟩ = some (.slice none 0 0) := (blk_cell BK256.out 2).trans rfl; have hcz12_3 : w10.cell? ⟨gb256, 3, none⟩ = some (.int .i64 0) := (blk_cell BK256.out 3).trans rfl; have hfz12_0 := blk_frozen BK256.out 0; have hfz12_1 := blk_frozen BK256.out 1; have hfz12_2 := blk_frozen BK256.out 2; have hfz12_3 := blk_frozen BK256.out 3))
                go_loopg [5, 23] k1 (fun kq v5 v23 w' => ∃ (x5_2 : Int) (x23_2 : Int), v5 = .int .i64 x5_2 ∧ v23 = .int .i64 x23_2 ∧ Aside0 (impl_treeOf.l1 kq x5_2 (rd_L9 l0_1 a1) ((rd_L9 l0_1 a1).length : Int) x16_1 ((rd_T52 (rd_L9 l0_1 a1) x16_1).f2) (((rd_T52 (rd_L9 l0_1 a1) x16_1).f2).length : Int) x23_2 l0_0 l0_1 = some r) ∧ Aside0 (kq ≤ k1) ∧ Aside0 (w'.heap[gb253]? = some (.cells #[(.slice A0_0 l0_0.length c0_0), (.slice (some ad254) l0_1.length c0_1)] 30 (0, 0))) ∧ Aside0 (w'.heap[gb256]? = some (.cells #[.int .i64 ((rd_T52 (rd_L9 l0_1 a1) x16_1).f0), (.slice A255_1 ((rd_T52 (rd_L9 l0_1 a1) x16_1).f1).length c255_1), (.slice A255_2 ((rd_T52 (rd_L9 l0_1 a1) x16_1).f2).length c255_2), .int .i64 ((rd_T52 (rd_L9 l0_1 a1) x16_1).f3)] 52 (0, 0))) ∧ Aside0 (Below w.heap.size w w'))
                case atStart => exact ⟨(x5_1), (0), (by first | rfl | (simp; done) | (simp [*]; done)), (by first | rfl | (simp; done) | (simp [*]; done)), H', ⟨Nat.le_refl _⟩, ⟨by (with_reducible repeat (first | refine blk_drewN ?_ _ | refine blk_drew ?_ | refine blk_alloc ?_ _)); refine blk_far ?_ NB253_256.out _; (with_reducible repeat (first | refine blk_drewN ?_ _ | refine blk_drew ?_ | refine blk_alloc ?_ _)); refine blk_far ?_ NB253_256.out _; (with_reducible repeat (first | refine blk_drewN ?_ _ | refine blk_drew ?_ | refine blk_alloc ?_ _)); refine blk_far ?_ NB253_256.out _; (with_reducible repeat (first | refine blk_drewN ?_ _ | refine blk_drew ?_ | refine blk_alloc ?_ _)); refine blk_far ?_ NB253_256.out _; (with_reducible repeat (first | refine blk_drewN ?_ _ | refine blk_drew ?_ | refine blk_alloc ?_ _)); exact BK253.out⟩, ⟨by (with_reducible repeat (first | refine blk_drewN ?_ _ | refine blk_drew ?_ | refine blk_alloc ?_ _)); refine blk_put (cs := #[.int .i64 ((rd_T52 (rd_L9 l0_1 a1) x16_1).f0), .slice A255_1 ((rd_T52 (rd_L9 l0_1 a1) x16_1).f1).length c255_1, .slice A255_2 ((rd_T52 (rd_L9 l0_1 a1) x16_1).f2).length c255_2, .int .i64 0]) ?_ 3 _ rfl; (with_reducible repeat (first | refine blk_drewN ?_ _ | refine blk_drew ?_ | refine blk_alloc ?_ _)); refine blk_put (cs := #[.int .i64 ((rd_T52 (rd_L9 l0_1 a1) x16_1).f0), .slice A255_1 ((rd_T52 (rd_L9 l0_1 a1) x16_1).f1).length c255_1, .slice none 0 0, .int .i64 0]) ?_ 2 _ rfl; (with_reducible repeat (first | refine blk_drewN ?_ _ | refine blk_drew ?_ | refine blk_alloc ?_ _)); refine blk_put (cs := #[.int .i64 ((rd_T52 (rd_L9 l0_1 a1) x16_1).f0), .slice none 0 0, .slice none 0 0, .int .i64 0]) ?_ 1 _ rfl; (with_reducible repeat (first | refine blk_drewN ?_ _ | refine blk_drew ?_ | refine blk_alloc ?_ _)); refine blk_put (cs := #[.int .i64 0, .slice none 0 0, .slice none 0 0, .int .i64 0]) ?_ 0 _ rfl; (with_reducible repeat (first | refine blk_drewN ?_ _ | refine blk_drew ?_ | refine blk_alloc ?_ _)); exact BK256.out⟩, ⟨by repeat (first | (with_reducible first | exact HB.out | apply below_alloc | apply pw_below_drewN | apply below_drew1 | refine below_set ?_ GE253.out | refine below_set ?_ GE256.out) | exact HB.out)⟩⟩
                case round =>
                  clear H'
                  try clear c1
                  try clear c2
                  try clear p2
                  try clear q2
                  try clear hx2
                  try clear c3
                  try clear c3b0
                  try clear c4
                  try clear c4b0
                  try clear c7
                  try clear c7b0
                  try clear c8
                  try clear c8b0
                  try clear c9
                  try clear c9b0
                  try clear c11
                  try clear hcz12_0
                  try clear hcz12_1
                  try clear hcz12_2
                  try clear hcz12_3
                  try clear hcz6_0
                  try clear hcz6_1
                  try clear hfz12_0
                  try clear hfz12_1
                  try clear hfz12_2
                  try clear hfz12_3
                  try clear hfz6_0
                  try clear hfz6_1
                  try clear hx254_0
                  try clear hx255_0
                  try clear hx255_1
                  try clear hx255_2
                  try clear hx255_3
                  try clear p2
                  try clear p254
                  try clear p255
                  try clear q2
                  try clear q254
                  try clear q255
                  obtain ⟨x5_2, x23_2, rfl, rfl, HA, HK2, BK253, BK256, HB⟩ := hrel
                  cases gk with
                  | zero => exact absurd HA.out (by simp [impl_treeOf.l1])
                  | succ k2 =>
                    have H := HA.out
                    clear HA
                    simp only [impl_treeOf.l1] at H
                    by_cases c13 : x23_2 < (((rd_T52 (rd_L9 l0_1 a1) x16_1).f2).length : Int)
                    · rw [if_pos c13] at H
                      have c13b0 : decide (x23_2 < (((rd_T52 (rd_L9 l0_1 a1) x16_1).f2).length : Int)) = true := decide_eq_true c13
                      clear c13
                      by_cases c14 : 0 ≤ x23_2
                      · rw [if_pos c14] at H
                        have c14b0 : decide (0 ≤ x23_2) = true := decide_eq_true c14
                        clear c14
                        by_cases c15 : x23_2 < (((rd_T52 (rd_L9 l0_1 a1) x16_1).f2).length : Int)
                        · rw [if_pos c15] at H
                          have c15b0 : decide (x23_2 < (((rd_T52 (rd_L9 l0_1 a1) x16_1).f2).length : Int)) = true := decide_eq_true c15
                          clear c15
                          replace H := Option.bind_eq_some_iff.mp H
                          obtain ⟨t258, A160, H⟩ := H
                          replace H : (impl_treeOf.l1 k2 (wrap64 (x5_2 + t258)) (rd_L9 l0_1 a1) ((rd_L9 l0_1 a1).length : Int) x16_1 ((rd_T52 (rd_L9 l0_1 a1) x16_1).f2) (((rd_T52 (rd_L9 l0_1 a1) x16_1).f2).length : Int) (wrap64 (x23_2 + 1)) l0_0 l0_1) = some r := H
                          have A16 := Aside0.mk A160
                          clear A160
                          have H' := Aside0.mk H
                          clear H
                          have p257 : 0 ≤ (x23_2 : Int) := of_decide_eq_true (by first | (with_reducible assumption) | assumption)
                          have q257 : x23_2 < (((rd_T52 (rd_L9 l0_1 a1) x16_1).f2).length : Int) := of_decide_eq_true (by first | (with_reducible assumption) | assumption)
                          obtain ⟨ad257, e257, hx257_0⟩ := Kd.at_int HR255_2.out x23_2 p257 q257
                          cases e257
                          replace hx257_0 := (HB.out.cell (World.block_lt_of_cell? w _ hx257_0)).trans hx257_0
                          replace p257 := eq_true p257
                          replace q257 := eq_true q257
                          have hnb17 := NB253_256.out
                          have hnc17 := NB256_253.out
                          have hcz18_0 : wr.cell? ⟨gb253, 0, none⟩ = some (.slice A0_0 l0_0.length c0_0) := (blk_cell BK253.out 0).trans rfl
                          have hcz18_1 : wr.cell? ⟨gb253, 1, none⟩ = some (.slice (some ad254) l0_1.length c0_1) := (blk_cell BK253.out 1).trans rfl
                          have hfz18_0 := blk_frozen BK253.out 0
                          have hfz18_1 := blk_frozen BK253.out 1
                          go_wp2_with (first | ((with_reducible refine gate_callee (f := 48) rfl ?_); refine goesL_ (some 30) rfl rfl Tryd.func48 (by kernel_rfl) rfl #[.agg #[.slice A0_0 l0_0.length c0_0, .slice (some ad254) l0_1.length c0_1], .int .i64 (rd ((rd_T52 (rd_L9 l0_1 a1) x16_1).f2) x23_2)] rfl (by (try simp only [List.map_toArray, List.map_cons, List.map_nil]); first | done | rfl | (simp only [List.length_drop, List.length_take]; rfl)) ?_; (with_reducible refine (ih k2 (by have := HK1.out; have := HK2.out; omega) _ _ l0_0 _ _ l0_1 (rd ((rd_T52 (rd_L9 l0_1 a1) x16_1).f2) x23_2) t258 _ ?side1 ?side2 ?side3 ?side4 A16.out).mono ?_); (case side1 => repeat (first | exact (Kd.C_below HR0_0.out HB.out) | (with_reducible refine Kd.C_alloc ?_ _) | (with_reducible refine Kd.C_drewN ?_ _) | (with_reducible refine Kd.C_drew ?_))); (case side2 => exact HC0_0.out); (case side3 => repeat (first | exact (Kd.C_below HR0_1.out HB.out) | (with_reducible refine Kd.C_alloc ?_ _) | (with_reducible refine Kd.C_drewN ?_ _) | (with_reducible refine Kd.C_drew ?_))); (case side4 => exact HC0_1.out); rintro e w19 ⟨rfl, hb⟩; refine ⟨_, rfl, ?_⟩; have n0_ := Aside0.mk (blk_below (g := gb253) (o := .cells #[.slice A0_0 l0_0.length c0_0, .slice (some ad254) l0_1.length c0_1] 30 (0, 0)) (by (with_reducible repeat (first | refine blk_drewN ?_ _ | refine blk_drew ?_ | refine blk_alloc ?_ _)); exact BK253.out) hb); have n1_ := Aside0.mk (blk_below (g := gb256) (o := .cells #[.int .i64 ((rd_T52 (rd_L9 l0_1 a1) x16_1).f0), .slice A255_1 ((rd_T52 (rd_L9 l0_1 a1) x16_1).f1).length c255_1, .slice (some ad257) ((rd_T52 (rd_L9 l0_1 a1) x16_1).f2).length c255_2, .int .i64 ((rd_T52 (rd_L9 l0_1 a1) x16_1).f3)] 52 (0, 0)) (by (with_reducible repeat (first | refine blk_drewN ?_ _ | refine blk_drew ?_ | refine blk_alloc ?_ _)); exact BK256.out) hb); have n2_ := Aside0.mk (below_step (by repeat (first | (with_reducible first | exact HB.out | apply below_alloc | apply pw_below_drewN | apply below_drew1 | refine below_set ?_ GE253.out | refine below_set ?_ GE256.out) | exact HB.out)) hb); clear BK253; clear BK256; clear HB; have BK253 := n0_; have BK256 := n1_; have HB := n2_; clear n0_ n1_ n2_; (try clear hb); (try clear hb2); (try clear hk); (try clear hi)))
                          go_roundg k2
                          case measure => have := HK1.out; have := HK2.out; omega
                          case rel => exact ⟨(wrap64 (x5_2 + t258)), (wrap64 (x23_2 + 1)), (by first | rfl | (simp; done) | (simp [*]; done)), (by first | rfl | (simp; done) | (simp [*]; done)), H', ⟨by have := HK1.out; have := HK2.out; omega⟩, ⟨by (with_reducible repeat (first | refine blk_drewN ?_ _ | refine blk_drew ?_ | refine blk_alloc ?_ _)); exact BK253.out⟩, ⟨by (with_reducible repeat (first | refine blk_drewN ?_ _ | refine blk_drew ?_ | refine blk_alloc ?_ _)); exact BK256.out⟩, ⟨by repeat (first | (with_reducible first | exact HB.out | apply below_alloc | apply pw_below_drewN | apply below_drew1 | refine below_set ?_ GE253.out | refine below_set ?_ GE256.out) | exact HB.out)⟩⟩
                        · rw [if_neg c15] at H
                          exact absurd H (by simp)
                      · rw [if_neg c14] at H
                        exact absurd H (by simp)
                    · rw [if_neg c13] at H
                      have c13b0 : decide (x23_2 < (((rd_T52 (rd_L9 l0_1 a1) x16_1).f2).length : Int)) = false := decide_eq_false c13
                      clear c13
                      have H' := Aside0.mk H
                      clear H
                      go_wp2
                      go_roundg k2
                      case measure => have := HK1.out; have := HK2.out; omega
                      case rel => exact ⟨(x5_2), (wrap64 (x16_1 + 1)), (by first | rfl | (simp; done) | (simp [*]; done)), (by first | rfl | (simp; done) | (simp [*]; done)), H', ⟨by have := HK1.out; have := HK2.out; omega⟩, ⟨by (with_reducible repeat (first | refine blk_drewN ?_ _ | refine blk_drew ?_ | refine blk_alloc ?_ _)); exact BK253.out⟩, ⟨by repeat (first | (with_reducible first | exact HB.out | apply below_alloc | apply pw_below_drewN | apply below_drew1 | refine below_set ?_ GE253.out | refine below_set ?_ GE256.out) | exact HB.out)⟩⟩
              · rw [if_neg c9] at H
                exact absurd H (by simp)
            · rw [if_neg c8] at H
              exact absurd H (by simp)
          · rw [if_neg c7] at H
            have c7b0 : decide (x16_1 < ((rd_L9 l0_1 a1).length : Int)) = false := decide_eq_false c7
            clear c7
            obtain rfl := Option.some.inj H
            go_wp2
            go_ret
            exact ⟨by first | rfl | (simp [errW_none, errW_some] <;> rfl) | (simp [*, errW_none, errW_some] <;> rfl), by repeat (first | (with_reducible first | exact HB.out | apply below_alloc | apply pw_below_drewN | apply below_drew1 | refine below_set ?_ GE253.out) | exact HB.out)⟩
    · rw [if_neg c4] at H
      exact absurd H (by simp)
  · rw [if_neg c3] at H
    exact absurd H (by simp)
end Go.Proofs.YtoeepmcaabmjkaaDoor.QTX
namespace Go.Proofs.YtoeepmcaabmjkaaDoor.QTX
open Go.RowKit Go.Proofs.YtoeepmcaabmjkaaDoorW.PrintWords Go.Proofs.YtoeepmcaabmjkaaDoorW.PrintLast Go.Proofs.YtoeepmcaabmjkaaDoorW.PrintMore
attribute [local go_sem] max2_int min2_int max_two min_two max_three min_three max_four min_four   -- for this text's walks alone
set_option linter.unusedVariables false
set_option linter.unusedSimpArgs false
def innerF (k : Nat) (cells body bodies : Int) : List S52 → Option Bool
  | [] => some true
  | a :: l => (impl_actOk.f k a.f0 a.f1 a.f2 a.f3 cells body bodies).bind fun b => if b = true then innerF k cells body bodies l else some false
def outerF (k : Nat) (cells bodies : Int) : Nat → List (List S52) → Option Bool
  | _, [] => some true
  | i, l :: ls => if l.length > 4 then some false else (innerF k cells (i : Int) bodies l).bind fun b => if b = true then outerF k cells bodies (i + 1) ls else some false
def impl_ProgOk.f (k : Nat) (l0_0 : List Int) (l0_1 : List (List (S52))) : Option Bool :=
  if l0_0.length > 3 then some false else (impl_allNums.f k l0_0).bind fun b => if b = true then (if l0_1.length < 1 ∨ 4 < l0_1.length then some false else (outerF k (l0_0.length : Int) (l0_1.length : Int) 0 l0_1).bind fun b => if b = true then (impl_treeOf.f k l0_0 l0_1 0).bind fun t => some (decide (t ≤ 7)) else some false) else some false
theorem C_rows {w : World} {A : Option Addr} {n : Nat} {xs : List (List S52)} (h : Kd.C (Kd.slice 52 k52) w A n xs) (i : Nat) (hi : i < n) : ∃ ad A1 c1 l, A = some ad ∧ xs[i]? = some l ∧ w.cell? (ad.add i) = some (.slice A1 l.length c1) ∧ l.length ≤ c1 ∧ Kd.C k52 w A1 l.length l := by
  have hn := h.1
  obtain ⟨ad, c, e, _, hK, hc0⟩ := Kd.C_get h [] (i : Int) (by omega) (by omega)
  obtain ⟨A1, c1, rfl, l1, g1⟩ := hK
  have hx : xs[i]? = some (xs.getD (i : Int).toNat []) := by
    rw [List.getD_eq_getElem?_getD, Int.toNat_natCast, List.getElem?_eq_getElem (show i < xs.length by omega)]
    rfl
  refine ⟨ad, A1, c1, _, e, hx, ?_, l1, g1⟩
  have := hc0 0 _ rfl
  rw [show (Kd.slice 52 k52).sz = 1 from rfl, Nat.mul_one, Nat.add_zero, Int.toNat_natCast] at this
  exact this
set_option maxHeartbeats 8000000 in
set_option maxRecDepth 100000 in
theorem impl_ProgOk.calls (k : Nat) (A0_0 : Option Addr) (c0_0 : Nat) (l0_0 : List Int) (A0_1 : Option Addr) (c0_1 : Nat) (l0_1 : List (List (S52))) (r : Bool) (w : World) (hr0_0 : Kd.C (Kd.int .i64) w A0_0 l0_0.length l0_0) (hc0_0 : l0_0.length ≤ c0_0) (hr0_1 : Kd.C (Kd.slice 52 k52) w A0_1 l0_1.length l0_1) (hc0_1 : l0_1.length ≤ c0_1) (h : impl_ProgOk.f k l0_0 l0_1 = some r) :
    Calls Tryd.prog 25 #[.agg #[.slice A0_0 l0_0.length c0_0, .slice A0_1 l0_1.length c0_1]] w fun e w' => e = .returned (.bool r) ∧ Below w.heap.size w w' := by
  have hu1 := Tryd.underlying30
  have hu2 := Tryd.underlying52
  have hu3 := Tryd.underlying28
  have hu4 := Tryd.underlying48
  have HR0 := Aside0.mk hr0_0
  have HC0 := Aside0.mk hc0_0
  have HR1 := Aside0.mk hr0_1
  have HC1 := Aside0.mk hc0_1
  clear hr0_0 hc0_0 hr0_1 hc0_1
  have HM := Aside0.mk (show l0_1.length ≤ 9223372036854775807 from HR1.out.2.1)
  unfold impl_ProgOk.f at h
  obtain ⟨w1, hw1⟩ : ∃ w1, w1 = w.alloc (.cells #[.slice A0_0 l0_0.length c0_0, .slice A0_1 l0_1.length c0_1] 30) := ⟨_, rfl⟩
  have HBX := Aside0.mk (show w1.heap[w.heap.size]? = some (.cells #[.slice A0_0 l0_0.length c0_0, .slice A0_1 l0_1.length c0_1] 30 (0, 0)) by rw [hw1]; exact heap_alloc_new w _)
  have HB := Aside0.mk (show Below w.heap.size w w1 by rw [hw1]; exact below_alloc (Below.refl _ _) _)
  go_enter Tryd.func25, Tryd.ntmps25
  go_upto_region 1 with (fail)
  rw [← hw1]
  clear hw1
  have xb0 : w1.cell? ⟨w.heap.size, 0, none⟩ = some (.slice A0_0 l0_0.length c0_0) := (blk_cell HBX.out 0).trans rfl
  have xb1 : w1.cell? ⟨w.heap.size, 1, none⟩ = some (.slice A0_1 l0_1.length c0_1) := (blk_cell HBX.out 1).trans rfl
  by_cases q0 : l0_0.length > 3
  · rw [if_pos q0] at h
    obtain rfl : false = r := by simpa using h
    have d0 : decide ((l0_0.length : Int) > 3) = true := decide_eq_true (by omega)
    have d0' : decide ((3 : Int) < (l0_0.length : Int)) = true := d0
    have d0'' : decide (3 < l0_0.length) = true := decide_eq_true q0
    clear q0 h
    go_wp2
    go_ret
    exact ⟨rfl, HB.out⟩
  rw [if_neg q0] at h
  have d0 : decide ((l0_0.length : Int) > 3) = false := decide_eq_false (by omega)
  have d0' : decide ((3 : Int) < (l0_0.length : Int)) = false := d0
  have d0'' : decide (3 < l0_0.length) = false := decide_eq_false q0
  clear q0
  obtain ⟨b, hb, h⟩ := Option.bind_eq_some_iff.1 h
  have H1 := Aside0.mk hb
  clear hb
  cases b with
  | false =>
    obtain rfl : false = r := by simpa using h
    clear h
    go_wp2_with fail
    refine (impl_allNums.calls k A0_0 c0_0 l0_0 false _ (Kd.C_below HR0.out HB.out) HC0.out H1.out).mono ?_
    rintro e w2 ⟨rfl, hd⟩
    obtain ⟨nd, rfl⟩ := hd.out
    go_wp2
    go_ret
    exact ⟨rfl, pw_below_drewN HB.out _⟩
  | true =>
  rw [if_pos rfl] at h
  go_wp2_with fail
  refine (impl_allNums.calls k A0_0 c0_0 l0_0 true _ (Kd.C_below HR0.out HB.out) HC0.out H1.out).mono ?_
  rintro e w2 ⟨rfl, hd⟩
  clear H1
  have HB2 := Aside0.mk (show Below w.heap.size w w2 by obtain ⟨nd, rfl⟩ := hd.out; exact pw_below_drewN HB.out _)
  have HBX2 := Aside0.mk (show w2.heap[w.heap.size]? = some (.cells #[.slice A0_0 l0_0.length c0_0, .slice A0_1 l0_1.length c0_1] 30 (0, 0)) by obtain ⟨nd, rfl⟩ := hd.out; exact HBX.out)
  clear hd xb0 xb1 HB HBX
  have xb0 : w2.cell? ⟨w.heap.size, 0, none⟩ = some (.slice A0_0 l0_0.length c0_0) := (blk_cell HBX2.out 0).trans rfl
  have xb1 : w2.cell? ⟨w.heap.size, 1, none⟩ = some (.slice A0_1 l0_1.length c0_1) := (blk_cell HBX2.out 1).trans rfl
  by_cases q1 : l0_1.length < 1 ∨ 4 < l0_1.length
  · rw [if_pos q1] at h
    obtain rfl : false = r := by simpa using h
    clear h
    by_cases q2 : l0_1.length < 1
    · have d1 : decide ((l0_1.length : Int) < 1) = true := decide_eq_true (by omega)
      have d1' : decide (l0_1.length < 1) = true := decide_eq_true q2
      clear q1 q2
      go_wp2
      go_ret
      exact ⟨rfl, HB2.out⟩
    · have d1 : decide ((l0_1.length : Int) < 1) = false := decide_eq_false (by omega)
      have d1' : decide (l0_1.length < 1) = false := decide_eq_false q2
      have d2 : decide ((l0_1.length : Int) > 4) = true := decide_eq_true (by omega)
      have d2' : decide ((4 : Int) < (l0_1.length : Int)) = true := d2
      have d2'' : decide (4 < l0_1.length) = true := decide_eq_true (by omega)
      clear q1 q2
      go_wp2
      go_ret
      exact ⟨rfl, HB2.out⟩
  rw [if_neg q1] at h
  have d1 : decide ((l0_1.length : Int) < 1) = false := decide_eq_false (by omega)
  have d1' : decide (l0_1.length < 1) = false := decide_eq_false (by omega)
  have d2 : decide ((l0_1.length : Int) > 4) = false := decide_eq_false (by omega)
  have d2' : decide ((4 : Int) < (l0_1.length : Int)) = false := d2
  have d2'' : decide (4 < l0_1.length) = false := decide_eq_false (by omega)
  clear q1
  have H2 := Aside0.mk h
  clear h
  go_wp2
  go_loopw [30] (fun v30 wr => ∃ x : Int, v30 = .int .i64 x ∧ Aside0 (0 ≤ x ∧ x ≤ (l0_1.length : Nat)) ∧ Aside0 ((outerF k (l0_0.length : Int) (l0_1.length : Int) x.toNat (l0_1.drop x.toNat)).bind (fun b => if b = true then (impl_treeOf.f k l0_0 l0_1 0).bind fun t => some (decide (t ≤ 7)) else some false) = some r) ∧ Aside0 (Below w.heap.size w wr) ∧ Aside0 (wr.heap[w.heap.size]? = some (.cells #[.slice A0_0 l0_0.length c0_0, .slice A0_1 l0_1.length c0_1] 30 (0, 0)))) (fun v30 _ => l0_1.length - (intOf v30).toNat)
  case atStart => exact ⟨0, rfl, ⟨by omega, by omega⟩, H2, HB2, HBX2⟩
  case round =>
    clear HB2 HBX2 H2 xb0 xb1
    obtain ⟨x, rfl, HX, HH, HB, HBX⟩ := hrel
    obtain ⟨wo, rfl⟩ : ∃ wo, wo = wr := ⟨_, rfl⟩
    have xb0 : wo.cell? ⟨w.heap.size, 0, none⟩ = some (.slice A0_0 l0_0.length c0_0) := (blk_cell HBX.out 0).trans rfl
    have xb1 : wo.cell? ⟨w.heap.size, 1, none⟩ = some (.slice A0_1 l0_1.length c0_1) := (blk_cell HBX.out 1).trans rfl
    by_cases c0 : x < ((l0_1.length : Nat) : Int)
    · have c0b : decide (x < ((l0_1.length : Nat) : Int)) = true := decide_eq_true c0
      have hx0 := HX.out.1
      obtain ⟨ad, B1, c1, l, ea, hl, hxc, hlc, hlr⟩ := C_rows (Kd.C_below HR1.out HB.out) x.toNat (by omega)
      cases ea
      have HLC := Aside0.mk hlc
      have HLR := Aside0.mk hlr
      have HLM := Aside0.mk (show l.length ≤ 9223372036854775807 from hlr.2.1)
      clear hlc hlr
      have H := HH.out
      clear HH
      have hdrop : l0_1.drop x.toNat = l :: l0_1.drop (x.toNat + 1) := by
        obtain ⟨hlt, rfl⟩ := List.getElem?_eq_some_iff.1 hl
        exact List.drop_eq_getElem_cons hlt
      rw [hdrop, outerF] at H
      clear hdrop hl
      have HP := Aside0.mk c0
      have p0 := eq_true hx0
      have p1 := eq_true c0
      clear c0 hx0
      by_cases q2 : l.length > 4
      · rw [if_pos q2] at H
        obtain rfl : false = r := by simpa using H
        have m1 : decide ((l.length : Int) > 4) = true := decide_eq_true (by omega)
        have m2 : decide ((4 : Int) < (l.length : Int)) = true := m1
        have m3 : decide (4 < l.length) = true := decide_eq_true q2
        clear q2 H
        go_wp2
        go_ret
        exact ⟨rfl, HB.out⟩
      · rw [if_neg q2] at H
        have m1 : decide ((l.length : Int) > 4) = false := decide_eq_false (by omega)
        have m2 : decide ((4 : Int) < (l.length : Int)) = false := m1
        have m3 : decide (4 < l.length) = false := decide_eq_false q2
        clear q2
        have ex : ((x.toNat : Nat) : Int) = x := by have := HX.out.1; omega
        rw [ex] at H
        have EX := Aside0.mk ex
        clear ex
        obtain ⟨g, hg⟩ : ∃ g : Bool → Option Bool, g = fun b => ((if b = true then outerF k (l0_0.length : Int) (l0_1.length : Int) (x.toNat + 1) (l0_1.drop (x.toNat + 1)) else some false).bind (fun b => if b = true then (impl_treeOf.f k l0_0 l0_1 0).bind fun t => some (decide (t ≤ 7)) else some false)) := ⟨_, rfl⟩
        have HG := Aside0.mk hg
        have H2 := Aside0.mk (show (innerF k (l0_0.length : Int) x (l0_1.length : Int) (l.drop (0 : Int).toNat)).bind g = some r by rw [hg]; rw [Option.bind_assoc] at H; exact H)
        clear H hg
        go_wp2
        go_loopw [40] (fun v40 wi => ∃ y : Int, v40 = .int .i64 y ∧ Aside0 (0 ≤ y ∧ y ≤ (l.length : Nat)) ∧ Aside0 ((innerF k (l0_0.length : Int) x (l0_1.length : Int) (l.drop y.toNat)).bind g = some r) ∧ Aside0 (Below wo.heap.size wo wi) ∧ Aside0 (wi.heap[w.heap.size]? = some (.cells #[.slice A0_0 l0_0.length c0_0, .slice (some ad) l0_1.length c0_1] 30 (0, 0)))) (fun v40 _ => l.length - (intOf v40).toNat)
        case atStart => exact ⟨0, rfl, ⟨by omega, by omega⟩, H2, ⟨Below.refl _ _⟩, HBX⟩
        case round =>
          clear H2 xb0 xb1 HBX
          obtain ⟨y, rfl, HY, HI, HBi, HBX⟩ := hrel
          have xb0 : wr.cell? ⟨w.heap.size, 0, none⟩ = some (.slice A0_0 l0_0.length c0_0) := (blk_cell HBX.out 0).trans rfl
          have xb1 : wr.cell? ⟨w.heap.size, 1, none⟩ = some (.slice (some ad) l0_1.length c0_1) := (blk_cell HBX.out 1).trans rfl
          by_cases e0 : y < ((l.length : Nat) : Int)
          · have e0b : decide (y < ((l.length : Nat) : Int)) = true := decide_eq_true e0
            have hy0 := HY.out.1
            obtain ⟨ad2, D1, d1, D2, d2, ea2, hya, hyb, hyc, hyd, hle1, hre1, hle2, hre2⟩ := at_T52 (Kd.C_below HLR.out HBi.out) y hy0 e0
            cases ea2
            obtain ⟨a, ha⟩ : ∃ a, a = rd_T52 l y := ⟨_, rfl⟩
            rw [← ha] at hya hyb hyc hyd hle1 hre1 hle2 hre2
            have hdrop : l.drop y.toNat = a :: l.drop (y.toNat + 1) := by
              have hlt : y.toNat < l.length := by omega
              rw [List.drop_eq_getElem_cons hlt, ha]
              simp [rd_T52, List.getD, hlt]
            have H := HI.out
            clear HI ha
            rw [hdrop, innerF, Option.bind_assoc] at H
            clear hdrop
            obtain ⟨b, hb, H⟩ := Option.bind_eq_some_iff.1 H
            have HAC := Aside0.mk hb
            have HN := Aside0.mk H
            have HR1 := Aside0.mk hre1
            have HR2 := Aside0.mk hre2
            have HL1 := Aside0.mk hle1
            have HL2 := Aside0.mk hle2
            have HPy := Aside0.mk e0
            have p2 := eq_true hy0
            have p3 := eq_true e0
            clear hb H hre1 hre2 hle1 hle2 e0 hy0
            go_upto_region 13 with (fail)
            obtain ⟨wa, hwa⟩ : ∃ wa, wa = wr.alloc (.cells #[.int .i64 a.f0, .slice D1 a.f1.length d1, .slice D2 a.f2.length d2, .int .i64 a.f3] 52) := ⟨_, rfl⟩
            rw [← hwa]
            have HBA := Aside0.mk (show Below wr.heap.size wr wa by rw [hwa]; exact below_alloc (Below.refl _ _) _)
            have HA := Aside0.mk (show wa.heap[wr.heap.size]? = some (.cells #[.int .i64 a.f0, .slice D1 a.f1.length d1, .slice D2 a.f2.length d2, .int .i64 a.f3] 52 (0, 0)) by rw [hwa]; exact heap_alloc_new wr _)
            clear hwa
            have HBXA := Aside0.mk ((HBA.out.block _ (blk_lt HBX.out)).trans HBX.out)
            have HRA := Aside0.mk (Kd.C_below HR1.out HBA.out)
            have HRB := Aside0.mk (Kd.C_below HR2.out HBA.out)
            have HS := Aside0.mk (show ∀ w', Below wa.heap.size wa w' → (Below wa.heap.size wa w' ∧ w'.cell? ⟨w.heap.size, 0, none⟩ = some (.slice A0_0 l0_0.length c0_0) ∧ w'.cell? ⟨w.heap.size, 1, none⟩ = some (.slice (some ad) l0_1.length c0_1) ∧ w'.cell? ⟨wr.heap.size, 0, none⟩ = some (.int .i64 a.f0) ∧ w'.cell? ⟨wr.heap.size, 1, none⟩ = some (.slice D1 a.f1.length d1) ∧ w'.cell? ⟨wr.heap.size, 2, none⟩ = some (.slice D2 a.f2.length d2) ∧ w'.cell? ⟨wr.heap.size, 3, none⟩ = some (.int .i64 a.f3)) from fun w' hb => ⟨hb, (blk_cell ((hb.block _ (blk_lt HBXA.out)).trans HBXA.out) 0).trans rfl, (blk_cell ((hb.block _ (blk_lt HBXA.out)).trans HBXA.out) 1).trans rfl, (blk_cell ((hb.block _ (blk_lt HA.out)).trans HA.out) 0).trans rfl, (blk_cell ((hb.block _ (blk_lt HA.out)).trans HA.out) 1).trans rfl, (blk_cell ((hb.block _ (blk_lt HA.out)).trans HA.out) 2).trans rfl, (blk_cell ((hb.block _ (blk_lt HA.out)).trans HA.out) 3).trans rfl⟩)
            clear xb0 xb1 hya hyb hyc hyd
            go_cut [54] (fun v54 wc => v54 = .bool (!b) ∧ Aside0 (Below wa.heap.size wa wc))
            case first =>
              obtain ⟨sb, s0, s1, s2, s3, s4, s5⟩ := HS.out wa (Below.refl _ _)
              go_region_held3 (fun w' => Below wa.heap.size wa w' ∧ w'.cell? ⟨w.heap.size, 0, none⟩ = some (.slice A0_0 l0_0.length c0_0) ∧ w'.cell? ⟨w.heap.size, 1, none⟩ = some (.slice (some ad) l0_1.length c0_1) ∧ w'.cell? ⟨wr.heap.size, 0, none⟩ = some (.int .i64 a.f0) ∧ w'.cell? ⟨wr.heap.size, 1, none⟩ = some (.slice D1 a.f1.length d1) ∧ w'.cell? ⟨wr.heap.size, 2, none⟩ = some (.slice D2 a.f2.length d2) ∧ w'.cell? ⟨wr.heap.size, 3, none⟩ = some (.int .i64 a.f3)) (first | exact HS.out _ (below_drew (Below.refl _ _)) | exact HS.out _ (Below.refl _ _) | (refine HS.out _ ?_; first | exact below_step (And.left (by assumption)) (by assumption) | exact And.left (by assumption)) | go_keep) (first | (go_at_call 28; refine (impl_partOfAct.calls a.f0 D1 a.f1.length d1 D2 a.f2.length d2 a.f3 _).mono ?_; rintro e wq ⟨rfl, hq_⟩) | (go_at_call 47; refine (impl_actOk.calls k a.f0 D1 d1 a.f1 D2 d2 a.f2 a.f3 (l0_0.length : Int) x (l0_1.length : Int) b _ (by exact Kd.C_below HRA.out (And.left (by assumption))) HL1.out (by exact Kd.C_below HRB.out (And.left (by assumption))) HL2.out HAC.out).mono ?_; rintro e wz ⟨rfl, hz_⟩))
              go_wp2_with fail
              go_meet
              exact ⟨rfl, ⟨And.left (by assumption)⟩⟩
            case rest =>
              obtain ⟨rfl, HC_⟩ := hcut
              have HWC := Aside0.mk (show Below wo.heap.size wo wc from below_step (below_step HBi.out HBA.out) HC_.out)
              have HBXC := Aside0.mk ((HC_.out.block _ (blk_lt HBXA.out)).trans HBXA.out)
              clear HC_ HS HA HBA HBXA HRA HRB HR1 HR2 HL1 HL2 HAC HBi HBX
              cases b with
              | false =>
                have hr := HN.out
                rw [if_neg Bool.false_ne_true, Option.bind_some, HG.out] at hr
                obtain rfl : false = r := by simpa using hr
                clear hr HN
                go_wp2
                go_ret
                exact ⟨rfl, below_step HB.out HWC.out⟩
              | true =>
                have hr := HN.out
                rw [if_pos rfl] at hr
                have HN2 := Aside0.mk hr
                clear hr HN
                go_wp2
                go_roundw
                case rel =>
                  have e1 : (wrap64 (y + 1)) = y + 1 := by have h1 := HY.out.1; have h2 := HPy.out; have h3 := HLM.out; unfold wrap64; omega
                  refine ⟨_, rfl, ⟨?_⟩, ⟨?_⟩, HWC, HBXC⟩
                  · rw [e1]; exact ⟨by have := HY.out.1; omega, by have := HPy.out; omega⟩
                  · rw [e1, show (y + 1).toNat = y.toNat + 1 by have := HY.out.1; omega]
                    exact HN2.out
                case measure =>
                  have h1 := HY.out.1
                  have h2 := HPy.out
                  have h3 := HLM.out
                  have e1 : (wrap64 (y + 1)) = y + 1 := by unfold wrap64; omega
                  rw [e1]
                  simp [intOf]
                  omega
          · have e0b : decide (y < ((l.length : Nat) : Int)) = false := decide_eq_false e0
            have HE := Aside0.mk (show y.toNat = l.length by have := HY.out.1; have := HY.out.2; omega)
            have hr := HI.out
            rw [HE.out, List.drop_length, innerF, Option.bind_some, HG.out] at hr
            dsimp only at hr
            rw [if_pos rfl] at hr
            have HN2 := Aside0.mk hr
            clear hr HI e0
            go_wp2
            go_roundw
            case rel =>
              have e1 : (wrap64 (x + 1)) = x + 1 := by have h1 := HX.out.1; have h2 := HP.out; have h3 := HM.out; unfold wrap64; omega
              refine ⟨_, rfl, ⟨?_⟩, ⟨?_⟩, ⟨below_step HB.out HBi.out⟩, HBX⟩
              · rw [e1]; exact ⟨by have := HX.out.1; omega, by have := HP.out; omega⟩
              · rw [e1, show (x + 1).toNat = x.toNat + 1 by have := HX.out.1; omega]
                exact HN2.out
            case measure =>
              have h1 := HX.out.1
              have h2 := HP.out
              have h3 := HM.out
              have e1 : (wrap64 (x + 1)) = x + 1 := by unfold wrap64; omega
              rw [e1]
              simp [intOf]
              omega
    · have c0b : decide (x < ((l0_1.length : Nat) : Int)) = false := decide_eq_false c0
      have HE := Aside0.mk (show x.toNat = l0_1.length by have := HX.out.1; have := HX.out.2; omega)
      have hr := HH.out
      rw [HE.out, List.drop_length, outerF, Option.bind_some, if_pos rfl] at hr
      obtain ⟨t, ht, hr⟩ := Option.bind_eq_some_iff.1 hr
      obtain rfl : decide (t ≤ 7) = r := by simpa using hr
      have HT := Aside0.mk ht
      clear hr ht HH c0
      go_wp2_with fail
      refine (impl_treeOf.calls k _ _ l0_0 _ _ l0_1 0 t _ (by exact Kd.C_below HR0.out HB.out) HC0.out (by exact Kd.C_below HR1.out HB.out) HC1.out HT.out).mono ?_
      rintro e w5 ⟨rfl, hb5⟩
      have HB5 := Aside0.mk (below_step HB.out hb5)
      clear hb5
      by_cases q5 : t ≤ 7
      · have m1 : decide (t ≤ 7) = true := decide_eq_true q5
        have HQ := Aside0.mk m1
        clear q5
        go_wp2
        go_ret
        exact ⟨by rw [HQ.out]; rfl, HB5.out⟩
      · have m1 : decide (t ≤ 7) = false := decide_eq_false q5
        have HQ := Aside0.mk m1
        clear q5
        go_wp2
        go_ret
        exact ⟨by rw [HQ.out]; rfl, HB5.out⟩
-- NOT PRINTED: function 86 (strconv_small)
-- NOT PRINTED: function 95 (strconv_log10Pow2)
-- NOT PRINTED: function 96 (bits_Len64)
-- NOT PRINTED: function 97 (strconv_bool2_int)
-- NOT PRINTED: function 87 (strconv_numDigits)
-- NOT PRINTED: function 88 (strconv_formatBase10)
-- NOT PRINTED: function 98 (strconv_isPowerOfTwo)
-- NOT PRINTED: function 103 (bits_TrailingZeros32)
-- NOT PRINTED: function 104 (bits_TrailingZeros64)
-- NOT PRINTED: function 99 (bits_TrailingZeros)
-- NOT PRINTED: function 89 (strconv_formatBits)
-- NOT PRINTED: function 69 (strconv_FormatInt)
-- NOT PRINTED: function 49 (strconv_Itoa_49)
def strconv_Itoa.f (a0 : Int) : Option ByteArray := if 0 ≤ a0 ∧ a0 ≤ 99 then some ⟨(Lib.decDigits a0.toNat).toArray⟩ else none
theorem strconv_Itoa.calls (a0 : Int) (r : ByteArray) (w : World) (h : strconv_Itoa.f a0 = some r) : Calls Tryd.prog 26 #[.int .i64 a0] w fun e w' => e = .returned (.string r) ∧ w' = w := by
  unfold strconv_Itoa.f at h
  have c : 0 ≤ a0 ∧ a0 ≤ 99 := Classical.byContradiction fun c => by rw [if_neg c] at h; exact absurd h (by simp)
  rw [if_pos c] at h
  injection h with h
  subst h
  have k := Shelf.Tryd.strconv_Itoa_small a0.toNat (by omega) w
  rw [Int.toNat_of_nonneg c.1] at k
  exact k
def impl_regName.f (a0 : Int) : Option ByteArray := if 0 ≤ a0 ∧ a0 ≤ 2 then some (strOfNums [114 + a0]) else none
set_option maxRecDepth 100000 in
theorem impl_regName.calls (a0 : Int) (r : ByteArray) (w : World) (h : impl_regName.f a0 = some r) : Calls Tryd.prog 53 #[.int .i64 a0] w fun e w' => e = .returned (.string r) ∧ w' = w := by
  unfold impl_regName.f at h
  have c : 0 ≤ a0 ∧ a0 ≤ 2 := Classical.byContradiction fun c => by rw [if_neg c] at h; exact absurd h (by simp)
  rw [if_pos c] at h
  injection h with h
  subst h
  have hc : a0 = 0 ∨ a0 = 1 ∨ a0 = 2 := by omega
  clear c
  rcases hc with rfl | rfl | rfl
  · have he : Utf8.encode 114 = strOfNums [114 + 0] := by kernel_rfl
    go_enter Tryd.func53, Tryd.ntmps53
    go_wp2
    go_ret
    exact ⟨rfl, rfl⟩
  · have he : Utf8.encode 115 = strOfNums [114 + 1] := by kernel_rfl
    go_enter Tryd.func53, Tryd.ntmps53
    go_wp2
    go_ret
    exact ⟨rfl, rfl⟩
  · have he : Utf8.encode 116 = strOfNums [114 + 2] := by kernel_rfl
    go_enter Tryd.func53, Tryd.ntmps53
    go_wp2
    go_ret
    exact ⟨rfl, rfl⟩
def impl_cellName.f (a0 : Int) : Option ByteArray := if 0 ≤ a0 ∧ a0 ≤ 2 then some (strOfNums [65 + a0]) else none
set_option maxRecDepth 100000 in
theorem impl_cellName.calls (a0 : Int) (r : ByteArray) (w : World) (h : impl_cellName.f a0 = some r) : Calls Tryd.prog 70 #[.int .i64 a0] w fun e w' => e = .returned (.string r) ∧ w' = w := by
  unfold impl_cellName.f at h
  have c : 0 ≤ a0 ∧ a0 ≤ 2 := Classical.byContradiction fun c => by rw [if_neg c] at h; exact absurd h (by simp)
  rw [if_pos c] at h
  injection h with h
  subst h
  have hc : a0 = 0 ∨ a0 = 1 ∨ a0 = 2 := by omega
  clear c
  rcases hc with rfl | rfl | rfl
  · have he : Utf8.encode 65 = strOfNums [65 + 0] := by kernel_rfl
    go_enter Tryd.func70, Tryd.ntmps70
    go_wp2
    go_ret
    exact ⟨rfl, rfl⟩
  · have he : Utf8.encode 66 = strOfNums [65 + 1] := by kernel_rfl
    go_enter Tryd.func70, Tryd.ntmps70
    go_wp2
    go_ret
    exact ⟨rfl, rfl⟩
  · have he : Utf8.encode 67 = strOfNums [65 + 2] := by kernel_rfl
    go_enter Tryd.func70, Tryd.ntmps70
    go_wp2
    go_ret
    exact ⟨rfl, rfl⟩
end Go.Proofs.YtoeepmcaabmjkaaDoor.QTX
namespace Go.Proofs.YtoeepmcaabmjkaaDoor.QTX
open Go.RowKit Go.Proofs.YtoeepmcaabmjkaaDoorW.PrintWords Go.Proofs.YtoeepmcaabmjkaaDoorW.PrintLast Go.Proofs.YtoeepmcaabmjkaaDoorW.PrintMore
attribute [local go_sem] max2_int min2_int max_two min_two max_three min_three max_four min_four   -- for this text's walks alone
set_option linter.unusedVariables false
set_option linter.unusedSimpArgs false
theorem R_fresh {α : Type} {d : Kd α} {e : Nat} {w : World} {base b : Nat} {ok : Nat → Prop} {xs : List α} {cs : List Value} (h : w.heap[b]? = some (.cells cs.toArray e (0, 0))) (hb : base ≤ b) (hok : ok b) (hl : xs.length ≤ maxLen)
    (hr : Reps (d.M w base (fun k => ok k ∧ k ≠ b)) d.sz xs cs) : Kd.R d e w base ok (.slice (some ⟨b, 0, none⟩) xs.length xs.length) xs := by
  have hcl : cs.length = xs.length * d.sz := hr.1
  refine ⟨fun k hk => ?_, cs, ⟨hcl, .inr ⟨b, xs.length, cs.toArray, rfl, hb, h, Nat.le_refl _, hl, by simpa using hcl, ?_⟩⟩, hr.imp_ (fun _ _ hp => d.M_mono (fun k hk => ⟨hk.1, fun e => hk.2 (by simpa [Value.ownBlock] using e)⟩) hp)⟩
  · have : b = k := by simpa [Value.ownBlock] using hk
    subst this
    exact hok
  · rw [← hcl]; simp
theorem alloc_at {W : World} {o : Obj} {b : Nat} (h : W.heap.size = b) : (W.alloc o).heap[b]? = some o := by subst h; exact heap_alloc_new W o
def impl_deedText.f (a0 : Part) : Option ByteArray :=
  if a0.t = 1 then (impl_regName.f a0.a).bind fun x => (impl_cellName.f a0.b).bind fun y => some (x ++ (⟨#[61]⟩ : ByteArray) ++ y)
  else if a0.t = 2 then (impl_cellName.f a0.a).bind fun x => (impl_regName.f a0.b).bind fun y => some (x ++ (⟨#[61]⟩ : ByteArray) ++ y)
  else if a0.t = 3 then (impl_regName.f a0.a).bind fun x => (strconv_Itoa.f a0.b).bind fun y => some (x ++ (⟨#[61]⟩ : ByteArray) ++ y)
  else if a0.t = 4 then (impl_regName.f a0.a).bind fun x => (impl_regName.f a0.b).bind fun y => some (x ++ (⟨#[43]⟩ : ByteArray) ++ y)
  else if a0.t = 5 then (impl_regName.f a0.a).bind fun x => some (x ++ (⟨#[63]⟩ : ByteArray))
  else some (⟨#[]⟩ : ByteArray)
theorem regName_size {a : Int} {r : ByteArray} (h : impl_regName.f a = some r) : r.size = 1 := by
  unfold impl_regName.f at h
  split at h
  · injection h with h; rw [← h]; rfl
  · cases h
theorem cellName_size {a : Int} {r : ByteArray} (h : impl_cellName.f a = some r) : r.size = 1 := by
  unfold impl_cellName.f at h
  split at h
  · injection h with h; rw [← h]; rfl
  · cases h
theorem dec_len (n : Nat) (h : n < 100) : (Lib.decDigits n).length ≤ 2 := by
  by_cases c : n < 10
  · rw [Lib.decDigits_one c]; simp
  · rw [Lib.decDigits_two c h]; simp
theorem Itoa_size {a : Int} {r : ByteArray} (h : strconv_Itoa.f a = some r) : r.size ≤ 2 := by
  unfold strconv_Itoa.f at h
  split at h
  · rename_i c
    injection h with h
    rw [← h]
    have := dec_len a.toNat (by omega)
    simpa [ByteArray.size] using this
  · cases h
set_option maxHeartbeats 8000000 in
set_option maxRecDepth 100000 in
theorem impl_deedText.calls (a0 : Part) (r : ByteArray) (w : World) (h : impl_deedText.f a0 = some r) :
    Calls Tryd.prog 50 #[partW a0] w fun e w' => e = .returned (.string r) ∧ Below w.heap.size w w' := by
  obtain ⟨t, a, b⟩ := a0
  have hu1 := Tryd.underlying119
  have hu2 := Tryd.underlying121
  have hu3 := Tryd.underlying123
  have hu4 := Tryd.underlying125
  have hu5 := Tryd.underlying126
  unfold impl_deedText.f at h
  simp only at h
  by_cases c1 : t = 1
  · subst c1
    rw [if_pos rfl] at h
    show Calls Tryd.prog 50 #[.iface 119 (.agg #[.int .i64 a, .int .i64 b])] w _
    have y1 : ∀ W, (Instr.typeAssert (.iface 119 (.agg #[.int .i64 a, .int .i64 b])) 57 119 true).run Tryd.prog W = .ok (.tuple #[.agg #[.int .i64 a, .int .i64 b], .bool true]) W := fun W => by kernel_rfl
    obtain ⟨x, hx, h⟩ := Option.bind_eq_some_iff.1 h
    have sx := regName_size hx
    have HX := Aside0.mk hx
    clear hx
    obtain ⟨y, hy, h⟩ := Option.bind_eq_some_iff.1 h
    have sy := cellName_size hy
    have HY := Aside0.mk hy
    clear hy
    injection h with h
    subst h
    go_enter Tryd.func50, Tryd.ntmps50
    have cb0 : (w.alloc (.cells #[.int .i64 a, .int .i64 b] 119)).drew.cell? ⟨w.heap.size, 0, none⟩ = some (.int .i64 a) := (blk_cell (blk_drew (heap_alloc_new _ _)) 0).trans rfl
    have cb1 : (w.alloc (.cells #[.int .i64 a, .int .i64 b] 119)).drew.cell? ⟨w.heap.size, 1, none⟩ = some (.int .i64 b) := (blk_cell (blk_drew (heap_alloc_new _ _)) 1).trans rfl
    go_upto_region 4 with (fail)
    refine start_ (n := 9) (S := fun w' => w'.cell? ⟨w.heap.size, 0, none⟩ = some (.int .i64 a) ∧ w'.cell? ⟨w.heap.size, 1, none⟩ = some (.int .i64 b)) (ds := []) #[false, false, false, false, false, false, false, false, false] (by kernel_rfl) rfl rfl ⟨cb0, cb1⟩ (fun hHeld => ?_)
    refine pure_ (i := 0) (N := some 12) (v := ?_) (a' := ?_) #[true, false, false, false, false, false, false, false, false] rfl rfl (by kernel_rfl) (fun _ _ _ h => h) (Or.inl ⟨by rfl, ?_⟩) ?_ ?_
    rotate_left
    · intro w'
      go_simp
      with_reducible rfl
    rotate_left
    · simp only [Act.put, List.setIfInBounds_toArray, List.set_cons_zero, List.set_cons_succ, i64_w, i32_w]
      rfl
    refine pure_ (i := 4) (N := some 16) (v := ?_) (a' := ?_) #[true, false, false, false, true, false, false, false, false] rfl rfl (by kernel_rfl) (fun _ _ _ h => h) (Or.inl ⟨by rfl, ?_⟩) ?_ ?_
    rotate_left
    · intro w'
      go_simp
      with_reducible rfl
    rotate_left
    · simp only [Act.put, List.setIfInBounds_toArray, List.set_cons_zero, List.set_cons_succ, i64_w, i32_w]
      rfl
    refine take_ (i := 1) (N := some 13) (v := ?_) (a' := ?_) #[true, true, false, false, true, false, false, false, false] rfl rfl (by kernel_rfl) (fun _ _ _ h => h) (Or.inl ⟨by rfl, ?_⟩) hHeld ?_ ?_
    rotate_left
    · rintro w' ⟨s0, s1⟩
      go_simp
      with_reducible rfl
    rotate_left
    · simp only [Act.put, List.setIfInBounds_toArray, List.set_cons_zero, List.set_cons_succ, i64_w, i32_w]
      rfl
    refine take_ (i := 5) (N := some 17) (v := ?_) (a' := ?_) #[true, true, false, false, true, true, false, false, false] rfl rfl (by kernel_rfl) (fun _ _ _ h => h) (Or.inl ⟨by rfl, ?_⟩) hHeld ?_ ?_
    rotate_left
    · rintro w' ⟨s0, s1⟩
      go_simp
      with_reducible rfl
    rotate_left
    · simp only [Act.put, List.setIfInBounds_toArray, List.set_cons_zero, List.set_cons_succ, i64_w, i32_w]
      rfl
    refine one_ (i := 2) (N := some 14) #[true, true, true, false, true, true, false, false, false] rfl rfl (by kernel_rfl) (by decide) (fun K hK => ?_)
    refine goes_ Tryd.func53 (by kernel_rfl) rfl #[.int .i64 a] (by rfl) rfl rfl (by simp only [List.map_toArray, List.map_cons, List.map_nil]; rfl) ?_
    with_reducible refine (impl_regName.calls a x _ HX.out).mono ?_
    rintro e wc ⟨rfl, rfl⟩
    refine ⟨_, rfl, ?_⟩
    refine hK.out _ _ ⟨cb0, cb1⟩ (fun hHeld => ?_)
    clear hK K
    refine norm_ (a' := ?_) ?_ ?_
    rotate_left
    · show Act.put _ (some 14) _ = _
      simp only [Act.put, List.setIfInBounds_toArray, List.set_cons_zero, List.set_cons_succ, i64_w, i32_w]
      rfl
    refine pure_ (i := 3) (N := some 15) (v := ?_) (a' := ?_) #[true, true, true, true, true, true, false, false, false] rfl rfl (by kernel_rfl) (fun _ _ _ h => h) (Or.inl ⟨by rfl, ?_⟩) ?_ ?_
    rotate_left
    · intro w'
      go_simp
      with_reducible rfl
    rotate_left
    · simp only [Act.put, List.setIfInBounds_toArray, List.set_cons_zero, List.set_cons_succ, i64_w, i32_w]
      rfl
    refine one_ (i := 6) (N := some 18) #[true, true, true, true, true, true, true, false, false] rfl rfl (by kernel_rfl) (by decide) (fun K hK => ?_)
    refine goes_ Tryd.func70 (by kernel_rfl) rfl #[.int .i64 b] (by rfl) rfl rfl (by simp only [List.map_toArray, List.map_cons, List.map_nil]; rfl) ?_
    with_reducible refine (impl_cellName.calls b y _ HY.out).mono ?_
    rintro e wc ⟨rfl, rfl⟩
    refine ⟨_, rfl, ?_⟩
    refine hK.out _ _ ⟨cb0, cb1⟩ (fun hHeld => ?_)
    clear hK K
    refine norm_ (a' := ?_) ?_ ?_
    rotate_left
    · show Act.put _ (some 18) _ = _
      simp only [Act.put, List.setIfInBounds_toArray, List.set_cons_zero, List.set_cons_succ, i64_w, i32_w]
      rfl
    refine pure_ (i := 7) (N := some 19) (v := ?_) (a' := ?_) #[true, true, true, true, true, true, true, true, false] rfl rfl (by kernel_rfl) (fun _ _ _ h => h) (Or.inl ⟨by rfl, ?_⟩) ?_ ?_
    rotate_left
    · intro w'
      go_simp
      with_reducible rfl
    rotate_left
    · simp only [Act.put, List.setIfInBounds_toArray, List.set_cons_zero, List.set_cons_succ, i64_w, i32_w]
      rfl
    refine pure_ (i := 8) (N := some 2) (v := ?_) (a' := ?_) #[true, true, true, true, true, true, true, true, true] rfl rfl (by kernel_rfl) (fun _ _ _ h => h) (Or.inl ⟨by rfl, ?_⟩) ?_ ?_
    rotate_left
    · intro w'
      go_simp
      with_reducible rfl
    rotate_left
    · simp only [Act.put, List.setIfInBounds_toArray, List.set_cons_zero, List.set_cons_succ, i64_w, i32_w]
      rfl
    refine done_ (by kernel_rfl) ?_
    go_wp2
    go_ret
    exact ⟨rfl, by repeat (first | exact Below.refl _ _ | apply below_drew1 | apply pw_below_drewN | apply below_alloc)⟩
  by_cases c2 : t = 2
  · subst c2
    rw [if_neg (by decide), if_pos rfl] at h
    show Calls Tryd.prog 50 #[.iface 121 (.agg #[.int .i64 a, .int .i64 b])] w _
    have y1 : ∀ W, (Instr.typeAssert (.iface 121 (.agg #[.int .i64 a, .int .i64 b])) 57 119 true).run Tryd.prog W = .ok (.tuple #[.agg #[.int .i64 0, .int .i64 0], .bool false]) W := fun W => by kernel_rfl
    have y2 : ∀ W, (Instr.typeAssert (.iface 121 (.agg #[.int .i64 a, .int .i64 b])) 57 121 true).run Tryd.prog W = .ok (.tuple #[.agg #[.int .i64 a, .int .i64 b], .bool true]) W := fun W => by kernel_rfl
    obtain ⟨x, hx, h⟩ := Option.bind_eq_some_iff.1 h
    have sx := cellName_size hx
    have HX := Aside0.mk hx
    clear hx
    obtain ⟨y, hy, h⟩ := Option.bind_eq_some_iff.1 h
    have sy := regName_size hy
    have HY := Aside0.mk hy
    clear hy
    injection h with h
    subst h
    go_enter Tryd.func50, Tryd.ntmps50
    have cb0 : (w.alloc (.cells #[.int .i64 a, .int .i64 b] 121)).drew.cell? ⟨w.heap.size, 0, none⟩ = some (.int .i64 a) := (blk_cell (blk_drew (heap_alloc_new _ _)) 0).trans rfl
    have cb1 : (w.alloc (.cells #[.int .i64 a, .int .i64 b] 121)).drew.cell? ⟨w.heap.size, 1, none⟩ = some (.int .i64 b) := (blk_cell (blk_drew (heap_alloc_new _ _)) 1).trans rfl
    go_upto_region 7 with (fail)
    refine start_ (n := 9) (S := fun w' => w'.cell? ⟨w.heap.size, 0, none⟩ = some (.int .i64 a) ∧ w'.cell? ⟨w.heap.size, 1, none⟩ = some (.int .i64 b)) (ds := []) #[false, false, false, false, false, false, false, false, false] (by kernel_rfl) rfl rfl ⟨cb0, cb1⟩ (fun hHeld => ?_)
    refine pure_ (i := 0) (N := some 23) (v := ?_) (a' := ?_) #[true, false, false, false, false, false, false, false, false] rfl rfl (by kernel_rfl) (fun _ _ _ h => h) (Or.inl ⟨by rfl, ?_⟩) ?_ ?_
    rotate_left
    · intro w'
      go_simp
      with_reducible rfl
    rotate_left
    · simp only [Act.put, List.setIfInBounds_toArray, List.set_cons_zero, List.set_cons_succ, i64_w, i32_w]
      rfl
    refine pure_ (i := 4) (N := some 27) (v := ?_) (a' := ?_) #[true, false, false, false, true, false, false, false, false] rfl rfl (by kernel_rfl) (fun _ _ _ h => h) (Or.inl ⟨by rfl, ?_⟩) ?_ ?_
    rotate_left
    · intro w'
      go_simp
      with_reducible rfl
    rotate_left
    · simp only [Act.put, List.setIfInBounds_toArray, List.set_cons_zero, List.set_cons_succ, i64_w, i32_w]
      rfl
    refine take_ (i := 1) (N := some 24) (v := ?_) (a' := ?_) #[true, true, false, false, true, false, false, false, false] rfl rfl (by kernel_rfl) (fun _ _ _ h => h) (Or.inl ⟨by rfl, ?_⟩) hHeld ?_ ?_
    rotate_left
    · rintro w' ⟨s0, s1⟩
      go_simp
      with_reducible rfl
    rotate_left
    · simp only [Act.put, List.setIfInBounds_toArray, List.set_cons_zero, List.set_cons_succ, i64_w, i32_w]
      rfl
    refine take_ (i := 5) (N := some 28) (v := ?_) (a' := ?_) #[true, true, false, false, true, true, false, false, false] rfl rfl (by kernel_rfl) (fun _ _ _ h => h) (Or.inl ⟨by rfl, ?_⟩) hHeld ?_ ?_
    rotate_left
    · rintro w' ⟨s0, s1⟩
      go_simp
      with_reducible rfl
    rotate_left
    · simp only [Act.put, List.setIfInBounds_toArray, List.set_cons_zero, List.set_cons_succ, i64_w, i32_w]
      rfl
    refine one_ (i := 2) (N := some 25) #[true, true, true, false, true, true, false, false, false] rfl rfl (by kernel_rfl) (by decide) (fun K hK => ?_)
    refine goes_ Tryd.func70 (by kernel_rfl) rfl #[.int .i64 a] (by rfl) rfl rfl (by simp only [List.map_toArray, List.map_cons, List.map_nil]; rfl) ?_
    with_reducible refine (impl_cellName.calls a x _ HX.out).mono ?_
    rintro e wc ⟨rfl, rfl⟩
    refine ⟨_, rfl, ?_⟩
    refine hK.out _ _ ⟨cb0, cb1⟩ (fun hHeld => ?_)
    clear hK K
    refine norm_ (a' := ?_) ?_ ?_
    rotate_left
    · show Act.put _ (some 25) _ = _
      simp only [Act.put, List.setIfInBounds_toArray, List.set_cons_zero, List.set_cons_succ, i64_w, i32_w]
      rfl
    refine pure_ (i := 3) (N := some 26) (v := ?_) (a' := ?_) #[true, true, true, true, true, true, false, false, false] rfl rfl (by kernel_rfl) (fun _ _ _ h => h) (Or.inl ⟨by rfl, ?_⟩) ?_ ?_
    rotate_left
    · intro w'
      go_simp
      with_reducible rfl
    rotate_left
    · simp only [Act.put, List.setIfInBounds_toArray, List.set_cons_zero, List.set_cons_succ, i64_w, i32_w]
      rfl
    refine one_ (i := 6) (N := some 29) #[true, true, true, true, true, true, true, false, false] rfl rfl (by kernel_rfl) (by decide) (fun K hK => ?_)
    refine goes_ Tryd.func53 (by kernel_rfl) rfl #[.int .i64 b] (by rfl) rfl rfl (by simp only [List.map_toArray, List.map_cons, List.map_nil]; rfl) ?_
    with_reducible refine (impl_regName.calls b y _ HY.out).mono ?_
    rintro e wc ⟨rfl, rfl⟩
    refine ⟨_, rfl, ?_⟩
    refine hK.out _ _ ⟨cb0, cb1⟩ (fun hHeld => ?_)
    clear hK K
    refine norm_ (a' := ?_) ?_ ?_
    rotate_left
    · show Act.put _ (some 29) _ = _
      simp only [Act.put, List.setIfInBounds_toArray, List.set_cons_zero, List.set_cons_succ, i64_w, i32_w]
      rfl
    refine pure_ (i := 7) (N := some 30) (v := ?_) (a' := ?_) #[true, true, true, true, true, true, true, true, false] rfl rfl (by kernel_rfl) (fun _ _ _ h => h) (Or.inl ⟨by rfl, ?_⟩) ?_ ?_
    rotate_left
    · intro w'
      go_simp
      with_reducible rfl
    rotate_left
    · simp only [Act.put, List.setIfInBounds_toArray, List.set_cons_zero, List.set_cons_succ, i64_w, i32_w]
      rfl
    refine pure_ (i := 8) (N := some 2) (v := ?_) (a' := ?_) #[true, true, true, true, true, true, true, true, true] rfl rfl (by kernel_rfl) (fun _ _ _ h => h) (Or.inl ⟨by rfl, ?_⟩) ?_ ?_
    rotate_left
    · intro w'
      go_simp
      with_reducible rfl
    rotate_left
    · simp only [Act.put, List.setIfInBounds_toArray, List.set_cons_zero, List.set_cons_succ, i64_w, i32_w]
      rfl
    refine done_ (by kernel_rfl) ?_
    go_wp2
    go_ret
    exact ⟨rfl, by repeat (first | exact Below.refl _ _ | apply below_drew1 | apply pw_below_drewN | apply below_alloc)⟩
  by_cases c3 : t = 3
  · subst c3
    rw [if_neg (by decide), if_neg (by decide), if_pos rfl] at h
    show Calls Tryd.prog 50 #[.iface 123 (.agg #[.int .i64 a, .int .i64 b])] w _
    have y1 : ∀ W, (Instr.typeAssert (.iface 123 (.agg #[.int .i64 a, .int .i64 b])) 57 119 true).run Tryd.prog W = .ok (.tuple #[.agg #[.int .i64 0, .int .i64 0], .bool false]) W := fun W => by kernel_rfl
    have y2 : ∀ W, (Instr.typeAssert (.iface 123 (.agg #[.int .i64 a, .int .i64 b])) 57 121 true).run Tryd.prog W = .ok (.tuple #[.agg #[.int .i64 0, .int .i64 0], .bool false]) W := fun W => by kernel_rfl
    have y3 : ∀ W, (Instr.typeAssert (.iface 123 (.agg #[.int .i64 a, .int .i64 b])) 57 123 true).run Tryd.prog W = .ok (.tuple #[.agg #[.int .i64 a, .int .i64 b], .bool true]) W := fun W => by kernel_rfl
    obtain ⟨x, hx, h⟩ := Option.bind_eq_some_iff.1 h
    have sx := regName_size hx
    have HX := Aside0.mk hx
    clear hx
    obtain ⟨y, hy, h⟩ := Option.bind_eq_some_iff.1 h
    have sy := Itoa_size hy
    have HY := Aside0.mk hy
    clear hy
    have sy2 : ¬ (9223372036854775807 < 2 + y.size) := by omega
    injection h with h
    subst h
    go_enter Tryd.func50, Tryd.ntmps50
    have cb0 : (w.alloc (.cells #[.int .i64 a, .int .i64 b] 123)).drew.cell? ⟨w.heap.size, 0, none⟩ = some (.int .i64 a) := (blk_cell (blk_drew (heap_alloc_new _ _)) 0).trans rfl
    have cb1 : (w.alloc (.cells #[.int .i64 a, .int .i64 b] 123)).drew.cell? ⟨w.heap.size, 1, none⟩ = some (.int .i64 b) := (blk_cell (blk_drew (heap_alloc_new _ _)) 1).trans rfl
    go_upto_region 10 with (fail)
    refine start_ (n := 9) (S := fun w' => w'.cell? ⟨w.heap.size, 0, none⟩ = some (.int .i64 a) ∧ w'.cell? ⟨w.heap.size, 1, none⟩ = some (.int .i64 b)) (ds := []) #[false, false, false, false, false, false, false, false, false] (by kernel_rfl) rfl rfl ⟨cb0, cb1⟩ (fun hHeld => ?_)
    refine pure_ (i := 0) (N := some 34) (v := ?_) (a' := ?_) #[true, false, false, false, false, false, false, false, false] rfl rfl (by kernel_rfl) (fun _ _ _ h => h) (Or.inl ⟨by rfl, ?_⟩) ?_ ?_
    rotate_left
    · intro w'
      go_simp
      with_reducible rfl
    rotate_left
    · simp only [Act.put, List.setIfInBounds_toArray, List.set_cons_zero, List.set_cons_succ, i64_w, i32_w]
      rfl
    refine pure_ (i := 4) (N := some 38) (v := ?_) (a' := ?_) #[true, false, false, false, true, false, false, false, false] rfl rfl (by kernel_rfl) (fun _ _ _ h => h) (Or.inl ⟨by rfl, ?_⟩) ?_ ?_
    rotate_left
    · intro w'
      go_simp
      with_reducible rfl
    rotate_left
    · simp only [Act.put, List.setIfInBounds_toArray, List.set_cons_zero, List.set_cons_succ, i64_w, i32_w]
      rfl
    refine take_ (i := 1) (N := some 35) (v := ?_) (a' := ?_) #[true, true, false, false, true, false, false, false, false] rfl rfl (by kernel_rfl) (fun _ _ _ h => h) (Or.inl ⟨by rfl, ?_⟩) hHeld ?_ ?_
    rotate_left
    · rintro w' ⟨s0, s1⟩
      go_simp
      with_reducible rfl
    rotate_left
    · simp only [Act.put, List.setIfInBounds_toArray, List.set_cons_zero, List.set_cons_succ, i64_w, i32_w]
      rfl
    refine take_ (i := 5) (N := some 39) (v := ?_) (a' := ?_) #[true, true, false, false, true, true, false, false, false] rfl rfl (by kernel_rfl) (fun _ _ _ h => h) (Or.inl ⟨by rfl, ?_⟩) hHeld ?_ ?_
    rotate_left
    · rintro w' ⟨s0, s1⟩
      go_simp
      with_reducible rfl
    rotate_left
    · simp only [Act.put, List.setIfInBounds_toArray, List.set_cons_zero, List.set_cons_succ, i64_w, i32_w]
      rfl
    refine one_ (i := 2) (N := some 36) #[true, true, true, false, true, true, false, false, false] rfl rfl (by kernel_rfl) (by decide) (fun K hK => ?_)
    refine goes_ Tryd.func53 (by kernel_rfl) rfl #[.int .i64 a] (by rfl) rfl rfl (by simp only [List.map_toArray, List.map_cons, List.map_nil]; rfl) ?_
    with_reducible refine (impl_regName.calls a x _ HX.out).mono ?_
    rintro e wc ⟨rfl, rfl⟩
    refine ⟨_, rfl, ?_⟩
    refine hK.out _ _ ⟨cb0, cb1⟩ (fun hHeld => ?_)
    clear hK K
    refine norm_ (a' := ?_) ?_ ?_
    rotate_left
    · show Act.put _ (some 36) _ = _
      simp only [Act.put, List.setIfInBounds_toArray, List.set_cons_zero, List.set_cons_succ, i64_w, i32_w]
      rfl
    refine pure_ (i := 3) (N := some 37) (v := ?_) (a' := ?_) #[true, true, true, true, true, true, false, false, false] rfl rfl (by kernel_rfl) (fun _ _ _ h => h) (Or.inl ⟨by rfl, ?_⟩) ?_ ?_
    rotate_left
    · intro w'
      go_simp
      with_reducible rfl
    rotate_left
    · simp only [Act.put, List.setIfInBounds_toArray, List.set_cons_zero, List.set_cons_succ, i64_w, i32_w]
      rfl
    refine one_ (i := 6) (N := some 40) #[true, true, true, true, true, true, true, false, false] rfl rfl (by kernel_rfl) (by decide) (fun K hK => ?_)
    refine goes_ Tryd.func26 (by kernel_rfl) rfl #[.int .i64 b] (by rfl) rfl rfl (by simp only [List.map_toArray, List.map_cons, List.map_nil]; rfl) ?_
    with_reducible refine (strconv_Itoa.calls b y _ HY.out).mono ?_
    rintro e wc ⟨rfl, rfl⟩
    refine ⟨_, rfl, ?_⟩
    refine hK.out _ _ ⟨cb0, cb1⟩ (fun hHeld => ?_)
    clear hK K
    refine norm_ (a' := ?_) ?_ ?_
    rotate_left
    · show Act.put _ (some 40) _ = _
      simp only [Act.put, List.setIfInBounds_toArray, List.set_cons_zero, List.set_cons_succ, i64_w, i32_w]
      rfl
    refine pure_ (i := 7) (N := some 41) (v := ?_) (a' := ?_) #[true, true, true, true, true, true, true, true, false] rfl rfl (by kernel_rfl) (fun _ _ _ h => h) (Or.inl ⟨by rfl, ?_⟩) ?_ ?_
    rotate_left
    · intro w'
      go_simp
      with_reducible rfl
    rotate_left
    · simp only [Act.put, List.setIfInBounds_toArray, List.set_cons_zero, List.set_cons_succ, i64_w, i32_w]
      rfl
    refine pure_ (i := 8) (N := some 2) (v := ?_) (a' := ?_) #[true, true, true, true, true, true, true, true, true] rfl rfl (by kernel_rfl) (fun _ _ _ h => h) (Or.inl ⟨by rfl, ?_⟩) ?_ ?_
    rotate_left
    · intro w'
      go_simp
      with_reducible rfl
    rotate_left
    · simp only [Act.put, List.setIfInBounds_toArray, List.set_cons_zero, List.set_cons_succ, i64_w, i32_w]
      rfl
    refine done_ (by kernel_rfl) ?_
    go_wp2
    go_ret
    exact ⟨rfl, by repeat (first | exact Below.refl _ _ | apply below_drew1 | apply pw_below_drewN | apply below_alloc)⟩
  by_cases c4 : t = 4
  · subst c4
    rw [if_neg (by decide), if_neg (by decide), if_neg (by decide), if_pos rfl] at h
    show Calls Tryd.prog 50 #[.iface 125 (.agg #[.int .i64 a, .int .i64 b])] w _
    have y1 : ∀ W, (Instr.typeAssert (.iface 125 (.agg #[.int .i64 a, .int .i64 b])) 57 119 true).run Tryd.prog W = .ok (.tuple #[.agg #[.int .i64 0, .int .i64 0], .bool false]) W := fun W => by kernel_rfl
    have y2 : ∀ W, (Instr.typeAssert (.iface 125 (.agg #[.int .i64 a, .int .i64 b])) 57 121 true).run Tryd.prog W = .ok (.tuple #[.agg #[.int .i64 0, .int .i64 0], .bool false]) W := fun W => by kernel_rfl
    have y3 : ∀ W, (Instr.typeAssert (.iface 125 (.agg #[.int .i64 a, .int .i64 b])) 57 123 true).run Tryd.prog W = .ok (.tuple #[.agg #[.int .i64 0, .int .i64 0], .bool false]) W := fun W => by kernel_rfl
    have y4 : ∀ W, (Instr.typeAssert (.iface 125 (.agg #[.int .i64 a, .int .i64 b])) 57 125 true).run Tryd.prog W = .ok (.tuple #[.agg #[.int .i64 a, .int .i64 b], .bool true]) W := fun W => by kernel_rfl
    obtain ⟨x, hx, h⟩ := Option.bind_eq_some_iff.1 h
    have sx := regName_size hx
    have HX := Aside0.mk hx
    clear hx
    obtain ⟨y, hy, h⟩ := Option.bind_eq_some_iff.1 h
    have sy := regName_size hy
    have HY := Aside0.mk hy
    clear hy
    injection h with h
    subst h
    go_enter Tryd.func50, Tryd.ntmps50
    have cb0 : (w.alloc (.cells #[.int .i64 a, .int .i64 b] 125)).drew.cell? ⟨w.heap.size, 0, none⟩ = some (.int .i64 a) := (blk_cell (blk_drew (heap_alloc_new _ _)) 0).trans rfl
    have cb1 : (w.alloc (.cells #[.int .i64 a, .int .i64 b] 125)).drew.cell? ⟨w.heap.size, 1, none⟩ = some (.int .i64 b) := (blk_cell (blk_drew (heap_alloc_new _ _)) 1).trans rfl
    go_upto_region 13 with (fail)
    refine start_ (n := 9) (S := fun w' => w'.cell? ⟨w.heap.size, 0, none⟩ = some (.int .i64 a) ∧ w'.cell? ⟨w.heap.size, 1, none⟩ = some (.int .i64 b)) (ds := []) #[false, false, false, false, false, false, false, false, false] (by kernel_rfl) rfl rfl ⟨cb0, cb1⟩ (fun hHeld => ?_)
    refine pure_ (i := 0) (N := some 45) (v := ?_) (a' := ?_) #[true, false, false, false, false, false, false, false, false] rfl rfl (by kernel_rfl) (fun _ _ _ h => h) (Or.inl ⟨by rfl, ?_⟩) ?_ ?_
    rotate_left
    · intro w'
      go_simp
      with_reducible rfl
    rotate_left
    · simp only [Act.put, List.setIfInBounds_toArray, List.set_cons_zero, List.set_cons_succ, i64_w, i32_w]
      rfl
    refine pure_ (i := 4) (N := some 49) (v := ?_) (a' := ?_) #[true, false, false, false, true, false, false, false, false] rfl rfl (by kernel_rfl) (fun _ _ _ h => h) (Or.inl ⟨by rfl, ?_⟩) ?_ ?_
    rotate_left
    · intro w'
      go_simp
      with_reducible rfl
    rotate_left
    · simp only [Act.put, List.setIfInBounds_toArray, List.set_cons_zero, List.set_cons_succ, i64_w, i32_w]
      rfl
    refine take_ (i := 1) (N := some 46) (v := ?_) (a' := ?_) #[true, true, false, false, true, false, false, false, false] rfl rfl (by kernel_rfl) (fun _ _ _ h => h) (Or.inl ⟨by rfl, ?_⟩) hHeld ?_ ?_
    rotate_left
    · rintro w' ⟨s0, s1⟩
      go_simp
      with_reducible rfl
    rotate_left
    · simp only [Act.put, List.setIfInBounds_toArray, List.set_cons_zero, List.set_cons_succ, i64_w, i32_w]
      rfl
    refine take_ (i := 5) (N := some 50) (v := ?_) (a' := ?_) #[true, true, false, false, true, true, false, false, false] rfl rfl (by kernel_rfl) (fun _ _ _ h => h) (Or.inl ⟨by rfl, ?_⟩) hHeld ?_ ?_
    rotate_left
    · rintro w' ⟨s0, s1⟩
      go_simp
      with_reducible rfl
    rotate_left
    · simp only [Act.put, List.setIfInBounds_toArray, List.set_cons_zero, List.set_cons_succ, i64_w, i32_w]
      rfl
    refine one_ (i := 2) (N := some 47) #[true, true, true, false, true, true, false, false, false] rfl rfl (by kernel_rfl) (by decide) (fun K hK => ?_)
    refine goes_ Tryd.func53 (by kernel_rfl) rfl #[.int .i64 a] (by rfl) rfl rfl (by simp only [List.map_toArray, List.map_cons, List.map_nil]; rfl) ?_
    with_reducible refine (impl_regName.calls a x _ HX.out).mono ?_
    rintro e wc ⟨rfl, rfl⟩
    refine ⟨_, rfl, ?_⟩
    refine hK.out _ _ ⟨cb0, cb1⟩ (fun hHeld => ?_)
    clear hK K
    refine norm_ (a' := ?_) ?_ ?_
    rotate_left
    · show Act.put _ (some 47) _ = _
      simp only [Act.put, List.setIfInBounds_toArray, List.set_cons_zero, List.set_cons_succ, i64_w, i32_w]
      rfl
    refine pure_ (i := 3) (N := some 48) (v := ?_) (a' := ?_) #[true, true, true, true, true, true, false, false, false] rfl rfl (by kernel_rfl) (fun _ _ _ h => h) (Or.inl ⟨by rfl, ?_⟩) ?_ ?_
    rotate_left
    · intro w'
      go_simp
      with_reducible rfl
    rotate_left
    · simp only [Act.put, List.setIfInBounds_toArray, List.set_cons_zero, List.set_cons_succ, i64_w, i32_w]
      rfl
    refine one_ (i := 6) (N := some 51) #[true, true, true, true, true, true, true, false, false] rfl rfl (by kernel_rfl) (by decide) (fun K hK => ?_)
    refine goes_ Tryd.func53 (by kernel_rfl) rfl #[.int .i64 b] (by rfl) rfl rfl (by simp only [List.map_toArray, List.map_cons, List.map_nil]; rfl) ?_
    with_reducible refine (impl_regName.calls b y _ HY.out).mono ?_
    rintro e wc ⟨rfl, rfl⟩
    refine ⟨_, rfl, ?_⟩
    refine hK.out _ _ ⟨cb0, cb1⟩ (fun hHeld => ?_)
    clear hK K
    refine norm_ (a' := ?_) ?_ ?_
    rotate_left
    · show Act.put _ (some 51) _ = _
      simp only [Act.put, List.setIfInBounds_toArray, List.set_cons_zero, List.set_cons_succ, i64_w, i32_w]
      rfl
    refine pure_ (i := 7) (N := some 52) (v := ?_) (a' := ?_) #[true, true, true, true, true, true, true, true, false] rfl rfl (by kernel_rfl) (fun _ _ _ h => h) (Or.inl ⟨by rfl, ?_⟩) ?_ ?_
    rotate_left
    · intro w'
      go_simp
      with_reducible rfl
    rotate_left
    · simp only [Act.put, List.setIfInBounds_toArray, List.set_cons_zero, List.set_cons_succ, i64_w, i32_w]
      rfl
    refine pure_ (i := 8) (N := some 2) (v := ?_) (a' := ?_) #[true, true, true, true, true, true, true, true, true] rfl rfl (by kernel_rfl) (fun _ _ _ h => h) (Or.inl ⟨by rfl, ?_⟩) ?_ ?_
    rotate_left
    · intro w'
      go_simp
      with_reducible rfl
    rotate_left
    · simp only [Act.put, List.setIfInBounds_toArray, List.set_cons_zero, List.set_cons_succ, i64_w, i32_w]
      rfl
    refine done_ (by kernel_rfl) ?_
    go_wp2
    go_ret
    exact ⟨rfl, by repeat (first | exact Below.refl _ _ | apply below_drew1 | apply pw_below_drewN | apply below_alloc)⟩
  by_cases c5 : t = 5
  · subst c5
    rw [if_neg (by decide), if_neg (by decide), if_neg (by decide), if_neg (by decide), if_pos rfl] at h
    show Calls Tryd.prog 50 #[.iface 126 (.agg #[.int .i64 a])] w _
    have y1 : ∀ W, (Instr.typeAssert (.iface 126 (.agg #[.int .i64 a])) 57 119 true).run Tryd.prog W = .ok (.tuple #[.agg #[.int .i64 0, .int .i64 0], .bool false]) W := fun W => by kernel_rfl
    have y2 : ∀ W, (Instr.typeAssert (.iface 126 (.agg #[.int .i64 a])) 57 121 true).run Tryd.prog W = .ok (.tuple #[.agg #[.int .i64 0, .int .i64 0], .bool false]) W := fun W => by kernel_rfl
    have y3 : ∀ W, (Instr.typeAssert (.iface 126 (.agg #[.int .i64 a])) 57 123 true).run Tryd.prog W = .ok (.tuple #[.agg #[.int .i64 0, .int .i64 0], .bool false]) W := fun W => by kernel_rfl
    have y4 : ∀ W, (Instr.typeAssert (.iface 126 (.agg #[.int .i64 a])) 57 125 true).run Tryd.prog W = .ok (.tuple #[.agg #[.int .i64 0, .int .i64 0], .bool false]) W := fun W => by kernel_rfl
    have y5 : ∀ W, (Instr.typeAssert (.iface 126 (.agg #[.int .i64 a])) 57 126 true).run Tryd.prog W = .ok (.tuple #[.agg #[.int .i64 a], .bool true]) W := fun W => by kernel_rfl
    obtain ⟨x, hx, h⟩ := Option.bind_eq_some_iff.1 h
    have sx := regName_size hx
    have HX := Aside0.mk hx
    clear hx
    injection h with h
    subst h
    go_enter Tryd.func50, Tryd.ntmps50
    go_wp2_with fail
    refine (impl_regName.calls a x _ HX.out).mono ?_
    rintro e w1 ⟨rfl, rfl⟩
    go_wp2
    go_ret
    exact ⟨rfl, by repeat (first | exact Below.refl _ _ | apply below_drew1 | apply pw_below_drewN | apply below_alloc)⟩
  rw [if_neg c1, if_neg c2, if_neg c3, if_neg c4, if_neg c5] at h
  injection h with h
  subst h
  have hp : partW ⟨t, a, b⟩ = .nilIface := by
    unfold partW
    rw [if_neg c1, if_neg c2, if_neg c3, if_neg c4, if_neg c5]
  rw [hp]
  have y1 : ∀ W, (Instr.typeAssert (.nilIface) 57 119 true).run Tryd.prog W = .ok (.tuple #[.agg #[.int .i64 0, .int .i64 0], .bool false]) W := fun W => by kernel_rfl
  have y2 : ∀ W, (Instr.typeAssert (.nilIface) 57 121 true).run Tryd.prog W = .ok (.tuple #[.agg #[.int .i64 0, .int .i64 0], .bool false]) W := fun W => by kernel_rfl
  have y3 : ∀ W, (Instr.typeAssert (.nilIface) 57 123 true).run Tryd.prog W = .ok (.tuple #[.agg #[.int .i64 0, .int .i64 0], .bool false]) W := fun W => by kernel_rfl
  have y4 : ∀ W, (Instr.typeAssert (.nilIface) 57 125 true).run Tryd.prog W = .ok (.tuple #[.agg #[.int .i64 0, .int .i64 0], .bool false]) W := fun W => by kernel_rfl
  have y5 : ∀ W, (Instr.typeAssert (.nilIface) 57 126 true).run Tryd.prog W = .ok (.tuple #[.agg #[.int .i64 0], .bool false]) W := fun W => by kernel_rfl
  go_enter Tryd.func50, Tryd.ntmps50
  go_wp2
  go_ret
  exact ⟨rfl, by repeat (first | exact Below.refl _ _ | apply below_drew1 | apply pw_below_drewN | apply below_alloc)⟩
end Go.Proofs.YtoeepmcaabmjkaaDoor.QTX
namespace Go.Proofs.YtoeepmcaabmjkaaDoor.QTX
open Go.RowKit Go.Proofs.YtoeepmcaabmjkaaDoorW.PrintWords Go.Proofs.YtoeepmcaabmjkaaDoorW.PrintLast Go.Proofs.YtoeepmcaabmjkaaDoorW.PrintMore
attribute [local go_sem] max2_int min2_int max_two min_two max_three min_three max_four min_four   -- for this text's walks alone
set_option linter.unusedVariables false
set_option linter.unusedSimpArgs false
-- NOT PRINTED: function 100 (abi_NoEscape)
-- NOT PRINTED: function 90 (strings_Builder_copyCheck)
-- NOT PRINTED: function 101 (bytealg_MakeNoZero)
-- NOT PRINTED: function 91 (strings_Builder_grow)
-- NOT PRINTED: function 71 (strings_Builder_Grow)
-- NOT PRINTED: function 72 (strings_Builder_WriteString)
-- NOT PRINTED: function 73 (strings_Builder_String)
-- NOT PRINTED: function 52 (strings_Join)
def joinB (b : ByteArray) (xs : List ByteArray) : ByteArray := ⟨(Lib.join ((b :: xs).map (·.data.toList)) [32]).toArray⟩
def deedsF : List S82 → Option (List ByteArray)
  | [] => some []
  | d :: l => (impl_partOfDeed.f d.f0 d.f1 d.f2).bind fun p => (impl_deedText.f p).bind fun x => (deedsF l).bind fun xs => some (x :: xs)
def kidsF : List Int → Option (List ByteArray)
  | [] => some []
  | d :: l => (strconv_Itoa.f d).bind fun x => (kidsF l).bind fun xs => some (x :: xs)
def impl_actText.f (k : Int) (l1 : List S82) (l2 : List Int) (r : Int) : Option ByteArray :=
  if l1.length > 1000 ∨ l2.length > 1000 then none
  else if k = 1 ∧ l2.length = 0 ∧ r = 0 then (deedsF l1).bind fun xs => some (joinB ⟨#[116, 114, 121]⟩ xs)
  else if k = 2 ∧ l1.length = 0 ∧ r = 0 then (kidsF l2).bind fun xs => some (joinB ⟨#[102, 111, 114, 107]⟩ xs)
  else if k = 3 ∧ l1.length = 0 ∧ l2.length = 0 ∧ r = 0 then some (⟨#[102, 97, 105, 108]⟩ : ByteArray)
  else if k = 4 ∧ l1.length = 0 ∧ l2.length = 0 then (impl_regName.f r).bind fun x => some ((⟨#[102, 97, 105, 108, 105, 102, 32]⟩ : ByteArray) ++ x)
  else some (⟨#[]⟩ : ByteArray)
theorem deedText_size {p : Part} {r : ByteArray} (h : impl_deedText.f p = some r) : r.size ≤ 4 := by
  unfold impl_deedText.f at h
  repeat' split at h
  · obtain ⟨x, hx, h⟩ := Option.bind_eq_some_iff.1 h
    obtain ⟨y, hy, h⟩ := Option.bind_eq_some_iff.1 h
    have := regName_size hx; have := cellName_size hy
    injection h with h
    rw [← h, ByteArray.size_append, ByteArray.size_append]
    have e : (⟨#[61]⟩ : ByteArray).size = 1 := rfl
    omega
  · obtain ⟨x, hx, h⟩ := Option.bind_eq_some_iff.1 h
    obtain ⟨y, hy, h⟩ := Option.bind_eq_some_iff.1 h
    have := cellName_size hx; have := regName_size hy
    injection h with h
    rw [← h, ByteArray.size_append, ByteArray.size_append]
    have e : (⟨#[61]⟩ : ByteArray).size = 1 := rfl
    omega
  · obtain ⟨x, hx, h⟩ := Option.bind_eq_some_iff.1 h
    obtain ⟨y, hy, h⟩ := Option.bind_eq_some_iff.1 h
    have := regName_size hx; have := Itoa_size hy
    injection h with h
    rw [← h, ByteArray.size_append, ByteArray.size_append]
    have e : (⟨#[61]⟩ : ByteArray).size = 1 := rfl
    omega
  · obtain ⟨x, hx, h⟩ := Option.bind_eq_some_iff.1 h
    obtain ⟨y, hy, h⟩ := Option.bind_eq_some_iff.1 h
    have := regName_size hx; have := regName_size hy
    injection h with h
    rw [← h, ByteArray.size_append, ByteArray.size_append]
    have e : (⟨#[43]⟩ : ByteArray).size = 1 := rfl
    omega
  · obtain ⟨x, hx, h⟩ := Option.bind_eq_some_iff.1 h
    have := regName_size hx
    injection h with h
    rw [← h, ByteArray.size_append]
    have e : (⟨#[63]⟩ : ByteArray).size = 1 := rfl
    omega
  · injection h with h
    rw [← h]
    exact Nat.zero_le _
theorem deeds_small : ∀ {l : List S82} {xs : List ByteArray}, deedsF l = some xs → xs.length = l.length ∧ ∀ x ∈ xs, x.size ≤ 4
  | [], xs, h => by injection h with h; subst h; simp
  | d :: l, xs, h => by
    unfold deedsF at h
    obtain ⟨p, _, h⟩ := Option.bind_eq_some_iff.1 h
    obtain ⟨x, hx, h⟩ := Option.bind_eq_some_iff.1 h
    obtain ⟨ys, hy, h⟩ := Option.bind_eq_some_iff.1 h
    injection h with h
    subst h
    obtain ⟨h1, h2⟩ := deeds_small hy
    refine ⟨by simp [h1], fun z hz => ?_⟩
    rcases List.mem_cons.1 hz with rfl | hz
    · exact deedText_size hx
    · exact h2 z hz
theorem kids_small : ∀ {l : List Int} {xs : List ByteArray}, kidsF l = some xs → xs.length = l.length ∧ ∀ x ∈ xs, x.size ≤ 4
  | [], xs, h => by injection h with h; subst h; simp
  | d :: l, xs, h => by
    unfold kidsF at h
    obtain ⟨x, hx, h⟩ := Option.bind_eq_some_iff.1 h
    obtain ⟨ys, hy, h⟩ := Option.bind_eq_some_iff.1 h
    injection h with h
    subst h
    obtain ⟨h1, h2⟩ := kids_small hy
    refine ⟨by simp [h1], fun z hz => ?_⟩
    rcases List.mem_cons.1 hz with rfl | hz
    · have := Itoa_size hx; omega
    · exact h2 z hz
theorem join_len (b : ByteArray) (xs : List ByteArray) (hb : b.size ≤ 4) (hn : xs.length ≤ 1000) (h : ∀ x ∈ xs, x.size ≤ 4) : (Lib.join ((b :: xs).map (·.data.toList)) [32]).length ≤ 100000 := by
  rw [List.map_cons, Lib.join_length]
  have hl : ∀ l : List ByteArray, (∀ x ∈ l, x.size ≤ 4) → Lib.lens (l.map (·.data.toList)) ≤ 4 * l.length := by
    intro l
    induction l with
    | nil => intro _; simp [Lib.lens]
    | cons y l ih =>
      intro hy
      have h1 := ih (fun x hx => hy x (List.mem_cons_of_mem _ hx))
      have h2 := hy y List.mem_cons_self
      have h3 : y.data.toList.length = y.size := rfl
      simp only [Lib.lens, List.map_cons, List.sum_cons, List.length_cons] at h1 ⊢
      omega
  have h1 := hl (b :: xs) (fun x hx => by
    rcases List.mem_cons.1 hx with rfl | hx
    · exact hb
    · exact h x hx)
  rw [List.map_cons] at h1
  simp only [List.length_map, List.length_cons, List.length_nil] at h1 ⊢
  omega
theorem words_cells {w : World} {base : Nat} {g c : Nat} {xs : List ByteArray} {n : Nat} (h : Kd.R Kd.string 9 w base (fun _ => True) (.slice (some ⟨g, 0, none⟩) n c) xs) (j : Nat) (x : ByteArray) (hj : xs[j]? = some x) : w.cell? ⟨g, 0 + j, none⟩ = some (.string x) := by
  obtain ⟨hl, hx⟩ := List.getElem?_eq_some_iff.1 hj
  have hn := (Kd.R_reads' h).1
  have := (Kd.R_celln ByteArray.empty h (j : Int) (by omega) (by omega)).1
  rw [Nat.zero_add]
  rw [Int.toNat_natCast] at this
  rw [this]
  simp [rdOf, List.getD, hl, ← hx]
set_option maxHeartbeats 8000000 in
set_option maxRecDepth 100000 in
theorem impl_actText.calls (k : Int) (A1 : Option Addr) (c1 : Nat) (l1 : List S82) (A2 : Option Addr) (c2 : Nat) (l2 : List Int) (r : Int) (t : ByteArray) (w : World) (hr1 : Kd.C k82 w A1 l1.length l1) (hr2 : Kd.C (Kd.int .i64) w A2 l2.length l2) (h : impl_actText.f k l1 l2 r = some t) :
    Calls Tryd.prog 27 #[actW k (.slice A1 l1.length c1) l1.length (.slice A2 l2.length c2) l2.length r] w fun e w' => e = .returned (.string t) ∧ Below w.heap.size w w' := by
  have hu1 := Tryd.underlying89
  have hu2 := Tryd.underlying93
  have hu3 := Tryd.underlying95
  have hu4 := Tryd.underlying97
  have hu5 := Tryd.underlying82
  unfold impl_actText.f at h
  have cs : ¬ (l1.length > 1000 ∨ l2.length > 1000) := fun c => by rw [if_pos c] at h; cases h
  rw [if_neg cs] at h
  unfold actW
  by_cases k1 : k = 1 ∧ l2.length = 0 ∧ r = 0
  · rw [if_pos k1] at h ⊢
    clear k1
    have y1 : ∀ W, (Instr.typeAssert (.iface 89 (.agg #[.slice A1 l1.length c1])) 57 89 true).run Tryd.prog W = .ok (.tuple #[.agg #[.slice A1 l1.length c1], .bool true]) W := fun W => by kernel_rfl
    replace h := Aside0.mk h
    replace cs := Aside0.mk cs
    replace hr1 := Aside0.mk hr1
    clear hr2
    go_enter Tryd.func27, Tryd.ntmps27
    go_wp2_with (fail)
    have HR := Aside0.mk (show Kd.R Kd.string 9 ((w.alloc (.cells #[.slice A1 l1.length c1] 89)).alloc (.cells #[.string ⟨#[116, 114, 121]⟩] 9)) w.heap.size (fun _ => True) (.slice (some ⟨w.heap.size + 1, 0, none⟩) 1 1) ((⟨#[116, 114, 121]⟩ : ByteArray) :: []) from
      R_fresh (xs := [(⟨#[116, 114, 121]⟩ : ByteArray)]) (cs := [.string ⟨#[116, 114, 121]⟩]) (alloc_at (by simp)) (by omega) trivial (by simp [maxLen]) ((Reps.none _ _).snoc (p := (⟨#[116, 114, 121]⟩ : ByteArray)) (c := [.string ⟨#[116, 114, 121]⟩]) rfl rfl))
    have HB := Aside0.mk (show Below w.heap.size w ((w.alloc (.cells #[.slice A1 l1.length c1] 89)).alloc (.cells #[.string ⟨#[116, 114, 121]⟩] 9)) from below_alloc (below_alloc (Below.refl _ _) _) _)
    go_loopg [21, 4] l1.length (fun n v21 v4 w' => ∃ (i : Int) (xs : List ByteArray), v21 = .int .i64 i ∧ Aside0 (i + n = l1.length ∧ 0 ≤ i) ∧ Aside0 ((deedsF (l1.drop i.toNat)).bind (fun ys => some (joinB ⟨#[116, 114, 121]⟩ (xs ++ ys))) = some t) ∧ Aside0 (Kd.R Kd.string 9 w' w.heap.size (fun _ => True) v4 ((⟨#[116, 114, 121]⟩ : ByteArray) :: xs)) ∧ Aside0 (xs.length = i.toNat ∧ ∀ x ∈ xs, x.size ≤ 4) ∧ Aside0 (Below w.heap.size w w'))
    case atStart => exact ⟨0, [], rfl, ⟨by simp⟩, by simpa using h, HR, ⟨by simp⟩, HB⟩
    case round =>
      clear HR HB h
      obtain ⟨i, xs, rfl, hi, H, HR, HX, HB⟩ := hrel
      cases gk with
      | zero =>
        have cb : decide (i < l1.length) = false := by have := hi.out; exact decide_eq_false (by omega)
        have H := H.out
        rw [List.drop_eq_nil_of_le (by have := hi.out; omega)] at H
        simp only [deedsF, Option.bind_some, List.append_nil, Option.some.injEq] at H
        subst H
        obtain ⟨g, cap, hv, _, hg, _⟩ := Kd.R_form HR.out (by simp)
        subst hv
        go_wp2_with (fail)
        refine (Shelf.Tryd.strings_Join g 0 cap (⟨#[116, 114, 121]⟩ :: xs) ⟨#[32]⟩ _ (words_cells HR.out) hg (by have h1 := HX.out.1; have h2 := hi.out; have h3 := cs.out; simp only [List.length_cons]; omega) (Kd.R_reads' HR.out).2.1 (Nat.le_trans (join_len _ xs (by decide) (by have h1 := HX.out.1; have h2 := hi.out; have h3 := cs.out; omega) HX.out.2) (by decide))).mono ?_
        rintro e w2 ⟨rfl, hb⟩
        go_wp2
        go_ret
        exact ⟨rfl, below_then HB.out HB.out.size hb⟩
      | succ m =>
        have cb : decide (i < l1.length) = true := by have := hi.out; exact decide_eq_true (by omega)
        obtain ⟨ad, eA, hq0, hq1, hq2⟩ := at_T82 hr1.out i (by have := hi.out; omega) (by have := hi.out; omega)
        subst eA
        have hil : i.toNat < l1.length := by have := hi.out; omega
        obtain ⟨x, hx⟩ : ∃ x, x = rd_T82 l1 i := ⟨_, rfl⟩
        rw [← hx] at hq0 hq1 hq2
        replace hq0 := pw_cell_below HB.out hq0
        replace hq1 := pw_cell_below HB.out hq1
        replace hq2 := pw_cell_below HB.out hq2
        have H := H.out
        have hd : l1.drop i.toNat = x :: l1.drop (i + 1).toNat := by
          rw [List.drop_eq_getElem_cons hil, hx, rd_T82, List.getD_eq_getElem?_getD, List.getElem?_eq_getElem hil, show (i + 1).toNat = i.toNat + 1 by have := hi.out; omega]
          rfl
        rw [hd] at H
        clear hd hx hil
        obtain ⟨zs, hz, H⟩ := Option.bind_eq_some_iff.1 H
        unfold deedsF at hz
        obtain ⟨p, hp, hz⟩ := Option.bind_eq_some_iff.1 hz
        obtain ⟨y, hy, hz⟩ := Option.bind_eq_some_iff.1 hz
        obtain ⟨ys, hys, hz⟩ := Option.bind_eq_some_iff.1 hz
        injection hz with hz
        subst hz
        have sy := deedText_size hy
        replace hp := Aside0.mk hp
        replace hy := Aside0.mk hy
        have H := Aside0.mk (show (deedsF (l1.drop (i + 1).toNat)).bind (fun ys => some (joinB ⟨#[116, 114, 121]⟩ (xs ++ [y] ++ ys))) = some t by rw [hys]; simpa using H)
        clear hys
        have hip : 0 ≤ i := hi.out.2
        have hil : i < (l1.length : Int) := by have := hi.out; omega
        have ei : wrap64 (i + 1) = i + 1 := by have h1 := cs.out; unfold wrap64; omega
        replace sy := Aside0.mk sy
        go_wp2_with (fail)
        refine (impl_partOfDeed.calls x.f0 x.f1 x.f2 p _ hp.out).mono ?_
        rintro e w2 ⟨rfl, hb2⟩
        go_wp2_with (fail)
        refine (impl_deedText.calls p y _ hy.out).mono ?_
        rintro e w3 ⟨rfl, hb3⟩
        have h23 : Below wr.heap.size wr w3 := below_then (below_then (below_alloc (Below.refl _ _) _) (by simp) hb2) (by have := hb2.size; simp at this; omega) hb3
        have HB3 := Aside0.mk (below_then HB.out HB.out.size h23)
        have HR3 := Aside0.mk (Kd.R_below HR.out h23)
        clear HB HR h23 hb2 hb3 hq0 hq1 hq2
        go_wp2_with (at_builtin; refine Kd.R_append Kd.string w.heap.size rfl (.tmp 25) (.tmp 29) 79 9 (.string ⟨#[]⟩) 16 rfl Tryd.underlying79 (by kernel_rfl) rfl (by decide) (by decide) u4 (⟨#[116, 114, 121]⟩ :: xs) y [.string y] (fun _ => True) (fun _ => False) rfl rfl rfl (fun _ hk => hk.elim) (fun _ _ => trivial) HR3.out (Below.refl _ _) HB3.out.size (by have h1 := HX.out.1; have h2 := hi.out; have h3 := cs.out; simp only [List.length_cons]; omega) ?_)
        intro va wa hra hba hga hata
        go_wp2
        go_roundg m
        case measure => exact Nat.lt_succ_self _
        case rel => exact ⟨i + 1, xs ++ [y], by first | rfl | (simp [ei]; done), ⟨by have h1 := hi.out; omega⟩, H, ⟨hra⟩, ⟨by have h1 := HX.out.1; have h2 := hi.out; rw [List.length_append, List.length_singleton]; omega, fun z hz => by
          rcases List.mem_append.1 hz with hz | hz
          · exact HX.out.2 z hz
          · rw [List.mem_singleton.1 hz]; exact sy.out⟩, ⟨HB3.out.trans hba⟩⟩
  rw [if_neg k1] at h ⊢
  by_cases k2 : k = 2 ∧ l1.length = 0 ∧ r = 0
  · rw [if_pos k2] at h ⊢
    clear k2 k1
    have y0 : ∀ W, (Instr.typeAssert (.iface 93 (.agg #[.slice A2 l2.length c2])) 57 89 true).run Tryd.prog W = .ok (.tuple #[.agg #[.slice none 0 0], .bool false]) W := fun W => by kernel_rfl
    have y1 : ∀ W, (Instr.typeAssert (.iface 93 (.agg #[.slice A2 l2.length c2])) 57 93 true).run Tryd.prog W = .ok (.tuple #[.agg #[.slice A2 l2.length c2], .bool true]) W := fun W => by kernel_rfl
    replace h := Aside0.mk h
    replace cs := Aside0.mk cs
    replace hr2 := Aside0.mk hr2
    clear hr1
    go_enter Tryd.func27, Tryd.ntmps27
    go_wp2_with (fail)
    have HR := Aside0.mk (show Kd.R Kd.string 9 ((w.alloc (.cells #[.slice A2 l2.length c2] 93)).alloc (.cells #[.string ⟨#[102, 111, 114, 107]⟩] 9)) w.heap.size (fun _ => True) (.slice (some ⟨w.heap.size + 1, 0, none⟩) 1 1) ((⟨#[102, 111, 114, 107]⟩ : ByteArray) :: []) from
      R_fresh (xs := [(⟨#[102, 111, 114, 107]⟩ : ByteArray)]) (cs := [.string ⟨#[102, 111, 114, 107]⟩]) (alloc_at (by simp)) (by omega) trivial (by simp [maxLen]) ((Reps.none _ _).snoc (p := (⟨#[102, 111, 114, 107]⟩ : ByteArray)) (c := [.string ⟨#[102, 111, 114, 107]⟩]) rfl rfl))
    have HB := Aside0.mk (show Below w.heap.size w ((w.alloc (.cells #[.slice A2 l2.length c2] 93)).alloc (.cells #[.string ⟨#[102, 111, 114, 107]⟩] 9)) from below_alloc (below_alloc (Below.refl _ _) _) _)
    go_loopg [41, 8] l2.length (fun n v21 v4 w' => ∃ (i : Int) (xs : List ByteArray), v21 = .int .i64 i ∧ Aside0 (i + n = l2.length ∧ 0 ≤ i) ∧ Aside0 ((kidsF (l2.drop i.toNat)).bind (fun ys => some (joinB ⟨#[102, 111, 114, 107]⟩ (xs ++ ys))) = some t) ∧ Aside0 (Kd.R Kd.string 9 w' w.heap.size (fun _ => True) v4 ((⟨#[102, 111, 114, 107]⟩ : ByteArray) :: xs)) ∧ Aside0 (xs.length = i.toNat ∧ ∀ x ∈ xs, x.size ≤ 4) ∧ Aside0 (Below w.heap.size w w'))
    case atStart => exact ⟨0, [], rfl, ⟨by simp⟩, by simpa using h, HR, ⟨by simp⟩, HB⟩
    case round =>
      clear HR HB h
      obtain ⟨i, xs, rfl, hi, H, HR, HX, HB⟩ := hrel
      cases gk with
      | zero =>
        have cb : decide (i < l2.length) = false := by have := hi.out; exact decide_eq_false (by omega)
        have H := H.out
        rw [List.drop_eq_nil_of_le (by have := hi.out; omega)] at H
        simp only [kidsF, Option.bind_some, List.append_nil, Option.some.injEq] at H
        subst H
        obtain ⟨g, cap, hv, _, hg, _⟩ := Kd.R_form HR.out (by simp)
        subst hv
        go_wp2_with (fail)
        refine (Shelf.Tryd.strings_Join g 0 cap (⟨#[102, 111, 114, 107]⟩ :: xs) ⟨#[32]⟩ _ (words_cells HR.out) hg (by have h1 := HX.out.1; have h2 := hi.out; have h3 := cs.out; simp only [List.length_cons]; omega) (Kd.R_reads' HR.out).2.1 (Nat.le_trans (join_len _ xs (by decide) (by have h1 := HX.out.1; have h2 := hi.out; have h3 := cs.out; omega) HX.out.2) (by decide))).mono ?_
        rintro e w2 ⟨rfl, hb⟩
        go_wp2
        go_ret
        exact ⟨rfl, below_then HB.out HB.out.size hb⟩
      | succ m =>
        have cb : decide (i < l2.length) = true := by have := hi.out; exact decide_eq_true (by omega)
        obtain ⟨ad, eA, hq0⟩ := Kd.at_int hr2.out i (by have := hi.out; omega) (by have := hi.out; omega)
        subst eA
        have hil : i.toNat < l2.length := by have := hi.out; omega
        obtain ⟨x, hx⟩ : ∃ x, x = rd l2 i := ⟨_, rfl⟩
        rw [← hx] at hq0
        replace hq0 := pw_cell_below HB.out hq0
        have H := H.out
        have hd : l2.drop i.toNat = x :: l2.drop (i + 1).toNat := by
          rw [List.drop_eq_getElem_cons hil, hx, rd, List.getD_eq_getElem?_getD, List.getElem?_eq_getElem hil, show (i + 1).toNat = i.toNat + 1 by have := hi.out; omega]
          rfl
        rw [hd] at H
        clear hd hx hil
        obtain ⟨zs, hz, H⟩ := Option.bind_eq_some_iff.1 H
        unfold kidsF at hz
        obtain ⟨y, hy, hz⟩ := Option.bind_eq_some_iff.1 hz
        obtain ⟨ys, hys, hz⟩ := Option.bind_eq_some_iff.1 hz
        injection hz with hz
        subst hz
        have sy : y.size ≤ 4 := Nat.le_trans (Itoa_size hy) (by decide)
        replace hy := Aside0.mk hy
        have H := Aside0.mk (show (kidsF (l2.drop (i + 1).toNat)).bind (fun ys => some (joinB ⟨#[102, 111, 114, 107]⟩ (xs ++ [y] ++ ys))) = some t by rw [hys]; simpa using H)
        clear hys
        have hip : 0 ≤ i := hi.out.2
        have hil : i < (l2.length : Int) := by have := hi.out; omega
        have ei : wrap64 (i + 1) = i + 1 := by have h1 := cs.out; unfold wrap64; omega
        replace sy := Aside0.mk sy
        go_wp2_with (fail)
        refine (strconv_Itoa.calls x y _ hy.out).mono ?_
        rintro e w3 ⟨rfl, rfl⟩
        have HB3 := HB
        have HR3 := HR
        clear HB HR hq0
        go_wp2_with (at_builtin; refine Kd.R_append Kd.string w.heap.size rfl (.tmp 45) (.tmp 48) 79 9 (.string ⟨#[]⟩) 16 rfl Tryd.underlying79 (by kernel_rfl) rfl (by decide) (by decide) u8 (⟨#[102, 111, 114, 107]⟩ :: xs) y [.string y] (fun _ => True) (fun _ => False) rfl rfl rfl (fun _ hk => hk.elim) (fun _ _ => trivial) HR3.out (Below.refl _ _) HB3.out.size (by have h1 := HX.out.1; have h2 := hi.out; have h3 := cs.out; simp only [List.length_cons]; omega) ?_)
        intro va wa hra hba hga hata
        go_wp2
        go_roundg m
        case measure => exact Nat.lt_succ_self _
        case rel => exact ⟨i + 1, xs ++ [y], by first | rfl | (simp [ei]; done), ⟨by have h1 := hi.out; omega⟩, H, ⟨hra⟩, ⟨by have h1 := HX.out.1; have h2 := hi.out; rw [List.length_append, List.length_singleton]; omega, fun z hz => by
          rcases List.mem_append.1 hz with hz | hz
          · exact HX.out.2 z hz
          · rw [List.mem_singleton.1 hz]; exact sy.out⟩, ⟨HB3.out.trans hba⟩⟩
  rw [if_neg k2] at h ⊢
  by_cases k3 : k = 3 ∧ l1.length = 0 ∧ l2.length = 0 ∧ r = 0
  · rw [if_pos k3] at h ⊢
    clear k1 k2 k3
    have y0 : ∀ W, (Instr.typeAssert (.iface 95 (.agg #[])) 57 89 true).run Tryd.prog W = .ok (.tuple #[.agg #[.slice none 0 0], .bool false]) W := fun W => by kernel_rfl
    have y1 : ∀ W, (Instr.typeAssert (.iface 95 (.agg #[])) 57 93 true).run Tryd.prog W = .ok (.tuple #[.agg #[.slice none 0 0], .bool false]) W := fun W => by kernel_rfl
    have y2 : ∀ W, (Instr.typeAssert (.iface 95 (.agg #[])) 57 95 true).run Tryd.prog W = .ok (.tuple #[.agg #[], .bool true]) W := fun W => by kernel_rfl
    injection h with h
    subst h
    go_enter Tryd.func27, Tryd.ntmps27
    go_wp2
    go_ret
    exact ⟨rfl, by repeat (first | exact Below.refl _ _ | apply below_drew1 | apply pw_below_drewN | apply below_alloc)⟩
  rw [if_neg k3] at h ⊢
  by_cases k4 : k = 4 ∧ l1.length = 0 ∧ l2.length = 0
  · rw [if_pos k4] at h ⊢
    clear k1 k2 k3 k4
    have y0 : ∀ W, (Instr.typeAssert (.iface 97 (.agg #[.int .i64 r])) 57 89 true).run Tryd.prog W = .ok (.tuple #[.agg #[.slice none 0 0], .bool false]) W := fun W => by kernel_rfl
    have y1 : ∀ W, (Instr.typeAssert (.iface 97 (.agg #[.int .i64 r])) 57 93 true).run Tryd.prog W = .ok (.tuple #[.agg #[.slice none 0 0], .bool false]) W := fun W => by kernel_rfl
    have y2 : ∀ W, (Instr.typeAssert (.iface 97 (.agg #[.int .i64 r])) 57 95 true).run Tryd.prog W = .ok (.tuple #[.agg #[], .bool false]) W := fun W => by kernel_rfl
    have y3 : ∀ W, (Instr.typeAssert (.iface 97 (.agg #[.int .i64 r])) 57 97 true).run Tryd.prog W = .ok (.tuple #[.agg #[.int .i64 r], .bool true]) W := fun W => by kernel_rfl
    obtain ⟨x, hx, h⟩ := Option.bind_eq_some_iff.1 h
    have sx := regName_size hx
    replace hx := Aside0.mk hx
    injection h with h
    subst h
    go_enter Tryd.func27, Tryd.ntmps27
    go_wp2_with (fail)
    refine (impl_regName.calls r x _ hx.out).mono ?_
    rintro e w1 ⟨rfl, rfl⟩
    go_wp2
    go_ret
    exact ⟨rfl, by repeat (first | exact Below.refl _ _ | apply below_drew1 | apply pw_below_drewN | apply below_alloc)⟩
  rw [if_neg k4] at h ⊢
  injection h with h
  subst h
  have y0 : ∀ W, (Instr.typeAssert .nilIface 57 89 true).run Tryd.prog W = .ok (.tuple #[.agg #[.slice none 0 0], .bool false]) W := fun W => by kernel_rfl
  have y1 : ∀ W, (Instr.typeAssert .nilIface 57 93 true).run Tryd.prog W = .ok (.tuple #[.agg #[.slice none 0 0], .bool false]) W := fun W => by kernel_rfl
  have y2 : ∀ W, (Instr.typeAssert .nilIface 57 95 true).run Tryd.prog W = .ok (.tuple #[.agg #[], .bool false]) W := fun W => by kernel_rfl
  have y3 : ∀ W, (Instr.typeAssert .nilIface 57 97 true).run Tryd.prog W = .ok (.tuple #[.agg #[.int .i64 0], .bool false]) W := fun W => by kernel_rfl
  clear k1 k2 k3 k4
  go_enter Tryd.func27, Tryd.ntmps27
  go_wp2
  go_ret
  exact ⟨rfl, by repeat (first | exact Below.refl _ _ | apply below_drew1 | apply pw_below_drewN | apply below_alloc)⟩
end Go.Proofs.YtoeepmcaabmjkaaDoor.QTX
namespace Go.Proofs.YtoeepmcaabmjkaaDoor.QTX
open Go.RowKit Go.Proofs.YtoeepmcaabmjkaaDoorW.PrintWords Go.Proofs.YtoeepmcaabmjkaaDoorW.PrintLast Go.Proofs.YtoeepmcaabmjkaaDoorW.PrintMore
attribute [local go_sem] max2_int min2_int max_two min_two max_three min_three max_four min_four   -- for this text's walks alone
set_option linter.unusedVariables false
set_option linter.unusedSimpArgs false
def cellT (t : ByteArray) : List Int → Option ByteArray
  | [] => some t
  | d :: l => if t.size > 1000000000 then none else (strconv_Itoa.f d).bind fun x => cellT (t ++ ((⟨#[32]⟩ : ByteArray) ++ x)) l
def actT (t : ByteArray) : List S52 → Option ByteArray
  | [] => some t
  | a :: l => if t.size > 1000000000 then none else (impl_actText.f a.f0 a.f1 a.f2 a.f3).bind fun x => actT (t ++ (x ++ (⟨#[10]⟩ : ByteArray))) l
def bodT (t : ByteArray) : List (List S52) → Option ByteArray
  | [] => some t
  | l :: ls => if t.size > 1000000000 then none else (actT (t ++ (⟨#[98, 111, 100, 121, 10]⟩ : ByteArray)) l).bind fun u => bodT u ls
def impl_ProgText.f (k : Nat) (l0 : List Int) (l1 : List (List S52)) : Option ByteArray :=
  (impl_ProgOk.f k l0 l1).bind fun ok => if ok = true then (cellT ⟨#[99, 101, 108, 108, 115]⟩ l0).bind fun t => (if t.size > 1000000000 then none else bodT (t ++ (⟨#[10]⟩ : ByteArray)) l1) else some (⟨#[]⟩ : ByteArray)
theorem actText_size {k : Int} {l1 : List S82} {l2 : List Int} {r : Int} {t : ByteArray} (h : impl_actText.f k l1 l2 r = some t) : t.size ≤ 100000 := by
  unfold impl_actText.f at h
  have cs : ¬ (l1.length > 1000 ∨ l2.length > 1000) := fun c => by rw [if_pos c] at h; cases h
  rw [if_neg cs] at h
  split at h
  · obtain ⟨xs, hx, h⟩ := Option.bind_eq_some_iff.1 h
    obtain ⟨h1, h2⟩ := deeds_small hx
    injection h with h
    rw [← h]
    exact join_len _ xs (by decide) (by omega) h2
  · split at h
    · obtain ⟨xs, hx, h⟩ := Option.bind_eq_some_iff.1 h
      obtain ⟨h1, h2⟩ := kids_small hx
      injection h with h
      rw [← h]
      exact join_len _ xs (by decide) (by omega) h2
    · split at h
      · injection h with h
        rw [← h]
        decide
      · split at h
        · obtain ⟨x, hx, h⟩ := Option.bind_eq_some_iff.1 h
          have := regName_size hx
          injection h with h
          rw [← h, ByteArray.size_append]
          have e : (⟨#[102, 97, 105, 108, 105, 102, 32]⟩ : ByteArray).size = 7 := rfl
          omega
        · injection h with h
          rw [← h]
          decide
set_option maxHeartbeats 8000000 in
set_option maxRecDepth 100000 in
theorem impl_ProgText.calls (k : Nat) (A0_0 : Option Addr) (c0_0 : Nat) (l0_0 : List Int) (A0_1 : Option Addr) (c0_1 : Nat) (l0_1 : List (List (S52))) (r : ByteArray) (w : World) (hr0_0 : Kd.C (Kd.int .i64) w A0_0 l0_0.length l0_0) (hc0_0 : l0_0.length ≤ c0_0) (hr0_1 : Kd.C (Kd.slice 52 k52) w A0_1 l0_1.length l0_1) (hc0_1 : l0_1.length ≤ c0_1) (h : impl_ProgText.f k l0_0 l0_1 = some r) :
    Calls Tryd.prog 9 #[.agg #[.slice A0_0 l0_0.length c0_0, .slice A0_1 l0_1.length c0_1]] w fun e w' => e = .returned (.string r) ∧ Below w.heap.size w w' := by
  have hu1 := Tryd.underlying30
  have hu2 := Tryd.underlying52
  unfold impl_ProgText.f at h
  obtain ⟨ok, ho, h⟩ := Option.bind_eq_some_iff.1 h
  have HO := Aside0.mk ho
  have HR0 := Aside0.mk hr0_0
  have HC0 := Aside0.mk hc0_0
  have HR1 := Aside0.mk hr0_1
  have HC1 := Aside0.mk hc0_1
  clear ho hr0_0 hc0_0 hr0_1 hc0_1
  have HM := Aside0.mk (show l0_1.length ≤ 9223372036854775807 from HR1.out.2.1)
  have HM0 := Aside0.mk (show l0_0.length ≤ 9223372036854775807 from HR0.out.2.1)
  replace h := Aside0.mk h
  have hb0 : (w.alloc (.cells #[.slice A0_0 l0_0.length c0_0, .slice A0_1 l0_1.length c0_1] 30)).heap[w.heap.size]? = some (.cells #[.slice A0_0 l0_0.length c0_0, .slice A0_1 l0_1.length c0_1] 30 (0, 0)) := heap_alloc_new w _
  replace hb0 := Aside0.mk hb0
  go_enter Tryd.func9, Tryd.ntmps9
  go_wp2_with (fail)
  refine (impl_ProgOk.calls k A0_0 c0_0 l0_0 A0_1 c0_1 l0_1 ok _ (Kd.C_alloc HR0.out _) HC0.out (Kd.C_alloc HR1.out _) HC1.out HO.out).mono ?_
  rintro e w1 ⟨rfl, hb1⟩
  have HB := Aside0.mk (below_then (below_alloc (Below.refl w.heap.size w) _) (by simp) hb1)
  have HBX := Aside0.mk (blk_below hb0.out hb1)
  clear hb0 hb1 HO
  cases ok with
  | false =>
    have h := h.out
    rw [if_neg Bool.false_ne_true] at h
    injection h with h
    subst h
    go_wp2
    go_ret
    exact ⟨rfl, HB.out⟩
  | true =>
    have h := h.out
    rw [if_pos rfl] at h
    obtain ⟨t0, ht0, h⟩ := Option.bind_eq_some_iff.1 h
    have ht0 := Aside0.mk ht0
    have h := Aside0.mk h
    have xb0 : w1.cell? ⟨w.heap.size, 0, none⟩ = some (.slice A0_0 l0_0.length c0_0) := (blk_cell HBX.out 0).trans rfl
    go_wp2_with (fail)
    go_loopg [16, 3] l0_0.length (fun n v16 v3 w' => ∃ (i : Int) (t : ByteArray), v16 = .int .i64 i ∧ v3 = .string t ∧ Aside0 (i + n = l0_0.length ∧ 0 ≤ i) ∧ Aside0 (cellT t (l0_0.drop i.toNat) = some t0) ∧ Aside0 (Below w.heap.size w w') ∧ Aside0 (w'.heap[w.heap.size]? = some (.cells #[.slice A0_0 l0_0.length c0_0, .slice A0_1 l0_1.length c0_1] 30 (0, 0))))
    case atStart => exact ⟨0, ⟨#[99, 101, 108, 108, 115]⟩, rfl, rfl, ⟨by simp⟩, by simpa using ht0, HB, HBX⟩
    case round =>
      clear HB HBX ht0 xb0
      obtain ⟨i, t, rfl, rfl, hi, H, HB, HBX⟩ := hrel
      cases gk with
      | succ m =>
        have cb : decide (i < l0_0.length) = true := by have := hi.out; exact decide_eq_true (by omega)
        obtain ⟨ad, eA, hq0⟩ := Kd.at_int HR0.out i (by have := hi.out; omega) (by have := hi.out; omega)
        subst eA
        have hil : i.toNat < l0_0.length := by have := hi.out; omega
        obtain ⟨x, hx⟩ : ∃ x, x = rd l0_0 i := ⟨_, rfl⟩
        rw [← hx] at hq0
        replace hq0 := pw_cell_below HB.out hq0
        have H := H.out
        have hd : l0_0.drop i.toNat = x :: l0_0.drop (i + 1).toNat := by
          rw [List.drop_eq_getElem_cons hil, hx, rd, List.getD_eq_getElem?_getD, List.getElem?_eq_getElem hil, show (i + 1).toNat = i.toNat + 1 by have := hi.out; omega]
          rfl
        rw [hd] at H
        clear hd hx hil
        unfold cellT at H
        have ts : ¬ (t.size > 1000000000) := fun c => by rw [if_pos c] at H; cases H
        rw [if_neg ts] at H
        obtain ⟨y, hy, H⟩ := Option.bind_eq_some_iff.1 H
        have sy := Itoa_size hy
        have s1 : ¬ (9223372036854775807 < 1 + y.size) := by omega
        have s2 : ¬ (9223372036854775807 < t.size + (1 + y.size)) := by omega
        replace hy := Aside0.mk hy
        replace H := Aside0.mk H
        have hip : 0 ≤ i := hi.out.2
        have hil : i < (l0_0.length : Int) := by have := hi.out; omega
        have ei : wrap64 (i + 1) = i + 1 := by have h1 := HM0.out; unfold wrap64; omega
        replace ts := Aside0.mk ts
        replace sy := Aside0.mk sy
        go_wp2_with (fail)
        refine (strconv_Itoa.calls x y _ hy.out).mono ?_
        rintro e w3 ⟨rfl, rfl⟩
        go_wp2
        go_roundg m
        case measure => exact Nat.lt_succ_self _
        case rel => exact ⟨i + 1, t ++ ((⟨#[32]⟩ : ByteArray) ++ y), by first | rfl | (simp [ei]; done), rfl, ⟨by have h1 := hi.out; omega⟩, H, HB, HBX⟩
      | zero =>
        have cb : decide (i < l0_0.length) = false := by have := hi.out; exact decide_eq_false (by omega)
        have H := H.out
        rw [List.drop_eq_nil_of_le (by have := hi.out; omega)] at H
        injection H with H
        subst H
        have h := h.out
        have ts : ¬ (t.size > 1000000000) := fun c => by rw [if_pos c] at h; cases h
        rw [if_neg ts] at h
        have h := Aside0.mk h
        have s1 : ¬ (9223372036854775807 < t.size + 1) := by omega
        have xb1 : wr.cell? ⟨w.heap.size, 1, none⟩ = some (.slice A0_1 l0_1.length c0_1) := (blk_cell HBX.out 1).trans rfl
        go_wp2_with (fail)
        obtain ⟨wo, ewo⟩ : ∃ wo, wo = wr := ⟨_, rfl⟩
        rw [← ewo]
        clear xb1 hi ts
        have HBo := Aside0.mk (show Below w.heap.size w wo by rw [ewo]; exact HB.out)
        have HBXo := Aside0.mk (show wo.heap[w.heap.size]? = some (.cells #[.slice A0_0 l0_0.length c0_0, .slice A0_1 l0_1.length c0_1] 30 (0, 0)) by rw [ewo]; exact HBX.out)
        clear ewo HB HBX
        go_loopg [31, 3] l0_1.length (fun n v31 v3 w' => ∃ (x : Int) (u : ByteArray), v31 = .int .i64 x ∧ v3 = .string u ∧ Aside0 (x + n = l0_1.length ∧ 0 ≤ x) ∧ Aside0 (bodT u (l0_1.drop x.toNat) = some r) ∧ Aside0 (Below w.heap.size w w') ∧ Aside0 (w'.heap[w.heap.size]? = some (.cells #[.slice A0_0 l0_0.length c0_0, .slice A0_1 l0_1.length c0_1] 30 (0, 0))))
        case atStart => exact ⟨0, t ++ (⟨#[10]⟩ : ByteArray), rfl, rfl, ⟨by simp⟩, ⟨h.out⟩, HBo, HBXo⟩
        case round =>
          clear HBo HBXo h
          obtain ⟨x, u, rfl, rfl, hx, H, HB, HBX⟩ := hrel
          obtain ⟨wo, rfl⟩ : ∃ wo, wo = wr := ⟨_, rfl⟩
          cases gk with
          | succ m =>
            have cb : decide (x < l0_1.length) = true := by have := hx.out; exact decide_eq_true (by omega)
            obtain ⟨ad, B1, c1, l, ea, hl, hxc, hlc, hlr⟩ := C_rows (Kd.C_below HR1.out HB.out) x.toNat (by have := hx.out; omega)
            cases ea
            have HLC := Aside0.mk hlc
            have HLR := Aside0.mk hlr
            have HLM := Aside0.mk (show l.length ≤ 9223372036854775807 from hlr.2.1)
            clear hlc hlr
            have H := H.out
            have hdrop : l0_1.drop x.toNat = l :: l0_1.drop (x.toNat + 1) := by
              obtain ⟨hlt, rfl⟩ := List.getElem?_eq_some_iff.1 hl
              exact List.drop_eq_getElem_cons hlt
            rw [hdrop, bodT] at H
            clear hdrop hl
            have ts : ¬ (u.size > 1000000000) := fun c => by rw [if_pos c] at H; cases H
            rw [if_neg ts] at H
            obtain ⟨u1, hu1_, H⟩ := Option.bind_eq_some_iff.1 H
            have s1 : ¬ (9223372036854775807 < u.size + 5) := by omega
            have HN := Aside0.mk H
            have HU := Aside0.mk hu1_
            clear H hu1_
            have p0 : 0 ≤ x := hx.out.2
            have p1 : x < (l0_1.length : Int) := by have := hx.out; omega
            have ei : wrap64 (x + 1) = x + 1 := by have h1 := HM.out; unfold wrap64; omega
            have TS := Aside0.mk ts
            clear ts
            go_wp2_with (fail)
            go_loopg [39, 3] l.length (fun n v39 v3 w' => ∃ (y : Int) (v : ByteArray), v39 = .int .i64 y ∧ v3 = .string v ∧ Aside0 (y + n = l.length ∧ 0 ≤ y) ∧ Aside0 (actT v (l.drop y.toNat) = some u1) ∧ Aside0 (Below wo.heap.size wo w') ∧ Aside0 (w'.heap[w.heap.size]? = some (.cells #[.slice A0_0 l0_0.length c0_0, .slice (some ad) l0_1.length c0_1] 30 (0, 0))))
            case atStart => exact ⟨0, u ++ (⟨#[98, 111, 100, 121, 10]⟩ : ByteArray), rfl, rfl, ⟨by simp⟩, by simpa using HU, ⟨Below.refl _ _⟩, HBX⟩
            case round =>
              clear HU HBX
              obtain ⟨y, v, rfl, rfl, hy, H, HBi, HBX⟩ := hrel
              cases gk with
              | succ m2 =>
                have cb2 : decide (y < l.length) = true := by have := hy.out; exact decide_eq_true (by omega)
                have q0 : 0 ≤ y := hy.out.2
                have q1 : y < (l.length : Int) := by have := hy.out; omega
                obtain ⟨ad2, D1, d1, D2, d2, ea2, hya, hyb, hyc, hyd, hle1, hre1, hle2, hre2⟩ := at_T52 (Kd.C_below HLR.out HBi.out) y q0 q1
                cases ea2
                obtain ⟨a, ha⟩ : ∃ a, a = rd_T52 l y := ⟨_, rfl⟩
                rw [← ha] at hya hyb hyc hyd hle1 hre1 hle2 hre2
                have hdrop : l.drop y.toNat = a :: l.drop (y.toNat + 1) := by
                  have hlt : y.toNat < l.length := by omega
                  rw [List.drop_eq_getElem_cons hlt, ha]
                  simp [rd_T52, List.getD, hlt]
                have H := H.out
                clear ha
                rw [hdrop, actT] at H
                clear hdrop
                have ts : ¬ (v.size > 1000000000) := fun c => by rw [if_pos c] at H; cases H
                rw [if_neg ts] at H
                obtain ⟨z, hz, H⟩ := Option.bind_eq_some_iff.1 H
                have sz := actText_size hz
                have s2 : ¬ (9223372036854775807 < z.size + 1) := by omega
                have s3 : ¬ (9223372036854775807 < v.size + (z.size + 1)) := by omega
                have HZ := Aside0.mk hz
                have HN2 := Aside0.mk H
                have HRe1 := Aside0.mk hre1
                have HRe2 := Aside0.mk hre2
                clear hz H hre1 hre2 hle1 hle2 ts sz
                have ei2 : wrap64 (y + 1) = y + 1 := by have h1 := HLM.out; unfold wrap64; omega
                go_upto_region 17 with (fail)
                obtain ⟨wa, hwa⟩ : ∃ wa, wa = wr.alloc (.cells #[.int .i64 a.f0, .slice D1 a.f1.length d1, .slice D2 a.f2.length d2, .int .i64 a.f3] 52) := ⟨_, rfl⟩
                rw [← hwa]
                have HBA := Aside0.mk (show Below wr.heap.size wr wa by rw [hwa]; exact below_alloc (Below.refl _ _) _)
                have HA := Aside0.mk (show wa.heap[wr.heap.size]? = some (.cells #[.int .i64 a.f0, .slice D1 a.f1.length d1, .slice D2 a.f2.length d2, .int .i64 a.f3] 52 (0, 0)) by rw [hwa]; exact heap_alloc_new wr _)
                clear hwa
                have HBXA := Aside0.mk ((HBA.out.block _ (blk_lt HBX.out)).trans HBX.out)
                have HRA := Aside0.mk (Kd.C_below HRe1.out HBA.out)
                have HRB := Aside0.mk (Kd.C_below HRe2.out HBA.out)
                have HS := Aside0.mk (show ∀ w', Below wa.heap.size wa w' → (Below wa.heap.size wa w' ∧ w'.cell? ⟨wr.heap.size, 0, none⟩ = some (.int .i64 a.f0) ∧ w'.cell? ⟨wr.heap.size, 1, none⟩ = some (.slice D1 a.f1.length d1) ∧ w'.cell? ⟨wr.heap.size, 2, none⟩ = some (.slice D2 a.f2.length d2) ∧ w'.cell? ⟨wr.heap.size, 3, none⟩ = some (.int .i64 a.f3)) from fun w' hb => ⟨hb, (blk_cell ((hb.block _ (blk_lt HA.out)).trans HA.out) 0).trans rfl, (blk_cell ((hb.block _ (blk_lt HA.out)).trans HA.out) 1).trans rfl, (blk_cell ((hb.block _ (blk_lt HA.out)).trans HA.out) 2).trans rfl, (blk_cell ((hb.block _ (blk_lt HA.out)).trans HA.out) 3).trans rfl⟩)
                clear hya hyb hyc hyd hxc
                obtain ⟨sb, r2, r3, r4, r5⟩ := HS.out wa (Below.refl _ _)
                go_wp2_with (fail)
                refine (impl_partOfAct.calls a.f0 D1 a.f1.length d1 D2 a.f2.length d2 a.f3 _).mono ?_
                rintro e wq ⟨rfl, hq_⟩
                have hq0 := Aside0.mk (below_step (Below.refl _ wa) hq_)
                clear hq_
                go_wp2_with (fail)
                refine (impl_actText.calls a.f0 D1 d1 a.f1 D2 d2 a.f2 a.f3 z _ (Kd.C_below HRA.out hq0.out) (Kd.C_below HRB.out hq0.out) HZ.out).mono ?_
                rintro e wz ⟨rfl, hz_⟩
                have hz0 := Aside0.mk (below_step hq0.out hz_)
                clear hz_ hq0
                go_wp2
                go_roundg m2
                case measure => exact Nat.lt_succ_self _
                case rel => exact ⟨y + 1, v ++ (z ++ (⟨#[10]⟩ : ByteArray)), by first | rfl | (simp [ei2]; done), rfl, ⟨by have h1 := hy.out; omega⟩, ⟨by rw [show (y + 1).toNat = y.toNat + 1 by omega]; exact HN2.out⟩, ⟨below_step (below_step HBi.out HBA.out) hz0.out⟩, ⟨(hz0.out.block _ (blk_lt HBXA.out)).trans HBXA.out⟩⟩
              | zero =>
                have cb2 : decide (y < l.length) = false := by have := hy.out; exact decide_eq_false (by omega)
                have H := H.out
                rw [List.drop_eq_nil_of_le (by have := hy.out; omega)] at H
                injection H with H
                subst H
                go_wp2
                go_roundg m
                case measure => exact Nat.lt_succ_self _
                case rel => exact ⟨x + 1, v, by first | rfl | (simp [ei]; done), rfl, ⟨by have h1 := hx.out; omega⟩, ⟨by rw [show (x + 1).toNat = x.toNat + 1 by omega]; exact HN.out⟩, ⟨below_step HB.out HBi.out⟩, HBX⟩
          | zero =>
            have cb : decide (x < l0_1.length) = false := by have := hx.out; exact decide_eq_false (by omega)
            have H := H.out
            rw [List.drop_eq_nil_of_le (by have := hx.out; omega)] at H
            injection H with H
            subst H
            go_wp2
            go_ret
            exact ⟨rfl, HB.out⟩
end Go.Proofs.YtoeepmcaabmjkaaDoor.QTX
namespace Go.Proofs.YtoeepmcaabmjkaaDoor.QTX
open Go.RowKit Go.Proofs.YtoeepmcaabmjkaaDoorW.PrintWords Go.Proofs.YtoeepmcaabmjkaaDoorW.PrintLast Go.Proofs.YtoeepmcaabmjkaaDoorW.PrintMore
attribute [local go_sem] max2_int min2_int max_two min_two max_three min_three max_four min_four   -- for this text's walks alone
set_option linter.unusedVariables false
set_option linter.unusedSimpArgs false
def laws_eqIntS.l0 : Nat → List Int → List Int → Int → Option (Bool)
  | 0, _, _, _ => none
  | k + 1, x0, x1, x5 => if x5 < (x0.length : Int) then (if 0 ≤ x5 then (if x5 < (x1.length : Int) then (if (rd x0 x5) = (rd x1 x5) then (laws_eqIntS.l0 k x0 x1 (wrap64 (x5 + 1))) else (some false)) else (none)) else (none)) else (some true)
def laws_eqIntS.f (k : Nat) (l0 : List Int) (l1 : List Int) : Option (Bool) := if (l0.length : Int) = (l1.length : Int) then (laws_eqIntS.l0 k l0 l1 0) else (some false)
set_option maxHeartbeats 8000000 in
set_option maxRecDepth 100000 in
theorem laws_eqIntS.calls (k : Nat) (A0 : Option Addr) (c0 : Nat) (l0 : List Int) (A1 : Option Addr) (c1 : Nat) (l1 : List Int) (r : Bool) (w : World) (hr0 : Kd.C (Kd.int .i64) w A0 l0.length l0) (hc0 : l0.length ≤ c0) (hr1 : Kd.C (Kd.int .i64) w A1 l1.length l1) (hc1 : l1.length ≤ c1) (h : laws_eqIntS.f k l0 l1 = some r) :
    Calls Tryd.prog 29 #[.slice A0 l0.length c0, .slice A1 l1.length c1] w fun e w' => e = .returned (.bool r) ∧ Drawn0 w w' := by
  have HR0 := Aside0.mk hr0
  have HC0 := Aside0.mk hc0
  clear hr0 hc0
  have HR1 := Aside0.mk hr1
  have HC1 := Aside0.mk hc1
  clear hr1 hc1
  have H : (if (l0.length : Int) = (l1.length : Int) then (laws_eqIntS.l0 k l0 l1 0) else (some false)) = some r := h
  clear h
  by_cases c3 : (l0.length : Int) = (l1.length : Int)
  · rw [if_pos c3] at H
    have c3b0 : ((l0.length : Int) == (l1.length : Int)) = true := beq_iff_eq.mpr c3
    have c3b1 : ((l0.length : Int) != (l1.length : Int)) = false := bne_eq_false_iff_eq.mpr c3
    have c3b2 : (l0.length == l1.length) = true := by first | simpa using c3 | (simp at c3 ⊢; omega)
    clear c3
    have H' := Aside0.mk H
    clear H
    go_enter Tryd.func29, Tryd.ntmps29
    go_wp2
    repeat (go_quiet (fail); try go_wp2)
    go_loopg [5] k (fun kq v5 w' => ∃ (x5_1 : Int), v5 = .int .i64 x5_1 ∧ Aside0 (laws_eqIntS.l0 kq l0 l1 x5_1 = some r) ∧ Aside0 (kq ≤ k) ∧ Drawn0 w w')
    case atStart => exact ⟨(0), (by first | rfl | (simp; done) | (simp [*]; done)), H', ⟨Nat.le_refl _⟩, by repeat (first | exact Drawn0.refl _ | apply Drawn0.step)⟩
    case round =>
      clear H'
      try clear c1
      try clear c2
      try clear p2
      try clear c3
      try clear c3b0
      try clear c3b1
      try clear c3b2
      obtain ⟨x5_1, rfl, HA, HK1, ⟨m1, rfl⟩⟩ := hrel
      cases gk with
      | zero => exact absurd HA.out (by simp [laws_eqIntS.l0])
      | succ k1 =>
        have H := HA.out
        clear HA
        simp only [laws_eqIntS.l0] at H
        by_cases c4 : x5_1 < (l0.length : Int)
        · rw [if_pos c4] at H
          have c4b0 : decide (x5_1 < (l0.length : Int)) = true := decide_eq_true c4
          clear c4
          by_cases c5 : 0 ≤ x5_1
          · rw [if_pos c5] at H
            have c5b0 : decide (0 ≤ x5_1) = true := decide_eq_true c5
            clear c5
            by_cases c6 : x5_1 < (l1.length : Int)
            · rw [if_pos c6] at H
              have c6b0 : decide (x5_1 < (l1.length : Int)) = true := decide_eq_true c6
              clear c6
              by_cases c7 : (rd l0 x5_1) = (rd l1 x5_1)
              · rw [if_pos c7] at H
                have c7b0 : ((rd l0 x5_1) == (rd l1 x5_1)) = true := beq_iff_eq.mpr c7
                have c7b1 : ((rd l0 x5_1) != (rd l1 x5_1)) = false := bne_eq_false_iff_eq.mpr c7
                clear c7
                have H' := Aside0.mk H
                clear H
                have p260 : 0 ≤ (x5_1 : Int) := of_decide_eq_true (by first | (with_reducible assumption) | assumption)
                have q260 : x5_1 < (l0.length : Int) := of_decide_eq_true (by first | (with_reducible assumption) | assumption)
                obtain ⟨ad260, e260, hx260_0⟩ := Kd.at_int HR0.out x5_1 p260 q260
                cases e260
                replace p260 := eq_true p260
                replace q260 := eq_true q260
                have p261 : 0 ≤ (x5_1 : Int) := of_decide_eq_true (by first | (with_reducible assumption) | assumption)
                have q261 : x5_1 < (l1.length : Int) := of_decide_eq_true (by first | (with_reducible assumption) | assumption)
                obtain ⟨ad261, e261, hx261_0⟩ := Kd.at_int HR1.out x5_1 p261 q261
                cases e261
                replace p261 := eq_true p261
                replace q261 := eq_true q261
                go_wp2
                repeat (go_quiet (fail); try go_wp2)
                go_roundg k1
                case measure => have := HK1.out; omega
                case rel => exact ⟨(wrap64 (x5_1 + 1)), (by first | rfl | (simp; done) | (simp [*]; done)), H', ⟨by have := HK1.out; omega⟩, by repeat (first | exact Drawn0.refl _ | apply Drawn0.step)⟩
              · rw [if_neg c7] at H
                have c7b0 : ((rd l0 x5_1) == (rd l1 x5_1)) = false := beq_eq_false_iff_ne.mpr c7
                have c7b1 : ((rd l0 x5_1) != (rd l1 x5_1)) = true := bne_iff_ne.mpr c7
                obtain rfl := Option.some.inj H
                have p260 : 0 ≤ (x5_1 : Int) := of_decide_eq_true (by first | (with_reducible assumption) | assumption)
                have q260 : x5_1 < (l0.length : Int) := of_decide_eq_true (by first | (with_reducible assumption) | assumption)
                obtain ⟨ad260, e260, hx260_0⟩ := Kd.at_int HR0.out x5_1 p260 q260
                cases e260
                replace p260 := eq_true p260
                replace q260 := eq_true q260
                have p261 : 0 ≤ (x5_1 : Int) := of_decide_eq_true (by first | (with_reducible assumption) | assumption)
                have q261 : x5_1 < (l1.length : Int) := of_decide_eq_true (by first | (with_reducible assumption) | assumption)
                obtain ⟨ad261, e261, hx261_0⟩ := Kd.at_int HR1.out x5_1 p261 q261
                cases e261
                replace p261 := eq_true p261
                replace q261 := eq_true q261
                go_wp2
                repeat (go_quiet (fail); try go_wp2)
                go_ret
                exact ⟨by first | rfl | (simp; done) | (simp [*]; done), by repeat (first | exact Drawn0.refl _ | apply Drawn0.step)⟩
            · rw [if_neg c6] at H
              exact absurd H (by simp)
          · rw [if_neg c5] at H
            exact absurd H (by simp)
        · rw [if_neg c4] at H
          have c4b0 : decide (x5_1 < (l0.length : Int)) = false := decide_eq_false c4
          clear c4
          obtain rfl := Option.some.inj H
          go_wp2
          repeat (go_quiet (fail); try go_wp2)
          go_ret
          exact ⟨by first | rfl | (simp; done) | (simp [*]; done), by repeat (first | exact Drawn0.refl _ | apply Drawn0.step)⟩
  · rw [if_neg c3] at H
    have c3b0 : ((l0.length : Int) == (l1.length : Int)) = false := beq_eq_false_iff_ne.mpr c3
    have c3b1 : ((l0.length : Int) != (l1.length : Int)) = true := bne_iff_ne.mpr c3
    have c3b2 : (l0.length == l1.length) = false := by first | simpa using c3 | (simp at c3 ⊢; omega)
    obtain rfl := Option.some.inj H
    go_enter Tryd.func29, Tryd.ntmps29
    go_wp2
    repeat (go_quiet (fail); try go_wp2)
    go_ret
    exact ⟨by first | rfl | (simp; done) | (simp [*]; done), by repeat (first | exact Drawn0.refl _ | apply Drawn0.step)⟩
def laws_eqDeed.f (a0_0 : Int) (a0_1 : Int) (a0_2 : Int) (a1_0 : Int) (a1_1 : Int) (a1_2 : Int) : Option (Bool) := if a0_0 = a1_0 then (if a0_1 = a1_1 then (if a0_2 = a1_2 then (some true) else (some false)) else (some false)) else (some false)
set_option maxHeartbeats 8000000 in
set_option maxRecDepth 100000 in
theorem laws_eqDeed.calls (a0_0 : Int) (a0_1 : Int) (a0_2 : Int) (a1_0 : Int) (a1_1 : Int) (a1_2 : Int) (r : Bool) (w : World) (h : laws_eqDeed.f a0_0 a0_1 a0_2 a1_0 a1_1 a1_2 = some r) :
    Calls Tryd.prog 102 #[.agg #[.int .i64 a0_0, .int .i64 a0_1, .int .i64 a0_2], .agg #[.int .i64 a1_0, .int .i64 a1_1, .int .i64 a1_2]] w fun e w' => e = .returned (.bool r) ∧ Below w.heap.size w w' := by
  have hu82 := Tryd.underlying82
  have HB := Aside0.mk (Below.refl w.heap.size w)
  have H : (if a0_0 = a1_0 then (if a0_1 = a1_1 then (if a0_2 = a1_2 then (some true) else (some false)) else (some false)) else (some false)) = some r := h
  clear h
  by_cases c3 : a0_0 = a1_0
  · rw [if_pos c3] at H
    have c3b0 : (a0_0 == a1_0) = true := beq_iff_eq.mpr c3
    have c3b1 : (a0_0 != a1_0) = false := bne_eq_false_iff_eq.mpr c3
    clear c3
    by_cases c4 : a0_1 = a1_1
    · rw [if_pos c4] at H
      have c4b0 : (a0_1 == a1_1) = true := beq_iff_eq.mpr c4
      have c4b1 : (a0_1 != a1_1) = false := bne_eq_false_iff_eq.mpr c4
      clear c4
      by_cases c5 : a0_2 = a1_2
      · rw [if_pos c5] at H
        have c5b0 : (a0_2 == a1_2) = true := beq_iff_eq.mpr c5
        have c5b1 : (a0_2 != a1_2) = false := bne_eq_false_iff_eq.mpr c5
        clear c5
        obtain rfl := Option.some.inj H
        go_enter Tryd.func102, Tryd.ntmps102
        go_wp2_with (first | ((with_reducible refine gate_dst (N := 2) rfl ?_); refine box_event ?hg (N := 2) ?hd (cs := #[.int .i64 a0_0, .int .i64 a0_1, .int .i64 a0_2]) (t := 82) ?hr ?_; (case hd => rfl); (case hg => rfl); (case hr => first | (go_simp; done) | (go_simp; rfl)); intro gb262 hg w6 hbox hb; have n0_ := Aside0.mk (below_step (by repeat (first | (with_reducible first | exact HB.out | apply below_alloc | apply pw_below_drewN | apply below_drew1) | exact HB.out)) hb); have n1_ := Aside0.mk (hbox); have n2_ := Aside0.mk ((by rw [hg]; exact (below_size (by repeat (first | (with_reducible first | exact HB.out | apply below_alloc | apply pw_below_drewN | apply below_drew1) | exact HB.out))) : w.heap.size ≤ gb262)); have n3_ := Aside0.mk ((by rw [hg]; exact (below_size (by repeat (first | (with_reducible first | exact HB.out | apply below_alloc | apply pw_below_drewN | apply below_drew1) | exact HB.out))) : w.heap.size ≤ gb262)); clear HB; have HB := n0_; have BK262 := n1_; have GW262 := n2_; have GE262 := n3_; clear n0_ n1_ n2_ n3_; clear hb hbox hg) | ((with_reducible refine gate_dst (N := 3) rfl ?_); refine box_event ?hg (N := 3) ?hd (cs := #[.int .i64 a1_0, .int .i64 a1_1, .int .i64 a1_2]) (t := 82) ?hr ?_; (case hd => rfl); (case hg => rfl); (case hr => first | (go_simp; done) | (go_simp; rfl)); intro gb263 hg w7 hbox hb; have n0_ := Aside0.mk (blk_below (g := gb262) (o := .cells #[.int .i64 a0_0, .int .i64 a0_1, .int .i64 a0_2] 82 (0, 0)) (by (with_reducible repeat (first | refine blk_drewN ?_ _ | refine blk_drew ?_ | refine blk_alloc ?_ _)); exact BK262.out) hb); have n1_ := Aside0.mk (below_step (by repeat (first | (with_reducible first | exact HB.out | apply below_alloc | apply pw_below_drewN | apply below_drew1 | refine below_set ?_ GE262.out) | exact HB.out)) hb); have n2_ := Aside0.mk (hbox); have n3_ := Aside0.mk ((by rw [hg]; exact (below_size (by repeat (first | (with_reducible first | exact HB.out | apply below_alloc | apply pw_below_drewN | apply below_drew1 | refine below_set ?_ GE262.out) | exact HB.out))) : w.heap.size ≤ gb263)); have n4_ := Aside0.mk ((by rw [hg]; exact (below_size (by repeat (first | (with_reducible first | exact HB.out | apply below_alloc | apply pw_below_drewN | apply below_drew1 | refine below_set ?_ GE262.out) | exact HB.out))) : w.heap.size ≤ gb263)); have n5_ := Aside0.mk ((by rw [hg]; exact Nat.ne_of_lt (blk_lt (g := gb262) (o := .cells #[.int .i64 a0_0, .int .i64 a0_1, .int .i64 a0_2] 82 (0, 0)) (by (with_reducible repeat (first | refine blk_drewN ?_ _ | refine blk_drew ?_ | refine blk_alloc ?_ _)); exact BK262.out)) : gb262 ≠ gb263)); have n6_ := Aside0.mk ((by rw [hg]; exact Nat.ne_of_gt (blk_lt (g := gb262) (o := .cells #[.int .i64 a0_0, .int .i64 a0_1, .int .i64 a0_2] 82 (0, 0)) (by (with_reducible repeat (first | refine blk_drewN ?_ _ | refine blk_drew ?_ | refine blk_alloc ?_ _)); exact BK262.out)) : gb263 ≠ gb262)); clear BK262; clear HB; have BK262 := n0_; have HB := n1_; have BK263 := n2_; have GW263 := n3_; have GE263 := n4_; have NB262_263 := n5_; have NB263_262 := n6_; clear n0_ n1_ n2_ n3_ n4_ n5_ n6_; clear hb hbox hg; have hnb8 := NB262_263.out; have hnc8 := NB263_262.out; have hcz9_0 : w7.cell? ⟨gb262, 0, none⟩ = some (.int .i64 a0_0) := (blk_cell BK262.out 0).trans rfl; have hcz9_1 : w7.cell? ⟨gb262, 1, none⟩ = some (.int .i64 a0_1) := (blk_cell BK262.out 1).trans rfl; have hcz9_2 : w7.cell? ⟨gb262, 2, none⟩ = some (.int .i64 a0_2) := (blk_cell BK262.out 2).trans rfl; have hfz9_0 := blk_frozen BK262.out 0; have hfz9_1 := blk_frozen BK262.out 1; have hfz9_2 := blk_frozen BK262.out 2; have hcz10_0 : w7.cell? ⟨gb263, 0, none⟩ = some (.int .i64 a1_0) := (blk_cell BK263.out 0).trans rfl; have hcz10_1 : w7.cell? ⟨gb263, 1, none⟩ = some (.int .i64 a1_1) := (blk_cell BK263.out 1).trans rfl; have hcz10_2 : w7.cell? ⟨gb263, 2, none⟩ = some (.int .i64 a1_2) := (blk_cell BK263.out 2).trans rfl; have hfz10_0 := blk_frozen BK263.out 0; have hfz10_1 := blk_frozen BK263.out 1; have hfz10_2 := blk_frozen BK263.out 2))
        go_ret
        exact ⟨by first | rfl | (simp [errW_none, errW_some] <;> rfl) | (simp [*, errW_none, errW_some] <;> rfl), by repeat (first | (with_reducible first | exact HB.out | apply below_alloc | apply pw_below_drewN | apply below_drew1 | refine below_set ?_ GE262.out | refine below_set ?_ GE263.out) | exact HB.out)⟩
      · rw [if_neg c5] at H
        have c5b0 : (a0_2 == a1_2) = false := beq_eq_false_iff_ne.mpr c5
        have c5b1 : (a0_2 != a1_2) = true := bne_iff_ne.mpr c5
        obtain rfl := Option.some.inj H
        go_enter Tryd.func102, Tryd.ntmps102
        go_wp2_with (first | ((with_reducible refine gate_dst (N := 2) rfl ?_); refine box_event ?hg (N := 2) ?hd (cs := #[.int .i64 a0_0, .int .i64 a0_1, .int .i64 a0_2]) (t := 82) ?hr ?_; (case hd => rfl); (case hg => rfl); (case hr => first | (go_simp; done) | (go_simp; rfl)); intro gb262 hg w11 hbox hb; have n0_ := Aside0.mk (below_step (by repeat (first | (with_reducible first | exact HB.out | apply below_alloc | apply pw_below_drewN | apply below_drew1) | exact HB.out)) hb); have n1_ := Aside0.mk (hbox); have n2_ := Aside0.mk ((by rw [hg]; exact (below_size (by repeat (first | (with_reducible first | exact HB.out | apply below_alloc | apply pw_below_drewN | apply below_drew1) | exact HB.out))) : w.heap.size ≤ gb262)); have n3_ := Aside0.mk ((by rw [hg]; exact (below_size (by repeat (first | (with_reducible first | exact HB.out | apply below_alloc | apply pw_below_drewN | apply below_drew1) | exact HB.out))) : w.heap.size ≤ gb262)); clear HB; have HB := n0_; have BK262 := n1_; have GW262 := n2_; have GE262 := n3_; clear n0_ n1_ n2_ n3_; clear hb hbox hg) | ((with_reducible refine gate_dst (N := 3) rfl ?_); refine box_event ?hg (N := 3) ?hd (cs := #[.int .i64 a1_0, .int .i64 a1_1, .int .i64 a1_2]) (t := 82) ?hr ?_; (case hd => rfl); (case hg => rfl); (case hr => first | (go_simp; done) | (go_simp; rfl)); intro gb263 hg w12 hbox hb; have n0_ := Aside0.mk (blk_below (g := gb262) (o := .cells #[.int .i64 a0_0, .int .i64 a0_1, .int .i64 a0_2] 82 (0, 0)) (by (with_reducible repeat (first | refine blk_drewN ?_ _ | refine blk_drew ?_ | refine blk_alloc ?_ _)); exact BK262.out) hb); have n1_ := Aside0.mk (below_step (by repeat (first | (with_reducible first | exact HB.out | apply below_alloc | apply pw_below_drewN | apply below_drew1 | refine below_set ?_ GE262.out) | exact HB.out)) hb); have n2_ := Aside0.mk (hbox); have n3_ := Aside0.mk ((by rw [hg]; exact (below_size (by repeat (first | (with_reducible first | exact HB.out | apply below_alloc | apply pw_below_drewN | apply below_drew1 | refine below_set ?_ GE262.out) | exact HB.out))) : w.heap.size ≤ gb263)); have n4_ := Aside0.mk ((by rw [hg]; exact (below_size (by repeat (first | (with_reducible first | exact HB.out | apply below_alloc | apply pw_below_drewN | apply below_drew1 | refine below_set ?_ GE262.out) | exact HB.out))) : w.heap.size ≤ gb263)); have n5_ := Aside0.mk ((by rw [hg]; exact Nat.ne_of_lt (blk_lt (g := gb262) (o := .cells #[.int .i64 a0_0, .int .i64 a0_1, .int .i64 a0_2] 82 (0, 0)) (by (with_reducible repeat (first | refine blk_drewN ?_ _ | refine blk_drew ?_ | refine blk_alloc ?_ _)); exact BK262.out)) : gb262 ≠ gb263)); have n6_ := Aside0.mk ((by rw [hg]; exact Nat.ne_of_gt (blk_lt (g := gb262) (o := .cells #[.int .i64 a0_0, .int .i64 a0_1, .int .i64 a0_2] 82 (0, 0)) (by (with_reducible repeat (first | refine blk_drewN ?_ _ | refine blk_drew ?_ | refine blk_alloc ?_ _)); exact BK262.out)) : gb263 ≠ gb262)); clear BK262; clear HB; have BK262 := n0_; have HB := n1_; have BK263 := n2_; have GW263 := n3_; have GE263 := n4_; have NB262_263 := n5_; have NB263_262 := n6_; clear n0_ n1_ n2_ n3_ n4_ n5_ n6_; clear hb hbox hg; have hnb13 := NB262_263.out; have hnc13 := NB263_262.out; have hcz14_0 : w12.cell? ⟨gb262, 0, none⟩ = some (.int .i64 a0_0) := (blk_cell BK262.out 0).trans rfl; have hcz14_1 : w12.cell? ⟨gb262, 1, none⟩ = some (.int .i64 a0_1) := (blk_cell BK262.out 1).trans rfl; have hcz14_2 : w12.cell? ⟨gb262, 2, none⟩ = some (.int .i64 a0_2) := (blk_cell BK262.out 2).trans rfl; have hfz14_0 := blk_frozen BK262.out 0; have hfz14_1 := blk_frozen BK262.out 1; have hfz14_2 := blk_frozen BK262.out 2; have hcz15_0 : w12.cell? ⟨gb263, 0, none⟩ = some (.int .i64 a1_0) := (blk_cell BK263.out 0).trans rfl; have hcz15_1 : w12.cell? ⟨gb263, 1, none⟩ = some (.int .i64 a1_1) := (blk_cell BK263.out 1).trans rfl; have hcz15_2 : w12.cell? ⟨gb263, 2, none⟩ = some (.int .i64 a1_2) := (blk_cell BK263.out 2).trans rfl; have hfz15_0 := blk_frozen BK263.out 0; have hfz15_1 := blk_frozen BK263.out 1; have hfz15_2 := blk_frozen BK263.out 2))
        go_ret
        exact ⟨by first | rfl | (simp [errW_none, errW_some] <;> rfl) | (simp [*, errW_none, errW_some] <;> rfl), by repeat (first | (with_reducible first | exact HB.out | apply below_alloc | apply pw_below_drewN | apply below_drew1 | refine below_set ?_ GE262.out | refine below_set ?_ GE263.out) | exact HB.out)⟩
    · rw [if_neg c4] at H
      have c4b0 : (a0_1 == a1_1) = false := beq_eq_false_iff_ne.mpr c4
      have c4b1 : (a0_1 != a1_1) = true := bne_iff_ne.mpr c4
      obtain rfl := Option.some.inj H
      go_enter Tryd.func102, Tryd.ntmps102
      go_wp2_with (first | ((with_reducible refine gate_dst (N := 2) rfl ?_); refine box_event ?hg (N := 2) ?hd (cs := #[.int .i64 a0_0, .int .i64 a0_1, .int .i64 a0_2]) (t := 82) ?hr ?_; (case hd => rfl); (case hg => rfl); (case hr => first | (go_simp; done) | (go_simp; rfl)); intro gb262 hg w16 hbox hb; have n0_ := Aside0.mk (below_step (by repeat (first | (with_reducible first | exact HB.out | apply below_alloc | apply pw_below_drewN | apply below_drew1) | exact HB.out)) hb); have n1_ := Aside0.mk (hbox); have n2_ := Aside0.mk ((by rw [hg]; exact (below_size (by repeat (first | (with_reducible first | exact HB.out | apply below_alloc | apply pw_below_drewN | apply below_drew1) | exact HB.out))) : w.heap.size ≤ gb262)); have n3_ := Aside0.mk ((by rw [hg]; exact (below_size (by repeat (first | (with_reducible first | exact HB.out | apply below_alloc | apply pw_below_drewN | apply below_drew1) | exact HB.out))) : w.heap.size ≤ gb262)); clear HB; have HB := n0_; have BK262 := n1_; have GW262 := n2_; have GE262 := n3_; clear n0_ n1_ n2_ n3_; clear hb hbox hg) | ((with_reducible refine gate_dst (N := 3) rfl ?_); refine box_event ?hg (N := 3) ?hd (cs := #[.int .i64 a1_0, .int .i64 a1_1, .int .i64 a1_2]) (t := 82) ?hr ?_; (case hd => rfl); (case hg => rfl); (case hr => first | (go_simp; done) | (go_simp; rfl)); intro gb263 hg w17 hbox hb; have n0_ := Aside0.mk (blk_below (g := gb262) (o := .cells #[.int .i64 a0_0, .int .i64 a0_1, .int .i64 a0_2] 82 (0, 0)) (by (with_reducible repeat (first | refine blk_drewN ?_ _ | refine blk_drew ?_ | refine blk_alloc ?_ _)); exact BK262.out) hb); have n1_ := Aside0.mk (below_step (by repeat (first | (with_reducible first | exact HB.out | apply below_alloc | apply pw_below_drewN | apply below_drew1 | refine below_set ?_ GE262.out) | exact HB.out)) hb); have n2_ := Aside0.mk (hbox); have n3_ := Aside0.mk ((by rw [hg]; exact (below_size (by repeat (first | (with_reducible first | exact HB.out | apply below_alloc | apply pw_below_drewN | apply below_drew1 | refine below_set ?_ GE262.out) | exact HB.out))) : w.heap.size ≤ gb263)); have n4_ := Aside0.mk ((by rw [hg]; exact (below_size (by repeat (first | (with_reducible first | exact HB.out | apply below_alloc | apply pw_below_drewN | apply below_drew1 | refine below_set ?_ GE262.out) | exact HB.out))) : w.heap.size ≤ gb263)); have n5_ := Aside0.mk ((by rw [hg]; exact Nat.ne_of_lt (blk_lt (g := gb262) (o := .cells #[.int .i64 a0_0, .int .i64 a0_1, .int .i64 a0_2] 82 (0, 0)) (by (with_reducible repeat (first | refine blk_drewN ?_ _ | refine blk_drew ?_ | refine blk_alloc ?_ _)); exact BK262.out)) : gb262 ≠ gb263)); have n6_ := Aside0.mk ((by rw [hg]; exact Nat.ne_of_gt (blk_lt (g := gb262) (o := .cells #[.int .i64 a0_0, .int .i64 a0_1, .int .i64 a0_2] 82 (0, 0)) (by (with_reducible repeat (first | refine blk_drewN ?_ _ | refine blk_drew ?_ | refine blk_alloc ?_ _)); exact BK262.out)) : gb263 ≠ gb262)); clear BK262; clear HB; have BK262 := n0_; have HB := n1_; have BK263 := n2_; have GW263 := n3_; have GE263 := n4_; have NB262_263 := n5_; have NB263_262 := n6_; clear n0_ n1_ n2_ n3_ n4_ n5_ n6_; clear hb hbox hg; have hnb18 := NB262_263.out; have hnc18 := NB263_262.out; have hcz19_0 : w17.cell? ⟨gb262, 0, none⟩ = some (.int .i64 a0_0) := (blk_cell BK262.out 0).trans rfl; have hcz19_1 : w17.cell? ⟨gb262, 1, none⟩ = some (.int .i64 a0_1) := (blk_cell BK262.out 1).trans rfl; have hcz19_2 : w17.cell? ⟨gb262, 2, none⟩ = some (.int .i64 a0_2) := (blk_cell BK262.out 2).trans rfl; have hfz19_0 := blk_frozen BK262.out 0; have hfz19_1 := blk_frozen BK262.out 1; have hfz19_2 := blk_frozen BK262.out 2; have hcz20_0 : w17.cell? ⟨gb263, 0, none⟩ = some (.int .i64 a1_0) := (blk_cell BK263.out 0).trans rfl; have hcz20_1 : w17.cell? ⟨gb263, 1, none⟩ = some (.int .i64 a1_1) := (blk_cell BK263.out 1).trans rfl; have hcz20_2 : w17.cell? ⟨gb263, 2, none⟩ = some (.int .i64 a1_2) := (blk_cell BK263.out 2).trans rfl; have hfz20_0 := blk_frozen BK263.out 0; have hfz20_1 := blk_frozen BK263.out 1; have hfz20_2 := blk_frozen BK263.out 2))
      go_ret
      exact ⟨by first | rfl | (simp [errW_none, errW_some] <;> rfl) | (simp [*, errW_none, errW_some] <;> rfl), by repeat (first | (with_reducible first | exact HB.out | apply below_alloc | apply pw_below_drewN | apply below_drew1 | refine below_set ?_ GE262.out | refine below_set ?_ GE263.out) | exact HB.out)⟩
  · rw [if_neg c3] at H
    have c3b0 : (a0_0 == a1_0) = false := beq_eq_false_iff_ne.mpr c3
    have c3b1 : (a0_0 != a1_0) = true := bne_iff_ne.mpr c3
    obtain rfl := Option.some.inj H
    go_enter Tryd.func102, Tryd.ntmps102
    go_wp2_with (first | ((with_reducible refine gate_dst (N := 2) rfl ?_); refine box_event ?hg (N := 2) ?hd (cs := #[.int .i64 a0_0, .int .i64 a0_1, .int .i64 a0_2]) (t := 82) ?hr ?_; (case hd => rfl); (case hg => rfl); (case hr => first | (go_simp; done) | (go_simp; rfl)); intro gb262 hg w21 hbox hb; have n0_ := Aside0.mk (below_step (by repeat (first | (with_reducible first | exact HB.out | apply below_alloc | apply pw_below_drewN | apply below_drew1) | exact HB.out)) hb); have n1_ := Aside0.mk (hbox); have n2_ := Aside0.mk ((by rw [hg]; exact (below_size (by repeat (first | (with_reducible first | exact HB.out | apply below_alloc | apply pw_below_drewN | apply below_drew1) | exact HB.out))) : w.heap.size ≤ gb262)); have n3_ := Aside0.mk ((by rw [hg]; exact (below_size (by repeat (first | (with_reducible first | exact HB.out | apply below_alloc | apply pw_below_drewN | apply below_drew1) | exact HB.out))) : w.heap.size ≤ gb262)); clear HB; have HB := n0_; have BK262 := n1_; have GW262 := n2_; have GE262 := n3_; clear n0_ n1_ n2_ n3_; clear hb hbox hg) | ((with_reducible refine gate_dst (N := 3) rfl ?_); refine box_event ?hg (N := 3) ?hd (cs := #[.int .i64 a1_0, .int .i64 a1_1, .int .i64 a1_2]) (t := 82) ?hr ?_; (case hd => rfl); (case hg => rfl); (case hr => first | (go_simp; done) | (go_simp; rfl)); intro gb263 hg w22 hbox hb; have n0_ := Aside0.mk (blk_below (g := gb262) (o := .cells #[.int .i64 a0_0, .int .i64 a0_1, .int .i64 a0_2] 82 (0, 0)) (by (with_reducible repeat (first | refine blk_drewN ?_ _ | refine blk_drew ?_ | refine blk_alloc ?_ _)); exact BK262.out) hb); have n1_ := Aside0.mk (below_step (by repeat (first | (with_reducible first | exact HB.out | apply below_alloc | apply pw_below_drewN | apply below_drew1 | refine below_set ?_ GE262.out) | exact HB.out)) hb); have n2_ := Aside0.mk (hbox); have n3_ := Aside0.mk ((by rw [hg]; exact (below_size (by repeat (first | (with_reducible first | exact HB.out | apply below_alloc | apply pw_below_drewN | apply below_drew1 | refine below_set ?_ GE262.out) | exact HB.out))) : w.heap.size ≤ gb263)); have n4_ := Aside0.mk ((by rw [hg]; exact (below_size (by repeat (first | (with_reducible first | exact HB.out | apply below_alloc | apply pw_below_drewN | apply below_drew1 | refine below_set ?_ GE262.out) | exact HB.out))) : w.heap.size ≤ gb263)); have n5_ := Aside0.mk ((by rw [hg]; exact Nat.ne_of_lt (blk_lt (g := gb262) (o := .cells #[.int .i64 a0_0, .int .i64 a0_1, .int .i64 a0_2] 82 (0, 0)) (by (with_reducible repeat (first | refine blk_drewN ?_ _ | refine blk_drew ?_ | refine blk_alloc ?_ _)); exact BK262.out)) : gb262 ≠ gb263)); have n6_ := Aside0.mk ((by rw [hg]; exact Nat.ne_of_gt (blk_lt (g := gb262) (o := .cells #[.int .i64 a0_0, .int .i64 a0_1, .int .i64 a0_2] 82 (0, 0)) (by (with_reducible repeat (first | refine blk_drewN ?_ _ | refine blk_drew ?_ | refine blk_alloc ?_ _)); exact BK262.out)) : gb263 ≠ gb262)); clear BK262; clear HB; have BK262 := n0_; have HB := n1_; have BK263 := n2_; have GW263 := n3_; have GE263 := n4_; have NB262_263 := n5_; have NB263_262 := n6_; clear n0_ n1_ n2_ n3_ n4_ n5_ n6_; clear hb hbox hg; have hnb23 := NB262_263.out; have hnc23 := NB263_262.out; have hcz24_0 : w22.cell? ⟨gb262, 0, none⟩ = some (.int .i64 a0_0) := (blk_cell BK262.out 0).trans rfl; have hcz24_1 : w22.cell? ⟨gb262, 1, none⟩ = some (.int .i64 a0_1) := (blk_cell BK262.out 1).trans rfl; have hcz24_2 : w22.cell? ⟨gb262, 2, none⟩ = some (.int .i64 a0_2) := (blk_cell BK262.out 2).trans rfl; have hfz24_0 := blk_frozen BK262.out 0; have hfz24_1 := blk_frozen BK262.out 1; have hfz24_2 := blk_frozen BK262.out 2; have hcz25_0 : w22.cell? ⟨gb263, 0, none⟩ = some (.int .i64 a1_0) := (blk_cell BK263.out 0).trans rfl; have hcz25_1 : w22.cell? ⟨gb263, 1, none⟩ = some (.int .i64 a1_1) := (blk_cell BK263.out 1).trans rfl; have hcz25_2 : w22.cell? ⟨gb263, 2, none⟩ = some (.int .i64 a1_2) := (blk_cell BK263.out 2).trans rfl; have hfz25_0 := blk_frozen BK263.out 0; have hfz25_1 := blk_frozen BK263.out 1; have hfz25_2 := blk_frozen BK263.out 2))
    go_ret
    exact ⟨by first | rfl | (simp [errW_none, errW_some] <;> rfl) | (simp [*, errW_none, errW_some] <;> rfl), by repeat (first | (with_reducible first | exact HB.out | apply below_alloc | apply pw_below_drewN | apply below_drew1 | refine below_set ?_ GE262.out | refine below_set ?_ GE263.out) | exact HB.out)⟩
end Go.Proofs.YtoeepmcaabmjkaaDoor.QTX
namespace Go.Proofs.YtoeepmcaabmjkaaDoor.QTX
open Go.RowKit Go.Proofs.YtoeepmcaabmjkaaDoorW.PrintWords Go.Proofs.YtoeepmcaabmjkaaDoorW.PrintLast Go.Proofs.YtoeepmcaabmjkaaDoorW.PrintMore
attribute [local go_sem] max2_int min2_int max_two min_two max_three min_three max_four min_four   -- for this text's walks alone
set_option linter.unusedVariables false
set_option linter.unusedSimpArgs false
def laws_eqDeedS.l0 : Nat → List (S82) → List (S82) → Int → Option (Bool)
  | 0, _, _, _ => none
  | k + 1, x0, x1, x5 => if x5 < (x0.length : Int) then (if 0 ≤ x5 then (if x5 < (x1.length : Int) then ((laws_eqDeed.f ((rd_T82 x0 x5).f0) ((rd_T82 x0 x5).f1) ((rd_T82 x0 x5).f2) ((rd_T82 x1 x5).f0) ((rd_T82 x1 x5).f1) ((rd_T82 x1 x5).f2)).bind fun t266 => (if t266 = true then (laws_eqDeedS.l0 k x0 x1 (wrap64 (x5 + 1))) else (some false))) else (none)) else (none)) else (some true)
def laws_eqDeedS.f (k : Nat) (l0 : List (S82)) (l1 : List (S82)) : Option (Bool) := if (l0.length : Int) = (l1.length : Int) then (laws_eqDeedS.l0 k l0 l1 0) else (some false)
def laws_eqDeedS.T6 : Bool × List (List Nat × List Nat) := (true, [([], []), ([], []), ([0, 1], [0, 1]), ([2], [2]), ([], []), ([], []), ([4, 5], [4, 5]), ([6], [6]), ([3, 7], [3, 7]), ([8], [8])])
def laws_eqDeedS.B6 : List Nat := [0, 0, 3, 7, 0, 0, 48, 112, 255, 511]
theorem laws_eqDeedS.tab6 : rtab .any (opsOf Tryd.f92 6) = laws_eqDeedS.T6 := by kernel_rfl
theorem laws_eqDeedS.bits6 : waitsOk laws_eqDeedS.T6.2 laws_eqDeedS.B6 = true := by kernel_rfl
set_option maxHeartbeats 8000000 in
set_option maxRecDepth 100000 in
theorem laws_eqDeedS.calls (k : Nat) (A0 : Option Addr) (c0 : Nat) (l0 : List (S82)) (A1 : Option Addr) (c1 : Nat) (l1 : List (S82)) (r : Bool) (w : World) (hr0 : Kd.C k82 w A0 l0.length l0) (hc0 : l0.length ≤ c0) (hr1 : Kd.C k82 w A1 l1.length l1) (hc1 : l1.length ≤ c1) (h : laws_eqDeedS.f k l0 l1 = some r) :
    Calls Tryd.prog 92 #[.slice A0 l0.length c0, .slice A1 l1.length c1] w fun e w' => e = .returned (.bool r) ∧ Below w.heap.size w w' := by
  have hu82 := Tryd.underlying82
  have HR0 := Aside0.mk hr0
  have HC0 := Aside0.mk hc0
  clear hr0 hc0
  have HR1 := Aside0.mk hr1
  have HC1 := Aside0.mk hc1
  clear hr1 hc1
  have HB := Aside0.mk (Below.refl w.heap.size w)
  have H : (if (l0.length : Int) = (l1.length : Int) then (laws_eqDeedS.l0 k l0 l1 0) else (some false)) = some r := h
  clear h
  by_cases c3 : (l0.length : Int) = (l1.length : Int)
  · rw [if_pos c3] at H
    have c3b0 : ((l0.length : Int) == (l1.length : Int)) = true := beq_iff_eq.mpr c3
    have c3b1 : ((l0.length : Int) != (l1.length : Int)) = false := bne_eq_false_iff_eq.mpr c3
    have c3b2 : (l0.length == l1.length) = true := by first | simpa using c3 | (simp at c3 ⊢; omega)
    clear c3
    have H' := Aside0.mk H
    clear H
    go_enter Tryd.func92, Tryd.ntmps92
    go_wp2
    go_loopg [5] k (fun kq v5 w' => ∃ (x5_1 : Int), v5 = .int .i64 x5_1 ∧ Aside0 (laws_eqDeedS.l0 kq l0 l1 x5_1 = some r) ∧ Aside0 (kq ≤ k) ∧ Aside0 (Below w.heap.size w w'))
    case atStart => exact ⟨(0), (by first | rfl | (simp; done) | (simp [*]; done)), H', ⟨Nat.le_refl _⟩, ⟨by repeat (first | (with_reducible first | exact HB.out | apply below_alloc | apply pw_below_drewN | apply below_drew1) | exact HB.out)⟩⟩
    case round =>
      clear H'
      try clear c1
      try clear p2
      try clear c3
      try clear c3b0
      try clear c3b1
      try clear c3b2
      obtain ⟨x5_1, rfl, HA, HK1, HB⟩ := hrel
      cases gk with
      | zero => exact absurd HA.out (by simp [laws_eqDeedS.l0])
      | succ k1 =>
        have H := HA.out
        clear HA
        simp only [laws_eqDeedS.l0] at H
        by_cases c4 : x5_1 < (l0.length : Int)
        · rw [if_pos c4] at H
          have c4b0 : decide (x5_1 < (l0.length : Int)) = true := decide_eq_true c4
          clear c4
          by_cases c5 : 0 ≤ x5_1
          · rw [if_pos c5] at H
            have c5b0 : decide (0 ≤ x5_1) = true := decide_eq_true c5
            clear c5
            by_cases c6 : x5_1 < (l1.length : Int)
            · rw [if_pos c6] at H
              have c6b0 : decide (x5_1 < (l1.length : Int)) = true := decide_eq_true c6
              clear c6
              replace H := Option.bind_eq_some_iff.mp H
              obtain ⟨t266, A70, H⟩ := H
              replace H : (if t266 = true then (laws_eqDeedS.l0 k1 l0 l1 (wrap64 (x5_1 + 1))) else (some false)) = some r := H
              have A7 := Aside0.mk A70
              clear A70
              by_cases c8 : t266 = true
              · subst c8
                have H1 : (laws_eqDeedS.l0 k1 l0 l1 (wrap64 (x5_1 + 1))) = some r := by rw [if_pos rfl] at H; exact H
                clear H
                have H := H1
                clear H1
                have H' := Aside0.mk H
                clear H
                try go_wp2
                have n0_ := Aside0.mk (below_drew1 HB.out)
                clear HB
                have HB := n0_
                clear n0_
                have p264 : 0 ≤ (x5_1 : Int) := of_decide_eq_true (by first | (with_reducible assumption) | assumption)
                have q264 : x5_1 < (l0.length : Int) := of_decide_eq_true (by first | (with_reducible assumption) | assumption)
                obtain ⟨ad264, e264, hx264_0, hx264_1, hx264_2⟩ := at_T82 HR0.out x5_1 p264 q264
                have hw264_2 := hx264_2
                have hw264_1 := hx264_1
                have hw264_0 := hx264_0
                cases e264
                replace hx264_0 := (HB.out.cell (World.block_lt_of_cell? w _ hx264_0)).trans hx264_0
                replace hx264_1 := (HB.out.cell (World.block_lt_of_cell? w _ hx264_1)).trans hx264_1
                replace hx264_2 := (HB.out.cell (World.block_lt_of_cell? w _ hx264_2)).trans hx264_2
                replace p264 := eq_true p264
                replace q264 := eq_true q264
                have p265 : 0 ≤ (x5_1 : Int) := of_decide_eq_true (by first | (with_reducible assumption) | assumption)
                have q265 : x5_1 < (l1.length : Int) := of_decide_eq_true (by first | (with_reducible assumption) | assumption)
                obtain ⟨ad265, e265, hx265_0, hx265_1, hx265_2⟩ := at_T82 HR1.out x5_1 p265 q265
                have hw265_2 := hx265_2
                have hw265_1 := hx265_1
                have hw265_0 := hx265_0
                cases e265
                replace hx265_0 := (HB.out.cell (World.block_lt_of_cell? w _ hx265_0)).trans hx265_0
                replace hx265_1 := (HB.out.cell (World.block_lt_of_cell? w _ hx265_1)).trans hx265_1
                replace hx265_2 := (HB.out.cell (World.block_lt_of_cell? w _ hx265_2)).trans hx265_2
                replace p265 := eq_true p265
                replace q265 := eq_true q265
                refine start_ (n := 10) (S := fun w' => w'.cell? (ad264.add ((x5_1).toNat * 3)) = some (.int .i64 ((rd_T82 l0 x5_1).f0)) ∧ w'.cell? ⟨(ad264.add ((x5_1).toNat * 3)).block, (ad264.add ((x5_1).toNat * 3)).off + 1, none⟩ = some (.int .i64 ((rd_T82 l0 x5_1).f1)) ∧ w'.cell? ⟨(ad264.add ((x5_1).toNat * 3)).block, (ad264.add ((x5_1).toNat * 3)).off + 2, none⟩ = some (.int .i64 ((rd_T82 l0 x5_1).f2)) ∧ w'.cell? (ad265.add ((x5_1).toNat * 3)) = some (.int .i64 ((rd_T82 l1 x5_1).f0)) ∧ w'.cell? ⟨(ad265.add ((x5_1).toNat * 3)).block, (ad265.add ((x5_1).toNat * 3)).off + 1, none⟩ = some (.int .i64 ((rd_T82 l1 x5_1).f1)) ∧ w'.cell? ⟨(ad265.add ((x5_1).toNat * 3)).block, (ad265.add ((x5_1).toNat * 3)).off + 2, none⟩ = some (.int .i64 ((rd_T82 l1 x5_1).f2))) (ds := []) #[false, false, false, false, false, false, false, false, false, false] (by kernel_rfl) rfl rfl ⟨((HB.out.cell (World.block_lt_of_cell? w _ hw264_0)).trans hw264_0), ((HB.out.cell (World.block_lt_of_cell? w _ hw264_1)).trans hw264_1), ((HB.out.cell (World.block_lt_of_cell? w _ hw264_2)).trans hw264_2), ((HB.out.cell (World.block_lt_of_cell? w _ hw265_0)).trans hw265_0), ((HB.out.cell (World.block_lt_of_cell? w _ hw265_1)).trans hw265_1), ((HB.out.cell (World.block_lt_of_cell? w _ hw265_2)).trans hw265_2)⟩ (fun hHeld => ?_); refine with_tabW laws_eqDeedS.tab6 laws_eqDeedS.bits6 (fun HT_ HW_ => ?_)
                generalize wr.drew = w9 at HB hx264_0 hx264_1 hx264_2 hx265_0 hx265_1 hx265_2 hHeld ⊢
                refine pure_ (i := 0) (N := some 17) (v := ?_) (a' := ?_) #[true, false, false, false, false, false, false, false, false, false] rfl rfl (any_of HT_.out (by kernel_rfl)) (fun _ _ _ h => h) (Or.inl ⟨by rfl, ?_⟩) ?_ ?_
                rotate_left
                · intro w'
                  go_simp
                  with_reducible rfl
                rotate_left
                · simp only [Act.put, List.setIfInBounds_toArray, List.set_cons_zero, List.set_cons_succ, i64_w, i32_w]
                  rfl
                refine pure_ (i := 1) (N := some 18) (v := ?_) (a' := ?_) #[true, true, false, false, false, false, false, false, false, false] rfl rfl (any_of HT_.out (by kernel_rfl)) (fun _ _ _ h => h) (Or.inl ⟨by rfl, ?_⟩) ?_ ?_
                rotate_left
                · intro w'
                  go_simp
                  with_reducible rfl
                rotate_left
                · simp only [Act.put, List.setIfInBounds_toArray, List.set_cons_zero, List.set_cons_succ, i64_w, i32_w]
                  rfl
                refine pure_ (i := 2) (N := some 19) (v := ?_) (a' := ?_) #[true, true, true, false, false, false, false, false, false, false] rfl rfl (any_of HT_.out (by kernel_rfl)) (fun _ _ _ h => h) (Or.inl ⟨by rfl, ?_⟩) ?_ ?_
                rotate_left
                · intro w'
                  go_simp
                  with_reducible rfl
                rotate_left
                · simp only [Act.put, List.setIfInBounds_toArray, List.set_cons_zero, List.set_cons_succ, i64_w, i32_w]
                  rfl
                refine pure_ (i := 4) (N := some 21) (v := ?_) (a' := ?_) #[true, true, true, false, true, false, false, false, false, false] rfl rfl (any_of HT_.out (by kernel_rfl)) (fun _ _ _ h => h) (Or.inl ⟨by rfl, ?_⟩) ?_ ?_
                rotate_left
                · intro w'
                  go_simp
                  with_reducible rfl
                rotate_left
                · simp only [Act.put, List.setIfInBounds_toArray, List.set_cons_zero, List.set_cons_succ, i64_w, i32_w]
                  rfl
                refine pure_ (i := 5) (N := some 22) (v := ?_) (a' := ?_) #[true, true, true, false, true, true, false, false, false, false] rfl rfl (any_of HT_.out (by kernel_rfl)) (fun _ _ _ h => h) (Or.inl ⟨by rfl, ?_⟩) ?_ ?_
                rotate_left
                · intro w'
                  go_simp
                  with_reducible rfl
                rotate_left
                · simp only [Act.put, List.setIfInBounds_toArray, List.set_cons_zero, List.set_cons_succ, i64_w, i32_w]
                  rfl
                refine pure_ (i := 6) (N := some 23) (v := ?_) (a' := ?_) #[true, true, true, false, true, true, true, false, false, false] rfl rfl (any_of HT_.out (by kernel_rfl)) (fun _ _ _ h => h) (Or.inl ⟨by rfl, ?_⟩) ?_ ?_
                rotate_left
                · intro w'
                  go_simp
                  with_reducible rfl
                rotate_left
                · simp only [Act.put, List.setIfInBounds_toArray, List.set_cons_zero, List.set_cons_succ, i64_w, i32_w]
                  rfl
                refine take_ (i := 3) (N := some 20) (v := ?_) (a' := ?_) #[true, true, true, true, true, true, true, false, false, false] rfl rfl (take_ofW HT_.out HW_.out (by kernel_rfl)) (fun _ _ _ h => h) (Or.inl ⟨by rfl, ?_⟩) hHeld ?_ ?_
                rotate_left
                · rintro w' ⟨s0, s1, s2, s3, s4, s5⟩
                  go_simp
                  with_reducible rfl
                rotate_left
                · simp only [Act.put, List.setIfInBounds_toArray, List.set_cons_zero, List.set_cons_succ, i64_w, i32_w]
                  rfl
                refine take_ (i := 7) (N := some 24) (v := ?_) (a' := ?_) #[true, true, true, true, true, true, true, true, false, false] rfl rfl (take_ofW HT_.out HW_.out (by kernel_rfl)) (fun _ _ _ h => h) (Or.inl ⟨by rfl, ?_⟩) hHeld ?_ ?_
                rotate_left
                · rintro w' ⟨s0, s1, s2, s3, s4, s5⟩
                  go_simp
                  with_reducible rfl
                rotate_left
                · simp only [Act.put, List.setIfInBounds_toArray, List.set_cons_zero, List.set_cons_succ, i64_w, i32_w]
                  rfl
                refine one_ (i := 8) (N := some 25) #[true, true, true, true, true, true, true, true, true, false] rfl rfl (one_of HT_.out (by kernel_rfl)) (by decide) (fun K hK => ?_)
                refine goes_ Tryd.func102 (by kernel_rfl) rfl #[.agg #[.int .i64 ((rd_T82 l0 x5_1).f0), .int .i64 ((rd_T82 l0 x5_1).f1), .int .i64 ((rd_T82 l0 x5_1).f2)], .agg #[.int .i64 ((rd_T82 l1 x5_1).f0), .int .i64 ((rd_T82 l1 x5_1).f1), .int .i64 ((rd_T82 l1 x5_1).f2)]] (by rfl) rfl rfl (by (try simp only [List.map_toArray, List.map_cons, List.map_nil]); first | done | rfl | (simp only [List.length_drop, List.length_take]; rfl)) ?_
                with_reducible refine (laws_eqDeed.calls ((rd_T82 l0 x5_1).f0) ((rd_T82 l0 x5_1).f1) ((rd_T82 l0 x5_1).f2) ((rd_T82 l1 x5_1).f0) ((rd_T82 l1 x5_1).f1) ((rd_T82 l1 x5_1).f2) true _ A7.out).mono ?_
                rintro e w10 ⟨rfl, hb⟩
                refine ⟨_, rfl, ?_⟩
                have n0_ := Aside0.mk (below_step (by repeat (first | (with_reducible first | exact HB.out | apply below_alloc | apply pw_below_drewN | apply below_drew1) | exact HB.out)) hb)
                clear HB
                have HB := n0_
                clear n0_
                (try clear hb)
                (try clear hb2)
                (try clear hk)
                (try clear hi)
                refine hK.out _ _ ⟨((HB.out.cell (World.block_lt_of_cell? w _ hw264_0)).trans hw264_0), ((HB.out.cell (World.block_lt_of_cell? w _ hw264_1)).trans hw264_1), ((HB.out.cell (World.block_lt_of_cell? w _ hw264_2)).trans hw264_2), ((HB.out.cell (World.block_lt_of_cell? w _ hw265_0)).trans hw265_0), ((HB.out.cell (World.block_lt_of_cell? w _ hw265_1)).trans hw265_1), ((HB.out.cell (World.block_lt_of_cell? w _ hw265_2)).trans hw265_2)⟩ (fun hHeld => ?_)
                clear hK K
                refine norm_ (a' := ?_) ?_ ?_
                rotate_left
                · show Act.put _ (some 25) _ = _
                  simp only [Act.put, List.setIfInBounds_toArray, List.set_cons_zero, List.set_cons_succ, i64_w, i32_w]
                  rfl
                refine pure_ (i := 9) (N := some 26) (v := ?_) (a' := ?_) #[true, true, true, true, true, true, true, true, true, true] rfl rfl (any_of HT_.out (by kernel_rfl)) (fun _ _ _ h => h) (Or.inl ⟨by rfl, ?_⟩) ?_ ?_
                rotate_left
                · intro w'
                  go_simp
                  with_reducible rfl
                rotate_left
                · simp only [Act.put, List.setIfInBounds_toArray, List.set_cons_zero, List.set_cons_succ, i64_w, i32_w]
                  rfl
                refine done_ (done_of HT_.out (by kernel_rfl)) ?_
                try go_wp2
                go_roundg k1
                case measure => have := HK1.out; omega
                case rel => exact ⟨(wrap64 (x5_1 + 1)), (by first | rfl | (simp; done) | (simp [*]; done)), H', ⟨by have := HK1.out; omega⟩, ⟨by repeat (first | (with_reducible first | exact HB.out | apply below_alloc | apply pw_below_drewN | apply below_drew1) | exact HB.out)⟩⟩
              · replace c8 := Bool.eq_false_iff.mpr c8
                subst c8
                have H1 : (some false) = some r := by rw [if_neg (show ¬ (false = true) by decide)] at H; exact H
                clear H
                have H := H1
                clear H1
                obtain rfl := Option.some.inj H
                try go_wp2
                have n0_ := Aside0.mk (below_drew1 HB.out)
                clear HB
                have HB := n0_
                clear n0_
                have p264 : 0 ≤ (x5_1 : Int) := of_decide_eq_true (by first | (with_reducible assumption) | assumption)
                have q264 : x5_1 < (l0.length : Int) := of_decide_eq_true (by first | (with_reducible assumption) | assumption)
                obtain ⟨ad264, e264, hx264_0, hx264_1, hx264_2⟩ := at_T82 HR0.out x5_1 p264 q264
                have hw264_2 := hx264_2
                have hw264_1 := hx264_1
                have hw264_0 := hx264_0
                cases e264
                replace hx264_0 := (HB.out.cell (World.block_lt_of_cell? w _ hx264_0)).trans hx264_0
                replace hx264_1 := (HB.out.cell (World.block_lt_of_cell? w _ hx264_1)).trans hx264_1
                replace hx264_2 := (HB.out.cell (World.block_lt_of_cell? w _ hx264_2)).trans hx264_2
                replace p264 := eq_true p264
                replace q264 := eq_true q264
                have p265 : 0 ≤ (x5_1 : Int) := of_decide_eq_true (by first | (with_reducible assumption) | assumption)
                have q265 : x5_1 < (l1.length : Int) := of_decide_eq_true (by first | (with_reducible assumption) | assumption)
                obtain ⟨ad265, e265, hx265_0, hx265_1, hx265_2⟩ := at_T82 HR1.out x5_1 p265 q265
                have hw265_2 := hx265_2
                have hw265_1 := hx265_1
                have hw265_0 := hx265_0
                cases e265
                replace hx265_0 := (HB.out.cell (World.block_lt_of_cell? w _ hx265_0)).trans hx265_0
                replace hx265_1 := (HB.out.cell (World.block_lt_of_cell? w _ hx265_1)).trans hx265_1
                replace hx265_2 := (HB.out.cell (World.block_lt_of_cell? w _ hx265_2)).trans hx265_2
                replace p265 := eq_true p265
                replace q265 := eq_true q265
                refine start_ (n := 10) (S := fun w' => w'.cell? (ad264.add ((x5_1).toNat * 3)) = some (.int .i64 ((rd_T82 l0 x5_1).f0)) ∧ w'.cell? ⟨(ad264.add ((x5_1).toNat * 3)).block, (ad264.add ((x5_1).toNat * 3)).off + 1, none⟩ = some (.int .i64 ((rd_T82 l0 x5_1).f1)) ∧ w'.cell? ⟨(ad264.add ((x5_1).toNat * 3)).block, (ad264.add ((x5_1).toNat * 3)).off + 2, none⟩ = some (.int .i64 ((rd_T82 l0 x5_1).f2)) ∧ w'.cell? (ad265.add ((x5_1).toNat * 3)) = some (.int .i64 ((rd_T82 l1 x5_1).f0)) ∧ w'.cell? ⟨(ad265.add ((x5_1).toNat * 3)).block, (ad265.add ((x5_1).toNat * 3)).off + 1, none⟩ = some (.int .i64 ((rd_T82 l1 x5_1).f1)) ∧ w'.cell? ⟨(ad265.add ((x5_1).toNat * 3)).block, (ad265.add ((x5_1).toNat * 3)).off + 2, none⟩ = some (.int .i64 ((rd_T82 l1 x5_1).f2))) (ds := []) #[false, false, false, false, false, false, false, false, false, false] (by kernel_rfl) rfl rfl ⟨((HB.out.cell (World.block_lt_of_cell? w _ hw264_0)).trans hw264_0), ((HB.out.cell (World.block_lt_of_cell? w _ hw264_1)).trans hw264_1), ((HB.out.cell (World.block_lt_of_cell? w _ hw264_2)).trans hw264_2), ((HB.out.cell (World.block_lt_of_cell? w _ hw265_0)).trans hw265_0), ((HB.out.cell (World.block_lt_of_cell? w _ hw265_1)).trans hw265_1), ((HB.out.cell (World.block_lt_of_cell? w _ hw265_2)).trans hw265_2)⟩ (fun hHeld => ?_); refine with_tabW laws_eqDeedS.tab6 laws_eqDeedS.bits6 (fun HT_ HW_ => ?_)
                generalize wr.drew = w11 at HB hx264_0 hx264_1 hx264_2 hx265_0 hx265_1 hx265_2 hHeld ⊢
                refine pure_ (i := 0) (N := some 17) (v := ?_) (a' := ?_) #[true, false, false, false, false, false, false, false, false, false] rfl rfl (any_of HT_.out (by kernel_rfl)) (fun _ _ _ h => h) (Or.inl ⟨by rfl, ?_⟩) ?_ ?_
                rotate_left
                · intro w'
                  go_simp
                  with_reducible rfl
                rotate_left
                · simp only [Act.put, List.setIfInBounds_toArray, List.set_cons_zero, List.set_cons_succ, i64_w, i32_w]
                  rfl
                refine pure_ (i := 1) (N := some 18) (v := ?_) (a' := ?_) #[true, true, false, false, false, false, false, false, false, false] rfl rfl (any_of HT_.out (by kernel_rfl)) (fun _ _ _ h => h) (Or.inl ⟨by rfl, ?_⟩) ?_ ?_
                rotate_left
                · intro w'
                  go_simp
                  with_reducible rfl
                rotate_left
                · simp only [Act.put, List.setIfInBounds_toArray, List.set_cons_zero, List.set_cons_succ, i64_w, i32_w]
                  rfl
                refine pure_ (i := 2) (N := some 19) (v := ?_) (a' := ?_) #[true, true, true, false, false, false, false, false, false, false] rfl rfl (any_of HT_.out (by kernel_rfl)) (fun _ _ _ h => h) (Or.inl ⟨by rfl, ?_⟩) ?_ ?_
                rotate_left
                · intro w'
                  go_simp
                  with_reducible rfl
                rotate_left
                · simp only [Act.put, List.setIfInBounds_toArray, List.set_cons_zero, List.set_cons_succ, i64_w, i32_w]
                  rfl
                refine pure_ (i := 4) (N := some 21) (v := ?_) (a' := ?_) #[true, true, true, false, true, false, false, false, false, false] rfl rfl (any_of HT_.out (by kernel_rfl)) (fun _ _ _ h => h) (Or.inl ⟨by rfl, ?_⟩) ?_ ?_
                rotate_left
                · intro w'
                  go_simp
                  with_reducible rfl
                rotate_left
                · simp only [Act.put, List.setIfInBounds_toArray, List.set_cons_zero, List.set_cons_succ, i64_w, i32_w]
                  rfl
                refine pure_ (i := 5) (N := some 22) (v := ?_) (a' := ?_) #[true, true, true, false, true, true, false, false, false, false] rfl rfl (any_of HT_.out (by kernel_rfl)) (fun _ _ _ h => h) (Or.inl ⟨by rfl, ?_⟩) ?_ ?_
                rotate_left
                · intro w'
                  go_simp
                  with_reducible rfl
                rotate_left
                · simp only [Act.put, List.setIfInBounds_toArray, List.set_cons_zero, List.set_cons_succ, i64_w, i32_w]
                  rfl
                refine pure_ (i := 6) (N := some 23) (v := ?_) (a' := ?_) #[true, true, true, false, true, true, true, false, false, false] rfl rfl (any_of HT_.out (by kernel_rfl)) (fun _ _ _ h => h) (Or.inl ⟨by rfl, ?_⟩) ?_ ?_
                rotate_left
                · intro w'
                  go_simp
                  with_reducible rfl
                rotate_left
                · simp only [Act.put, List.setIfInBounds_toArray, List.set_cons_zero, List.set_cons_succ, i64_w, i32_w]
                  rfl
                refine take_ (i := 3) (N := some 20) (v := ?_) (a' := ?_) #[true, true, true, true, true, true, true, false, false, false] rfl rfl (take_ofW HT_.out HW_.out (by kernel_rfl)) (fun _ _ _ h => h) (Or.inl ⟨by rfl, ?_⟩) hHeld ?_ ?_
                rotate_left
                · rintro w' ⟨s0, s1, s2, s3, s4, s5⟩
                  go_simp
                  with_reducible rfl
                rotate_left
                · simp only [Act.put, List.setIfInBounds_toArray, List.set_cons_zero, List.set_cons_succ, i64_w, i32_w]
                  rfl
                refine take_ (i := 7) (N := some 24) (v := ?_) (a' := ?_) #[true, true, true, true, true, true, true, true, false, false] rfl rfl (take_ofW HT_.out HW_.out (by kernel_rfl)) (fun _ _ _ h => h) (Or.inl ⟨by rfl, ?_⟩) hHeld ?_ ?_
                rotate_left
                · rintro w' ⟨s0, s1, s2, s3, s4, s5⟩
                  go_simp
                  with_reducible rfl
                rotate_left
                · simp only [Act.put, List.setIfInBounds_toArray, List.set_cons_zero, List.set_cons_succ, i64_w, i32_w]
                  rfl
                refine one_ (i := 8) (N := some 25) #[true, true, true, true, true, true, true, true, true, false] rfl rfl (one_of HT_.out (by kernel_rfl)) (by decide) (fun K hK => ?_)
                refine goes_ Tryd.func102 (by kernel_rfl) rfl #[.agg #[.int .i64 ((rd_T82 l0 x5_1).f0), .int .i64 ((rd_T82 l0 x5_1).f1), .int .i64 ((rd_T82 l0 x5_1).f2)], .agg #[.int .i64 ((rd_T82 l1 x5_1).f0), .int .i64 ((rd_T82 l1 x5_1).f1), .int .i64 ((rd_T82 l1 x5_1).f2)]] (by rfl) rfl rfl (by (try simp only [List.map_toArray, List.map_cons, List.map_nil]); first | done | rfl | (simp only [List.length_drop, List.length_take]; rfl)) ?_
                with_reducible refine (laws_eqDeed.calls ((rd_T82 l0 x5_1).f0) ((rd_T82 l0 x5_1).f1) ((rd_T82 l0 x5_1).f2) ((rd_T82 l1 x5_1).f0) ((rd_T82 l1 x5_1).f1) ((rd_T82 l1 x5_1).f2) false _ A7.out).mono ?_
                rintro e w12 ⟨rfl, hb⟩
                refine ⟨_, rfl, ?_⟩
                have n0_ := Aside0.mk (below_step (by repeat (first | (with_reducible first | exact HB.out | apply below_alloc | apply pw_below_drewN | apply below_drew1) | exact HB.out)) hb)
                clear HB
                have HB := n0_
                clear n0_
                (try clear hb)
                (try clear hb2)
                (try clear hk)
                (try clear hi)
                refine hK.out _ _ ⟨((HB.out.cell (World.block_lt_of_cell? w _ hw264_0)).trans hw264_0), ((HB.out.cell (World.block_lt_of_cell? w _ hw264_1)).trans hw264_1), ((HB.out.cell (World.block_lt_of_cell? w _ hw264_2)).trans hw264_2), ((HB.out.cell (World.block_lt_of_cell? w _ hw265_0)).trans hw265_0), ((HB.out.cell (World.block_lt_of_cell? w _ hw265_1)).trans hw265_1), ((HB.out.cell (World.block_lt_of_cell? w _ hw265_2)).trans hw265_2)⟩ (fun hHeld => ?_)
                clear hK K
                refine norm_ (a' := ?_) ?_ ?_
                rotate_left
                · show Act.put _ (some 25) _ = _
                  simp only [Act.put, List.setIfInBounds_toArray, List.set_cons_zero, List.set_cons_succ, i64_w, i32_w]
                  rfl
                refine pure_ (i := 9) (N := some 26) (v := ?_) (a' := ?_) #[true, true, true, true, true, true, true, true, true, true] rfl rfl (any_of HT_.out (by kernel_rfl)) (fun _ _ _ h => h) (Or.inl ⟨by rfl, ?_⟩) ?_ ?_
                rotate_left
                · intro w'
                  go_simp
                  with_reducible rfl
                rotate_left
                · simp only [Act.put, List.setIfInBounds_toArray, List.set_cons_zero, List.set_cons_succ, i64_w, i32_w]
                  rfl
                refine done_ (done_of HT_.out (by kernel_rfl)) ?_
                try go_wp2
                go_ret
                exact ⟨by first | rfl | (simp [errW_none, errW_some] <;> rfl) | (simp [*, errW_none, errW_some] <;> rfl), by repeat (first | (with_reducible first | exact HB.out | apply below_alloc | apply pw_below_drewN | apply below_drew1) | exact HB.out)⟩
            · rw [if_neg c6] at H
              exact absurd H (by simp)
          · rw [if_neg c5] at H
            exact absurd H (by simp)
        · rw [if_neg c4] at H
          have c4b0 : decide (x5_1 < (l0.length : Int)) = false := decide_eq_false c4
          clear c4
          obtain rfl := Option.some.inj H
          go_wp2
          go_ret
          exact ⟨by first | rfl | (simp [errW_none, errW_some] <;> rfl) | (simp [*, errW_none, errW_some] <;> rfl), by repeat (first | (with_reducible first | exact HB.out | apply below_alloc | apply pw_below_drewN | apply below_drew1) | exact HB.out)⟩
  · rw [if_neg c3] at H
    have c3b0 : ((l0.length : Int) == (l1.length : Int)) = false := beq_eq_false_iff_ne.mpr c3
    have c3b1 : ((l0.length : Int) != (l1.length : Int)) = true := bne_iff_ne.mpr c3
    have c3b2 : (l0.length == l1.length) = false := by first | simpa using c3 | (simp at c3 ⊢; omega)
    obtain rfl := Option.some.inj H
    go_enter Tryd.func92, Tryd.ntmps92
    go_wp2
    go_ret
    exact ⟨by first | rfl | (simp [errW_none, errW_some] <;> rfl) | (simp [*, errW_none, errW_some] <;> rfl), by repeat (first | (with_reducible first | exact HB.out | apply below_alloc | apply pw_below_drewN | apply below_drew1) | exact HB.out)⟩
end Go.Proofs.YtoeepmcaabmjkaaDoor.QTX
