-- Written by a program of this session (wip/tools/myprint.py).
import Derived.Test.YtpodhdpkdhcnoaaQSCx0
import Derived.Test.YtpodhdpkdhcnoaaQSCx14
namespace Go.Proofs.Ytpodhdpkdhcnoaa.QSC
open Go.RowKit Go.Proofs.YtpodhdpkdhcnoaaW.PrintWords Go.Proofs.YtpodhdpkdhcnoaaW.PrintLast Go.Proofs.YtpodhdpkdhcnoaaW.PrintMore
attribute [local go_sem] max2_int min2_int max_two min_two max_three min_three max_four min_four   -- for this text's walks alone
set_option linter.unusedVariables false
set_option linter.unusedSimpArgs false

/-! ### laws_markCellS: function 45 -/
def laws_markCellS.l0 : Nat → List (S63) → Int → Int → Option (Int × (List (S63)))
  | 0, _, _, _ => none
  | k + 1, x0, x1, x5 => if x5 < (x0.length : Int) then (if 0 ≤ x5 then ((some (x0.set (x5 : Int).toNat (⟨x1, (rd_T63 x0 x5).f1, (rd_T63 x0 x5).f2⟩ : S63) : List (S63))).bind fun y240 => ((some (y240.set (x5 : Int).toNat (⟨(rd_T63 y240 x5).f0, wrap64 (x1 + 1), (rd_T63 y240 x5).f2⟩ : S63) : List (S63))).bind fun y241 => (laws_markCellS.l0 k (y241.set (x5 : Int).toNat (⟨(rd_T63 y241 x5).f0, (rd_T63 y241 x5).f1, wrap64 ((wrap64 (x1 + 1)) + 1)⟩ : S63)) (wrap64 ((wrap64 ((wrap64 (x1 + 1)) + 1)) + 1)) (wrap64 (x5 + 1))))) else (none)) else (some (x1, x0))
def laws_markCellS.f (k : Nat) (l0 : List (S63)) (a1 : Int) : Option (Int × (List (S63))) := laws_markCellS.l0 k l0 a1 0
theorem laws_markCellS.mono_l : ∀ k, (∀ y0 y1 y2, LeO (laws_markCellS.l0 k y0 y1 y2) (laws_markCellS.l0 (k + 1) y0 y1 y2))
  | 0 => fun _ _ _ r h => by simp [laws_markCellS.l0] at h
  | k + 1 => by
    have ih0 := laws_markCellS.mono_l k
    · intro y0 y1 y2
      unfold laws_markCellS.l0
      repeat' first
      | (with_reducible exact ih0 _ _ _)
      | (with_reducible exact LeO.refl _)
      | (with_reducible exact LeO.none _)
      | (with_reducible refine LeO.ite ?_ ?_)
      | (with_reducible refine LeO.bind ?_ (fun _ => ?_))
      | exact ih0 _ _ _
      | exact LeO.none _
      | refine LeO.ite ?_ ?_
      | refine LeO.bind ?_ (fun _ => ?_)
theorem laws_markCellS.mono : ∀ a0 a1 k, LeO (laws_markCellS.f k a0 a1) (laws_markCellS.f (k + 1) a0 a1) := by
  intro a0 a1 k
  have ih0 := laws_markCellS.mono_l k
  unfold laws_markCellS.f
  repeat' first
      | (with_reducible exact ih0 _ _ _)
      | (with_reducible exact LeO.refl _)
      | (with_reducible exact LeO.none _)
      | (with_reducible refine LeO.ite ?_ ?_)
      | (with_reducible refine LeO.bind ?_ (fun _ => ?_))
      | exact ih0 _ _ _
      | exact LeO.none _
      | refine LeO.ite ?_ ?_
      | refine LeO.bind ?_ (fun _ => ?_)
set_option maxHeartbeats 8000000 in
set_option maxRecDepth 100000 in
theorem laws_markCellS.calls (k : Nat) (P0_ : Nat → Prop) (u9000_ : Value) (l0 : List (S63)) (a1 : Int) (r1 : Int) (r2 : List (S63)) (w0 w : World) (hB : Below w0.heap.size w0 w) (ho0 : Kd.R k63 63 w w0.heap.size P0_ u9000_ l0) (h : laws_markCellS.f k l0 a1 = some (r1, r2)) :
    Calls Try.prog 45 #[u9000_, .int .i64 a1] w fun e w' => e = .returned (.int .i64 r1) ∧ Kd.R k63 63 w' w0.heap.size (fun k_ => (P0_ k_ ∨ w.heap.size ≤ k_)) u9000_ r2 ∧ Below w0.heap.size w0 w' ∧ Kept w w' (fun k_ => P0_ k_) := by
  have HO0 := Aside0.mk (show Kd.R k63 63 w w0.heap.size (fun k_ => (P0_ k_ ∨ w.heap.size ≤ k_)) u9000_ l0 from Kd.R_mono ho0 (fun k_ hk => (.inl hk)))
  have HK := Aside0.mk (Kept.refl w (fun k_ => P0_ k_))
  have HW0 := Aside0.mk hB.size
  have HB := Aside0.mk hB
  clear hB
  have H : (laws_markCellS.l0 k l0 a1 0) = some (r1, r2) := h
  clear h
  have H' := Aside0.mk H
  clear H
  go_enter Try.func45, Try.ntmps45
  go_wp2
  go_loopg [1, 5] k (fun kq v1 v5 w' => ∃ (x0_1 : List (S63)) (x1_1 : Int) (x5_1 : Int), v1 = .int .i64 x1_1 ∧ v5 = .int .i64 x5_1 ∧ Aside0 (laws_markCellS.l0 kq x0_1 x1_1 x5_1 = some (r1, r2)) ∧ Aside0 (kq ≤ k) ∧ Aside0 (Kd.R k63 63 w' w0.heap.size (fun k_ => (P0_ k_ ∨ w.heap.size ≤ k_)) u9000_ x0_1) ∧ Aside0 (Kept w w' (fun k_ => P0_ k_)) ∧ Aside0 (Below w0.heap.size w0 w'))
  case atStart => exact ⟨(l0), (a1), (0), (by first | rfl | (simp; done) | (simp [*]; done)), (by first | rfl | (simp; done) | (simp [*]; done)), H', ⟨Nat.le_refl _⟩, ⟨by (with_reducible repeat (first | apply Kd.R_alloc | apply Kd.R_drewN | apply Kd.R_drew)); exact HO0.out⟩, ⟨by repeat (first | (with_reducible first | exact HK.out | apply Kept.alloc | apply Kept.drewN | apply Kept.drew) | exact HK.out)⟩, ⟨by repeat (first | (with_reducible first | exact HB.out | apply below_alloc | apply pw_below_drewN | apply below_drew1) | exact HB.out)⟩⟩
  case round =>
    clear H'
    try clear p2
    obtain ⟨x0_1, x1_1, x5_1, rfl, rfl, HA, HK1, HO_0, HK, HB⟩ := hrel
    cases gk with
    | zero => exact absurd HA.out (by simp [laws_markCellS.l0])
    | succ k1 =>
      have H := HA.out
      clear HA
      simp only [laws_markCellS.l0] at H
      by_cases c3 : x5_1 < (x0_1.length : Int)
      · rw [if_pos c3] at H
        have c3b0 : decide (x5_1 < (x0_1.length : Int)) = true := decide_eq_true c3
        clear c3
        by_cases c4 : 0 ≤ x5_1
        · rw [if_pos c4] at H
          have c4b0 : decide (0 ≤ x5_1) = true := decide_eq_true c4
          clear c4
          obtain ⟨y240, hy240⟩ : ∃ y_ : List (S63), y_ = (x0_1.set (x5_1 : Int).toNat (⟨x1_1, (rd_T63 x0_1 x5_1).f1, (rd_T63 x0_1 x5_1).f2⟩ : S63)) := ⟨_, rfl⟩
          replace H : ((some (y240.set (x5_1 : Int).toNat (⟨(rd_T63 y240 x5_1).f0, wrap64 (x1_1 + 1), (rd_T63 y240 x5_1).f2⟩ : S63) : List (S63))).bind fun y241 => (laws_markCellS.l0 k1 (y241.set (x5_1 : Int).toNat (⟨(rd_T63 y241 x5_1).f0, (rd_T63 y241 x5_1).f1, wrap64 ((wrap64 (x1_1 + 1)) + 1)⟩ : S63)) (wrap64 ((wrap64 ((wrap64 (x1_1 + 1)) + 1)) + 1)) (wrap64 (x5_1 + 1)))) = some (r1, r2) := by first | (rw [hy240]; with_reducible exact H) | (have H2_ := (Option.bind_some _ _).symm.trans H; rw [hy240]; with_reducible exact H2_) | (have H2_ := (Option.bind_some _ _).symm.trans H; with_reducible exact H2_) | with_reducible exact H | (rw [hy240]; exact H) | exact H
          have Ny240 := Aside0.mk hy240
          clear hy240
          obtain ⟨y241, hy241⟩ : ∃ y_ : List (S63), y_ = (y240.set (x5_1 : Int).toNat (⟨(rd_T63 y240 x5_1).f0, wrap64 (x1_1 + 1), (rd_T63 y240 x5_1).f2⟩ : S63)) := ⟨_, rfl⟩
          replace H : (laws_markCellS.l0 k1 (y241.set (x5_1 : Int).toNat (⟨(rd_T63 y241 x5_1).f0, (rd_T63 y241 x5_1).f1, wrap64 ((wrap64 (x1_1 + 1)) + 1)⟩ : S63)) (wrap64 ((wrap64 ((wrap64 (x1_1 + 1)) + 1)) + 1)) (wrap64 (x5_1 + 1))) = some (r1, r2) := by first | (rw [hy241]; with_reducible exact H) | (have H2_ := (Option.bind_some _ _).symm.trans H; rw [hy241]; with_reducible exact H2_) | (have H2_ := (Option.bind_some _ _).symm.trans H; with_reducible exact H2_) | with_reducible exact H | (rw [hy241]; exact H) | exact H
          have Ny241 := Aside0.mk hy241
          clear hy241
          obtain ⟨y242, hy242⟩ : ∃ y_ : List (S63), y_ = (y241.set (x5_1 : Int).toNat (⟨(rd_T63 y241 x5_1).f0, (rd_T63 y241 x5_1).f1, wrap64 ((wrap64 (x1_1 + 1)) + 1)⟩ : S63)) := ⟨_, rfl⟩
          replace H : (laws_markCellS.l0 k1 y242 (wrap64 ((wrap64 ((wrap64 (x1_1 + 1)) + 1)) + 1)) (wrap64 (x5_1 + 1))) = some (r1, r2) := by first | (rw [hy242]; with_reducible exact H) | (have H2_ := (Option.bind_some _ _).symm.trans H; rw [hy242]; with_reducible exact H2_) | (have H2_ := (Option.bind_some _ _).symm.trans H; with_reducible exact H2_) | with_reducible exact H | (rw [hy242]; exact H) | exact H
          have Ny242 := Aside0.mk hy242
          clear hy242
          have H' := Aside0.mk H
          clear H
          obtain ⟨Ao8, co8, eo8⟩ := Kd.R_slice HO_0.out
          subst eo8
          have p5 : 0 ≤ (x5_1 : Int) := of_decide_eq_true (by first | (with_reducible assumption) | assumption)
          have q5 : (x5_1 : Int) < ((x0_1.length : Int) : Int) := of_decide_eq_true (by first | (with_reducible assumption) | assumption)
          obtain ⟨go5, co5, eo5, gb5, gl5, cl5, HG5⟩ := Kd.R_form HO_0.out (by omega)
          (first | cases eo5 | (injection eo5 with ea_ en_ ec_; (first | subst ea_ | (injection ea_ with ea_; subst ea_)); subst ec_; clear en_))
          have GB5 := Aside0.mk gb5
          have GG5 := Aside0.mk HG5
          clear gb5 gl5 HG5
          have HMgo5 := Aside0.mk (show (P0_ go5 ∨ w.heap.size ≤ go5) from (HO_0.out.1 _ rfl))
          obtain ⟨ce5, hcl5, hM5, hcc5, hfr5⟩ := Kd.R_elem HO_0.out z63 (x5_1 : Int) p5 q5
          obtain rfl := k63_openM hM5
          have hx5_0 : wr.cell? ⟨go5, (x5_1 : Int).toNat * 3, none⟩ = some (.int .i64 ((rd_T63 x0_1 x5_1).f0)) := hcc5 0 _ rfl
          have hx5_1 : wr.cell? ⟨go5, (x5_1 : Int).toNat * 3 + 1, none⟩ = some (.int .i64 ((rd_T63 x0_1 x5_1).f1)) := hcc5 1 _ rfl
          have hx5_2 : wr.cell? ⟨go5, (x5_1 : Int).toNat * 3 + 2, none⟩ = some (.int .i64 ((rd_T63 x0_1 x5_1).f2)) := hcc5 2 _ rfl
          have hf5_0 : wr.frozen? ⟨go5, (x5_1 : Int).toNat * 3, none⟩ = false := hfr5 0
          have hf5_1 : wr.frozen? ⟨go5, (x5_1 : Int).toNat * 3 + 1, none⟩ = false := hfr5 1
          have hf5_2 : wr.frozen? ⟨go5, (x5_1 : Int).toNat * 3 + 2, none⟩ = false := hfr5 2
          clear hcl5 hcc5 hfr5 hM5
          replace p5 := eq_true p5
          replace q5 := eq_true q5
          have HX9 := Aside0.mk (show Kd.R k63 63 wr w0.heap.size (fun k_ => (P0_ k_ ∨ w.heap.size ≤ k_)) (.slice (some ⟨go5, 0, none⟩) x0_1.length co8) x0_1 from (by (with_reducible repeat (first | apply Kd.R_alloc | apply Kd.R_drewN | apply Kd.R_drew)); exact HO_0.out))
          obtain ⟨ce9, hcl9, hM9, hcc9, hfr9⟩ := Kd.R_elem HX9.out z63 (x5_1 : Int) (of_decide_eq_true (by first | (with_reducible assumption) | assumption)) (by have h_ : (x5_1 : Int) < ((x0_1.length : Int) : Int) := of_decide_eq_true (by first | (with_reducible assumption) | assumption); first | exact h_ | (have e_ := (Kd.R_reads' HO_0.out).1; omega) | simpa using h_)
          obtain rfl := k63_openM hM9
          have HP9 := Kd.R_seg HX9.out (x5_1 : Int) (of_decide_eq_true (by first | (with_reducible assumption) | assumption)) (by have h_ : (x5_1 : Int) < ((x0_1.length : Int) : Int) := of_decide_eq_true (by first | (with_reducible assumption) | assumption); first | exact h_ | (have e_ := (Kd.R_reads' HO_0.out).1; omega) | simpa using h_) (seg := [.int .i64 x1_1]) (j := 0) hcl9 hcc9 (show 1 ≤ 3 from by decide) (x' := (⟨x1_1, (rd_T63 x0_1 x5_1).f1, (rd_T63 x0_1 x5_1).f2⟩ : S63)) (k63_mkM _ _ _ (⟨x1_1, (rd_T63 x0_1 x5_1).f1, (rd_T63 x0_1 x5_1).f2⟩ : S63) ) (fun _ hk => hk)
          have hx9_0 := hcc9 0 _ rfl
          (try simp only [show (k63).sz = 3 from rfl, Nat.mul_one, Nat.add_zero] at hx9_0)
          have hf9_0 := hfr9 0
          (try simp only [show (k63).sz = 3 from rfl, Nat.mul_one, Nat.add_zero] at hf9_0)
          clear hcl9 hcc9 hfr9 hM9
          go_wp2_with (first | ((with_reducible refine gate_store (t := 3) (p := 16) rfl ?_); refine store_event (t := 3) (p := 16) (v := ?vo_w10) (w1 := (wr.setCell ⟨go5, (x5_1 : Int).toNat * 3, none⟩ (.int .i64 x1_1))) ?hg ?ho ?hn ?hr ?_; (case ho => rfl); (case hg => rfl); (case hn => rfl); (case hr => first | (go_simp; done) | (go_simp; rfl)); intro w10 hw; have hg : wr.grownBy w10 (some go5) := (by rw [hw]; exact HP9.2); have hp_ : Kd.R k63 63 w10 w0.heap.size (fun k_ => (P0_ k_ ∨ w.heap.size ≤ k_)) (.slice (some ⟨go5, 0, none⟩) x0_1.length co8) y240 := (by rw [hw, Ny240.out]; exact HP9.1); clear HP9; have n0_ := Aside0.mk (hp_); have n1_ := Aside0.mk ((by rw [hw]; exact below_set (HB.out) GB5.out : Below w0.heap.size w0 w10)); have n2_ := Aside0.mk (Kept.of_grown (S := (fun k_ => P0_ k_)) hg (by repeat (first | (with_reducible first | exact HK.out | apply Kept.alloc | apply Kept.drewN | apply Kept.drew) | exact HK.out)) (fun k_ e_ => (HO_0.out.1 k_ e_))); clear HO_0; clear HB; clear HK; have HO_0 := n0_; have HB := n1_; have HK := n2_; clear n0_ n1_ n2_; clear hg hw hp_; have p6 : 0 ≤ (x5_1 : Int) := of_decide_eq_true (by first | (with_reducible assumption) | assumption); have q6 : (x5_1 : Int) < ((x0_1.length : Int) : Int) := of_decide_eq_true (by first | (with_reducible assumption) | assumption); obtain ⟨ce6, hcl6, hM6, hcc6, hfr6⟩ := Kd.R_elem HO_0.out z63 (x5_1 : Int) p6 q6; obtain rfl := k63_openM hM6; have hx6_0 : w10.cell? ⟨go5, (x5_1 : Int).toNat * 3, none⟩ = some (.int .i64 ((rd_T63 y240 x5_1).f0)) := hcc6 0 _ rfl; have hx6_1 : w10.cell? ⟨go5, (x5_1 : Int).toNat * 3 + 1, none⟩ = some (.int .i64 ((rd_T63 y240 x5_1).f1)) := hcc6 1 _ rfl; have hx6_2 : w10.cell? ⟨go5, (x5_1 : Int).toNat * 3 + 2, none⟩ = some (.int .i64 ((rd_T63 y240 x5_1).f2)) := hcc6 2 _ rfl; have hf6_0 : w10.frozen? ⟨go5, (x5_1 : Int).toNat * 3, none⟩ = false := hfr6 0; have hf6_1 : w10.frozen? ⟨go5, (x5_1 : Int).toNat * 3 + 1, none⟩ = false := hfr6 1; have hf6_2 : w10.frozen? ⟨go5, (x5_1 : Int).toNat * 3 + 2, none⟩ = false := hfr6 2; clear hcl6 hcc6 hfr6; (try clear hM6); replace p6 := eq_true p6; replace q6 := eq_true q6; have HX11 := Aside0.mk (show Kd.R k63 63 w10 w0.heap.size (fun k_ => (P0_ k_ ∨ w.heap.size ≤ k_)) (.slice (some ⟨go5, 0, none⟩) x0_1.length co8) y240 from (by (with_reducible repeat (first | apply Kd.R_alloc | apply Kd.R_drewN | apply Kd.R_drew)); exact HO_0.out)); obtain ⟨ce11, hcl11, hM11, hcc11, hfr11⟩ := Kd.R_elem HX11.out z63 (x5_1 : Int) (of_decide_eq_true (by first | (with_reducible assumption) | assumption)) (by have h_ : (x5_1 : Int) < ((x0_1.length : Int) : Int) := of_decide_eq_true (by first | (with_reducible assumption) | assumption); first | exact h_ | (have e_ := (Kd.R_reads' HO_0.out).1; omega) | simpa using h_); obtain rfl := k63_openM hM11; have HP11 := Kd.R_seg HX11.out (x5_1 : Int) (of_decide_eq_true (by first | (with_reducible assumption) | assumption)) (by have h_ : (x5_1 : Int) < ((x0_1.length : Int) : Int) := of_decide_eq_true (by first | (with_reducible assumption) | assumption); first | exact h_ | (have e_ := (Kd.R_reads' HO_0.out).1; omega) | simpa using h_) (seg := [.int .i64 (wrap64 (x1_1 + 1))]) (j := 1) hcl11 hcc11 (show 2 ≤ 3 from by decide) (x' := (⟨(rd_T63 y240 x5_1).f0, wrap64 (x1_1 + 1), (rd_T63 y240 x5_1).f2⟩ : S63)) (k63_mkM _ _ _ (⟨(rd_T63 y240 x5_1).f0, wrap64 (x1_1 + 1), (rd_T63 y240 x5_1).f2⟩ : S63) ) (fun _ hk => hk); have hx11_1 := hcc11 1 _ rfl; (try simp only [show (k63).sz = 3 from rfl, Nat.mul_one, Nat.add_zero] at hx11_1); have hf11_1 := hfr11 1; (try simp only [show (k63).sz = 3 from rfl, Nat.mul_one, Nat.add_zero] at hf11_1); clear hcl11 hcc11 hfr11 hM11) | ((with_reducible refine gate_store (t := 3) (p := 23) rfl ?_); refine store_event (t := 3) (p := 23) (v := ?vo_w12) (w1 := (w10.setCell ⟨go5, (x5_1 : Int).toNat * 3 + 1, none⟩ (.int .i64 (wrap64 (x1_1 + 1))))) ?hg ?ho ?hn ?hr ?_; (case ho => rfl); (case hg => rfl); (case hn => rfl); (case hr => first | (go_simp; done) | (go_simp; rfl)); intro w12 hw; have hg : w10.grownBy w12 (some go5) := (by rw [hw]; exact HP11.2); have hp_ : Kd.R k63 63 w12 w0.heap.size (fun k_ => (P0_ k_ ∨ w.heap.size ≤ k_)) (.slice (some ⟨go5, 0, none⟩) x0_1.length co8) y241 := (by rw [hw, Ny241.out]; exact HP11.1); clear HP11; have n0_ := Aside0.mk (hp_); have n1_ := Aside0.mk ((by rw [hw]; exact below_set (HB.out) GB5.out : Below w0.heap.size w0 w12)); have n2_ := Aside0.mk (Kept.of_grown (S := (fun k_ => P0_ k_)) hg (by repeat (first | (with_reducible first | exact HK.out | apply Kept.alloc | apply Kept.drewN | apply Kept.drew) | exact HK.out)) (fun k_ e_ => (HO_0.out.1 k_ e_))); clear HO_0; clear HB; clear HK; have HO_0 := n0_; have HB := n1_; have HK := n2_; clear n0_ n1_ n2_; clear hg hw hp_; have p7 : 0 ≤ (x5_1 : Int) := of_decide_eq_true (by first | (with_reducible assumption) | assumption); have q7 : (x5_1 : Int) < ((x0_1.length : Int) : Int) := of_decide_eq_true (by first | (with_reducible assumption) | assumption); obtain ⟨ce7, hcl7, hM7, hcc7, hfr7⟩ := Kd.R_elem HO_0.out z63 (x5_1 : Int) p7 q7; obtain rfl := k63_openM hM7; have hx7_0 : w12.cell? ⟨go5, (x5_1 : Int).toNat * 3, none⟩ = some (.int .i64 ((rd_T63 y241 x5_1).f0)) := hcc7 0 _ rfl; have hx7_1 : w12.cell? ⟨go5, (x5_1 : Int).toNat * 3 + 1, none⟩ = some (.int .i64 ((rd_T63 y241 x5_1).f1)) := hcc7 1 _ rfl; have hx7_2 : w12.cell? ⟨go5, (x5_1 : Int).toNat * 3 + 2, none⟩ = some (.int .i64 ((rd_T63 y241 x5_1).f2)) := hcc7 2 _ rfl; have hf7_0 : w12.frozen? ⟨go5, (x5_1 : Int).toNat * 3, none⟩ = false := hfr7 0; have hf7_1 : w12.frozen? ⟨go5, (x5_1 : Int).toNat * 3 + 1, none⟩ = false := hfr7 1; have hf7_2 : w12.frozen? ⟨go5, (x5_1 : Int).toNat * 3 + 2, none⟩ = false := hfr7 2; clear hcl7 hcc7 hfr7; (try clear hM7); replace p7 := eq_true p7; replace q7 := eq_true q7; have HX13 := Aside0.mk (show Kd.R k63 63 w12 w0.heap.size (fun k_ => (P0_ k_ ∨ w.heap.size ≤ k_)) (.slice (some ⟨go5, 0, none⟩) x0_1.length co8) y241 from (by (with_reducible repeat (first | apply Kd.R_alloc | apply Kd.R_drewN | apply Kd.R_drew)); exact HO_0.out)); obtain ⟨ce13, hcl13, hM13, hcc13, hfr13⟩ := Kd.R_elem HX13.out z63 (x5_1 : Int) (of_decide_eq_true (by first | (with_reducible assumption) | assumption)) (by have h_ : (x5_1 : Int) < ((x0_1.length : Int) : Int) := of_decide_eq_true (by first | (with_reducible assumption) | assumption); first | exact h_ | (have e_ := (Kd.R_reads' HO_0.out).1; omega) | simpa using h_); obtain rfl := k63_openM hM13; have HP13 := Kd.R_seg HX13.out (x5_1 : Int) (of_decide_eq_true (by first | (with_reducible assumption) | assumption)) (by have h_ : (x5_1 : Int) < ((x0_1.length : Int) : Int) := of_decide_eq_true (by first | (with_reducible assumption) | assumption); first | exact h_ | (have e_ := (Kd.R_reads' HO_0.out).1; omega) | simpa using h_) (seg := [.int .i64 (wrap64 ((wrap64 (x1_1 + 1)) + 1))]) (j := 2) hcl13 hcc13 (show 3 ≤ 3 from by decide) (x' := (⟨(rd_T63 y241 x5_1).f0, (rd_T63 y241 x5_1).f1, wrap64 ((wrap64 (x1_1 + 1)) + 1)⟩ : S63)) (k63_mkM _ _ _ (⟨(rd_T63 y241 x5_1).f0, (rd_T63 y241 x5_1).f1, wrap64 ((wrap64 (x1_1 + 1)) + 1)⟩ : S63) ) (fun _ hk => hk); have hx13_2 := hcc13 2 _ rfl; (try simp only [show (k63).sz = 3 from rfl, Nat.mul_one, Nat.add_zero] at hx13_2); have hf13_2 := hfr13 2; (try simp only [show (k63).sz = 3 from rfl, Nat.mul_one, Nat.add_zero] at hf13_2); clear hcl13 hcc13 hfr13 hM13) | ((with_reducible refine gate_store (t := 3) (p := 30) rfl ?_); refine store_event (t := 3) (p := 30) (v := ?vo_w14) (w1 := (w12.setCell ⟨go5, (x5_1 : Int).toNat * 3 + 2, none⟩ (.int .i64 (wrap64 ((wrap64 (x1_1 + 1)) + 1))))) ?hg ?ho ?hn ?hr ?_; (case ho => rfl); (case hg => rfl); (case hn => rfl); (case hr => first | (go_simp; done) | (go_simp; rfl)); intro w14 hw; have hg : w12.grownBy w14 (some go5) := (by rw [hw]; exact HP13.2); have hp_ : Kd.R k63 63 w14 w0.heap.size (fun k_ => (P0_ k_ ∨ w.heap.size ≤ k_)) (.slice (some ⟨go5, 0, none⟩) x0_1.length co8) y242 := (by rw [hw, Ny242.out]; exact HP13.1); clear HP13; have n0_ := Aside0.mk (hp_); have n1_ := Aside0.mk ((by rw [hw]; exact below_set (HB.out) GB5.out : Below w0.heap.size w0 w14)); have n2_ := Aside0.mk (Kept.of_grown (S := (fun k_ => P0_ k_)) hg (by repeat (first | (with_reducible first | exact HK.out | apply Kept.alloc | apply Kept.drewN | apply Kept.drew) | exact HK.out)) (fun k_ e_ => (HO_0.out.1 k_ e_))); clear HO_0; clear HB; clear HK; have HO_0 := n0_; have HB := n1_; have HK := n2_; clear n0_ n1_ n2_; clear hg hw hp_))
          go_roundg k1
          case measure => have := HK1.out; omega
          case rel => exact ⟨(y242), (wrap64 ((wrap64 ((wrap64 (x1_1 + 1)) + 1)) + 1)), (wrap64 (x5_1 + 1)), (by first | rfl | (simp; done) | (simp [*]; done)), (by first | rfl | (simp; done) | (simp [*]; done)), H', ⟨by have := HK1.out; omega⟩, ⟨by (with_reducible repeat (first | apply Kd.R_alloc | apply Kd.R_drewN | apply Kd.R_drew)); exact HO_0.out⟩, ⟨by repeat (first | (with_reducible first | exact HK.out | apply Kept.alloc | apply Kept.drewN | apply Kept.drew) | exact HK.out)⟩, ⟨by repeat (first | (with_reducible first | exact HB.out | apply below_alloc | apply pw_below_drewN | apply below_drew1) | exact HB.out)⟩⟩
        · rw [if_neg c4] at H
          exact absurd H (by simp)
      · rw [if_neg c3] at H
        have c3b0 : decide (x5_1 < (x0_1.length : Int)) = false := decide_eq_false c3
        clear c3
        simp only [Option.some.injEq, Prod.mk.injEq] at H
        obtain ⟨rfl, rfl⟩ := H
        obtain ⟨Ao15, co15, eo15⟩ := Kd.R_slice HO_0.out
        subst eo15
        go_wp2
        go_ret
        exact ⟨by first | rfl | (simp [errW_none, errW_some] <;> rfl) | (simp [*, errW_none, errW_some] <;> rfl), by (with_reducible repeat (first | apply Kd.R_alloc | apply Kd.R_drewN | apply Kd.R_drew)); exact HO_0.out, by repeat (first | (with_reducible first | exact HB.out | apply below_alloc | apply pw_below_drewN | apply below_drew1) | exact HB.out), by repeat (first | (with_reducible first | exact HK.out | apply Kept.alloc | apply Kept.drewN | apply Kept.drew) | exact HK.out)⟩

/-! ### laws_markIntS: function 17 -/
def laws_markIntS.l0 : Nat → List Int → Int → Int → Option (Int × List Int)
  | 0, _, _, _ => none
  | k + 1, x0, x1, x5 => if x5 < (x0.length : Int) then (if 0 ≤ x5 then (laws_markIntS.l0 k (x0.set (x5 : Int).toNat x1) (wrap64 (x1 + 1)) (wrap64 (x5 + 1))) else (none)) else (some (x1, x0))
def laws_markIntS.f (k : Nat) (l0 : List Int) (a1 : Int) : Option (Int × List Int) := laws_markIntS.l0 k l0 a1 0
theorem laws_markIntS.mono_l : ∀ k, (∀ y0 y1 y2, LeO (laws_markIntS.l0 k y0 y1 y2) (laws_markIntS.l0 (k + 1) y0 y1 y2))
  | 0 => fun _ _ _ r h => by simp [laws_markIntS.l0] at h
  | k + 1 => by
    have ih0 := laws_markIntS.mono_l k
    · intro y0 y1 y2
      unfold laws_markIntS.l0
      repeat' first
      | (with_reducible exact ih0 _ _ _)
      | (with_reducible exact LeO.refl _)
      | (with_reducible exact LeO.none _)
      | (with_reducible refine LeO.ite ?_ ?_)
      | (with_reducible refine LeO.bind ?_ (fun _ => ?_))
      | exact ih0 _ _ _
      | exact LeO.none _
      | refine LeO.ite ?_ ?_
      | refine LeO.bind ?_ (fun _ => ?_)
theorem laws_markIntS.mono : ∀ a0 a1 k, LeO (laws_markIntS.f k a0 a1) (laws_markIntS.f (k + 1) a0 a1) := by
  intro a0 a1 k
  have ih0 := laws_markIntS.mono_l k
  unfold laws_markIntS.f
  repeat' first
      | (with_reducible exact ih0 _ _ _)
      | (with_reducible exact LeO.refl _)
      | (with_reducible exact LeO.none _)
      | (with_reducible refine LeO.ite ?_ ?_)
      | (with_reducible refine LeO.bind ?_ (fun _ => ?_))
      | exact ih0 _ _ _
      | exact LeO.none _
      | refine LeO.ite ?_ ?_
      | refine LeO.bind ?_ (fun _ => ?_)
set_option maxHeartbeats 8000000 in
set_option maxRecDepth 100000 in
theorem laws_markIntS.calls (k : Nat) (P0_ : Nat → Prop) (u9000_ : Value) (l0 : List Int) (a1 : Int) (r1 : Int) (r2 : List Int) (w0 w : World) (hB : Below w0.heap.size w0 w) (ho0 : Kd.R (Kd.int .i64) 3 w w0.heap.size P0_ u9000_ l0) (h : laws_markIntS.f k l0 a1 = some (r1, r2)) :
    Calls Try.prog 17 #[u9000_, .int .i64 a1] w fun e w' => e = .returned (.int .i64 r1) ∧ Kd.R (Kd.int .i64) 3 w' w0.heap.size (fun k_ => (P0_ k_ ∨ w.heap.size ≤ k_)) u9000_ r2 ∧ Below w0.heap.size w0 w' ∧ Kept w w' (fun k_ => P0_ k_) := by
  have HO0 := Aside0.mk (show Kd.R (Kd.int .i64) 3 w w0.heap.size (fun k_ => (P0_ k_ ∨ w.heap.size ≤ k_)) u9000_ l0 from Kd.R_mono ho0 (fun k_ hk => (.inl hk)))
  have HK := Aside0.mk (Kept.refl w (fun k_ => P0_ k_))
  have HW0 := Aside0.mk hB.size
  have HB := Aside0.mk hB
  clear hB
  have H : (laws_markIntS.l0 k l0 a1 0) = some (r1, r2) := h
  clear h
  have H' := Aside0.mk H
  clear H
  go_enter Try.func17, Try.ntmps17
  go_wp2
  go_loopg [1, 5] k (fun kq v1 v5 w' => ∃ (x0_1 : List Int) (x1_1 : Int) (x5_1 : Int), v1 = .int .i64 x1_1 ∧ v5 = .int .i64 x5_1 ∧ Aside0 (laws_markIntS.l0 kq x0_1 x1_1 x5_1 = some (r1, r2)) ∧ Aside0 (kq ≤ k) ∧ Aside0 (Kd.R (Kd.int .i64) 3 w' w0.heap.size (fun k_ => (P0_ k_ ∨ w.heap.size ≤ k_)) u9000_ x0_1) ∧ Aside0 (Kept w w' (fun k_ => P0_ k_)) ∧ Aside0 (Below w0.heap.size w0 w'))
  case atStart => exact ⟨(l0), (a1), (0), (by first | rfl | (simp; done) | (simp [*]; done)), (by first | rfl | (simp; done) | (simp [*]; done)), H', ⟨Nat.le_refl _⟩, ⟨by (with_reducible repeat (first | apply Kd.R_alloc | apply Kd.R_drewN | apply Kd.R_drew)); exact HO0.out⟩, ⟨by repeat (first | (with_reducible first | exact HK.out | apply Kept.alloc | apply Kept.drewN | apply Kept.drew) | exact HK.out)⟩, ⟨by repeat (first | (with_reducible first | exact HB.out | apply below_alloc | apply pw_below_drewN | apply below_drew1) | exact HB.out)⟩⟩
  case round =>
    clear H'
    try clear c1
    try clear p2
    obtain ⟨x0_1, x1_1, x5_1, rfl, rfl, HA, HK1, HO_0, HK, HB⟩ := hrel
    cases gk with
    | zero => exact absurd HA.out (by simp [laws_markIntS.l0])
    | succ k1 =>
      have H := HA.out
      clear HA
      simp only [laws_markIntS.l0] at H
      by_cases c3 : x5_1 < (x0_1.length : Int)
      · rw [if_pos c3] at H
        have c3b0 : decide (x5_1 < (x0_1.length : Int)) = true := decide_eq_true c3
        clear c3
        by_cases c4 : 0 ≤ x5_1
        · rw [if_pos c4] at H
          have c4b0 : decide (0 ≤ x5_1) = true := decide_eq_true c4
          clear c4
          obtain ⟨y243, hy243⟩ : ∃ y_ : List Int, y_ = (x0_1.set (x5_1 : Int).toNat x1_1) := ⟨_, rfl⟩
          replace H : (laws_markIntS.l0 k1 y243 (wrap64 (x1_1 + 1)) (wrap64 (x5_1 + 1))) = some (r1, r2) := by first | (rw [hy243]; with_reducible exact H) | (have H2_ := (Option.bind_some _ _).symm.trans H; rw [hy243]; with_reducible exact H2_) | (have H2_ := (Option.bind_some _ _).symm.trans H; with_reducible exact H2_) | with_reducible exact H | (rw [hy243]; exact H) | exact H
          have Ny243 := Aside0.mk hy243
          clear hy243
          have H' := Aside0.mk H
          clear H
          obtain ⟨Ao6, co6, eo6⟩ := Kd.R_slice HO_0.out
          subst eo6
          have p5 : 0 ≤ (x5_1 : Int) := of_decide_eq_true (by first | (with_reducible assumption) | assumption)
          have q5 : (x5_1 : Int) < ((x0_1.length : Int) : Int) := of_decide_eq_true (by first | (with_reducible assumption) | assumption)
          obtain ⟨go5, co5, eo5, gb5, gl5, cl5, HG5⟩ := Kd.R_form HO_0.out (by omega)
          (first | cases eo5 | (injection eo5 with ea_ en_ ec_; (first | subst ea_ | (injection ea_ with ea_; subst ea_)); subst ec_; clear en_))
          have GB5 := Aside0.mk gb5
          have GG5 := Aside0.mk HG5
          clear gb5 gl5 HG5
          have HMgo5 := Aside0.mk (show (P0_ go5 ∨ w.heap.size ≤ go5) from (HO_0.out.1 _ rfl))
          obtain ⟨hx5_0, hf5_0⟩ := Kd.R_celln 0 HO_0.out (x5_1 : Int) p5 q5
          replace p5 := eq_true p5
          replace q5 := eq_true q5
          have HP7 := Kd.R_putg HO_0.out (x5_1 : Int) x1_1
          go_wp2_with (first | ((with_reducible refine gate_store (t := 3) (p := 15) rfl ?_); refine store_event (t := 3) (p := 15) (v := ?vo_w8) (w1 := (wr.setCell ⟨go5, (x5_1 : Int).toNat, none⟩ (.int .i64 x1_1))) ?hg ?ho ?hn ?hr ?_; (case ho => rfl); (case hg => rfl); (case hn => rfl); (case hr => first | (go_simp; done) | (go_simp; rfl)); intro w8 hw; have hg : wr.grownBy w8 (some go5) := (by rw [hw]; exact HP7.2); have hp_ : Kd.R (Kd.int .i64) 3 w8 w0.heap.size (fun k_ => (P0_ k_ ∨ w.heap.size ≤ k_)) (.slice (some ⟨go5, 0, none⟩) x0_1.length co6) y243 := (by rw [hw, Ny243.out]; exact HP7.1); clear HP7; have n0_ := Aside0.mk (hp_); have n1_ := Aside0.mk ((by rw [hw]; exact below_set (HB.out) GB5.out : Below w0.heap.size w0 w8)); have n2_ := Aside0.mk (Kept.of_grown (S := (fun k_ => P0_ k_)) hg (by repeat (first | (with_reducible first | exact HK.out | apply Kept.alloc | apply Kept.drewN | apply Kept.drew) | exact HK.out)) (fun k_ e_ => (HO_0.out.1 k_ e_))); clear HO_0; clear HB; clear HK; have HO_0 := n0_; have HB := n1_; have HK := n2_; clear n0_ n1_ n2_; clear hg hw hp_))
          go_roundg k1
          case measure => have := HK1.out; omega
          case rel => exact ⟨(y243), (wrap64 (x1_1 + 1)), (wrap64 (x5_1 + 1)), (by first | rfl | (simp; done) | (simp [*]; done)), (by first | rfl | (simp; done) | (simp [*]; done)), H', ⟨by have := HK1.out; omega⟩, ⟨by (with_reducible repeat (first | apply Kd.R_alloc | apply Kd.R_drewN | apply Kd.R_drew)); exact HO_0.out⟩, ⟨by repeat (first | (with_reducible first | exact HK.out | apply Kept.alloc | apply Kept.drewN | apply Kept.drew) | exact HK.out)⟩, ⟨by repeat (first | (with_reducible first | exact HB.out | apply below_alloc | apply pw_below_drewN | apply below_drew1) | exact HB.out)⟩⟩
        · rw [if_neg c4] at H
          exact absurd H (by simp)
      · rw [if_neg c3] at H
        have c3b0 : decide (x5_1 < (x0_1.length : Int)) = false := decide_eq_false c3
        clear c3
        simp only [Option.some.injEq, Prod.mk.injEq] at H
        obtain ⟨rfl, rfl⟩ := H
        obtain ⟨Ao9, co9, eo9⟩ := Kd.R_slice HO_0.out
        subst eo9
        go_wp2
        go_ret
        exact ⟨by first | rfl | (simp [errW_none, errW_some] <;> rfl) | (simp [*, errW_none, errW_some] <;> rfl), by (with_reducible repeat (first | apply Kd.R_alloc | apply Kd.R_drewN | apply Kd.R_drew)); exact HO_0.out, by repeat (first | (with_reducible first | exact HB.out | apply below_alloc | apply pw_below_drewN | apply below_drew1) | exact HB.out), by repeat (first | (with_reducible first | exact HK.out | apply Kept.alloc | apply Kept.drewN | apply Kept.drew) | exact HK.out)⟩

/-! ### laws_markTaskS: function 46 -/
def lens72 (x : S72) : L72 := ⟨x.f3.length, x.f8.length, x.f9.length, x.f10.length⟩
theorem sh72 {w : World} {base n c : Nat} {P : Nat → Prop} {A : Option Addr} {l : List S72} (h : Kd.R k72 72 w base P (.slice A n c) l) : n = l.length ∧ Sh72 w (fun k_ => P k_ ∧ base ≤ k_) A (l.map lens72) := by
  have hr := Kd.R_reads' h
  have hn : n = l.length := hr.1
  subst hn
  refine ⟨rfl, by rw [List.length_map]; exact hr.2.2.2.1, fun hpos => ?_⟩
  rw [List.length_map] at hpos
  obtain ⟨g, cap, hv, hbg, _⟩ := Kd.R_form h hpos
  injection hv with h1 h2 h3
  subst h1 h3
  refine ⟨g, rfl, ⟨h.1 g rfl, hbg⟩, fun j => ?_, fun i q hq => ?_⟩
  · obtain ⟨_, _, _, _, hfr⟩ := Kd.R_elem h z72 0 (Int.le_refl _) (by omega)
    have := hfr j
    simpa using this
  · rw [List.getElem?_map] at hq
    obtain ⟨x, hx, rfl⟩ := Option.map_eq_some_iff.1 hq
    have hi : i < l.length := (List.getElem?_eq_some_iff.1 hx).1
    obtain ⟨c, hcl, hM, hcc, _⟩ := Kd.R_elem h z72 (i : Int) (by omega) (by omega)
    have ex : l.getD (i : Int).toNat z72 = x := by rw [List.getD_eq_getElem?_getD, show (i : Int).toNat = i from rfl, hx]; rfl
    rw [ex] at hM
    have hc : ∀ j u, c[j]? = some u → w.cell? ⟨g, i * 13 + j, none⟩ = some u := hcc
    obtain ⟨v3, v8, v9, v10, rfl, g3, g8, g9, g10⟩ := k72_openM hM
    obtain ⟨A3, c3, rfl⟩ := Kd.R_slice g3
    have s3 := (ShR_of_R g3 (by decide) 0 (by intro w base ok x cs h u hu; obtain rfl : cs = [.int .i64 x] := h; rw [List.mem_singleton] at hu; exact ⟨_, hu⟩))
    obtain ⟨A8, c8, rfl⟩ := Kd.R_slice g8
    have s8 := (ShR_of_R g8 (by decide) 0 (by intro w base ok x cs h u hu; obtain rfl : cs = [.int .i64 x] := h; rw [List.mem_singleton] at hu; exact ⟨_, hu⟩))
    obtain ⟨A9, c9, rfl⟩ := Kd.R_slice g9
    have s9 := (ShR_of_R g9 (by decide) z110 (by intro w base ok x cs h u hu; rw [k110_openM h] at hu; simp only [List.mem_cons, List.not_mem_nil, or_false] at hu; rcases hu with rfl | rfl <;> exact ⟨_, rfl⟩))
    obtain ⟨A10, c10, rfl⟩ := Kd.R_slice g10
    have s10 := (ShR_of_R g10 (by decide) z110 (by intro w base ok x cs h u hu; rw [k110_openM h] at hu; simp only [List.mem_cons, List.not_mem_nil, or_false] at hu; rcases hu with rfl | rfl <;> exact ⟨_, rfl⟩))
    exact ⟨⟨_, (hc 0 _ rfl)⟩, ⟨_, (hc 1 _ rfl)⟩, ⟨_, (hc 2 _ rfl)⟩, ⟨A3, c3, (hc 3 _ rfl), s3.2.mono (fun k hk => ⟨hk.1.1, hk.2⟩)⟩, ⟨_, (hc 4 _ rfl)⟩, ⟨_, (hc 5 _ rfl)⟩, ⟨_, (hc 6 _ rfl)⟩, ⟨_, (hc 7 _ rfl)⟩, ⟨A8, c8, (hc 8 _ rfl), s8.2.mono (fun k hk => ⟨hk.1.1, hk.2⟩)⟩, ⟨A9, c9, (hc 9 _ rfl), s9.2.mono (fun k hk => ⟨hk.1.1, hk.2⟩)⟩, ⟨A10, c10, (hc 10 _ rfl), s10.2.mono (fun k hk => ⟨hk.1.1, hk.2⟩)⟩, ⟨_, (hc 11 _ rfl)⟩, ⟨_, (hc 12 _ rfl)⟩⟩
def laws_markTaskS.f (l0 : List S72) (a1 : Int) : Option Int := some (mkI (cnt72 (l0.map lens72)) a1)
theorem laws_markTaskS.calls (P0_ : Nat → Prop) (u9000_ : Value) (l0 : List S72) (a1 : Int) (r : Int) (w0 w : World) (hB : Below w0.heap.size w0 w) (ho0 : Kd.R k72 72 w w0.heap.size P0_ u9000_ l0) (h : laws_markTaskS.f l0 a1 = some r) :
    Calls Try.prog 46 #[u9000_, .int .i64 a1] w fun e w' => e = .returned (.int .i64 r) ∧ Below w0.heap.size w0 w' ∧ Kept w w' (fun k_ => P0_ k_) := by
  obtain ⟨A, c, rfl⟩ := Kd.R_slice ho0
  obtain rfl := Option.some.inj h
  have hs := (sh72 ho0).2
  have hc := markTaskS_sh _ A _ c a1 w hs
  rw [List.length_map] at hc
  refine hc.mono fun e w' ⟨he, hi⟩ => ⟨he, hi.below hB (fun k hk => hk.2), hi.kept.mono (fun k hk => hk.1)⟩

/-! ### laws_markSys: function 16 -/
def laws_markSys.f (l0_0 : List S63) (l0_1 : List S72) (a0_2 : Int) (l0_3 : List S78) (a1 : Int) : Option Int := some (mkI (cnt78 (l0_3.map lens78)) (mkI (cnt72 (l0_1.map lens72)) (mkI (l0_0.length * 3) a1)))
theorem sh72_mono {w : World} {P Q : Nat → Prop} {A : Option Addr} {l : List L72} (h : Sh72 w P A l) (hq : ∀ k, P k → Q k) : Sh72 w Q A l := by
  refine ⟨h.1, fun hn => ?_⟩
  obtain ⟨g, hA, hp, hf, hc⟩ := h.2 hn
  refine ⟨g, hA, hq g hp, hf, fun i q hiq => ?_⟩
  have hh := hc i q hiq
  obtain ⟨h0, h1, h2, ⟨A3, c3, h3, s3⟩, h4, h5, h6, h7, ⟨A8, c8, h8, s8⟩, ⟨A9, c9, h9, s9⟩, ⟨A10, c10, h10, s10⟩, h11, h12⟩ := hh
  exact ⟨h0, h1, h2, ⟨A3, c3, h3, s3.mono hq⟩, h4, h5, h6, h7, ⟨A8, c8, h8, s8.mono hq⟩, ⟨A9, c9, h9, s9.mono hq⟩, ⟨A10, c10, h10, s10.mono hq⟩, h11, h12⟩
theorem sh78_mono {w : World} {P Q : Nat → Prop} {A : Option Addr} {l : List L78} (h : Sh78 w P A l) (hq : ∀ k, P k → Q k) : Sh78 w Q A l := by
  refine ⟨h.1, fun hn => ?_⟩
  obtain ⟨g, hA, hp, hf, hc⟩ := h.2 hn
  refine ⟨g, hA, hq g hp, hf, fun i q hiq => ?_⟩
  have hh := hc i q hiq
  obtain ⟨h0, h1, h2, ⟨A3, c3, h3, s3⟩, ⟨A4, c4, h4, s4⟩, h5⟩ := hh
  exact ⟨h0, h1, h2, ⟨A3, c3, h3, s3.mono hq⟩, ⟨A4, c4, h4, s4.mono hq⟩, h5⟩
set_option maxHeartbeats 2000000 in
set_option maxRecDepth 100000 in
theorem laws_markSys.calls (P0_0_ : Nat → Prop) (u9000_ : Value) (l0_0 : List S63) (P0_1_ : Nat → Prop) (u9001_ : Value) (l0_1 : List S72) (a0_2 : Int) (P0_3_ : Nat → Prop) (u9002_ : Value) (l0_3 : List S78) (a1 : Int) (r : Int) (w0 w : World) (hB : Below w0.heap.size w0 w) (ho0_0 : Kd.R k63 63 w w0.heap.size P0_0_ u9000_ l0_0) (ho0_1 : Kd.R k72 72 w w0.heap.size P0_1_ u9001_ l0_1) (ho0_3 : Kd.R k78 78 w w0.heap.size P0_3_ u9002_ l0_3) (h : laws_markSys.f l0_0 l0_1 a0_2 l0_3 a1 = some r) :
    Calls Try.prog 16 #[.agg #[u9000_, u9001_, .int .i64 a0_2, u9002_], .int .i64 a1] w fun e w' => e = .returned (.int .i64 r) ∧ Below w0.heap.size w0 w' ∧ Kept w w' (fun k_ => P0_0_ k_ ∨ P0_1_ k_ ∨ P0_3_ k_) := by
  obtain rfl := Option.some.inj h
  clear h
  obtain ⟨A0, c0, rfl⟩ := Kd.R_slice ho0_0
  obtain ⟨A1, c1, rfl⟩ := Kd.R_slice ho0_1
  obtain ⟨A3, c3, rfl⟩ := Kd.R_slice ho0_3
  have hs0 := Aside0.mk (show ShR 3 (w.alloc (.cells #[.slice A0 l0_0.length c0, .slice A1 l0_1.length c1, .int .i64 a0_2, .slice A3 l0_3.length c3] 34)) (fun k_ => (P0_0_ k_ ∨ P0_1_ k_ ∨ P0_3_ k_) ∧ w0.heap.size ≤ k_ ∧ k_ < w.heap.size) A0 l0_0.length from (ShR_of_R (Kd.R_alloc (Kd.R_mono (ok' := fun k_ => P0_0_ k_ ∧ k_ < w.heap.size) (Kd.R_bound ho0_0) (fun k_ hk => ⟨hk.1, hk.2.2.1⟩)) (.cells #[.slice A0 l0_0.length c0, .slice A1 l0_1.length c1, .int .i64 a0_2, .slice A3 l0_3.length c3] 34)) (by decide) z63 (by intro w base ok x cs h u hu; rw [k63_openM h] at hu; simp only [List.mem_cons, List.not_mem_nil, or_false] at hu; rcases hu with rfl | rfl | rfl <;> exact ⟨_, rfl⟩)).2.mono (fun k_ hk => ⟨Or.inl (hk.1.1), hk.2, hk.1.2⟩))
  have hs1 := Aside0.mk (show Sh72 (w.alloc (.cells #[.slice A0 l0_0.length c0, .slice A1 l0_1.length c1, .int .i64 a0_2, .slice A3 l0_3.length c3] 34)) (fun k_ => (P0_0_ k_ ∨ P0_1_ k_ ∨ P0_3_ k_) ∧ w0.heap.size ≤ k_ ∧ k_ < w.heap.size) A1 (l0_1.map lens72) from sh72_mono (sh72 (Kd.R_alloc (Kd.R_mono (ok' := fun k_ => P0_1_ k_ ∧ k_ < w.heap.size) (Kd.R_bound ho0_1) (fun k_ hk => ⟨hk.1, hk.2.2.1⟩)) (.cells #[.slice A0 l0_0.length c0, .slice A1 l0_1.length c1, .int .i64 a0_2, .slice A3 l0_3.length c3] 34))).2 (fun k_ hk => ⟨Or.inr (Or.inl (hk.1.1)), hk.2, hk.1.2⟩))
  have hs3 := Aside0.mk (show Sh78 (w.alloc (.cells #[.slice A0 l0_0.length c0, .slice A1 l0_1.length c1, .int .i64 a0_2, .slice A3 l0_3.length c3] 34)) (fun k_ => (P0_0_ k_ ∨ P0_1_ k_ ∨ P0_3_ k_) ∧ w0.heap.size ≤ k_ ∧ k_ < w.heap.size) A3 (l0_3.map lens78) from sh78_mono (sh78 (Kd.R_alloc (Kd.R_mono (ok' := fun k_ => P0_3_ k_ ∧ k_ < w.heap.size) (Kd.R_bound ho0_3) (fun k_ hk => ⟨hk.1, hk.2.2.1⟩)) (.cells #[.slice A0 l0_0.length c0, .slice A1 l0_1.length c1, .int .i64 a0_2, .slice A3 l0_3.length c3] 34))).2 (fun k_ hk => ⟨Or.inr (Or.inr (hk.1.1)), hk.2, hk.1.2⟩))
  clear ho0_0 ho0_1 ho0_3
  have HB := Aside0.mk hB
  clear hB
  have hu3 := Try.underlying3
  have hu30 := Try.underlying30
  have hu31 := Try.underlying31
  have hu32 := Try.underlying32
  have hu34 := Try.underlying34
  have hi0 := Aside0.mk (show IntsOnly (fun k_ => (P0_0_ k_ ∨ P0_1_ k_ ∨ P0_3_ k_) ∧ w0.heap.size ≤ k_ ∧ k_ < w.heap.size) (w.alloc (.cells #[.slice A0 l0_0.length c0, .slice A1 l0_1.length c1, .int .i64 a0_2, .slice A3 l0_3.length c3] 34)) (w.alloc (.cells #[.slice A0 l0_0.length c0, .slice A1 l0_1.length c1, .int .i64 a0_2, .slice A3 l0_3.length c3] 34)) from IntsOnly.refl _ _)
  have hb0 : (w.alloc (.cells #[.slice A0 l0_0.length c0, .slice A1 l0_1.length c1, .int .i64 a0_2, .slice A3 l0_3.length c3] 34)).heap[w.heap.size]? = some (.cells #[.slice A0 l0_0.length c0, .slice A1 l0_1.length c1, .int .i64 a0_2, .slice A3 l0_3.length c3] 34 (0, 0)) := heap_alloc_new w _
  have HB0 := Aside0.mk hb0
  clear hb0
  go_enter Try.func16, Try.ntmps16
  go_wp2_with fail
  refine (markCellS_sh (fun k_ => (P0_0_ k_ ∨ P0_1_ k_ ∨ P0_3_ k_) ∧ w0.heap.size ≤ k_ ∧ k_ < w.heap.size) _ _ _ _ _ (hs0.out.step hi0.out)).mono ?_
  rintro e w1 ⟨rfl, h1_⟩
  have hi1 := Aside0.mk (show IntsOnly (fun k_ => (P0_0_ k_ ∨ P0_1_ k_ ∨ P0_3_ k_) ∧ w0.heap.size ≤ k_ ∧ k_ < w.heap.size) (w.alloc (.cells #[.slice A0 l0_0.length c0, .slice A1 l0_1.length c1, .int .i64 a0_2, .slice A3 l0_3.length c3] 34)) w1 from IntsOnly.trans hi0.out h1_)
  clear h1_
  have hc1_ : w1.cell? ⟨w.heap.size, 1, none⟩ = some (.slice A1 l0_1.length c1) := (blk_cell ((hi1.out.block _ (fun hk => Nat.lt_irrefl _ hk.2.2)).trans HB0.out) 1).trans rfl
  have hc3_ : w1.cell? ⟨w.heap.size, 3, none⟩ = some (.slice A3 l0_3.length c3) := (blk_cell ((hi1.out.block _ (fun hk => Nat.lt_irrefl _ hk.2.2)).trans HB0.out) 3).trans rfl
  go_wp2_with fail
  have hc_ := fun a1_ => markTaskS_sh (fun k_ => (P0_0_ k_ ∨ P0_1_ k_ ∨ P0_3_ k_) ∧ w0.heap.size ≤ k_ ∧ k_ < w.heap.size) A1 _ c1 a1_ _ (hs1.out.step hi1.out)
  simp only [List.length_map] at hc_
  refine (hc_ _).mono ?_
  clear hc_
  rintro e w2 ⟨rfl, h2_⟩
  have hi2 := Aside0.mk (show IntsOnly (fun k_ => (P0_0_ k_ ∨ P0_1_ k_ ∨ P0_3_ k_) ∧ w0.heap.size ≤ k_ ∧ k_ < w.heap.size) (w.alloc (.cells #[.slice A0 l0_0.length c0, .slice A1 l0_1.length c1, .int .i64 a0_2, .slice A3 l0_3.length c3] 34)) w2 from IntsOnly.trans hi1.out h2_)
  clear h2_
  clear hc3_
  have hc3_ : w2.cell? ⟨w.heap.size, 3, none⟩ = some (.slice A3 l0_3.length c3) := (blk_cell ((hi2.out.block _ (fun hk => Nat.lt_irrefl _ hk.2.2)).trans HB0.out) 3).trans rfl
  try clear hc1_
  go_wp2_with fail
  have hc_ := fun a1_ => markEntryS_sh (fun k_ => (P0_0_ k_ ∨ P0_1_ k_ ∨ P0_3_ k_) ∧ w0.heap.size ≤ k_ ∧ k_ < w.heap.size) A3 _ c3 a1_ _ (hs3.out.step hi2.out)
  simp only [List.length_map] at hc_
  refine (hc_ _).mono ?_
  clear hc_
  rintro e w3 ⟨rfl, h3_⟩
  have hi3 := Aside0.mk (show IntsOnly (fun k_ => (P0_0_ k_ ∨ P0_1_ k_ ∨ P0_3_ k_) ∧ w0.heap.size ≤ k_ ∧ k_ < w.heap.size) (w.alloc (.cells #[.slice A0 l0_0.length c0, .slice A1 l0_1.length c1, .int .i64 a0_2, .slice A3 l0_3.length c3] 34)) w3 from IntsOnly.trans hi2.out h3_)
  clear h3_
  try clear hc3_
  go_wp2
  go_ret
  refine ⟨?_, hi3.out.below (below_alloc HB.out _) (fun k_ hk => hk.2.1), ?_⟩
  · simp only [List.length_map]
    rfl
  · exact Kept.then_ (S2 := (fun k_ => (P0_0_ k_ ∨ P0_1_ k_ ∨ P0_3_ k_) ∧ w0.heap.size ≤ k_ ∧ k_ < w.heap.size)) (Kept.of_below (below_alloc (Below.refl _ _) _) _) hi3.out.kept (fun k_ hk => .inl hk.1)

end Go.Proofs.Ytpodhdpkdhcnoaa.QSC
