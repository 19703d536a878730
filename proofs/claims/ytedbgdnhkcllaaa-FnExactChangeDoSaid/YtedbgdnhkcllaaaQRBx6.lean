-- Written by a program of this session (wip/tools/myprint.py).
import Derived.Test.YtedbgdnhkcllaaaQRBx0
import Derived.Test.YtedbgdnhkcllaaaQRBx5
namespace Go.Proofs.Ytedbgdnhkcllaaa.QRB
open Go.RowKit Go.Proofs.YtedbgdnhkcllaaaW.PrintWords Go.Proofs.YtedbgdnhkcllaaaW.PrintLast Go.Proofs.YtedbgdnhkcllaaaW.PrintMore
attribute [local go_sem] max2_int min2_int max_two min_two max_three min_three max_four min_four   -- for this text's walks alone
set_option linter.unusedVariables false
set_option linter.unusedSimpArgs false

/-! ### impl_ChangeDo: function 19 -/
/-- Where a change is done: the block D with two rows of the call's own, apart from each other and from D. -/
structure Desk (w0 V w : World) (D : Nat) (uc ur : Value) (cs rs : List Int) : Prop where
  blk : w.heap[D]? = some (.cells #[uc, ur] 62 (0, 0))
  new : w0.heap.size ≤ D
  hc : Kd.R (Kd.int .i64) 3 w w0.heap.size (fun k => some k = uc.ownBlock) uc cs
  hr : Kd.R (Kd.int .i64) 3 w w0.heap.size (fun k => some k = ur.ownBlock) ur rs
  ap : ∀ k, some k = uc.ownBlock → some k ≠ ur.ownBlock
  dc : some D ≠ uc.ownBlock
  dr : some D ≠ ur.ownBlock
  bel : Below w0.heap.size w0 w
  kp : Kept V w (fun k => some k = uc.ownBlock ∨ some k = ur.ownBlock)
theorem Desk.grow {w0 V w w1 : World} {D : Nat} {uc ur : Value} {cs rs : List Int} (h : Desk w0 V w D uc ur cs rs) (hb : Below w.heap.size w w1) : Desk w0 V w1 D uc ur cs rs :=
  ⟨(hb.block D (blk_lt h.blk)).trans h.blk, h.new, Kd.R_below h.hc hb, Kd.R_below h.hr hb, h.ap, h.dc, h.dr, below_then h.bel h.bel.size hb, h.kp.below hb⟩
theorem Desk.alloc {w0 V w : World} {D : Nat} {uc ur : Value} {cs rs : List Int} (h : Desk w0 V w D uc ur cs rs) (o : Obj) : Desk w0 V (w.alloc o) D uc ur cs rs := h.grow (below_alloc (Below.refl _ _) o)
theorem Desk.drewN {w0 V w : World} {D : Nat} {uc ur : Value} {cs rs : List Int} (h : Desk w0 V w D uc ur cs rs) (n : Nat) : Desk w0 V (w.drewN n) D uc ur cs rs := h.grow (pw_below_drewN (Below.refl _ _) n)
theorem Desk.drew {w0 V w : World} {D : Nat} {uc ur : Value} {cs rs : List Int} (h : Desk w0 V w D uc ur cs rs) : Desk w0 V w.drew D uc ur cs rs := h.grow (below_drew (Below.refl _ _))
theorem Desk.setR {w0 V w : World} {D : Nat} {uc : Value} {g n c : Nat} {cs rs : List Int} (h : Desk w0 V w D uc (.slice (some ⟨g, 0, none⟩) n c) cs rs) (hg : w0.heap.size ≤ g) (i x : Int) :
    Desk w0 V (w.setCell ⟨g, i.toNat, none⟩ (.int .i64 x)) D uc (.slice (some ⟨g, 0, none⟩) n c) cs (rs.set i.toNat x) := by
  have hk : Kept w (w.setCell ⟨g, i.toNat, none⟩ (.int .i64 x)) (fun k => some k = (Value.slice (some ⟨g, 0, none⟩) n c).ownBlock) := Kept.setCell (Kept.refl _ _) (.inl (by simp [Value.ownBlock])) _
  exact ⟨(hk.2 D (blk_lt h.blk) h.dr).trans h.blk, h.new, Kd.R_kept h.hc hk h.ap, (Kd.R_putg h.hr i x).1, h.ap, h.dc, h.dr, below_set h.bel hg, h.kp.setCell (.inl (.inr (by simp [Value.ownBlock]))) _⟩
theorem Desk.setC {w0 V w : World} {D : Nat} {ur : Value} {g n c : Nat} {cs rs : List Int} (h : Desk w0 V w D (.slice (some ⟨g, 0, none⟩) n c) ur cs rs) (hg : w0.heap.size ≤ g) (i x : Int) :
    Desk w0 V (w.setCell ⟨g, i.toNat, none⟩ (.int .i64 x)) D (.slice (some ⟨g, 0, none⟩) n c) ur (cs.set i.toNat x) rs := by
  have hk : Kept w (w.setCell ⟨g, i.toNat, none⟩ (.int .i64 x)) (fun k => some k = (Value.slice (some ⟨g, 0, none⟩) n c).ownBlock) := Kept.setCell (Kept.refl _ _) (.inl (by simp [Value.ownBlock])) _
  exact ⟨(hk.2 D (blk_lt h.blk) h.dc).trans h.blk, h.new, (Kd.R_putg h.hc i x).1, Kd.R_kept h.hr hk (fun k h1 h2 => h.ap k h2 h1), h.ap, h.dc, h.dr, below_set h.bel hg, h.kp.setCell (.inl (.inl (by simp [Value.ownBlock]))) _⟩
/-- An element of a row of the call's own, as it stands in whatever grows out of this world. -/
theorem desk_elem {w : World} {base g n c : Nat} {ok : Nat → Prop} {xs : List Int} (h : Kd.R (Kd.int .i64) 3 w base ok (.slice (some ⟨g, 0, none⟩) n c) xs) (i : Int) (h0 : 0 ≤ i) (h1 : i < xs.length) :
    base ≤ g ∧ g < w.heap.size ∧ ∀ W, Below w.heap.size w W → W.cell? ⟨g, i.toNat, none⟩ = some (.int .i64 (xs.getD i.toNat 0)) ∧ W.frozen? ⟨g, i.toNat, none⟩ = false := by
  obtain ⟨hn, _, _⟩ := Kd.R_reads' h
  obtain ⟨g', cap, e1, hbg, hlt, _⟩ := Kd.R_form h (by omega)
  injection e1 with e1 e2 e3
  obtain rfl : g = g' := by simpa using e1
  obtain ⟨ce, _, hM, hcc, hfr⟩ := Kd.R_elem h 0 i h0 (by omega)
  obtain rfl : ce = [.int .i64 (xs.getD i.toNat 0)] := hM
  refine ⟨hbg, hlt, fun W hb => ⟨?_, ?_⟩⟩
  · have h1 := hcc 0 _ rfl
    rw [show (Kd.int .i64).sz = 1 from rfl, Nat.mul_one, Nat.add_zero] at h1
    exact pw_cell_below hb h1
  · have h1 := hfr 0
    rw [show (Kd.int .i64).sz = 1 from rfl, Nat.mul_one, Nat.add_zero] at h1
    exact (hb.frozen (p := ⟨g, i.toNat, none⟩) hlt).trans h1
theorem desk_form {w : World} {base : Nat} {ok : Nat → Prop} {u : Value} {xs : List Int} (h : Kd.R (Kd.int .i64) 3 w base ok u xs) (hp : 0 < xs.length) : ∃ g c, u = .slice (some ⟨g, 0, none⟩) xs.length c := by
  obtain ⟨g, cap, e1, _⟩ := Kd.R_form h hp
  exact ⟨g, cap, e1⟩
set_option maxHeartbeats 4000000 in
set_option maxRecDepth 100000 in
theorem desk_load (a b : Int) (w0 V w : World) (D : Nat) (uc ur : Value) (cs rs : List Int) (hD : Desk w0 V w D uc ur cs rs) (hb : 0 ≤ b ∧ b < cs.length) (ha : 0 ≤ a ∧ a < rs.length) (n : Int) :
    Calls Try.prog 74 #[.pointer (some ⟨D, 0, none⟩), .agg #[.int .i64 n, .int .i64 a, .int .i64 b]] w fun e w' => e = .returned (.bool true) ∧ Desk w0 V w' D uc ur cs (rs.set a.toNat (cs.getD b.toNat 0)) := by
  obtain ⟨gc, cc, rfl⟩ := desk_form hD.hc (by omega)
  have f4 : ∀ o : Obj, (w.alloc o).cell? ⟨D, 0, none⟩ = some (.slice (some ⟨gc, 0, none⟩) cs.length cc) := fun o => (blk_cell (blk_alloc hD.blk o) 0).trans rfl
  obtain ⟨gr, cr, rfl⟩ := desk_form hD.hr (by omega)
  have f5 : ∀ o : Obj, (w.alloc o).cell? ⟨D, 1, none⟩ = some (.slice (some ⟨gr, 0, none⟩) rs.length cr) := fun o => (blk_cell (blk_alloc hD.blk o) 1).trans rfl
  obtain ⟨hg_v, _, e_v⟩ := desk_elem hD.hc b hb.1 hb.2
  obtain ⟨x, hx_v⟩ : ∃ x, x = cs.getD b.toNat 0 := ⟨_, rfl⟩
  rw [← hx_v] at e_v
  have f_v : ∀ o : Obj, (w.alloc o).cell? ⟨gc, b.toNat, none⟩ = some (.int .i64 x) := fun o => (e_v _ (below_alloc (Below.refl _ _) o)).1
  obtain ⟨hg_d, _, e_d⟩ := desk_elem hD.hr a ha.1 ha.2
  obtain ⟨y, hx_d⟩ : ∃ x, x = rs.getD a.toNat 0 := ⟨_, rfl⟩
  rw [← hx_d] at e_d
  have f_d : ∀ o : Obj, (w.alloc o).cell? ⟨gr, a.toNat, none⟩ = some (.int .i64 y) := fun o => (e_d _ (below_alloc (Below.refl _ _) o)).1
  have z_d : ∀ o : Obj, (w.alloc o).frozen? ⟨gr, a.toNat, none⟩ = false := fun o => (e_d _ (below_alloc (Below.refl _ _) o)).2
  have HX0 := Aside0.mk hx_v
  clear hx_v
  have HX1 := Aside0.mk hx_d
  clear hx_d
  have HD := Aside0.mk hD
  have HG := Aside0.mk hg_d
  have hu := Try.underlying41
  have hv := Try.underlying62
  obtain ⟨i0_b, i1_b⟩ := hb
  have p0_b := eq_true i0_b
  have p1_b := eq_true i1_b
  obtain ⟨i0_a, i1_a⟩ := ha
  have p0_a := eq_true i0_a
  have p1_a := eq_true i1_a
  clear hD hg_v e_v hg_d e_d
  go_enter Try.func74, Try.ntmps74
  go_wp2
  go_region
  all_goals go_wp2
  all_goals go_ret
  all_goals (refine ⟨by first | rfl | (rw [← HX0.out]; rfl), ?_⟩)
  all_goals ((first | rw [← HX0.out] | skip); (first | rw [← HX1.out] | skip))
  all_goals (with_reducible repeat (first | (exact Desk.setR HD.out HG.out _ _) | apply Desk.alloc | apply Desk.drewN | apply Desk.drew))
set_option maxHeartbeats 4000000 in
set_option maxRecDepth 100000 in
theorem desk_store (a b : Int) (w0 V w : World) (D : Nat) (uc ur : Value) (cs rs : List Int) (hD : Desk w0 V w D uc ur cs rs) (hb : 0 ≤ b ∧ b < rs.length) (ha : 0 ≤ a ∧ a < cs.length) (n : Int) :
    Calls Try.prog 75 #[.pointer (some ⟨D, 0, none⟩), .agg #[.int .i64 n, .int .i64 a, .int .i64 b]] w fun e w' => e = .returned (.bool true) ∧ Desk w0 V w' D uc ur (cs.set a.toNat (rs.getD b.toNat 0)) rs := by
  obtain ⟨gc, cc, rfl⟩ := desk_form hD.hc (by omega)
  have f4 : ∀ o : Obj, (w.alloc o).cell? ⟨D, 0, none⟩ = some (.slice (some ⟨gc, 0, none⟩) cs.length cc) := fun o => (blk_cell (blk_alloc hD.blk o) 0).trans rfl
  obtain ⟨gr, cr, rfl⟩ := desk_form hD.hr (by omega)
  have f5 : ∀ o : Obj, (w.alloc o).cell? ⟨D, 1, none⟩ = some (.slice (some ⟨gr, 0, none⟩) rs.length cr) := fun o => (blk_cell (blk_alloc hD.blk o) 1).trans rfl
  obtain ⟨hg_v, _, e_v⟩ := desk_elem hD.hr b hb.1 hb.2
  obtain ⟨x, hx_v⟩ : ∃ x, x = rs.getD b.toNat 0 := ⟨_, rfl⟩
  rw [← hx_v] at e_v
  have f_v : ∀ o : Obj, (w.alloc o).cell? ⟨gr, b.toNat, none⟩ = some (.int .i64 x) := fun o => (e_v _ (below_alloc (Below.refl _ _) o)).1
  obtain ⟨hg_d, _, e_d⟩ := desk_elem hD.hc a ha.1 ha.2
  obtain ⟨y, hx_d⟩ : ∃ x, x = cs.getD a.toNat 0 := ⟨_, rfl⟩
  rw [← hx_d] at e_d
  have f_d : ∀ o : Obj, (w.alloc o).cell? ⟨gc, a.toNat, none⟩ = some (.int .i64 y) := fun o => (e_d _ (below_alloc (Below.refl _ _) o)).1
  have z_d : ∀ o : Obj, (w.alloc o).frozen? ⟨gc, a.toNat, none⟩ = false := fun o => (e_d _ (below_alloc (Below.refl _ _) o)).2
  have HX0 := Aside0.mk hx_v
  clear hx_v
  have HX1 := Aside0.mk hx_d
  clear hx_d
  have HD := Aside0.mk hD
  have HG := Aside0.mk hg_d
  have hu := Try.underlying41
  have hv := Try.underlying62
  obtain ⟨i0_b, i1_b⟩ := hb
  have p0_b := eq_true i0_b
  have p1_b := eq_true i1_b
  obtain ⟨i0_a, i1_a⟩ := ha
  have p0_a := eq_true i0_a
  have p1_a := eq_true i1_a
  clear hD hg_v e_v hg_d e_d
  go_enter Try.func75, Try.ntmps75
  go_wp2
  go_region
  all_goals go_wp2
  all_goals go_ret
  all_goals (refine ⟨by first | rfl | (rw [← HX0.out]; rfl), ?_⟩)
  all_goals ((first | rw [← HX0.out] | skip); (first | rw [← HX1.out] | skip))
  all_goals (with_reducible repeat (first | (exact Desk.setC HD.out HG.out _ _) | apply Desk.alloc | apply Desk.drewN | apply Desk.drew))
set_option maxHeartbeats 4000000 in
set_option maxRecDepth 100000 in
theorem desk_num (a b : Int) (w0 V w : World) (D : Nat) (uc ur : Value) (cs rs : List Int) (hD : Desk w0 V w D uc ur cs rs) (ha : 0 ≤ a ∧ a < rs.length) (n : Int) :
    Calls Try.prog 76 #[.pointer (some ⟨D, 0, none⟩), .agg #[.int .i64 n, .int .i64 a, .int .i64 b]] w fun e w' => e = .returned (.bool true) ∧ Desk w0 V w' D uc ur cs (rs.set a.toNat b) := by
  obtain ⟨gr, cr, rfl⟩ := desk_form hD.hr (by omega)
  have f5 : ∀ o : Obj, (w.alloc o).cell? ⟨D, 1, none⟩ = some (.slice (some ⟨gr, 0, none⟩) rs.length cr) := fun o => (blk_cell (blk_alloc hD.blk o) 1).trans rfl
  obtain ⟨hg_d, _, e_d⟩ := desk_elem hD.hr a ha.1 ha.2
  obtain ⟨y, hx_d⟩ : ∃ x, x = rs.getD a.toNat 0 := ⟨_, rfl⟩
  rw [← hx_d] at e_d
  have f_d : ∀ o : Obj, (w.alloc o).cell? ⟨gr, a.toNat, none⟩ = some (.int .i64 y) := fun o => (e_d _ (below_alloc (Below.refl _ _) o)).1
  have z_d : ∀ o : Obj, (w.alloc o).frozen? ⟨gr, a.toNat, none⟩ = false := fun o => (e_d _ (below_alloc (Below.refl _ _) o)).2
  have HX0 := Aside0.mk hx_d
  clear hx_d
  have HD := Aside0.mk hD
  have HG := Aside0.mk hg_d
  have hu := Try.underlying41
  have hv := Try.underlying62
  obtain ⟨i0_a, i1_a⟩ := ha
  have p0_a := eq_true i0_a
  have p1_a := eq_true i1_a
  clear hD hg_d e_d
  go_enter Try.func76, Try.ntmps76
  go_wp2
  go_region
  all_goals go_wp2
  all_goals go_ret
  all_goals (refine ⟨by first | rfl | (rw [← HX0.out]; rfl), ?_⟩)
  all_goals ((first | rw [← HX0.out] | skip))
  all_goals (with_reducible repeat (first | (exact Desk.setR HD.out HG.out _ _) | apply Desk.alloc | apply Desk.drewN | apply Desk.drew))
set_option maxHeartbeats 4000000 in
set_option maxRecDepth 100000 in
theorem desk_add (a b : Int) (w0 V w : World) (D : Nat) (uc ur : Value) (cs rs : List Int) (hD : Desk w0 V w D uc ur cs rs) (ha : 0 ≤ a ∧ a < rs.length) (hb : 0 ≤ b ∧ b < rs.length) (n : Int) :
    Calls Try.prog 77 #[.pointer (some ⟨D, 0, none⟩), .agg #[.int .i64 n, .int .i64 a, .int .i64 b]] w fun e w' => e = .returned (.bool true) ∧ Desk w0 V w' D uc ur cs (rs.set a.toNat (Int.tmod (wrap64 (rs.getD a.toNat 0 + rs.getD b.toNat 0)) 100)) := by
  obtain ⟨gr, cr, rfl⟩ := desk_form hD.hr (by omega)
  have f5 : ∀ o : Obj, (w.alloc o).cell? ⟨D, 1, none⟩ = some (.slice (some ⟨gr, 0, none⟩) rs.length cr) := fun o => (blk_cell (blk_alloc hD.blk o) 1).trans rfl
  obtain ⟨hg_d, _, e_d⟩ := desk_elem hD.hr a ha.1 ha.2
  obtain ⟨y, hx_d⟩ : ∃ x, x = rs.getD a.toNat 0 := ⟨_, rfl⟩
  rw [← hx_d] at e_d
  have f_d : ∀ o : Obj, (w.alloc o).cell? ⟨gr, a.toNat, none⟩ = some (.int .i64 y) := fun o => (e_d _ (below_alloc (Below.refl _ _) o)).1
  have z_d : ∀ o : Obj, (w.alloc o).frozen? ⟨gr, a.toNat, none⟩ = false := fun o => (e_d _ (below_alloc (Below.refl _ _) o)).2
  obtain ⟨hg_v, _, e_v⟩ := desk_elem hD.hr b hb.1 hb.2
  obtain ⟨x, hx_v⟩ : ∃ x, x = rs.getD b.toNat 0 := ⟨_, rfl⟩
  rw [← hx_v] at e_v
  have f_v : ∀ o : Obj, (w.alloc o).cell? ⟨gr, b.toNat, none⟩ = some (.int .i64 x) := fun o => (e_v _ (below_alloc (Below.refl _ _) o)).1
  have HX0 := Aside0.mk hx_d
  clear hx_d
  have HX1 := Aside0.mk hx_v
  clear hx_v
  have HD := Aside0.mk hD
  have HG := Aside0.mk hg_d
  have hu := Try.underlying41
  have hv := Try.underlying62
  obtain ⟨i0_a, i1_a⟩ := ha
  have p0_a := eq_true i0_a
  have p1_a := eq_true i1_a
  obtain ⟨i0_b, i1_b⟩ := hb
  have p0_b := eq_true i0_b
  have p1_b := eq_true i1_b
  clear hD hg_d e_d hg_v e_v
  go_enter Try.func77, Try.ntmps77
  go_wp2
  go_region
  all_goals go_wp2
  all_goals go_ret
  all_goals (refine ⟨by first | rfl | (rw [← HX0.out]; rfl), ?_⟩)
  all_goals ((first | rw [← HX0.out] | skip); (first | rw [← HX1.out] | skip))
  all_goals (with_reducible repeat (first | (exact Desk.setR HD.out HG.out _ _) | apply Desk.alloc | apply Desk.drewN | apply Desk.drew))
set_option maxHeartbeats 4000000 in
set_option maxRecDepth 100000 in
theorem desk_need (a b : Int) (w0 V w : World) (D : Nat) (uc ur : Value) (cs rs : List Int) (hD : Desk w0 V w D uc ur cs rs) (ha : 0 ≤ a ∧ a < rs.length) (n : Int) :
    Calls Try.prog 78 #[.pointer (some ⟨D, 0, none⟩), .agg #[.int .i64 n, .int .i64 a, .int .i64 b]] w fun e w' => e = .returned (.bool (rs.getD a.toNat 0 != 0)) ∧ Desk w0 V w' D uc ur cs rs := by
  obtain ⟨gr, cr, rfl⟩ := desk_form hD.hr (by omega)
  have f5 : ∀ o : Obj, (w.alloc o).cell? ⟨D, 1, none⟩ = some (.slice (some ⟨gr, 0, none⟩) rs.length cr) := fun o => (blk_cell (blk_alloc hD.blk o) 1).trans rfl
  obtain ⟨hg_d, _, e_d⟩ := desk_elem hD.hr a ha.1 ha.2
  obtain ⟨y, hx_d⟩ : ∃ x, x = rs.getD a.toNat 0 := ⟨_, rfl⟩
  rw [← hx_d] at e_d
  have f_d : ∀ o : Obj, (w.alloc o).cell? ⟨gr, a.toNat, none⟩ = some (.int .i64 y) := fun o => (e_d _ (below_alloc (Below.refl _ _) o)).1
  have HX0 := Aside0.mk hx_d
  clear hx_d
  have HD := Aside0.mk hD
  have hu := Try.underlying41
  have hv := Try.underlying62
  obtain ⟨i0_a, i1_a⟩ := ha
  have p0_a := eq_true i0_a
  have p1_a := eq_true i1_a
  clear hD hg_d e_d
  go_enter Try.func78, Try.ntmps78
  go_wp2
  go_region
  all_goals go_wp2
  all_goals go_ret
  all_goals (refine ⟨by first | rfl | (rw [← HX0.out]; rfl) | (rw [← HX0.out]; simp [bne]) , ?_⟩)
  all_goals (with_reducible repeat (first | (exact HD.out) | apply Desk.alloc | apply Desk.drewN | apply Desk.drew))
/-- A deed done at cells and registers; none where it would panic (or is none of a change). -/
def deskStep (d : S41) (c r : List Int) : Option (List Int × List Int × Bool) :=
  if d.f0 = 1 then (if (0 ≤ d.f1 ∧ d.f1 < r.length) ∧ 0 ≤ d.f2 ∧ d.f2 < c.length then some (c, r.set d.f1.toNat (c.getD d.f2.toNat 0), true) else none)
  else if d.f0 = 2 then (if (0 ≤ d.f1 ∧ d.f1 < c.length) ∧ 0 ≤ d.f2 ∧ d.f2 < r.length then some (c.set d.f1.toNat (r.getD d.f2.toNat 0), r, true) else none)
  else if d.f0 = 3 then (if 0 ≤ d.f1 ∧ d.f1 < r.length then some (c, r.set d.f1.toNat d.f2, true) else none)
  else if d.f0 = 4 then (if (0 ≤ d.f1 ∧ d.f1 < r.length) ∧ 0 ≤ d.f2 ∧ d.f2 < r.length then some (c, r.set d.f1.toNat (Int.tmod (wrap64 (r.getD d.f1.toNat 0 + r.getD d.f2.toNat 0)) 100), true) else none)
  else if d.f0 = 5 then (if 0 ≤ d.f1 ∧ d.f1 < r.length then some (c, r, r.getD d.f1.toNat 0 != 0) else none)
  else none
def deskRun : List S41 → List Int → List Int → Option (List Int × List Int × Bool)
  | [], c, r => some (c, r, true)
  | d :: l, c, r => (deskStep d c r).bind fun q => if q.2.2 = true then deskRun l q.1 q.2.1 else some ([], [], false)
/-- Whichever function stands for a deed's kind, it does the deed. -/
theorem desk_step (d : S41) (w0 V w : World) (D : Nat) (uc ur : Value) (cs rs cs' rs' : List Int) (b : Bool) (hD : Desk w0 V w D uc ur cs rs) (h : deskStep d cs rs = some (cs', rs', b)) :
    (d.f0 = 1 ∨ d.f0 = 2 ∨ d.f0 = 3 ∨ d.f0 = 4 ∨ d.f0 = 5) ∧
    Calls Try.prog (if d.f0 = 1 then 74 else if d.f0 = 2 then 75 else if d.f0 = 3 then 76 else if d.f0 = 4 then 77 else 78) #[.pointer (some ⟨D, 0, none⟩), .agg #[.int .i64 d.f0, .int .i64 d.f1, .int .i64 d.f2]] w fun e w' => e = .returned (.bool b) ∧ Desk w0 V w' D uc ur cs' rs' := by
  unfold deskStep at h
  by_cases h1 : d.f0 = 1
  · rw [if_pos h1] at h ⊢
    split at h
    · rename_i c
      obtain ⟨rfl, rfl, rfl⟩ : cs = cs' ∧ _ = rs' ∧ true = b := by simpa using h
      exact ⟨.inl h1, desk_load _ _ _ _ _ _ _ _ _ _ hD c.2 c.1 _⟩
    · cases h
  rw [if_neg h1] at h ⊢
  by_cases h2 : d.f0 = 2
  · rw [if_pos h2] at h ⊢
    split at h
    · rename_i c
      obtain ⟨rfl, rfl, rfl⟩ : _ = cs' ∧ rs = rs' ∧ true = b := by simpa using h
      exact ⟨by omega, desk_store _ _ _ _ _ _ _ _ _ _ hD c.2 c.1 _⟩
    · cases h
  rw [if_neg h2] at h ⊢
  by_cases h3 : d.f0 = 3
  · rw [if_pos h3] at h ⊢
    split at h
    · rename_i c
      obtain ⟨rfl, rfl, rfl⟩ : cs = cs' ∧ _ = rs' ∧ true = b := by simpa using h
      exact ⟨by omega, desk_num _ _ _ _ _ _ _ _ _ _ hD c _⟩
    · cases h
  rw [if_neg h3] at h ⊢
  by_cases h4 : d.f0 = 4
  · rw [if_pos h4] at h ⊢
    split at h
    · rename_i c
      obtain ⟨rfl, rfl, rfl⟩ : cs = cs' ∧ _ = rs' ∧ true = b := by simpa using h
      exact ⟨by omega, desk_add _ _ _ _ _ _ _ _ _ _ hD c.1 c.2 _⟩
    · cases h
  rw [if_neg h4] at h ⊢
  by_cases h5 : d.f0 = 5
  · rw [if_pos h5] at h
    split at h
    · rename_i c
      obtain ⟨rfl, rfl, rfl⟩ : cs = cs' ∧ rs = rs' ∧ _ = b := by simpa using h
      exact ⟨by omega, desk_need _ _ _ _ _ _ _ _ _ _ hD c _⟩
    · cases h
  rw [if_neg h5] at h
  cases h
theorem impl_does_calls (w : World) : Calls Try.prog 49 #[] w fun e w' => e = .returned (.agg #[.func (.func 73) #[] #[], .func (.func 74) #[] #[], .func (.func 75) #[] #[], .func (.func 76) #[] #[], .func (.func 77) #[] #[], .func (.func 78) #[] #[]]) ∧ Below w.heap.size w w' := by
  have hu := Try.underlying64
  have st_ : ∀ (k : Nat) (a_ : Addr) (m_ : Mode) (W_ : World), (store a_ (.func (.func k) #[] #[]) m_).run Try.prog W_ = stored Try.prog W_ a_ (.func (.func k) #[] #[]) m_ := fun k a m W => run_store _ W a _ m rfl
  go_enter Try.func49, Try.ntmps49
  go_wp2
  refine bodyPost_ret (results_cell_row rfl _ _ w.heap.size 64 #[.func (.func 73) #[] #[], .func (.func 74) #[] #[], .func (.func 75) #[] #[], .func (.func 76) #[] #[], .func (.func 77) #[] #[], .func (.func 78) #[] #[]] (0, 0) _ rfl (blk_new _ _) hu rfl (by kernel_rfl)) rfl ⟨rfl, below_alloc (Below.refl _ _) _⟩
theorem cf2 (args : Array Value) (w : World) : Sem.run Try.prog (callFunc 74 args) w = .ok (.enter 74 args) w := by
  first | rfl | (have h := Try.func74; go_simp; done) | (have h := Try.func74; simp [callFunc, Sem.run_bind, h]; rfl)
theorem cf3 (args : Array Value) (w : World) : Sem.run Try.prog (callFunc 75 args) w = .ok (.enter 75 args) w := by
  first | rfl | (have h := Try.func75; go_simp; done) | (have h := Try.func75; simp [callFunc, Sem.run_bind, h]; rfl)
theorem cf4 (args : Array Value) (w : World) : Sem.run Try.prog (callFunc 76 args) w = .ok (.enter 76 args) w := by
  first | rfl | (have h := Try.func76; go_simp; done) | (have h := Try.func76; simp [callFunc, Sem.run_bind, h]; rfl)
theorem cf5 (args : Array Value) (w : World) : Sem.run Try.prog (callFunc 77 args) w = .ok (.enter 77 args) w := by
  first | rfl | (have h := Try.func77; go_simp; done) | (have h := Try.func77; simp [callFunc, Sem.run_bind, h]; rfl)
theorem cf6 (args : Array Value) (w : World) : Sem.run Try.prog (callFunc 78 args) w = .ok (.enter 78 args) w := by
  first | rfl | (have h := Try.func78; go_simp; done) | (have h := Try.func78; simp [callFunc, Sem.run_bind, h]; rfl)
def impl_ChangeDo.f (k : Nat) (l0 l1 : List Int) (l2 : List S41) : Option (List Int × List Int × Bool) :=
  (impl_ChangeOk.f k l2 (l0.length : Int)).bind fun b0 => if b0 = true then ((impl_allNums.f k l0).bind fun b1 => if b1 = true then
    (if l1.length = 3 then ((impl_allNums.f k l1).bind fun b2 => if b2 = true then ((slices_Clone_int_int.f l0).bind fun c => (slices_Clone_int_int.f l1).bind fun r => deskRun l2 c r) else some ([], [], false)) else some ([], [], false))
    else some ([], [], false)) else some ([], [], false)
theorem impl_ChangeDo.mono : ∀ l0 l1 l2 k, LeO (impl_ChangeDo.f k l0 l1 l2) (impl_ChangeDo.f (k + 1) l0 l1 l2) := by
  intro l0 l1 l2 k
  unfold impl_ChangeDo.f
  repeat' first
      | (with_reducible exact LeO.refl _)
      | (with_reducible refine LeO.ite ?_ ?_)
      | (with_reducible refine LeO.bind ?_ (fun _ => ?_))
      | exact impl_ChangeOk.mono _ _ _
      | exact impl_allNums.mono _ _
set_option maxHeartbeats 8000000 in
set_option maxRecDepth 100000 in
theorem impl_ChangeDo.calls (k : Nat) (A0 : Option Addr) (c0 : Nat) (l0 : List Int) (A1 : Option Addr) (c1 : Nat) (l1 : List Int) (A2 : Option Addr) (c2 : Nat) (l2 : List S41) (r1 r2 : List Int) (r3 : Bool) (w : World) (hr0 : Kd.C (Kd.int .i64) w A0 l0.length l0) (hc0 : l0.length ≤ c0) (hr1 : Kd.C (Kd.int .i64) w A1 l1.length l1) (hc1 : l1.length ≤ c1) (hr2 : Kd.C k41 w A2 l2.length l2) (hc2 : l2.length ≤ c2) (h : impl_ChangeDo.f k l0 l1 l2 = some (r1, r2, r3)) :
    Calls Try.prog 19 #[.slice A0 l0.length c0, .slice A1 l1.length c1, .slice A2 l2.length c2] w fun e w' => ∃ v0_ v1_ : Value, e = .returned (.tuple #[v0_, v1_, .bool r3]) ∧ Kd.R (Kd.int .i64) 3 w' w.heap.size (fun k_ => some k_ ≠ (v1_ : Value).ownBlock) v0_ r1 ∧ Kd.R (Kd.int .i64) 3 w' w.heap.size (fun k_ => some k_ ≠ (v0_ : Value).ownBlock) v1_ r2 ∧ Below w.heap.size w w' := by
  unfold impl_ChangeDo.f at h
  have HR0 := Aside0.mk hr0
  have HR1 := Aside0.mk hr1
  have HR2 := Aside0.mk hr2
  have HC0 := Aside0.mk hc0
  have HC1 := Aside0.mk hc1
  have HC2 := Aside0.mk hc2
  clear hr0 hr1 hr2 hc0 hc1 hc2
  have hu := Try.underlying41
  have hv := Try.underlying62
  obtain ⟨b0, e0, h⟩ := Option.bind_eq_some_iff.1 h
  have E0 := Aside0.mk e0
  clear e0
  cases b0 with
  | false =>
    rw [if_neg Bool.false_ne_true] at h
    obtain ⟨rfl, rfl, rfl⟩ : [] = r1 ∧ [] = r2 ∧ false = r3 := by simpa using h
    clear h
    go_enter Try.func19, Try.ntmps19
    go_wp2_with fail
    refine (impl_ChangeOk.calls k _ _ l2 _ false _ HR2.out HC2.out E0.out).mono ?_
    rintro e w1 ⟨rfl, hd1⟩
    have HD1 := Aside0.mk hd1
    clear hd1
    go_wp2
    go_ret3
    exact ⟨_, _, rfl, Kd.R_nil _ _ _ _ _, Kd.R_nil _ _ _ _ _, by repeat (first | exact HD1.out | apply pw_below_drewN | apply below_drew)⟩
  | true =>
  rw [if_pos rfl] at h
  obtain ⟨b1, e1, h⟩ := Option.bind_eq_some_iff.1 h
  have E1 := Aside0.mk e1
  clear e1
  cases b1 with
  | false =>
    rw [if_neg Bool.false_ne_true] at h
    obtain ⟨rfl, rfl, rfl⟩ : [] = r1 ∧ [] = r2 ∧ false = r3 := by simpa using h
    clear h
    go_enter Try.func19, Try.ntmps19
    go_wp2_with fail
    refine (impl_ChangeOk.calls k _ _ l2 _ true _ HR2.out HC2.out E0.out).mono ?_
    rintro e w1 ⟨rfl, hd1⟩
    have HD1 := Aside0.mk hd1
    clear hd1
    go_wp2_with fail
    refine (impl_allNums.calls k _ _ l0 false _ (by first | exact Kd.C_below HR0.out HD1.out | exact Kd.C_drewN (Kd.C_below HR0.out HD1.out) _) HC0.out E1.out).mono ?_
    rintro e w2 ⟨rfl, hd2⟩
    have HD2 := Aside0.mk (show Below w.heap.size w w2 from by obtain ⟨nd, rfl⟩ := hd2.out; first | exact pw_below_drewN HD1.out _ | exact pw_below_drewN (pw_below_drewN HD1.out _) _)
    clear hd2
    go_wp2
    go_ret3
    exact ⟨_, _, rfl, Kd.R_nil _ _ _ _ _, Kd.R_nil _ _ _ _ _, by repeat (first | exact HD2.out | apply pw_below_drewN | apply below_drew)⟩
  | true =>
  rw [if_pos rfl] at h
  by_cases h3 : l1.length = 3
  case neg =>
    rw [if_neg h3] at h
    obtain ⟨rfl, rfl, rfl⟩ : [] = r1 ∧ [] = r2 ∧ false = r3 := by simpa using h
    clear h
    have q3 : ((l1.length : Int) == 3) = false := by simpa using (show ¬ (l1.length : Int) = 3 by omega)
    have q4 : ¬ (l1.length : Int) = 3 := by omega
    go_enter Try.func19, Try.ntmps19
    go_wp2_with fail
    refine (impl_ChangeOk.calls k _ _ l2 _ true _ HR2.out HC2.out E0.out).mono ?_
    rintro e w1 ⟨rfl, hd1⟩
    have HD1 := Aside0.mk hd1
    clear hd1
    go_wp2_with fail
    refine (impl_allNums.calls k _ _ l0 true _ (by first | exact Kd.C_below HR0.out HD1.out | exact Kd.C_drewN (Kd.C_below HR0.out HD1.out) _) HC0.out E1.out).mono ?_
    rintro e w2 ⟨rfl, hd2⟩
    have HD2 := Aside0.mk (show Below w.heap.size w w2 from by obtain ⟨nd, rfl⟩ := hd2.out; first | exact pw_below_drewN HD1.out _ | exact pw_below_drewN (pw_below_drewN HD1.out _) _)
    clear hd2
    go_wp2
    go_ret3
    exact ⟨_, _, rfl, Kd.R_nil _ _ _ _ _, Kd.R_nil _ _ _ _ _, by repeat (first | exact HD2.out | apply pw_below_drewN | apply below_drew)⟩
  rw [if_pos h3] at h
  have q3 : ((l1.length : Int) == 3) = true := by simpa using (show (l1.length : Int) = 3 by omega)
  have q4 : (l1.length : Int) = 3 := by omega
  have H3 := Aside0.mk h3
  clear h3
  obtain ⟨b2, e2, h⟩ := Option.bind_eq_some_iff.1 h
  have E2 := Aside0.mk e2
  clear e2
  cases b2 with
  | false =>
    rw [if_neg Bool.false_ne_true] at h
    obtain ⟨rfl, rfl, rfl⟩ : [] = r1 ∧ [] = r2 ∧ false = r3 := by simpa using h
    clear h
    go_enter Try.func19, Try.ntmps19
    go_wp2_with fail
    refine (impl_ChangeOk.calls k _ _ l2 _ true _ HR2.out HC2.out E0.out).mono ?_
    rintro e w1 ⟨rfl, hd1⟩
    have HD1 := Aside0.mk hd1
    clear hd1
    go_wp2_with fail
    refine (impl_allNums.calls k _ _ l0 true _ (by first | exact Kd.C_below HR0.out HD1.out | exact Kd.C_drewN (Kd.C_below HR0.out HD1.out) _) HC0.out E1.out).mono ?_
    rintro e w2 ⟨rfl, hd2⟩
    have HD2 := Aside0.mk (show Below w.heap.size w w2 from by obtain ⟨nd, rfl⟩ := hd2.out; first | exact pw_below_drewN HD1.out _ | exact pw_below_drewN (pw_below_drewN HD1.out _) _)
    clear hd2
    go_wp2_with fail
    refine (impl_allNums.calls k _ _ l1 false _ (by first | exact Kd.C_below HR1.out HD2.out | exact Kd.C_drewN (Kd.C_below HR1.out HD2.out) _) HC1.out E2.out).mono ?_
    rintro e w3 ⟨rfl, hd3⟩
    have HD3 := Aside0.mk (show Below w.heap.size w w3 from by obtain ⟨nd, rfl⟩ := hd3.out; first | exact pw_below_drewN HD2.out _ | exact pw_below_drewN (pw_below_drewN HD2.out _) _)
    clear hd3
    go_wp2
    go_ret3
    exact ⟨_, _, rfl, Kd.R_nil _ _ _ _ _, Kd.R_nil _ _ _ _ _, by repeat (first | exact HD3.out | apply pw_below_drewN | apply below_drew)⟩
  | true =>
  rw [if_pos rfl] at h
  obtain ⟨cs0, e3, h⟩ := Option.bind_eq_some_iff.1 h
  obtain ⟨rs0, e4, h⟩ := Option.bind_eq_some_iff.1 h
  have E3 := Aside0.mk e3
  have E4 := Aside0.mk e4
  have HRUN := Aside0.mk h
  clear e3 e4 h
  go_enter Try.func19, Try.ntmps19
  go_wp2_with fail
  refine (impl_ChangeOk.calls k _ _ l2 _ true _ HR2.out HC2.out E0.out).mono ?_
  rintro e w1 ⟨rfl, hd1⟩
  have HD1 := Aside0.mk hd1
  clear hd1
  go_wp2_with fail
  refine (impl_allNums.calls k _ _ l0 true _ (by first | exact Kd.C_below HR0.out HD1.out | exact Kd.C_drewN (Kd.C_below HR0.out HD1.out) _) HC0.out E1.out).mono ?_
  rintro e w2 ⟨rfl, hd2⟩
  have HD2 := Aside0.mk (show Below w.heap.size w w2 from by obtain ⟨nd, rfl⟩ := hd2.out; first | exact pw_below_drewN HD1.out _ | exact pw_below_drewN (pw_below_drewN HD1.out _) _)
  clear hd2
  go_wp2_with fail
  refine (impl_allNums.calls k _ _ l1 true _ (by first | exact Kd.C_below HR1.out HD2.out | exact Kd.C_drewN (Kd.C_below HR1.out HD2.out) _) HC1.out E2.out).mono ?_
  rintro e w3 ⟨rfl, hd3⟩
  have HD3 := Aside0.mk (show Below w.heap.size w w3 from by obtain ⟨nd, rfl⟩ := hd3.out; first | exact pw_below_drewN HD2.out _ | exact pw_below_drewN (pw_below_drewN HD2.out _) _)
  clear hd3
  go_wp2_with fail
  refine (slices_Clone_int_int.calls _ _ l0 cs0 _ (by first | exact Kd.C_below HR0.out HD3.out | exact Kd.C_drewN (Kd.C_below HR0.out HD3.out) _) HC0.out E3.out).mono ?_
  rintro e w4 ⟨uc, rfl, huc, hd4⟩
  obtain ⟨Ac, nc, rfl⟩ := Kd.R_slice huc
  have HUC := Aside0.mk huc
  have HD4 := Aside0.mk hd4
  clear huc hd4
  go_wp2_with fail
  refine (slices_Clone_int_int.calls _ _ l1 rs0 _ (by first | exact Kd.C_below HR1.out (below_step HD3.out HD4.out)) HC1.out E4.out).mono ?_
  rintro e w5 ⟨ur, rfl, hur, hd5⟩
  obtain ⟨Ar, nr, rfl⟩ := Kd.R_slice hur
  have HUR := Aside0.mk hur
  have HD5 := Aside0.mk hd5
  clear hur hd5
  go_wp2_with fail
  refine (impl_does_calls _).mono ?_
  rintro e w6 ⟨rfl, hd6⟩
  have hD0 : Desk w (w5.alloc (.cells #[.slice Ac cs0.length nc, .slice Ar rs0.length nr] 62)) (w5.alloc (.cells #[.slice Ac cs0.length nc, .slice Ar rs0.length nr] 62)) w5.heap.size (.slice Ac cs0.length nc) (.slice Ar rs0.length nr) cs0 rs0 := by
    have b3 := HD3.out.size
    have b4 := HD4.out.size
    have b5 := HD5.out.size
    have hc := Kd.R_alloc (Kd.R_tight rfl (Kd.R_below (Kd.R_lower HUC.out b3) HD5.out)) (.cells #[.slice Ac cs0.length nc, .slice Ar rs0.length nr] 62)
    have hr := Kd.R_alloc (Kd.R_tight rfl (Kd.R_lower HUR.out (Nat.le_trans b3 b4))) (.cells #[.slice Ac cs0.length nc, .slice Ar rs0.length nr] 62)
    have lc : ∀ k, some k = (Value.slice Ac cs0.length nc).ownBlock → k < w4.heap.size := fun k hk => ((Kd.R_bound (Kd.R_tight rfl HUC.out)).1 k hk.symm).2.2.1
    have lr : ∀ k, some k = (Value.slice Ar rs0.length nr).ownBlock → w4.heap.size ≤ k ∧ k < w5.heap.size := fun k hk => let h_ := (Kd.R_bound (Kd.R_tight rfl HUR.out)).1 k hk.symm; ⟨h_.2.1, h_.2.2.1⟩
    exact ⟨blk_new _ _, by omega, hc, hr, fun k h1 h2 => by have := lc k h1; have := lr k h2; omega, fun h1 => by have := lc _ h1; omega, fun h1 => by have := lr _ h1; omega, below_alloc (below_step (below_step HD3.out HD4.out) HD5.out) _, Kept.refl _ _⟩
  have hV : Desk w (w6.alloc (.cells #[.func (.func 73) #[] #[], .func (.func 74) #[] #[], .func (.func 75) #[] #[], .func (.func 76) #[] #[], .func (.func 77) #[] #[], .func (.func 78) #[] #[]] 64)) (w6.alloc (.cells #[.func (.func 73) #[] #[], .func (.func 74) #[] #[], .func (.func 75) #[] #[], .func (.func 76) #[] #[], .func (.func 77) #[] #[], .func (.func 78) #[] #[]] 64)) w5.heap.size (.slice Ac cs0.length nc) (.slice Ar rs0.length nr) cs0 rs0 := by
    have h1 := (hD0.grow hd6).alloc (.cells #[.func (.func 73) #[] #[], .func (.func 74) #[] #[], .func (.func 75) #[] #[], .func (.func 76) #[] #[], .func (.func 77) #[] #[], .func (.func 78) #[] #[]] 64)
    exact ⟨h1.blk, h1.new, h1.hc, h1.hr, h1.ap, h1.dc, h1.dr, h1.bel, Kept.refl _ _⟩
  have HWY := Aside0.mk (show ∀ wr, Kept (w6.alloc (.cells #[.func (.func 73) #[] #[], .func (.func 74) #[] #[], .func (.func 75) #[] #[], .func (.func 76) #[] #[], .func (.func 77) #[] #[], .func (.func 78) #[] #[]] 64)) wr (fun k => some k = (Value.slice Ac cs0.length nc).ownBlock ∨ some k = (Value.slice Ar rs0.length nr).ownBlock) → wr.heap[w6.heap.size]? = some (.cells #[.func (.func 73) #[] #[], .func (.func 74) #[] #[], .func (.func 75) #[] #[], .func (.func 76) #[] #[], .func (.func 77) #[] #[], .func (.func 78) #[] #[]] 64 (0, 0)) from fun wr hk => by
    have h6 := hd6.size
    have h5 : w5.heap.size < (w5.alloc (.cells #[.slice Ac cs0.length nc, .slice Ar rs0.length nr] 62)).heap.size := blk_lt hD0.blk
    have lc : ∀ k, some k = (Value.slice Ac cs0.length nc).ownBlock → k < w6.heap.size := fun k hk => Nat.lt_of_lt_of_le ((Kd.R_bound hD0.hc).1 k hk.symm).2.2.1 h6
    have lr : ∀ k, some k = (Value.slice Ar rs0.length nr).ownBlock → k < w6.heap.size := fun k hk => Nat.lt_of_lt_of_le ((Kd.R_bound hD0.hr).1 k hk.symm).2.2.1 h6
    exact (hk.2 _ (blk_lt (blk_new _ _)) (fun h => h.elim (fun h => by have := lc _ h; omega) (fun h => by have := lr _ h; omega))).trans (blk_new _ _))
  have HDK := Aside0.mk hV
  clear hD0 hV hd6
  have hu64 := Try.underlying64
  have st_ : ∀ (k : Nat) (a_ : Addr) (m_ : Mode) (W_ : World), (store a_ (.func (.func k) #[] #[]) m_).run Try.prog W_ = stored Try.prog W_ a_ (.func (.func k) #[] #[]) m_ := fun k a m W => run_store _ W a _ m rfl
  have HM := Aside0.mk (show l2.length ≤ 9223372036854775807 from HR2.out.2.1)
  go_wp2
  obtain ⟨V, hVe⟩ : ∃ V, V = w6.alloc (.cells #[.func (.func 73) #[] #[], .func (.func 74) #[] #[], .func (.func 75) #[] #[], .func (.func 76) #[] #[], .func (.func 77) #[] #[], .func (.func 78) #[] #[]] 64) := ⟨_, rfl⟩
  rw [← hVe] at HDK HWY ⊢
  clear hVe
  obtain ⟨D, hDe⟩ : ∃ D, D = w5.heap.size := ⟨_, rfl⟩
  rw [← hDe] at HDK ⊢
  clear hDe
  obtain ⟨Y, hYe⟩ : ∃ Y, Y = w6.heap.size := ⟨_, rfl⟩
  rw [← hYe] at HWY ⊢
  clear hYe
  go_loopw [41] (fun v41 wr => ∃ (x : Int) (cs rs : List Int), v41 = .int .i64 x ∧ Aside0 (0 ≤ x ∧ x ≤ (l2.length : Nat)) ∧ Aside0 (Desk w V wr D (.slice Ac cs0.length nc) (.slice Ar rs0.length nr) cs rs) ∧ Aside0 (deskRun (l2.drop x.toNat) cs rs = some (r1, r2, r3))) (fun v41 _ => l2.length - (intOf v41).toNat)
  case atStart => exact ⟨0, cs0, rs0, rfl, ⟨by omega, by omega⟩, HDK, HRUN⟩
  case round =>
    clear HDK HRUN
    obtain ⟨x, cs, rs, rfl, HX, HDK, HRUN⟩ := hrel
    by_cases c0 : x < ((l2.length : Nat) : Int)
    · have c0b : decide (x < ((l2.length : Nat) : Int)) = true := decide_eq_true c0
      have hx0 := HX.out.1
      obtain ⟨ad, rfl, hx_0, hx_1, hx_2⟩ := at_T41 (Kd.C_below HR2.out HDK.out.bel) x hx0 c0
      obtain ⟨p, hp⟩ : ∃ p, p = rd_T41 l2 x := ⟨_, rfl⟩
      rw [← hp] at hx_0 hx_1 hx_2
      have hd1 : l2.drop x.toNat = p :: l2.drop (x.toNat + 1) := by
        rw [List.drop_eq_getElem_cons (show x.toNat < l2.length by omega), hp]
        unfold rd_T41
        rw [List.getD_eq_getElem?_getD, List.getElem?_eq_getElem (show x.toNat < l2.length by omega)]
        rfl
      rw [hd1, deskRun] at HRUN
      obtain ⟨⟨cs', rs', b⟩, e1, e2⟩ := Option.bind_eq_some_iff.1 HRUN.out
      have HSTEP := Aside0.mk e1
      have HNEXT := Aside0.mk e2
      clear HRUN hd1 hp e1 e2
      have hcase := (desk_step p w V wr D _ _ cs rs cs' rs' b HDK.out HSTEP.out).1
      have p0 := eq_true hx0
      have q0 := eq_true c0
      have HC0_ := Aside0.mk c0
      clear c0 hx0
      have HM1 := HM.out
      have HE1 := Aside0.mk (show wrap64 (x + 1) = x + 1 by have h1 := HX.out.1; have h2 := HC0_.out; unfold wrap64; omega)
      have HE2 := Aside0.mk (show 0 ≤ x + 1 ∧ x + 1 ≤ (l2.length : Int) from ⟨by have := HX.out.1; omega, by have := HC0_.out; omega⟩)
      have HE3 := Aside0.mk (show l2.length - (intOf (Value.int IntKind.i64 (wrap64 (x + 1)))).toNat < l2.length - (intOf (Value.int IntKind.i64 x)).toNat by rw [HE1.out]; simp only [intOf]; have h1 := HX.out.1; have h2 := HC0_.out; omega)
      clear HM1
      obtain ⟨F, HC, fw, fc⟩ : ∃ F : Nat, Aside0 (∀ W, Desk w V W D (.slice Ac cs0.length nc) (.slice Ar rs0.length nr) cs rs → Calls Try.prog F #[.pointer (some ⟨D, 0, none⟩), .agg #[.int .i64 p.f0, .int .i64 p.f1, .int .i64 p.f2]] W fun e w' => e = .returned (.bool b) ∧ Desk w V w' D (.slice Ac cs0.length nc) (.slice Ar rs0.length nr) cs' rs') ∧ (∀ o : Obj, (wr.alloc o).cell? ⟨Y, p.f0.toNat, none⟩ = some (.func (.func F) #[] #[])) ∧ ∀ (args : Array Value) (W : World), Sem.run Try.prog (callFunc F args) W = .ok (.enter F args) W := by
        refine ⟨_, ⟨fun W hD => (desk_step p w V W D _ _ cs rs cs' rs' b hD HSTEP.out).2⟩, fun o => ?_, by rcases hcase with hk | hk | hk | hk | hk <;> rw [hk] <;> first | exact cf2 | exact cf3 | exact cf4 | exact cf5 | exact cf6⟩
        refine (blk_cell (blk_alloc (HWY.out wr HDK.out.kp) o) p.f0.toNat).trans ?_
        rcases hcase with hk | hk | hk | hk | hk <;> rw [hk] <;> rfl
      have k0 := eq_true (show 0 ≤ p.f0 by omega)
      have k1 := eq_true (show p.f0 < 6 by omega)
      have k2 : 0 ≤ p.f0 := by omega
      have k3 : p.f0 < 6 := by omega
      clear hcase
      cases b with
      | false =>
        obtain ⟨rfl, rfl, rfl⟩ : [] = r1 ∧ [] = r2 ∧ false = r3 := by simpa using HNEXT.out
        go_wp2
        go_region_with (refine (HC.out _ (by (with_reducible repeat (first | exact HDK.out | apply Desk.alloc | apply Desk.drewN | apply Desk.drew)))).mono ?_; rintro e w' ⟨rfl, hD'⟩)
        all_goals go_wp2
        all_goals go_ret3
        all_goals (exact ⟨.slice none 0 0, .slice none 0 0, rfl, Kd.R_nil _ _ _ _ _, Kd.R_nil _ _ _ _ _, by repeat (first | assumption | exact Desk.bel (by assumption) | apply pw_below_drewN | apply below_drew)⟩)
      | true =>
        have HNX := Aside0.mk (show deskRun (l2.drop (x + 1).toNat) cs' rs' = some (r1, r2, r3) by rw [show (x + 1).toNat = x.toNat + 1 by have := HX.out.1; omega]; simpa using HNEXT.out)
        go_wp2
        go_region_with (refine (HC.out _ (by (with_reducible repeat (first | exact HDK.out | apply Desk.alloc | apply Desk.drewN | apply Desk.drew)))).mono ?_; rintro e w' ⟨rfl, hD'⟩)
        all_goals go_wp2
        all_goals go_roundw
        all_goals first
          | exact ⟨x + 1, cs', rs', by rw [HE1.out], HE2, ⟨by with_reducible repeat (first | assumption | apply Desk.alloc | apply Desk.drewN | apply Desk.drew)⟩, HNX⟩
          | exact HE3.out
    · have c0b : decide (x < ((l2.length : Nat) : Int)) = false := decide_eq_false c0
      have q0 := eq_false c0
      have HE := Aside0.mk (show x.toNat = l2.length by have := HX.out.1; have := HX.out.2; omega)
      clear c0
      have hdn := HRUN.out
      rw [HE.out, List.drop_length, deskRun] at hdn
      obtain ⟨rfl, rfl, rfl⟩ : cs = r1 ∧ rs = r2 ∧ true = r3 := by simpa using hdn
      clear hdn
      have hap2 : ∀ k, some k = (Value.slice Ar rs0.length nr).ownBlock → some k ≠ (Value.slice Ac cs0.length nc).ownBlock := fun k h h2 => HDK.out.ap k h2 h
      have HAP2 := Aside0.mk hap2
      clear hap2
      have f4 : wr.cell? ⟨D, 0, none⟩ = some (.slice Ac cs0.length nc) := (blk_cell HDK.out.blk 0).trans rfl
      have f5 : wr.cell? ⟨D, 1, none⟩ = some (.slice Ar rs0.length nr) := (blk_cell HDK.out.blk 1).trans rfl
      go_wp2
      go_region
      all_goals go_wp2
      all_goals go_ret3
      all_goals (exact ⟨.slice Ac cs0.length nc, .slice Ar rs0.length nr, rfl, by (with_reducible repeat (first | exact Kd.R_mono HDK.out.hc (fun k h => HDK.out.ap k h) | apply Kd.R_alloc | apply Kd.R_drewN | apply Kd.R_drew)), by (with_reducible repeat (first | exact Kd.R_mono HDK.out.hr HAP2.out | apply Kd.R_alloc | apply Kd.R_drewN | apply Kd.R_drew)), by (repeat (first | exact HDK.out.bel | apply pw_below_drewN | apply below_drew))⟩)

end Go.Proofs.Ytedbgdnhkcllaaa.QRB
