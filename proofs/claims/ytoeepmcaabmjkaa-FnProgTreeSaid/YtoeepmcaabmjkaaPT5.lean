/- Part 5 of what FnProgTree leans on: contracts of Go functions, and plain lemmas, each under its own premises. Put together by wip/tools/pack.py. -/
import Derived.Laws.BitsAllLaws
import Derived.SizedLaws
import Derived.ChangeSlices
import Derived.Test.YtoeepmcaabmjkaaPT0
import Derived.Test.YtoeepmcaabmjkaaPT1
import Derived.Test.YtoeepmcaabmjkaaPT2
import Derived.Test.YtoeepmcaabmjkaaPT3
import Derived.Test.YtoeepmcaabmjkaaPT4
namespace Go.Proofs.Ytoeepmcaabmjkaa.QPM
open Go.RowKit Go.Proofs.YtoeepmcaabmjkaaW.PrintWords Go.Proofs.YtoeepmcaabmjkaaW.PrintLast Go.Proofs.YtoeepmcaabmjkaaW.PrintMore
attribute [local go_sem] max2_int min2_int max_two min_two max_three min_three max_four min_four   -- for this text's walks alone
set_option linter.unusedVariables false
set_option linter.unusedSimpArgs false
def spec_l71Any.f (k : Nat) (s0_0 : List Int) (s0_1 : Int) : Option (List Int × (List (List (S57))) × Int) := (spec_l71Prog.f k s0_0 s0_1).bind fun x => (spec_l6Rd_pick.f k s0_0 x.2.2 14).bind fun y => if y.1 = 0 then (spec_l71Bent.f k s0_0 y.2 x.1 x.2.1).bind fun z => some (z.1, z.2.1, z.2.2) else some (x.1, x.2.1, y.2)
set_option maxHeartbeats 8000000 in
set_option maxRecDepth 100000 in
theorem spec_l71Any.calls (k : Nat) (g : Nat) (s0_0 : List Int) (s0_1 : Int) (r1 : List Int) (r2 : List (List S57)) (r3 : Int) (w0 w : World) (hI : IsS118 w0 w g s0_0 s0_1) (hB : Below w0.heap.size w0 w) (h : spec_l71Any.f k s0_0 s0_1 = some (r1, r2, r3)) :
    Calls Try.prog 67 #[.pointer (some ⟨g, 0, none⟩)] w fun e w' => ∃ v0_ v1_ : Value, e = .returned (.agg #[v0_, v1_]) ∧ Kd.R (Kd.int .i64) 3 w' w.heap.size (fun _ => True) v0_ r1 ∧ Kd.R (Kd.slice 57 k57) 54 w' w.heap.size (fun k_ => some k_ ≠ (v0_ : Value).ownBlock) v1_ r2 ∧ IsS118 w0 w' g s0_0 r3 ∧ Below w0.heap.size w0 w' ∧ KeepBut w w' g none := by
  have hu36 := Try.underlying36
  have H := (show ((spec_l71Prog.f k s0_0 s0_1).bind fun x => (spec_l6Rd_pick.f k s0_0 x.2.2 14).bind fun y => if y.1 = 0 then (spec_l71Bent.f k s0_0 y.2 x.1 x.2.1).bind fun z => some (z.1, z.2.1, z.2.2) else some (x.1, x.2.1, y.2)) = some (r1, r2, r3) from h)
  clear h
  replace H := Option.bind_eq_some_iff.mp H
  obtain ⟨⟨t0, t1, p1⟩, A1, H⟩ := H
  replace H := Option.bind_eq_some_iff.mp H
  obtain ⟨⟨d, p2⟩, A2, H⟩ := H
  have A2 := Aside0.mk (show spec_l6Rd_pick.f k s0_0 p1 14 = some (d, p2) from A2)
  replace A1 := Aside0.mk A1
  replace H := Aside0.mk H
  have HI := Aside0.mk hI
  have HB := Aside0.mk hB
  clear hI hB
  go_enter Try.func67, Try.ntmps67
  go_wp2_with (fail)
  refine (spec_l71Prog.calls k g s0_0 s0_1 t0 t1 p1 w0 _ (HI.out.alloc _) (below_alloc HB.out _) A1.out).mono ?_
  rintro e w1 ⟨v0, v1, rfl, hr0, hr1, hi1, hb1, hk1⟩
  obtain ⟨B0, d0, hv0⟩ := Kd.R_slice hr0
  subst hv0
  obtain ⟨B1, d1, hv1⟩ := Kd.R_slice hr1
  subst hv1
  have hgR : g ≠ w.heap.size := Nat.ne_of_lt (IsS118.lt HI.out)
  have hR1 : w1.heap[w.heap.size]? = some (.cells #[.slice none 0 0, .slice none 0 0] 36 (0, 0)) := hk1.blk (heap_alloc_new _ _) (fun e => (Nat.ne_of_lt (IsS118.lt HI.out)) e.symm) (by simp)
  have hkw : KeepBut w w1 g none := (keep_alloc (KeepBut.refl _ _ _) _).trans hk1 (.inl rfl)
  have hr0 := Aside0.mk (Kd.R_lower (base' := w.heap.size) hr0 (by first | (simp; done) | exact hsz.out))
  have hr1 := Aside0.mk (Kd.R_lower (base' := w.heap.size) hr1 (by first | (simp; done) | exact hsz.out))
  replace hgR := Aside0.mk hgR
  replace hR1 := Aside0.mk hR1
  replace hkw := Aside0.mk hkw
  replace hi1 := Aside0.mk hi1
  replace hb1 := Aside0.mk hb1
  clear hk1
  go_wp2_with (fail)
  refine (spec_l6Rd_pick.calls k g s0_0 p1 14 d p2 w0 _ (hi1.out.alloc _) (below_alloc hb1.out _) A2.out).mono ?_
  rintro e w2 ⟨rfl, hi2, hb2, hk2⟩
  have hD2 : w2.heap[w1.heap.size]? = some (.cells #[.slice B0 t0.length d0, .slice B1 t1.length d1] 36 (0, 0)) := hk2.blk (heap_alloc_new _ _) (Nat.ne_of_gt (IsS118.lt hi1.out)) (by simp)
  have hR2 := Aside0.mk (hk2.blk (blk_alloc hR1.out _) (fun e => hgR.out e.symm) (by simp))
  have q0 := Aside0.mk (Kd.R_mono (ok' := fun _ => True) (Kd.R_keep (IsS118.apart (hi1.out.alloc _) (Kd.R_alloc hr0.out _) (by decide)) hk2 (fun _ hk => hk.2)) (fun _ _ => trivial))
  have q1 := Aside0.mk (Kd.R_mono (ok' := fun k => some k ≠ (Value.slice B0 t0.length d0).ownBlock) (Kd.R_keep (IsS118.apart (hi1.out.alloc _) (Kd.R_alloc hr1.out _) (by decide)) hk2 (fun _ hk => hk.2)) (fun _ hk => hk.1))
  have hk2w := Aside0.mk ((keep_alloc hkw.out _).trans hk2 (.inl rfl))
  replace hi2 := Aside0.mk hi2
  replace hb2 := Aside0.mk hb2
  have hc0 : w2.cell? ⟨w1.heap.size, 0, none⟩ = some (.slice B0 t0.length d0) := (blk_cell hD2 0).trans rfl
  have hc1 : w2.cell? ⟨w1.heap.size, 1, none⟩ = some (.slice B1 t1.length d1) := (blk_cell hD2 1).trans rfl
  clear hk2 hD2 hr0 hr1 hi1 hb1 hkw hR1
  by_cases cd : d = 0
  · have H := H.out
    rw [if_pos cd] at H
    replace cd : (d == 0) = true := beq_iff_eq.mpr cd
    replace H := Option.bind_eq_some_iff.mp H
    obtain ⟨⟨z0, z1, p3⟩, A3, H⟩ := H
    have A3 := Aside0.mk (show spec_l71Bent.f k s0_0 p2 t0 t1 = some (z0, z1, p3) from A3)
    simp only [Option.some.injEq, Prod.mk.injEq] at H
    obtain ⟨hh1, hh2, hh3⟩ := H
    subst hh1 hh2 hh3
    go_wp2_with (fail)
    refine (spec_l71Bent.calls k g s0_0 p2 B0 d0 t0 B1 d1 t1 z0 z1 p3 w.heap.size w0 _ hi2.out hb2.out (keep_size hk2w.out) q0.out (Kd.R_mono q1.out (fun _ _ => trivial)) A3.out).mono ?_
    rintro e w3 ⟨v2, v3, rfl, hs0, hs1, hi3, hb3, hk3⟩
    obtain ⟨E0, e0, hv2⟩ := Kd.R_slice hs0
    subst hv2
    obtain ⟨E1, e1, hv3⟩ := Kd.R_slice hs1
    subst hv3
    have hRx := hk3.blk hR2.out (fun e => hgR.out e.symm) (by simp)
    have hDn := Aside0.mk (adone hi3 hb3 (hk2w.out.trans hk3 (.inl rfl)) hs0 hs1 hRx rfl hgR.out HB.out.size)
    clear hs0 hs1 hi3 hb3 hk3 hc0 hc1 q0 q1 hi2 hb2
    have hS := blk_set hRx 0 (.slice E0 z0.length e0)
    have hd0 : w3.cell? ⟨w.heap.size, 0, none⟩ = some (.slice none 0 0) := (blk_cell hRx 0).trans rfl
    have hf0 : w3.frozen? ⟨w.heap.size, 0, none⟩ = false := blk_frozen hRx 0
    have hd1 : (w3.setCell ⟨w.heap.size, 0, none⟩ (.slice E0 z0.length e0)).cell? ⟨w.heap.size, 1, none⟩ = some (.slice none 0 0) := (blk_cell hS 1).trans rfl
    have hf1 : (w3.setCell ⟨w.heap.size, 0, none⟩ (.slice E0 z0.length e0)).frozen? ⟨w.heap.size, 1, none⟩ = false := blk_frozen hS 1
    clear hS hRx
    go_wp2_with (fail)
    exact bodyPost_ret (results_cell_row rfl _ _ w.heap.size 36 _ (0, 0) _ rfl hDn.out.1 Try.underlying36 rfl (show (Try.prog.info? 36).map (·.size) = some 2 by kernel_rfl)) rfl ⟨_, _, rfl, hDn.out.2⟩
  · have H := H.out
    rw [if_neg cd] at H
    replace cd : (d == 0) = false := beq_eq_false_iff_ne.mpr cd
    simp only [Option.some.injEq, Prod.mk.injEq] at H
    obtain ⟨hh1, hh2, hh3⟩ := H
    subst hh1 hh2 hh3
    have hRx := hR2.out
    have hDn := Aside0.mk (adone hi2.out hb2.out hk2w.out q0.out q1.out hRx rfl hgR.out HB.out.size)
    clear q0 q1 hi2 hb2
    have hS := blk_set hRx 0 (.slice B0 t0.length d0)
    have hd0 : w2.cell? ⟨w.heap.size, 0, none⟩ = some (.slice none 0 0) := (blk_cell hRx 0).trans rfl
    have hf0 : w2.frozen? ⟨w.heap.size, 0, none⟩ = false := blk_frozen hRx 0
    have hd1 : (w2.setCell ⟨w.heap.size, 0, none⟩ (.slice B0 t0.length d0)).cell? ⟨w.heap.size, 1, none⟩ = some (.slice none 0 0) := (blk_cell hS 1).trans rfl
    have hf1 : (w2.setCell ⟨w.heap.size, 0, none⟩ (.slice B0 t0.length d0)).frozen? ⟨w.heap.size, 1, none⟩ = false := blk_frozen hS 1
    clear hS hRx
    go_wp2_with (fail)
    exact bodyPost_ret (results_cell_row rfl _ _ w.heap.size 36 _ (0, 0) _ rfl hDn.out.1 Try.underlying36 rfl (show (Try.prog.info? 36).map (·.size) = some 2 by kernel_rfl)) rfl ⟨_, _, rfl, hDn.out.2⟩
def spec_DrawProgTree.f (k : Nat) (l0 : List Int) : Option (List Int × (List (List (S57))) × Int) := (spec_l6Open.f l0).bind fun bt291 => ((spec_l71Any.f k bt291.1 bt291.2).bind fun bt294 => ((spec_l6Rd_pick.f k bt291.1 bt294.2.2 (wrap64 ((bt294.2.1.length : Int) + 1))).bind fun bt302 => ((spec_l6Rd_pick.f k bt291.1 bt302.2 9).bind fun bt304 => (some (bt294.1, bt294.2.1, wrap64 (bt302.1 - (wrap64 (Int.tdiv bt304.1 8))))))))
def spec_DrawProgTree.T3 : Bool × List (List Nat × List Nat) := (true, [([], []), ([], []), ([], []), ([2], [2]), ([3], [3]), ([4], [4]), ([1, 5], [1, 5]), ([], []), ([7, 6], [7]), ([8], [8]), ([6, 9], [6, 9]), ([0, 8, 0], [0]), ([10, 11, 0, 1, 2, 3, 4, 5, 6, 7, 8, 9, 10, 11], [10])])
def spec_DrawProgTree.B3 : List Nat := [0, 0, 0, 4, 12, 28, 62, 0, 254, 510, 1022, 511, 4095]
theorem spec_DrawProgTree.tab3 : rtab .any (opsOf Try.f29 3) = spec_DrawProgTree.T3 := by kernel_rfl
theorem spec_DrawProgTree.bits3 : waitsOk spec_DrawProgTree.T3.2 spec_DrawProgTree.B3 = true := by kernel_rfl
set_option maxHeartbeats 8000000 in
set_option maxRecDepth 100000 in
theorem spec_DrawProgTree.calls (k : Nat) (A0 : Option Addr) (c0 : Nat) (l0 : List Int) (r1 : List Int) (r2 : List (List (S57))) (r3 : Int) (w : World) (hr0 : Kd.C (Kd.int .u8) w A0 l0.length l0) (hc0 : l0.length ≤ c0) (h : spec_DrawProgTree.f k l0 = some (r1, r2, r3)) :
    Calls Try.prog 29 #[.slice A0 l0.length c0] w fun e w' => ∃ v0_ v1_ : Value, e = .returned (.tuple #[.agg #[v0_, v1_], .int .i64 r3]) ∧ Kd.R (Kd.int .i64) 3 w' w.heap.size (fun _ => True) v0_ r1 ∧ Kd.R (Kd.slice 57 k57) 54 w' w.heap.size (fun k_ => some k_ ≠ (v0_ : Value).ownBlock) v1_ r2 ∧ Below w.heap.size w w' := by
  have hu36 := Try.underlying36
  have HR0 := Aside0.mk hr0
  have HC0 := Aside0.mk hc0
  clear hr0 hc0
  have HB := Aside0.mk (Below.refl w.heap.size w)
  have H : ((spec_l6Open.f l0).bind fun bt291 => ((spec_l71Any.f k bt291.1 bt291.2).bind fun bt294 => ((spec_l6Rd_pick.f k bt291.1 bt294.2.2 (wrap64 ((bt294.2.1.length : Int) + 1))).bind fun bt302 => ((spec_l6Rd_pick.f k bt291.1 bt302.2 9).bind fun bt304 => (some (bt294.1, bt294.2.1, wrap64 (bt302.1 - (wrap64 (Int.tdiv bt304.1 8))))))))) = some (r1, r2, r3) := h
  clear h
  replace H := Option.bind_eq_some_iff.mp H
  obtain ⟨⟨t291, t292⟩, A20, H⟩ := H
  replace H : ((spec_l71Any.f k t291 t292).bind fun bt294 => ((spec_l6Rd_pick.f k t291 bt294.2.2 (wrap64 ((bt294.2.1.length : Int) + 1))).bind fun bt302 => ((spec_l6Rd_pick.f k t291 bt302.2 9).bind fun bt304 => (some (bt294.1, bt294.2.1, wrap64 (bt302.1 - (wrap64 (Int.tdiv bt304.1 8)))))))) = some (r1, r2, r3) := H
  have A2 := Aside0.mk A20
  clear A20
  replace H := Option.bind_eq_some_iff.mp H
  obtain ⟨⟨t294, t297, t300⟩, A30, H⟩ := H
  replace H : ((spec_l6Rd_pick.f k t291 t300 (wrap64 ((t297.length : Int) + 1))).bind fun bt302 => ((spec_l6Rd_pick.f k t291 bt302.2 9).bind fun bt304 => (some (t294, t297, wrap64 (bt302.1 - (wrap64 (Int.tdiv bt304.1 8))))))) = some (r1, r2, r3) := H
  have A3 := Aside0.mk A30
  clear A30
  replace H := Option.bind_eq_some_iff.mp H
  obtain ⟨⟨t302, t303⟩, A40, H⟩ := H
  replace H : ((spec_l6Rd_pick.f k t291 t303 9).bind fun bt304 => (some (t294, t297, wrap64 (t302 - (wrap64 (Int.tdiv bt304.1 8)))))) = some (r1, r2, r3) := H
  have A4 := Aside0.mk A40
  clear A40
  replace H := Option.bind_eq_some_iff.mp H
  obtain ⟨⟨t304, t305⟩, A50, H⟩ := H
  replace H : (some (t294, t297, wrap64 (t302 - (wrap64 (Int.tdiv t304 8))))) = some (r1, r2, r3) := H
  have A5 := Aside0.mk A50
  clear A50
  simp only [Option.some.injEq, Prod.mk.injEq] at H
  obtain ⟨rfl, rfl, rfl⟩ := H
  go_enter Try.func29, Try.ntmps29
  try go_wp2_with (first | ((with_reducible refine gate_dst (N := 2) rfl ?_); refine box_event ?hg (N := 2) ?hd (cs := #[.slice none 0 0, .slice none 0 0]) (t := 36) ?hr ?_; (case hd => rfl); (case hg => rfl); (case hr => first | (go_simp; done) | (go_simp; rfl)); intro gb290 hg w6 hbox hb; have n0_ := Aside0.mk (below_step (by repeat (first | (with_reducible first | exact HB.out | apply below_alloc | apply pw_below_drewN | apply below_drew1) | exact HB.out)) hb); have n1_ := Aside0.mk (hbox); have n2_ := Aside0.mk ((by rw [hg]; exact (below_size (by repeat (first | (with_reducible first | exact HB.out | apply below_alloc | apply pw_below_drewN | apply below_drew1) | exact HB.out))) : w.heap.size ≤ gb290)); have n3_ := Aside0.mk ((by rw [hg]; exact (below_size (by repeat (first | (with_reducible first | exact HB.out | apply below_alloc | apply pw_below_drewN | apply below_drew1) | exact HB.out))) : w.heap.size ≤ gb290)); clear HB; have HB := n0_; have BK290 := n1_; have GW290 := n2_; have GE290 := n3_; clear n0_ n1_ n2_ n3_; clear hb hbox hg) | ((with_reducible refine gate_callee (f := 56) rfl ?_); refine goesL_ (some 7) rfl rfl Try.func56 (by kernel_rfl) rfl #[.slice A0 l0.length c0] rfl (by (try simp only [List.map_toArray, List.map_cons, List.map_nil]); first | done | rfl | (simp only [List.length_drop, List.length_take]; rfl)) ?_; (with_reducible refine (spec_l6Open.calls _ _ l0 t291 t292 w _ ?side1 ?side2 ?side3 A2.out).mono ?_); (case side1 => repeat (first | (with_reducible first | exact HB.out | apply below_alloc | apply pw_below_drewN | apply below_drew1 | refine below_set ?_ GE290.out) | exact HB.out)); (case side2 => exact HR0.out); (case side3 => exact HC0.out); rintro e w7 ⟨g293, rfl, hi, hb, hb2⟩; refine ⟨_, rfl, ?_⟩; have n0_ := Aside0.mk (blk_below (g := gb290) (o := .cells #[.slice none 0 0, .slice none 0 0] 36 (0, 0)) (by (with_reducible repeat (first | refine blk_drewN ?_ _ | refine blk_drew ?_ | refine blk_alloc ?_ _)); exact BK290.out) hb2); have n1_ := Aside0.mk (hb); have n2_ := Aside0.mk (hi); have n3_ := Aside0.mk (IsS118.ne_blk hi (blk_below (g := gb290) (o := .cells #[.slice none 0 0, .slice none 0 0] 36 (0, 0)) (by (with_reducible repeat (first | refine blk_drewN ?_ _ | refine blk_drew ?_ | refine blk_alloc ?_ _)); exact BK290.out) hb2) (by decide)); have n4_ := Aside0.mk (Ne.symm (IsS118.ne_blk hi (blk_below (g := gb290) (o := .cells #[.slice none 0 0, .slice none 0 0] 36 (0, 0)) (by (with_reducible repeat (first | refine blk_drewN ?_ _ | refine blk_drew ?_ | refine blk_alloc ?_ _)); exact BK290.out) hb2) (by decide))); clear BK290; clear HB; have BK290 := n0_; have HB := n1_; have HI293 := n2_; have NB293_290 := n3_; have NB290_293 := n4_; clear n0_ n1_ n2_ n3_ n4_; (try clear hb); (try clear hb2); (try clear hk); (try clear hi)) | ((with_reducible refine gate_callee (f := 67) rfl ?_); refine goesL_ (some 9) rfl rfl Try.func67 (by kernel_rfl) rfl #[.pointer (some ⟨g293, 0, none⟩)] rfl (by (try simp only [List.map_toArray, List.map_cons, List.map_nil]); first | done | rfl | (simp only [List.length_drop, List.length_take]; rfl)) ?_; (with_reducible refine (spec_l71Any.calls k g293 t291 t292 t294 t297 t300 w _ ?side1 ?side2 A3.out).mono ?_); (case side1 => repeat (first | (with_reducible first | exact HI293.out | apply IsS118.alloc | apply IsS118.drewN | apply IsS118.drew | apply IsS118.set_1 | refine IsS118.far ?_ NB293_290.out _) | exact HI293.out)); (case side2 => repeat (first | (with_reducible first | exact HB.out | apply below_alloc | apply pw_below_drewN | apply below_drew1 | refine below_set ?_ (IsS118.ge HI293.out) | refine below_set ?_ GE290.out) | exact HB.out)); rintro e w8 ⟨v295, v298, rfl, ho0, ho1, hi, hb, hk⟩; refine ⟨_, rfl, ?_⟩; have n0_ := Aside0.mk (KeepBut.blk hk (g' := gb290) (o := .cells #[.slice none 0 0, .slice none 0 0] 36 (0, 0)) (by (with_reducible repeat (first | refine blk_drewN ?_ _ | refine blk_drew ?_ | refine blk_alloc ?_ _)); exact BK290.out) NB290_293.out (by simp)); have n1_ := Aside0.mk (Kd.R_lower ho0 (below_size (by repeat (first | (with_reducible first | exact HB.out | apply below_alloc | apply pw_below_drewN | apply below_drew1 | refine below_set ?_ (IsS118.ge HI293.out) | refine below_set ?_ GE290.out) | exact HB.out)))); have n2_ := Aside0.mk (Kd.R_lower ho1 (below_size (by repeat (first | (with_reducible first | exact HB.out | apply below_alloc | apply pw_below_drewN | apply below_drew1 | refine below_set ?_ (IsS118.ge HI293.out) | refine below_set ?_ GE290.out) | exact HB.out)))); have n3_ := Aside0.mk (hb); have n4_ := Aside0.mk (hi); clear BK290; clear HB; clear HI293; have BK290 := n0_; have HO296 := n1_; have HO299 := n2_; have HB := n3_; have HI293 := n4_; clear n0_ n1_ n2_ n3_ n4_; (try clear hb); (try clear hb2); (try clear hk); (try clear hi); (try clear ho0); (try clear ho1)) | ((with_reducible refine gate_dst (N := 5) rfl ?_); refine box_event ?hg (N := 5) ?hd (cs := #[.slice none 0 0, .slice none 0 0]) (t := 36) ?hr ?_; (case hd => rfl); (case hg => rfl); (case hr => first | (go_simp; done) | (go_simp; rfl)); intro gb301 hg w9 hbox hb; have n0_ := Aside0.mk (Kd.R_below (by (with_reducible repeat (first | apply Kd.R_alloc | apply Kd.R_drewN | apply Kd.R_drew)); exact HO296.out) hb); have n1_ := Aside0.mk (Kd.R_below (by (with_reducible repeat (first | apply Kd.R_alloc | apply Kd.R_drewN | apply Kd.R_drew)); exact HO299.out) hb); have n2_ := Aside0.mk (blk_below (g := gb290) (o := .cells #[.slice none 0 0, .slice none 0 0] 36 (0, 0)) (by (with_reducible repeat (first | refine blk_drewN ?_ _ | refine blk_drew ?_ | refine blk_alloc ?_ _)); exact BK290.out) hb); have n3_ := Aside0.mk (IsS118.below (by repeat (first | (with_reducible first | exact HI293.out | apply IsS118.alloc | apply IsS118.drewN | apply IsS118.drew | apply IsS118.set_1 | refine IsS118.far ?_ NB293_290.out _) | exact HI293.out)) hb); have n4_ := Aside0.mk (below_step (by repeat (first | (with_reducible first | exact HB.out | apply below_alloc | apply pw_below_drewN | apply below_drew1 | refine below_set ?_ (IsS118.ge HI293.out) | refine below_set ?_ GE290.out) | exact HB.out)) hb); have n5_ := Aside0.mk (hbox); have n6_ := Aside0.mk ((by rw [hg]; exact (below_size (by repeat (first | (with_reducible first | exact HB.out | apply below_alloc | apply pw_below_drewN | apply below_drew1 | refine below_set ?_ (IsS118.ge HI293.out) | refine below_set ?_ GE290.out) | exact HB.out))) : w.heap.size ≤ gb301)); have n7_ := Aside0.mk ((by rw [hg]; exact (below_size (by repeat (first | (with_reducible first | exact HB.out | apply below_alloc | apply pw_below_drewN | apply below_drew1 | refine below_set ?_ (IsS118.ge HI293.out) | refine below_set ?_ GE290.out) | exact HB.out))) : w.heap.size ≤ gb301)); have n8_ := Aside0.mk ((by rw [hg]; exact Nat.ne_of_lt (blk_lt (g := gb290) (o := .cells #[.slice none 0 0, .slice none 0 0] 36 (0, 0)) (by (with_reducible repeat (first | refine blk_drewN ?_ _ | refine blk_drew ?_ | refine blk_alloc ?_ _)); exact BK290.out)) : gb290 ≠ gb301)); have n9_ := Aside0.mk ((by rw [hg]; exact Nat.ne_of_gt (blk_lt (g := gb290) (o := .cells #[.slice none 0 0, .slice none 0 0] 36 (0, 0)) (by (with_reducible repeat (first | refine blk_drewN ?_ _ | refine blk_drew ?_ | refine blk_alloc ?_ _)); exact BK290.out)) : gb301 ≠ gb290)); have n10_ := Aside0.mk ((by rw [hg]; exact Nat.ne_of_lt (IsS118.lt (show IsS118 w _ g293 t291 t300 from by repeat (first | (with_reducible first | exact HI293.out | apply IsS118.alloc | apply IsS118.drewN | apply IsS118.drew | apply IsS118.set_1 | refine IsS118.far ?_ NB293_290.out _) | exact HI293.out))) : g293 ≠ gb301)); have n11_ := Aside0.mk ((by rw [hg]; exact Nat.ne_of_gt (IsS118.lt (show IsS118 w _ g293 t291 t300 from by repeat (first | (with_reducible first | exact HI293.out | apply IsS118.alloc | apply IsS118.drewN | apply IsS118.drew | apply IsS118.set_1 | refine IsS118.far ?_ NB293_290.out _) | exact HI293.out))) : gb301 ≠ g293)); clear HO296; clear HO299; clear BK290; clear HI293; clear HB; have HO296 := n0_; have HO299 := n1_; have BK290 := n2_; have HI293 := n3_; have HB := n4_; have BK301 := n5_; have GW301 := n6_; have GE301 := n7_; have NB290_301 := n8_; have NB301_290 := n9_; have NB293_301 := n10_; have NB301_293 := n11_; clear n0_ n1_ n2_ n3_ n4_ n5_ n6_ n7_ n8_ n9_ n10_ n11_; clear hb hbox hg; obtain ⟨Ao10, co10, eo10⟩ := Kd.R_slice HO296.out; subst eo10; have hnb11 := NB301_290.out; have hnc11 := NB290_301.out; have hnb12 := NB301_293.out; have hnc12 := NB293_301.out; have hcz13_0 : w9.cell? ⟨gb301, 0, none⟩ = some (.slice none 0 0) := (blk_cell BK301.out 0).trans rfl; have hcz13_1 : w9.cell? ⟨gb301, 1, none⟩ = some (.slice none 0 0) := (blk_cell BK301.out 1).trans rfl; have hfz13_0 := blk_frozen BK301.out 0; have hfz13_1 := blk_frozen BK301.out 1; obtain ⟨Ao14, co14, eo14⟩ := Kd.R_slice HO299.out; subst eo14))
  have n0_ : Aside0 (Kd.R (Kd.int .i64) 3 ((w9.setCell ⟨gb301, 0, none⟩ (.slice Ao10 t294.length co10)).setCell ⟨gb301, 1, none⟩ (.slice Ao14 t297.length co14)) w.heap.size (fun _ => True) (.slice Ao10 t294.length co10) t294) := ⟨by (with_reducible repeat (first | apply Kd.R_alloc | apply Kd.R_drewN | apply Kd.R_drew)); exact Kd.R_mono (Kd.R_far (p := ⟨gb301, 1, none⟩) (Kd.R_far (p := ⟨gb301, 0, none⟩) (Kd.R_types HO296.out BK301.out (by decide)) (fun _ hk => hk.2) (.slice Ao10 t294.length co10)) (fun _ hk => hk.2) (.slice Ao14 t297.length co14)) (fun _ hk => trivial)⟩
  have n1_ : Aside0 (Kd.R (Kd.slice 57 k57) 54 ((w9.setCell ⟨gb301, 0, none⟩ (.slice Ao10 t294.length co10)).setCell ⟨gb301, 1, none⟩ (.slice Ao14 t297.length co14)) w.heap.size (fun k_ => some k_ ≠ (.slice Ao10 t294.length co10 : Value).ownBlock) (.slice Ao14 t297.length co14) t297) := ⟨by (with_reducible repeat (first | apply Kd.R_alloc | apply Kd.R_drewN | apply Kd.R_drew)); exact Kd.R_mono (Kd.R_far (p := ⟨gb301, 1, none⟩) (Kd.R_far (p := ⟨gb301, 0, none⟩) (Kd.R_types HO299.out BK301.out (by decide)) (fun _ hk => hk.2) (.slice Ao10 t294.length co10)) (fun _ hk => hk.2) (.slice Ao14 t297.length co14)) (fun _ hk => hk.1)⟩
  have n2_ : Aside0 (((w9.setCell ⟨gb301, 0, none⟩ (.slice Ao10 t294.length co10)).setCell ⟨gb301, 1, none⟩ (.slice Ao14 t297.length co14)).heap[gb290]? = some (.cells #[.slice none 0 0, .slice none 0 0] 36 (0, 0))) := ⟨by (with_reducible repeat (first | refine blk_drewN ?_ _ | refine blk_drew ?_ | refine blk_alloc ?_ _)); refine blk_far ?_ NB290_301.out _; (with_reducible repeat (first | refine blk_drewN ?_ _ | refine blk_drew ?_ | refine blk_alloc ?_ _)); refine blk_far ?_ NB290_301.out _; (with_reducible repeat (first | refine blk_drewN ?_ _ | refine blk_drew ?_ | refine blk_alloc ?_ _)); exact BK290.out⟩
  have n3_ : Aside0 (((w9.setCell ⟨gb301, 0, none⟩ (.slice Ao10 t294.length co10)).setCell ⟨gb301, 1, none⟩ (.slice Ao14 t297.length co14)).heap[gb301]? = some (.cells #[.slice Ao10 t294.length co10, .slice Ao14 t297.length co14] 36 (0, 0))) := ⟨by (with_reducible repeat (first | refine blk_drewN ?_ _ | refine blk_drew ?_ | refine blk_alloc ?_ _)); refine blk_put (cs := #[.slice Ao10 t294.length co10, .slice none 0 0]) ?_ 1 _ rfl; (with_reducible repeat (first | refine blk_drewN ?_ _ | refine blk_drew ?_ | refine blk_alloc ?_ _)); refine blk_put (cs := #[.slice none 0 0, .slice none 0 0]) ?_ 0 _ rfl; (with_reducible repeat (first | refine blk_drewN ?_ _ | refine blk_drew ?_ | refine blk_alloc ?_ _)); exact BK301.out⟩
  have n4_ : Aside0 (IsS118 w ((w9.setCell ⟨gb301, 0, none⟩ (.slice Ao10 t294.length co10)).setCell ⟨gb301, 1, none⟩ (.slice Ao14 t297.length co14)) g293 t291 t300) := ⟨by repeat (first | (with_reducible first | exact HI293.out | apply IsS118.alloc | apply IsS118.drewN | apply IsS118.drew | apply IsS118.set_1 | refine IsS118.far ?_ NB293_290.out _ | refine IsS118.far ?_ NB293_301.out _) | exact HI293.out)⟩
  have n5_ : Aside0 (Below w.heap.size w ((w9.setCell ⟨gb301, 0, none⟩ (.slice Ao10 t294.length co10)).setCell ⟨gb301, 1, none⟩ (.slice Ao14 t297.length co14))) := ⟨by repeat (first | (with_reducible first | exact HB.out | apply below_alloc | apply pw_below_drewN | apply below_drew1 | refine below_set ?_ (IsS118.ge HI293.out) | refine below_set ?_ GE290.out | refine below_set ?_ GE301.out) | exact HB.out)⟩
  (try clear HO296)
  (try clear HO299)
  (try clear BK290)
  (try clear BK301)
  (try clear HI293)
  (try clear HB)
  generalize ((w9.setCell ⟨gb301, 0, none⟩ (.slice Ao10 t294.length co10)).setCell ⟨gb301, 1, none⟩ (.slice Ao14 t297.length co14)) = w15 at n0_ n1_ n2_ n3_ n4_ n5_ ⊢
  have HO296 := n0_
  have HO299 := n1_
  have BK290 := n2_
  have BK301 := n3_
  have HI293 := n4_
  have HB := n5_
  clear n0_ n1_ n2_ n3_ n4_ n5_
  have n0_ := Aside0.mk (Kd.R_drew HO296.out)
  have n1_ := Aside0.mk (Kd.R_drew HO299.out)
  have n2_ := Aside0.mk (blk_drew BK290.out)
  have n3_ := Aside0.mk (blk_drew BK301.out)
  have n4_ := Aside0.mk (IsS118.drew HI293.out)
  have n5_ := Aside0.mk (below_drew1 HB.out)
  clear HO296
  clear HO299
  clear BK290
  clear BK301
  clear HI293
  clear HB
  have HO296 := n0_
  have HO299 := n1_
  have BK290 := n2_
  have BK301 := n3_
  have HI293 := n4_
  have HB := n5_
  clear n0_ n1_ n2_ n3_ n4_ n5_
  refine start_ (n := 13) (S := fun w' => w'.cell? ⟨gb301, 0, none⟩ = some (.slice Ao10 t294.length co10) ∧ w'.cell? ⟨gb301, 1, none⟩ = some (.slice Ao14 t297.length co14)) (ds := []) #[false, false, false, false, false, false, false, false, false, false, false, false, false] (by kernel_rfl) rfl rfl ⟨(blk_cell BK301.out 0).trans rfl, (blk_cell BK301.out 1).trans rfl⟩ (fun hHeld => ?_); refine with_tabW spec_DrawProgTree.tab3 spec_DrawProgTree.bits3 (fun HT_ HW_ => ?_)
  generalize w15.drew = w16 at HO296 HO299 BK290 BK301 HI293 HB hHeld ⊢
  refine pure_ (i := 1) (N := some 11) (v := ?_) (a' := ?_) #[false, true, false, false, false, false, false, false, false, false, false, false, false] rfl rfl (any_of HT_.out (by kernel_rfl)) (fun _ _ _ h => h) (Or.inl ⟨by rfl, ?_⟩) ?_ ?_
  rotate_left
  · intro w'
    go_simp
    with_reducible rfl
  rotate_left
  · simp only [Act.put, List.setIfInBounds_toArray, List.set_cons_zero, List.set_cons_succ, i64_w, i32_w]
    rfl
  refine pure_ (i := 2) (N := some 12) (v := ?_) (a' := ?_) #[false, true, true, false, false, false, false, false, false, false, false, false, false] rfl rfl (any_of HT_.out (by kernel_rfl)) (fun _ _ _ h => h) (Or.inl ⟨by rfl, ?_⟩) ?_ ?_
  rotate_left
  · intro w'
    go_simp
    with_reducible rfl
  rotate_left
  · simp only [Act.put, List.setIfInBounds_toArray, List.set_cons_zero, List.set_cons_succ, i64_w, i32_w]
    rfl
  refine pure_ (i := 7) (N := some 17) (v := ?_) (a' := ?_) #[false, true, true, false, false, false, false, true, false, false, false, false, false] rfl rfl (any_of HT_.out (by kernel_rfl)) (fun _ _ _ h => h) (Or.inl ⟨by rfl, ?_⟩) ?_ ?_
  rotate_left
  · intro w'
    go_simp
    with_reducible rfl
  rotate_left
  · simp only [Act.put, List.setIfInBounds_toArray, List.set_cons_zero, List.set_cons_succ, i64_w, i32_w]
    rfl
  refine take_ (i := 0) (N := some 10) (v := ?_) (a' := ?_) #[true, true, true, false, false, false, false, true, false, false, false, false, false] rfl rfl (take_ofW HT_.out HW_.out (by kernel_rfl)) (fun _ _ _ h => h) (Or.inl ⟨by rfl, ?_⟩) hHeld ?_ ?_
  rotate_left
  · rintro w' ⟨s0, s1⟩
    go_simp
    with_reducible rfl
  rotate_left
  · simp only [Act.put, List.setIfInBounds_toArray, List.set_cons_zero, List.set_cons_succ, i64_w, i32_w]
    rfl
  refine take_ (i := 3) (N := some 13) (v := ?_) (a' := ?_) #[true, true, true, true, false, false, false, true, false, false, false, false, false] rfl rfl (take_ofW HT_.out HW_.out (by kernel_rfl)) (fun _ _ _ h => h) (Or.inl ⟨by rfl, ?_⟩) hHeld ?_ ?_
  rotate_left
  · rintro w' ⟨s0, s1⟩
    go_simp
    with_reducible rfl
  rotate_left
  · simp only [Act.put, List.setIfInBounds_toArray, List.set_cons_zero, List.set_cons_succ, i64_w, i32_w]
    rfl
  refine pure_ (i := 4) (N := some 14) (v := ?_) (a' := ?_) #[true, true, true, true, true, false, false, true, false, false, false, false, false] rfl rfl (any_of HT_.out (by kernel_rfl)) (fun _ _ _ h => h) (Or.inl ⟨by rfl, ?_⟩) ?_ ?_
  rotate_left
  · intro w'
    go_simp
    with_reducible rfl
  rotate_left
  · simp only [Act.put, List.setIfInBounds_toArray, List.set_cons_zero, List.set_cons_succ, i64_w, i32_w]
    rfl
  refine pure_ (i := 5) (N := some 15) (v := ?_) (a' := ?_) #[true, true, true, true, true, true, false, true, false, false, false, false, false] rfl rfl (any_of HT_.out (by kernel_rfl)) (fun _ _ _ h => h) (Or.inl ⟨by rfl, ?_⟩) ?_ ?_
  rotate_left
  · intro w'
    go_simp
    with_reducible rfl
  rotate_left
  · simp only [Act.put, List.setIfInBounds_toArray, List.set_cons_zero, List.set_cons_succ, i64_w, i32_w]
    rfl
  refine one_ (i := 6) (N := some 16) #[true, true, true, true, true, true, true, true, false, false, false, false, false] rfl rfl (one_of HT_.out (by kernel_rfl)) (by decide) (fun K hK => ?_)
  refine goes_ Try.func58 (by kernel_rfl) rfl #[.pointer (some ⟨g293, 0, none⟩), .int .i64 (wrap64 ((t297.length : Int) + 1))] (by rfl) rfl rfl (by (try simp only [List.map_toArray, List.map_cons, List.map_nil]); first | done | rfl | (simp only [List.length_drop, List.length_take]; rfl)) ?_
  with_reducible refine (spec_l6Rd_pick.calls k g293 t291 t300 (wrap64 ((t297.length : Int) + 1)) t302 t303 w _ ?side1 ?side2 A4.out).mono ?_
  (case side1 => repeat (first | (with_reducible first | exact HI293.out | apply IsS118.alloc | apply IsS118.drewN | apply IsS118.drew | apply IsS118.set_1 | refine IsS118.far ?_ NB293_290.out _ | refine IsS118.far ?_ NB293_301.out _) | exact HI293.out))
  (case side2 => repeat (first | (with_reducible first | exact HB.out | apply below_alloc | apply pw_below_drewN | apply below_drew1 | refine below_set ?_ (IsS118.ge HI293.out) | refine below_set ?_ GE290.out | refine below_set ?_ GE301.out) | exact HB.out))
  rintro e w17 ⟨rfl, hi, hb, hk⟩
  refine ⟨_, rfl, ?_⟩
  have n0_ := Aside0.mk (KeepBut.blk hk (g' := gb290) (o := .cells #[.slice none 0 0, .slice none 0 0] 36 (0, 0)) (by (with_reducible repeat (first | refine blk_drewN ?_ _ | refine blk_drew ?_ | refine blk_alloc ?_ _)); exact BK290.out) NB290_293.out (by simp))
  have n1_ := Aside0.mk (Kd.R_mono (Kd.R_keep (IsS118.apart (show IsS118 w _ g293 t291 t300 from by repeat (first | (with_reducible first | exact HI293.out | apply IsS118.alloc | apply IsS118.drewN | apply IsS118.drew | apply IsS118.set_1 | refine IsS118.far ?_ NB293_290.out _ | refine IsS118.far ?_ NB293_301.out _) | exact HI293.out)) (by (with_reducible repeat (first | apply Kd.R_alloc | apply Kd.R_drewN | apply Kd.R_drew)); exact HO296.out) (by decide)) hk (fun _ h => h.2)) (fun _ h => h.1))
  have n2_ := Aside0.mk (Kd.R_mono (Kd.R_keep (IsS118.apart (show IsS118 w _ g293 t291 t300 from by repeat (first | (with_reducible first | exact HI293.out | apply IsS118.alloc | apply IsS118.drewN | apply IsS118.drew | apply IsS118.set_1 | refine IsS118.far ?_ NB293_290.out _ | refine IsS118.far ?_ NB293_301.out _) | exact HI293.out)) (by (with_reducible repeat (first | apply Kd.R_alloc | apply Kd.R_drewN | apply Kd.R_drew)); exact HO299.out) (by decide)) hk (fun _ h => h.2)) (fun _ h => h.1))
  have n3_ := Aside0.mk (KeepBut.blk hk (g' := gb301) (o := .cells #[.slice Ao10 t294.length co10, .slice Ao14 t297.length co14] 36 (0, 0)) (by (with_reducible repeat (first | refine blk_drewN ?_ _ | refine blk_drew ?_ | refine blk_alloc ?_ _)); exact BK301.out) NB301_293.out (by simp))
  have n4_ := Aside0.mk (hb)
  have n5_ := Aside0.mk (hi)
  clear BK290
  clear HO296
  clear HO299
  clear BK301
  clear HB
  clear HI293
  have BK290 := n0_
  have HO296 := n1_
  have HO299 := n2_
  have BK301 := n3_
  have HB := n4_
  have HI293 := n5_
  clear n0_ n1_ n2_ n3_ n4_ n5_
  (try clear hb)
  (try clear hb2)
  (try clear hk)
  (try clear hi)
  refine hK.out _ _ ⟨(blk_cell BK301.out 0).trans rfl, (blk_cell BK301.out 1).trans rfl⟩ (fun hHeld => ?_)
  clear hK K
  refine norm_ (a' := ?_) ?_ ?_
  rotate_left
  · show Act.put _ (some 16) _ = _
    simp only [Act.put, List.setIfInBounds_toArray, List.set_cons_zero, List.set_cons_succ, i64_w, i32_w]
    rfl
  refine one_ (i := 8) (N := some 18) #[true, true, true, true, true, true, true, true, true, false, false, false, false] rfl rfl (one_of HT_.out (by kernel_rfl)) (by decide) (fun K hK => ?_)
  refine goes_ Try.func58 (by kernel_rfl) rfl #[.pointer (some ⟨g293, 0, none⟩), .int .i64 9] (by rfl) rfl rfl (by (try simp only [List.map_toArray, List.map_cons, List.map_nil]); first | done | rfl | (simp only [List.length_drop, List.length_take]; rfl)) ?_
  with_reducible refine (spec_l6Rd_pick.calls k g293 t291 t303 9 t304 t305 w _ ?side1 ?side2 A5.out).mono ?_
  (case side1 => repeat (first | (with_reducible first | exact HI293.out | apply IsS118.alloc | apply IsS118.drewN | apply IsS118.drew | apply IsS118.set_1 | refine IsS118.far ?_ NB293_290.out _ | refine IsS118.far ?_ NB293_301.out _) | exact HI293.out))
  (case side2 => repeat (first | (with_reducible first | exact HB.out | apply below_alloc | apply pw_below_drewN | apply below_drew1 | refine below_set ?_ (IsS118.ge HI293.out) | refine below_set ?_ GE290.out | refine below_set ?_ GE301.out) | exact HB.out))
  rintro e w18 ⟨rfl, hi, hb, hk⟩
  refine ⟨_, rfl, ?_⟩
  have n0_ := Aside0.mk (KeepBut.blk hk (g' := gb290) (o := .cells #[.slice none 0 0, .slice none 0 0] 36 (0, 0)) (by (with_reducible repeat (first | refine blk_drewN ?_ _ | refine blk_drew ?_ | refine blk_alloc ?_ _)); exact BK290.out) NB290_293.out (by simp))
  have n1_ := Aside0.mk (Kd.R_mono (Kd.R_keep (IsS118.apart (show IsS118 w _ g293 t291 t303 from by repeat (first | (with_reducible first | exact HI293.out | apply IsS118.alloc | apply IsS118.drewN | apply IsS118.drew | apply IsS118.set_1 | refine IsS118.far ?_ NB293_290.out _ | refine IsS118.far ?_ NB293_301.out _) | exact HI293.out)) (by (with_reducible repeat (first | apply Kd.R_alloc | apply Kd.R_drewN | apply Kd.R_drew)); exact HO296.out) (by decide)) hk (fun _ h => h.2)) (fun _ h => h.1))
  have n2_ := Aside0.mk (Kd.R_mono (Kd.R_keep (IsS118.apart (show IsS118 w _ g293 t291 t303 from by repeat (first | (with_reducible first | exact HI293.out | apply IsS118.alloc | apply IsS118.drewN | apply IsS118.drew | apply IsS118.set_1 | refine IsS118.far ?_ NB293_290.out _ | refine IsS118.far ?_ NB293_301.out _) | exact HI293.out)) (by (with_reducible repeat (first | apply Kd.R_alloc | apply Kd.R_drewN | apply Kd.R_drew)); exact HO299.out) (by decide)) hk (fun _ h => h.2)) (fun _ h => h.1))
  have n3_ := Aside0.mk (KeepBut.blk hk (g' := gb301) (o := .cells #[.slice Ao10 t294.length co10, .slice Ao14 t297.length co14] 36 (0, 0)) (by (with_reducible repeat (first | refine blk_drewN ?_ _ | refine blk_drew ?_ | refine blk_alloc ?_ _)); exact BK301.out) NB301_293.out (by simp))
  have n4_ := Aside0.mk (hb)
  have n5_ := Aside0.mk (hi)
  clear BK290
  clear HO296
  clear HO299
  clear BK301
  clear HB
  clear HI293
  have BK290 := n0_
  have HO296 := n1_
  have HO299 := n2_
  have BK301 := n3_
  have HB := n4_
  have HI293 := n5_
  clear n0_ n1_ n2_ n3_ n4_ n5_
  (try clear hb)
  (try clear hb2)
  (try clear hk)
  (try clear hi)
  refine hK.out _ _ ⟨(blk_cell BK301.out 0).trans rfl, (blk_cell BK301.out 1).trans rfl⟩ (fun hHeld => ?_)
  clear hK K
  refine norm_ (a' := ?_) ?_ ?_
  rotate_left
  · show Act.put _ (some 18) _ = _
    simp only [Act.put, List.setIfInBounds_toArray, List.set_cons_zero, List.set_cons_succ, i64_w, i32_w]
    rfl
  refine pure_ (i := 9) (N := some 19) (v := ?_) (a' := ?_) #[true, true, true, true, true, true, true, true, true, true, false, false, false] rfl rfl (any_of HT_.out (by kernel_rfl)) (fun _ _ _ h => h) (Or.inl ⟨by rfl, ?_⟩) ?_ ?_
  rotate_left
  · intro w'
    go_simp
    with_reducible rfl
  rotate_left
  · simp only [Act.put, List.setIfInBounds_toArray, List.set_cons_zero, List.set_cons_succ, i64_w, i32_w]
    rfl
  refine pure_ (i := 10) (N := some 20) (v := ?_) (a' := ?_) #[true, true, true, true, true, true, true, true, true, true, true, false, false] rfl rfl (any_of HT_.out (by kernel_rfl)) (fun _ _ _ h => h) (Or.inl ⟨by rfl, ?_⟩) ?_ ?_
  rotate_left
  · intro w'
    go_simp
    with_reducible rfl
  rotate_left
  · simp only [Act.put, List.setIfInBounds_toArray, List.set_cons_zero, List.set_cons_succ, i64_w, i32_w]
    rfl
  refine one_ (i := 11) (N := none) #[true, true, true, true, true, true, true, true, true, true, true, true, false] rfl rfl (one_of HT_.out (by kernel_rfl)) (by decide) (fun K hK => ?_)
  have hs19 : w18.cell? ⟨gb290, 0, none⟩ = some (.slice none 0 0) := (blk_cell BK290.out 0).trans rfl
  have hfs19 := blk_frozen BK290.out 0
  have hns19_1 := NB301_290.out
  have hms19_1 := NB290_301.out
  have hs20 : w18.cell? ⟨gb290, 1, none⟩ = some (.slice none 0 0) := (blk_cell BK290.out 1).trans rfl
  have hfs20 := blk_frozen BK290.out 1
  have hns20_1 := NB301_290.out
  have hms20_1 := NB290_301.out
  refine skip_ (w1 := ?_) (by rfl) rfl ?_ ?_
  rotate_left
  · go_simp
    rfl
  refine hK.out _ _ ⟨((cell_far (p := ⟨gb290, _, none⟩) NB301_290.out _).trans (((cell_far (p := ⟨gb290, _, none⟩) NB301_290.out _).trans (hHeld.1)))), ((cell_far (p := ⟨gb290, _, none⟩) NB301_290.out _).trans (((cell_far (p := ⟨gb290, _, none⟩) NB301_290.out _).trans (hHeld.2))))⟩ (fun hHeld => ?_)
  clear hK K
  refine pure_ (i := 12) (N := some 3) (v := ?_) (a' := ?_) #[true, true, true, true, true, true, true, true, true, true, true, true, true] rfl rfl (any_of HT_.out (by kernel_rfl)) (fun _ _ _ h => h) (Or.inl ⟨by rfl, ?_⟩) ?_ ?_
  rotate_left
  · intro w'
    go_simp
    with_reducible rfl
  rotate_left
  · simp only [Act.put, List.setIfInBounds_toArray, List.set_cons_zero, List.set_cons_succ, i64_w, i32_w]
    rfl
  refine done_ (done_of HT_.out (by kernel_rfl)) ?_
  try go_wp2
  refine bodyPost_ret (results_ct rfl _ _ gb290 36 #[.slice Ao10 t294.length co10, .slice Ao14 t297.length co14] (0, 0) _ rfl (by (with_reducible repeat (first | refine blk_drewN ?_ _ | refine blk_drew ?_ | refine blk_alloc ?_ _)); refine blk_put (cs := #[.slice Ao10 t294.length co10, .slice none 0 0]) ?_ 1 _ rfl; (with_reducible repeat (first | refine blk_drewN ?_ _ | refine blk_drew ?_ | refine blk_alloc ?_ _)); refine blk_put (cs := #[.slice none 0 0, .slice none 0 0]) ?_ 0 _ rfl; (with_reducible repeat (first | refine blk_drewN ?_ _ | refine blk_drew ?_ | refine blk_alloc ?_ _)); exact BK290.out) Try.underlying36 rfl (by kernel_rfl)) rfl ?_
  exact ⟨_, _, by first | rfl | (simp [errW_none, errW_some] <;> rfl) | (simp [*, errW_none, errW_some] <;> rfl), by (with_reducible repeat (first | apply Kd.R_alloc | apply Kd.R_drewN | apply Kd.R_drew)); exact Kd.R_mono (Kd.R_far (p := ⟨gb290, 1, none⟩) (Kd.R_far (p := ⟨gb290, 0, none⟩) (Kd.R_types HO296.out BK290.out (by decide)) (fun _ hk => hk.2) (.slice Ao10 t294.length co10)) (fun _ hk => hk.2) (.slice Ao14 t297.length co14)) (fun _ hk => trivial), by (with_reducible repeat (first | apply Kd.R_alloc | apply Kd.R_drewN | apply Kd.R_drew)); exact Kd.R_mono (Kd.R_far (p := ⟨gb290, 1, none⟩) (Kd.R_far (p := ⟨gb290, 0, none⟩) (Kd.R_types HO299.out BK290.out (by decide)) (fun _ hk => hk.2) (.slice Ao10 t294.length co10)) (fun _ hk => hk.2) (.slice Ao14 t297.length co14)) (fun _ hk => hk.1), by repeat (first | (with_reducible first | exact HB.out | apply below_alloc | apply pw_below_drewN | apply below_drew1 | refine below_set ?_ (IsS118.ge HI293.out) | refine below_set ?_ GE290.out | refine below_set ?_ GE301.out) | exact HB.out)⟩
end Go.Proofs.Ytoeepmcaabmjkaa.QPM
namespace Go.Proofs.Ytoeepmcaabmjkaa.QPM
open Go.RowKit Go.Proofs.YtoeepmcaabmjkaaW.PrintWords Go.Proofs.YtoeepmcaabmjkaaW.PrintLast Go.Proofs.YtoeepmcaabmjkaaW.PrintMore
attribute [local go_sem] max2_int min2_int max_two min_two max_three min_three max_four min_four   -- for this text's walks alone
set_option linter.unusedVariables false
set_option linter.unusedSimpArgs false
def spec_ProgTree.f (k : Nat) (l0_0 : List Int) (l0_1 : List (List (S57))) (a1 : Int) : Option (Int) := (spec_ProgOk.f k l0_0 l0_1).bind fun t307 => (if t307 = true then ((spec_l6In.f a1 0 (wrap64 ((l0_1.length : Int) - 1))).bind fun t308 => (if t308 = true then ((spec_l1Tree.f k l0_0 l0_1 a1).bind fun t309 => (some t309)) else (some (-1)))) else (some (-1)))
set_option maxHeartbeats 8000000 in
set_option maxRecDepth 100000 in
theorem spec_ProgTree.calls (k : Nat) (A0_0 : Option Addr) (c0_0 : Nat) (l0_0 : List Int) (A0_1 : Option Addr) (c0_1 : Nat) (l0_1 : List (List (S57))) (a1 : Int) (r : Int) (w : World) (hr0_0 : Kd.C (Kd.int .i64) w A0_0 l0_0.length l0_0) (hc0_0 : l0_0.length ≤ c0_0) (hr0_1 : Kd.C (Kd.slice 57 k57) w A0_1 l0_1.length l0_1) (hc0_1 : l0_1.length ≤ c0_1) (h : spec_ProgTree.f k l0_0 l0_1 a1 = some r) :
    Calls Try.prog 30 #[.agg #[.slice A0_0 l0_0.length c0_0, .slice A0_1 l0_1.length c0_1], .int .i64 a1] w fun e w' => e = .returned (.int .i64 r) ∧ Below w.heap.size w w' := by
  have hu36 := Try.underlying36
  have HR0_0 := Aside0.mk hr0_0
  have HC0_0 := Aside0.mk hc0_0
  clear hr0_0 hc0_0
  have HR0_1 := Aside0.mk hr0_1
  have HC0_1 := Aside0.mk hc0_1
  clear hr0_1 hc0_1
  have HB := Aside0.mk (Below.refl w.heap.size w)
  have H : ((spec_ProgOk.f k l0_0 l0_1).bind fun t307 => (if t307 = true then ((spec_l6In.f a1 0 (wrap64 ((l0_1.length : Int) - 1))).bind fun t308 => (if t308 = true then ((spec_l1Tree.f k l0_0 l0_1 a1).bind fun t309 => (some t309)) else (some (-1)))) else (some (-1)))) = some r := h
  clear h
  replace H := Option.bind_eq_some_iff.mp H
  obtain ⟨t307, A30, H⟩ := H
  replace H : (if t307 = true then ((spec_l6In.f a1 0 (wrap64 ((l0_1.length : Int) - 1))).bind fun t308 => (if t308 = true then ((spec_l1Tree.f k l0_0 l0_1 a1).bind fun t309 => (some t309)) else (some (-1)))) else (some (-1))) = some r := H
  have A3 := Aside0.mk A30
  clear A30
  by_cases c4 : t307 = true
  · subst c4
    have H1 : ((spec_l6In.f a1 0 (wrap64 ((l0_1.length : Int) - 1))).bind fun t308 => (if t308 = true then ((spec_l1Tree.f k l0_0 l0_1 a1).bind fun t309 => (some t309)) else (some (-1)))) = some r := by rw [if_pos rfl] at H; exact H
    clear H
    have H := H1
    clear H1
    replace H := Option.bind_eq_some_iff.mp H
    obtain ⟨t308, A50, H⟩ := H
    replace H : (if t308 = true then ((spec_l1Tree.f k l0_0 l0_1 a1).bind fun t309 => (some t309)) else (some (-1))) = some r := H
    have A5 := Aside0.mk A50
    clear A50
    by_cases c6 : t308 = true
    · subst c6
      have H1 : ((spec_l1Tree.f k l0_0 l0_1 a1).bind fun t309 => (some t309)) = some r := by rw [if_pos rfl] at H; exact H
      clear H
      have H := H1
      clear H1
      replace H := Option.bind_eq_some_iff.mp H
      obtain ⟨t309, A70, H⟩ := H
      replace H : (some t309) = some r := H
      have A7 := Aside0.mk A70
      clear A70
      obtain rfl := Option.some.inj H
      go_enter Try.func30, Try.ntmps30
      go_wp2_with (first | ((with_reducible refine gate_dst (N := 2) rfl ?_); (try (refine gate_guard (by rfl) ?_; dsimp only)); refine box_event ?hg (N := 2) ?hd (cs := #[.slice A0_0 l0_0.length c0_0, .slice A0_1 l0_1.length c0_1]) (t := 36) ?hr ?_; (case hd => rfl); (case hg => rfl); (case hr => first | (go_simp; done) | (go_simp; rfl)); intro gb306 hg w8 hbox hb; have n0_ := Aside0.mk (below_step (by repeat (first | (with_reducible first | exact HB.out | apply below_alloc | apply pw_below_drewN | apply below_drew1) | exact HB.out)) hb); have n1_ := Aside0.mk (hbox); have n2_ := Aside0.mk ((by rw [hg]; exact (below_size (by repeat (first | (with_reducible first | exact HB.out | apply below_alloc | apply pw_below_drewN | apply below_drew1) | exact HB.out))) : w.heap.size ≤ gb306)); have n3_ := Aside0.mk ((by rw [hg]; exact (below_size (by repeat (first | (with_reducible first | exact HB.out | apply below_alloc | apply pw_below_drewN | apply below_drew1) | exact HB.out))) : w.heap.size ≤ gb306)); clear HB; have HB := n0_; have BK306 := n1_; have GW306 := n2_; have GE306 := n3_; clear n0_ n1_ n2_ n3_; clear hb hbox hg; have hcz9_0 : w8.cell? ⟨gb306, 0, none⟩ = some (.slice A0_0 l0_0.length c0_0) := (blk_cell BK306.out 0).trans rfl; have hcz9_1 : w8.cell? ⟨gb306, 1, none⟩ = some (.slice A0_1 l0_1.length c0_1) := (blk_cell BK306.out 1).trans rfl; have hfz9_0 := blk_frozen BK306.out 0; have hfz9_1 := blk_frozen BK306.out 1) | ((with_reducible refine gate_callee (f := 27) rfl ?_); refine goesL_ (some 6) rfl rfl Try.func27 (by kernel_rfl) rfl #[.agg #[.slice A0_0 l0_0.length c0_0, .slice A0_1 l0_1.length c0_1]] rfl (by (try simp only [List.map_toArray, List.map_cons, List.map_nil]); first | done | rfl | (simp only [List.length_drop, List.length_take]; rfl)) ?_; (with_reducible refine (spec_ProgOk.calls k _ _ l0_0 _ _ l0_1 true _ ?side1 ?side2 ?side3 ?side4 A3.out).mono ?_); (case side1 => repeat (first | exact (Kd.C_below HR0_0.out HB.out) | (with_reducible refine Kd.C_alloc ?_ _) | (with_reducible refine Kd.C_drewN ?_ _) | (with_reducible refine Kd.C_drew ?_))); (case side2 => exact HC0_0.out); (case side3 => repeat (first | exact (Kd.C_below HR0_1.out HB.out) | (with_reducible refine Kd.C_alloc ?_ _) | (with_reducible refine Kd.C_drewN ?_ _) | (with_reducible refine Kd.C_drew ?_))); (case side4 => exact HC0_1.out); rintro e w10 ⟨rfl, hb⟩; refine ⟨_, rfl, ?_⟩; have n0_ := Aside0.mk (blk_below (g := gb306) (o := .cells #[.slice A0_0 l0_0.length c0_0, .slice A0_1 l0_1.length c0_1] 36 (0, 0)) (by (with_reducible repeat (first | refine blk_drewN ?_ _ | refine blk_drew ?_ | refine blk_alloc ?_ _)); exact BK306.out) hb); have n1_ := Aside0.mk (below_step (by repeat (first | (with_reducible first | exact HB.out | apply below_alloc | apply pw_below_drewN | apply below_drew1 | refine below_set ?_ GE306.out) | exact HB.out)) hb); clear BK306; clear HB; have BK306 := n0_; have HB := n1_; clear n0_ n1_; (try clear hb); (try clear hb2); (try clear hk); (try clear hi); have hcz11_0 : w10.cell? ⟨gb306, 0, none⟩ = some (.slice A0_0 l0_0.length c0_0) := (blk_cell BK306.out 0).trans rfl; have hcz11_1 : w10.cell? ⟨gb306, 1, none⟩ = some (.slice A0_1 l0_1.length c0_1) := (blk_cell BK306.out 1).trans rfl; have hfz11_0 := blk_frozen BK306.out 0; have hfz11_1 := blk_frozen BK306.out 1) | (go_at_call 68; (with_reducible refine (spec_l6In.calls a1 0 (wrap64 ((l0_1.length : Int) - 1)) true _ A5.out).mono ?_); rintro e w' ⟨rfl, ⟨nd, rfl⟩⟩) | ((with_reducible refine gate_callee (f := 65) rfl ?_); refine goesL_ (some 19) rfl rfl Try.func65 (by kernel_rfl) rfl #[.agg #[.slice A0_0 l0_0.length c0_0, .slice A0_1 l0_1.length c0_1], .int .i64 a1] rfl (by (try simp only [List.map_toArray, List.map_cons, List.map_nil]); first | done | rfl | (simp only [List.length_drop, List.length_take]; rfl)) ?_; (with_reducible refine (spec_l1Tree.calls k _ _ l0_0 _ _ l0_1 a1 t309 _ ?side1 ?side2 ?side3 ?side4 A7.out).mono ?_); (case side1 => repeat (first | exact (Kd.C_below HR0_0.out (by repeat (first | (with_reducible first | exact HB.out | apply below_alloc | apply pw_below_drewN | apply below_drew1 | refine below_set ?_ GE306.out) | exact HB.out))) | (with_reducible refine Kd.C_alloc ?_ _) | (with_reducible refine Kd.C_drewN ?_ _) | (with_reducible refine Kd.C_drew ?_))); (case side2 => exact HC0_0.out); (case side3 => repeat (first | exact (Kd.C_below HR0_1.out (by repeat (first | (with_reducible first | exact HB.out | apply below_alloc | apply pw_below_drewN | apply below_drew1 | refine below_set ?_ GE306.out) | exact HB.out))) | (with_reducible refine Kd.C_alloc ?_ _) | (with_reducible refine Kd.C_drewN ?_ _) | (with_reducible refine Kd.C_drew ?_))); (case side4 => exact HC0_1.out); rintro e w12 ⟨rfl, hb⟩; refine ⟨_, rfl, ?_⟩; have n0_ := Aside0.mk (blk_below (g := gb306) (o := .cells #[.slice A0_0 l0_0.length c0_0, .slice A0_1 l0_1.length c0_1] 36 (0, 0)) (by (with_reducible repeat (first | refine blk_drewN ?_ _ | refine blk_drew ?_ | refine blk_alloc ?_ _)); exact BK306.out) hb); have n1_ := Aside0.mk (below_step (by repeat (first | (with_reducible first | exact HB.out | apply below_alloc | apply pw_below_drewN | apply below_drew1 | refine below_set ?_ GE306.out) | exact HB.out)) hb); clear BK306; clear HB; have BK306 := n0_; have HB := n1_; clear n0_ n1_; (try clear hb); (try clear hb2); (try clear hk); (try clear hi)))
      go_ret
      exact ⟨by first | rfl | (simp [errW_none, errW_some] <;> rfl) | (simp [*, errW_none, errW_some] <;> rfl), by repeat (first | (with_reducible first | exact HB.out | apply below_alloc | apply pw_below_drewN | apply below_drew1 | refine below_set ?_ GE306.out) | exact HB.out)⟩
    · replace c6 := Bool.eq_false_iff.mpr c6
      subst c6
      have H1 : (some (-1)) = some r := by rw [if_neg (show ¬ (false = true) by decide)] at H; exact H
      clear H
      have H := H1
      clear H1
      obtain rfl := Option.some.inj H
      go_enter Try.func30, Try.ntmps30
      go_wp2_with (first | ((with_reducible refine gate_dst (N := 2) rfl ?_); (try (refine gate_guard (by rfl) ?_; dsimp only)); refine box_event ?hg (N := 2) ?hd (cs := #[.slice A0_0 l0_0.length c0_0, .slice A0_1 l0_1.length c0_1]) (t := 36) ?hr ?_; (case hd => rfl); (case hg => rfl); (case hr => first | (go_simp; done) | (go_simp; rfl)); intro gb306 hg w13 hbox hb; have n0_ := Aside0.mk (below_step (by repeat (first | (with_reducible first | exact HB.out | apply below_alloc | apply pw_below_drewN | apply below_drew1) | exact HB.out)) hb); have n1_ := Aside0.mk (hbox); have n2_ := Aside0.mk ((by rw [hg]; exact (below_size (by repeat (first | (with_reducible first | exact HB.out | apply below_alloc | apply pw_below_drewN | apply below_drew1) | exact HB.out))) : w.heap.size ≤ gb306)); have n3_ := Aside0.mk ((by rw [hg]; exact (below_size (by repeat (first | (with_reducible first | exact HB.out | apply below_alloc | apply pw_below_drewN | apply below_drew1) | exact HB.out))) : w.heap.size ≤ gb306)); clear HB; have HB := n0_; have BK306 := n1_; have GW306 := n2_; have GE306 := n3_; clear n0_ n1_ n2_ n3_; clear hb hbox hg; have hcz14_0 : w13.cell? ⟨gb306, 0, none⟩ = some (.slice A0_0 l0_0.length c0_0) := (blk_cell BK306.out 0).trans rfl; have hcz14_1 : w13.cell? ⟨gb306, 1, none⟩ = some (.slice A0_1 l0_1.length c0_1) := (blk_cell BK306.out 1).trans rfl; have hfz14_0 := blk_frozen BK306.out 0; have hfz14_1 := blk_frozen BK306.out 1) | ((with_reducible refine gate_callee (f := 27) rfl ?_); refine goesL_ (some 6) rfl rfl Try.func27 (by kernel_rfl) rfl #[.agg #[.slice A0_0 l0_0.length c0_0, .slice A0_1 l0_1.length c0_1]] rfl (by (try simp only [List.map_toArray, List.map_cons, List.map_nil]); first | done | rfl | (simp only [List.length_drop, List.length_take]; rfl)) ?_; (with_reducible refine (spec_ProgOk.calls k _ _ l0_0 _ _ l0_1 true _ ?side1 ?side2 ?side3 ?side4 A3.out).mono ?_); (case side1 => repeat (first | exact (Kd.C_below HR0_0.out HB.out) | (with_reducible refine Kd.C_alloc ?_ _) | (with_reducible refine Kd.C_drewN ?_ _) | (with_reducible refine Kd.C_drew ?_))); (case side2 => exact HC0_0.out); (case side3 => repeat (first | exact (Kd.C_below HR0_1.out HB.out) | (with_reducible refine Kd.C_alloc ?_ _) | (with_reducible refine Kd.C_drewN ?_ _) | (with_reducible refine Kd.C_drew ?_))); (case side4 => exact HC0_1.out); rintro e w15 ⟨rfl, hb⟩; refine ⟨_, rfl, ?_⟩; have n0_ := Aside0.mk (blk_below (g := gb306) (o := .cells #[.slice A0_0 l0_0.length c0_0, .slice A0_1 l0_1.length c0_1] 36 (0, 0)) (by (with_reducible repeat (first | refine blk_drewN ?_ _ | refine blk_drew ?_ | refine blk_alloc ?_ _)); exact BK306.out) hb); have n1_ := Aside0.mk (below_step (by repeat (first | (with_reducible first | exact HB.out | apply below_alloc | apply pw_below_drewN | apply below_drew1 | refine below_set ?_ GE306.out) | exact HB.out)) hb); clear BK306; clear HB; have BK306 := n0_; have HB := n1_; clear n0_ n1_; (try clear hb); (try clear hb2); (try clear hk); (try clear hi); have hcz16_0 : w15.cell? ⟨gb306, 0, none⟩ = some (.slice A0_0 l0_0.length c0_0) := (blk_cell BK306.out 0).trans rfl; have hcz16_1 : w15.cell? ⟨gb306, 1, none⟩ = some (.slice A0_1 l0_1.length c0_1) := (blk_cell BK306.out 1).trans rfl; have hfz16_0 := blk_frozen BK306.out 0; have hfz16_1 := blk_frozen BK306.out 1) | (go_at_call 68; (with_reducible refine (spec_l6In.calls a1 0 (wrap64 ((l0_1.length : Int) - 1)) false _ A5.out).mono ?_); rintro e w' ⟨rfl, ⟨nd, rfl⟩⟩))
      go_ret
      exact ⟨by first | rfl | (simp [errW_none, errW_some] <;> rfl) | (simp [*, errW_none, errW_some] <;> rfl), by repeat (first | (with_reducible first | exact HB.out | apply below_alloc | apply pw_below_drewN | apply below_drew1 | refine below_set ?_ GE306.out) | exact HB.out)⟩
  · replace c4 := Bool.eq_false_iff.mpr c4
    subst c4
    have H1 : (some (-1)) = some r := by rw [if_neg (show ¬ (false = true) by decide)] at H; exact H
    clear H
    have H := H1
    clear H1
    obtain rfl := Option.some.inj H
    go_enter Try.func30, Try.ntmps30
    go_wp2_with (first | ((with_reducible refine gate_dst (N := 2) rfl ?_); (try (refine gate_guard (by rfl) ?_; dsimp only)); refine box_event ?hg (N := 2) ?hd (cs := #[.slice A0_0 l0_0.length c0_0, .slice A0_1 l0_1.length c0_1]) (t := 36) ?hr ?_; (case hd => rfl); (case hg => rfl); (case hr => first | (go_simp; done) | (go_simp; rfl)); intro gb306 hg w17 hbox hb; have n0_ := Aside0.mk (below_step (by repeat (first | (with_reducible first | exact HB.out | apply below_alloc | apply pw_below_drewN | apply below_drew1) | exact HB.out)) hb); have n1_ := Aside0.mk (hbox); have n2_ := Aside0.mk ((by rw [hg]; exact (below_size (by repeat (first | (with_reducible first | exact HB.out | apply below_alloc | apply pw_below_drewN | apply below_drew1) | exact HB.out))) : w.heap.size ≤ gb306)); have n3_ := Aside0.mk ((by rw [hg]; exact (below_size (by repeat (first | (with_reducible first | exact HB.out | apply below_alloc | apply pw_below_drewN | apply below_drew1) | exact HB.out))) : w.heap.size ≤ gb306)); clear HB; have HB := n0_; have BK306 := n1_; have GW306 := n2_; have GE306 := n3_; clear n0_ n1_ n2_ n3_; clear hb hbox hg; have hcz18_0 : w17.cell? ⟨gb306, 0, none⟩ = some (.slice A0_0 l0_0.length c0_0) := (blk_cell BK306.out 0).trans rfl; have hcz18_1 : w17.cell? ⟨gb306, 1, none⟩ = some (.slice A0_1 l0_1.length c0_1) := (blk_cell BK306.out 1).trans rfl; have hfz18_0 := blk_frozen BK306.out 0; have hfz18_1 := blk_frozen BK306.out 1) | ((with_reducible refine gate_callee (f := 27) rfl ?_); refine goesL_ (some 6) rfl rfl Try.func27 (by kernel_rfl) rfl #[.agg #[.slice A0_0 l0_0.length c0_0, .slice A0_1 l0_1.length c0_1]] rfl (by (try simp only [List.map_toArray, List.map_cons, List.map_nil]); first | done | rfl | (simp only [List.length_drop, List.length_take]; rfl)) ?_; (with_reducible refine (spec_ProgOk.calls k _ _ l0_0 _ _ l0_1 false _ ?side1 ?side2 ?side3 ?side4 A3.out).mono ?_); (case side1 => repeat (first | exact (Kd.C_below HR0_0.out HB.out) | (with_reducible refine Kd.C_alloc ?_ _) | (with_reducible refine Kd.C_drewN ?_ _) | (with_reducible refine Kd.C_drew ?_))); (case side2 => exact HC0_0.out); (case side3 => repeat (first | exact (Kd.C_below HR0_1.out HB.out) | (with_reducible refine Kd.C_alloc ?_ _) | (with_reducible refine Kd.C_drewN ?_ _) | (with_reducible refine Kd.C_drew ?_))); (case side4 => exact HC0_1.out); rintro e w19 ⟨rfl, hb⟩; refine ⟨_, rfl, ?_⟩; have n0_ := Aside0.mk (blk_below (g := gb306) (o := .cells #[.slice A0_0 l0_0.length c0_0, .slice A0_1 l0_1.length c0_1] 36 (0, 0)) (by (with_reducible repeat (first | refine blk_drewN ?_ _ | refine blk_drew ?_ | refine blk_alloc ?_ _)); exact BK306.out) hb); have n1_ := Aside0.mk (below_step (by repeat (first | (with_reducible first | exact HB.out | apply below_alloc | apply pw_below_drewN | apply below_drew1 | refine below_set ?_ GE306.out) | exact HB.out)) hb); clear BK306; clear HB; have BK306 := n0_; have HB := n1_; clear n0_ n1_; (try clear hb); (try clear hb2); (try clear hk); (try clear hi)))
    go_ret
    exact ⟨by first | rfl | (simp [errW_none, errW_some] <;> rfl) | (simp [*, errW_none, errW_some] <;> rfl), by repeat (first | (with_reducible first | exact HB.out | apply below_alloc | apply pw_below_drewN | apply below_drew1 | refine below_set ?_ GE306.out) | exact HB.out)⟩
end Go.Proofs.Ytoeepmcaabmjkaa.QPM
namespace Go.Proofs.Ytoeepmcaabmjkaa.QPM
open Go.RowKit Go.Proofs.YtoeepmcaabmjkaaW.PrintWords Go.Proofs.YtoeepmcaabmjkaaW.PrintLast Go.Proofs.YtoeepmcaabmjkaaW.PrintMore
attribute [local go_sem] max2_int min2_int max_two min_two max_three min_three max_four min_four   -- for this text's walks alone
set_option linter.unusedVariables false
set_option linter.unusedSimpArgs false
mutual
def laws_FnProgTree.j0 : Nat → Int → Int → Bool → List Int → List (List (S57)) → Option (Bool)
  | 0, _, _, _, _, _ => none
  | k + 1, x4, x5, x29, x318000, x318001 => if x29 = true then ((spec_ProgTree.f k x318000 x318001 x4).bind fun t320 => (some (x5 == t320))) else (laws_FnProgTree.l0 k x4 x5 1 0 x318000 x318001)
def laws_FnProgTree.l0 : Nat → Int → Int → Int → Int → List Int → List (List (S57)) → Option (Bool)
  | 0, _, _, _, _, _, _ => none
  | k + 1, x4, x5, x6, x7, x318000, x318001 => if 0 ≤ x4 then (if x4 < (x318001.length : Int) then (if x7 < ((rd_L6 x318001 x4).length : Int) then (if 0 ≤ x7 then (laws_FnProgTree.l1 k x4 x5 x6 x7 ((rd_T57 (rd_L6 x318001 x4) x7).f2) 0 x318000 x318001) else (none)) else (if x5 = x6 then ((impl_ProgTree.f k x318000 x318001 0).bind fun t322 => (some (decide (t322 ≤ 7)))) else (some false))) else (none)) else (none)
def laws_FnProgTree.l1 : Nat → Int → Int → Int → Int → List Int → Int → List Int → List (List (S57)) → Option (Bool)
  | 0, _, _, _, _, _, _, _, _ => none
  | k + 1, x4, x5, x6, x7, x8, x9, x318000, x318001 => if x9 < (x8.length : Int) then (if 0 ≤ x9 then ((impl_ProgTree.f k x318000 x318001 (rd x8 x9)).bind fun t326 => (laws_FnProgTree.l1 k x4 x5 (wrap64 (x6 + t326)) x7 x8 (wrap64 (x9 + 1)) x318000 x318001)) else (none)) else (laws_FnProgTree.l0 k x4 x5 x6 (wrap64 (x7 + 1)) x318000 x318001)
end
def laws_FnProgTree.f (k : Nat) (l0 : List Int) : Option (Bool) := if (l0.length : Int) > 1048576 then (some true) else ((spec_DrawProgTree.f k l0).bind fun bt310 => ((impl_ProgTree.f k bt310.1 bt310.2.1 bt310.2.2).bind fun t318 => ((spec_ProgTree.f k bt310.1 bt310.2.1 bt310.2.2).bind fun t319 => (if t318 = t319 then (laws_FnProgTree.j0 k bt310.2.2 t318 (decide (t318 < 0)) bt310.1 bt310.2.1) else (laws_FnProgTree.j0 k bt310.2.2 t318 true bt310.1 bt310.2.1)))))
def laws_FnProgTree.T15 : Bool × List (List Nat × List Nat) := (true, [([], []), ([], []), ([], []), ([], []), ([2, 3], [2, 3]), ([4], [4]), ([1, 5], [1, 5]), ([0, 6], [0, 6]), ([7, 6, 0, 1, 2, 3, 4, 5, 6, 7], [0, 7])])
def laws_FnProgTree.B15 : List Nat := [0, 0, 0, 0, 12, 28, 62, 127, 255]
theorem laws_FnProgTree.tab15 : rtab .any (opsOf Try.f7 15) = laws_FnProgTree.T15 := by kernel_rfl
theorem laws_FnProgTree.bits15 : waitsOk laws_FnProgTree.T15.2 laws_FnProgTree.B15 = true := by kernel_rfl
set_option maxHeartbeats 8000000 in
set_option maxRecDepth 100000 in
theorem laws_FnProgTree.calls (k : Nat) (A0 : Option Addr) (c0 : Nat) (l0 : List Int) (r : Bool) (w : World) (hr0 : Kd.C (Kd.int .u8) w A0 l0.length l0) (hc0 : l0.length ≤ c0) (h : laws_FnProgTree.f k l0 = some r) :
    Calls Try.prog 7 #[.slice A0 l0.length c0] w fun e w' => e = .returned (.bool r) ∧ Below w.heap.size w w' := by
  have hu36 := Try.underlying36
  have HR0 := Aside0.mk hr0
  have HC0 := Aside0.mk hc0
  clear hr0 hc0
  have HB := Aside0.mk (Below.refl w.heap.size w)
  have H : (if (l0.length : Int) > 1048576 then (some true) else ((spec_DrawProgTree.f k l0).bind fun bt310 => ((impl_ProgTree.f k bt310.1 bt310.2.1 bt310.2.2).bind fun t318 => ((spec_ProgTree.f k bt310.1 bt310.2.1 bt310.2.2).bind fun t319 => (if t318 = t319 then (laws_FnProgTree.j0 k bt310.2.2 t318 (decide (t318 < 0)) bt310.1 bt310.2.1) else (laws_FnProgTree.j0 k bt310.2.2 t318 true bt310.1 bt310.2.1)))))) = some r := h
  clear h
  by_cases c2 : (l0.length : Int) > 1048576
  · rw [if_pos c2] at H
    have c2b0 : decide (1048576 < (l0.length : Int)) = true := decide_eq_true c2
    have c2b1 : decide (1048576 < l0.length) = true := decide_eq_true (by omega)
    clear c2
    obtain rfl := Option.some.inj H
    go_enter Try.func7, Try.ntmps7
    go_wp2
    go_ret
    exact ⟨by first | rfl | (simp [errW_none, errW_some] <;> rfl) | (simp [*, errW_none, errW_some] <;> rfl), by repeat (first | (with_reducible first | exact HB.out | apply below_alloc | apply pw_below_drewN | apply below_drew1) | exact HB.out)⟩
  · rw [if_neg c2] at H
    have c2b0 : decide (1048576 < (l0.length : Int)) = false := decide_eq_false c2
    have c2b1 : decide (1048576 < l0.length) = false := decide_eq_false (by omega)
    clear c2
    replace H := Option.bind_eq_some_iff.mp H
    obtain ⟨⟨t310, t313, t316⟩, A30, H⟩ := H
    replace H : ((impl_ProgTree.f k t310 t313 t316).bind fun t318 => ((spec_ProgTree.f k t310 t313 t316).bind fun t319 => (if t318 = t319 then (laws_FnProgTree.j0 k t316 t318 (decide (t318 < 0)) t310 t313) else (laws_FnProgTree.j0 k t316 t318 true t310 t313)))) = some r := H
    have A3 := Aside0.mk A30
    clear A30
    replace H := Option.bind_eq_some_iff.mp H
    obtain ⟨t318, A40, H⟩ := H
    replace H : ((spec_ProgTree.f k t310 t313 t316).bind fun t319 => (if t318 = t319 then (laws_FnProgTree.j0 k t316 t318 (decide (t318 < 0)) t310 t313) else (laws_FnProgTree.j0 k t316 t318 true t310 t313))) = some r := H
    have A4 := Aside0.mk A40
    clear A40
    have HC5 := Aside0.mk H
    clear H
    go_enter Try.func7, Try.ntmps7
    go_upto_region 5 with (first | ((with_reducible refine gate_callee (f := 29) rfl ?_); refine goesL_ (some 15) rfl rfl Try.func29 (by kernel_rfl) rfl #[.slice A0 l0.length c0] rfl (by (try simp only [List.map_toArray, List.map_cons, List.map_nil]); first | done | rfl | (simp only [List.length_drop, List.length_take]; rfl)) ?_; (with_reducible refine (spec_DrawProgTree.calls k _ _ l0 t310 t313 t316 _ ?side1 ?side2 A3.out).mono ?_); (case side1 => repeat (first | exact HR0.out | (with_reducible refine Kd.C_alloc ?_ _) | (with_reducible refine Kd.C_drewN ?_ _) | (with_reducible refine Kd.C_drew ?_))); (case side2 => exact HC0.out); rintro e w6 ⟨v311, v314, rfl, ho0, ho1, hb⟩; refine ⟨_, rfl, ?_⟩; have n0_ := Aside0.mk (Kd.R_lower ho0 (below_size (by repeat (first | (with_reducible first | exact HB.out | apply below_alloc | apply pw_below_drewN | apply below_drew1) | exact HB.out)))); have n1_ := Aside0.mk (Kd.R_lower ho1 (below_size (by repeat (first | (with_reducible first | exact HB.out | apply below_alloc | apply pw_below_drewN | apply below_drew1) | exact HB.out)))); have n2_ := Aside0.mk (below_step (by repeat (first | (with_reducible first | exact HB.out | apply below_alloc | apply pw_below_drewN | apply below_drew1) | exact HB.out)) hb); clear HB; have HO312 := n0_; have HO315 := n1_; have HB := n2_; clear n0_ n1_ n2_; (try clear hb); (try clear hb2); (try clear hk); (try clear hi); (try clear ho0); (try clear ho1)) | ((with_reducible refine gate_dst (N := 3) rfl ?_); refine box_event ?hg (N := 3) ?hd (cs := #[.slice none 0 0, .slice none 0 0]) (t := 36) ?hr ?_; (case hd => rfl); (case hg => rfl); (case hr => first | (go_simp; done) | (go_simp; rfl)); intro gb317 hg w7 hbox hb; have n0_ := Aside0.mk (Kd.R_below (by (with_reducible repeat (first | apply Kd.R_alloc | apply Kd.R_drewN | apply Kd.R_drew)); exact HO312.out) hb); have n1_ := Aside0.mk (Kd.R_below (by (with_reducible repeat (first | apply Kd.R_alloc | apply Kd.R_drewN | apply Kd.R_drew)); exact HO315.out) hb); have n2_ := Aside0.mk (below_step (by repeat (first | (with_reducible first | exact HB.out | apply below_alloc | apply pw_below_drewN | apply below_drew1) | exact HB.out)) hb); have n3_ := Aside0.mk (hbox); have n4_ := Aside0.mk ((by rw [hg]; exact (below_size (by repeat (first | (with_reducible first | exact HB.out | apply below_alloc | apply pw_below_drewN | apply below_drew1) | exact HB.out))) : w.heap.size ≤ gb317)); have n5_ := Aside0.mk ((by rw [hg]; exact (below_size (by repeat (first | (with_reducible first | exact HB.out | apply below_alloc | apply pw_below_drewN | apply below_drew1) | exact HB.out))) : w.heap.size ≤ gb317)); clear HO312; clear HO315; clear HB; have HO312 := n0_; have HO315 := n1_; have HB := n2_; have BK317 := n3_; have GW317 := n4_; have GE317 := n5_; clear n0_ n1_ n2_ n3_ n4_ n5_; clear hb hbox hg; obtain ⟨Ao8, co8, eo8⟩ := Kd.R_slice HO312.out; subst eo8; have hcz9_0 : w7.cell? ⟨gb317, 0, none⟩ = some (.slice none 0 0) := (blk_cell BK317.out 0).trans rfl; have hcz9_1 : w7.cell? ⟨gb317, 1, none⟩ = some (.slice none 0 0) := (blk_cell BK317.out 1).trans rfl; have hfz9_0 := blk_frozen BK317.out 0; have hfz9_1 := blk_frozen BK317.out 1; obtain ⟨Ao10, co10, eo10⟩ := Kd.R_slice HO315.out; subst eo10) | ((with_reducible refine gate_callee (f := 28) rfl ?_); refine goesL_ (some 20) rfl rfl Try.func28 (by kernel_rfl) rfl #[.agg #[.slice Ao8 t310.length co8, .slice Ao10 t313.length co10], .int .i64 t316] rfl (by (try simp only [List.map_toArray, List.map_cons, List.map_nil]); first | done | rfl | (simp only [List.length_drop, List.length_take]; rfl)) ?_; (with_reducible refine (impl_ProgTree.calls k _ _ t310 _ _ t313 t316 t318 _ ?side1 ?side2 ?side3 ?side4 A4.out).mono ?_); (case side1 => refine (Kd.R_reads' (e := 3) (base := w.heap.size) (ok := fun k_ => True) (n := t310.length) (c := co8) ?_).2.2; exact (by (with_reducible repeat (first | apply Kd.R_alloc | apply Kd.R_drewN | apply Kd.R_drew)); exact (Kd.R_mono (Kd.R_far (p := ⟨gb317, 1, none⟩) (Kd.R_far (p := ⟨gb317, 0, none⟩) (Kd.R_types HO312.out BK317.out (by decide)) (fun _ hk => hk.2) (.slice Ao8 t310.length co8)) (fun _ hk => hk.2) (.slice Ao10 t313.length co10)) (fun _ h_ => h_.1)))); (case side2 => exact (Kd.R_reads' HO312.out).2.1); (case side3 => refine (Kd.R_reads' (e := 54) (base := w.heap.size) (ok := fun k_ => some k_ ≠ (.slice Ao8 t310.length co8 : Value).ownBlock) (n := t313.length) (c := co10) ?_).2.2; exact (by (with_reducible repeat (first | apply Kd.R_alloc | apply Kd.R_drewN | apply Kd.R_drew)); exact (Kd.R_mono (Kd.R_far (p := ⟨gb317, 1, none⟩) (Kd.R_far (p := ⟨gb317, 0, none⟩) (Kd.R_types HO315.out BK317.out (by decide)) (fun _ hk => hk.2) (.slice Ao8 t310.length co8)) (fun _ hk => hk.2) (.slice Ao10 t313.length co10)) (fun _ h_ => h_.1)))); (case side4 => exact (Kd.R_reads' HO315.out).2.1); rintro e w11 ⟨rfl, hb⟩; refine ⟨_, rfl, ?_⟩; have n0_ := Aside0.mk (Kd.R_below (by (with_reducible repeat (first | apply Kd.R_alloc | apply Kd.R_drewN | apply Kd.R_drew)); exact (Kd.R_mono (Kd.R_far (p := ⟨gb317, 1, none⟩) (Kd.R_far (p := ⟨gb317, 0, none⟩) (Kd.R_types HO312.out BK317.out (by decide)) (fun _ hk => hk.2) (.slice Ao8 t310.length co8)) (fun _ hk => hk.2) (.slice Ao10 t313.length co10)) (fun _ h_ => h_.1))) hb); have n1_ := Aside0.mk (Kd.R_below (by (with_reducible repeat (first | apply Kd.R_alloc | apply Kd.R_drewN | apply Kd.R_drew)); exact (Kd.R_mono (Kd.R_far (p := ⟨gb317, 1, none⟩) (Kd.R_far (p := ⟨gb317, 0, none⟩) (Kd.R_types HO315.out BK317.out (by decide)) (fun _ hk => hk.2) (.slice Ao8 t310.length co8)) (fun _ hk => hk.2) (.slice Ao10 t313.length co10)) (fun _ h_ => h_.1))) hb); have n2_ := Aside0.mk (blk_below (g := gb317) (o := .cells #[.slice Ao8 t310.length co8, .slice Ao10 t313.length co10] 36 (0, 0)) (by (with_reducible repeat (first | refine blk_drewN ?_ _ | refine blk_drew ?_ | refine blk_alloc ?_ _)); refine blk_put (cs := #[.slice Ao8 t310.length co8, .slice none 0 0]) ?_ 1 _ rfl; (with_reducible repeat (first | refine blk_drewN ?_ _ | refine blk_drew ?_ | refine blk_alloc ?_ _)); refine blk_put (cs := #[.slice none 0 0, .slice none 0 0]) ?_ 0 _ rfl; (with_reducible repeat (first | refine blk_drewN ?_ _ | refine blk_drew ?_ | refine blk_alloc ?_ _)); exact BK317.out) hb); have n3_ := Aside0.mk (below_step (by repeat (first | (with_reducible first | exact HB.out | apply below_alloc | apply pw_below_drewN | apply below_drew1 | refine below_set ?_ GE317.out) | exact HB.out)) hb); clear HO312; clear HO315; clear BK317; clear HB; have HO312 := n0_; have HO315 := n1_; have BK317 := n2_; have HB := n3_; clear n0_ n1_ n2_ n3_; (try clear hb); (try clear hb2); (try clear hk); (try clear hi)))
    (try simp only [Act.put, List.setIfInBounds_toArray, List.set_cons_zero, List.set_cons_succ])
    go_cut [29] (fun v29 wc => ∃ (kq : Nat) (x29_4 : Bool), v29 = .bool x29_4 ∧ Aside0 (laws_FnProgTree.j0 kq t316 t318 x29_4 t310 t313 = some r) ∧ Aside0 (kq ≤ k) ∧ Aside0 (Kd.R (Kd.int .i64) 3 wc w.heap.size (fun _ => True) (.slice Ao8 t310.length co8) t310) ∧ Aside0 (Kd.R (Kd.slice 57 k57) 54 wc w.heap.size (fun k_ => some k_ ≠ ((.slice Ao8 t310.length co8) : Value).ownBlock) (.slice Ao10 t313.length co10) t313) ∧ Aside0 (wc.heap[gb317]? = some (.cells #[(.slice Ao8 t310.length co8), (.slice Ao10 t313.length co10)] 36 (0, 0))) ∧ Aside0 (Below w.heap.size w wc))
    case first =>
      have H := HC5.out
      clear HC5
      replace H := Option.bind_eq_some_iff.mp H
      obtain ⟨t319, A120, H⟩ := H
      replace H : (if t318 = t319 then (laws_FnProgTree.j0 k t316 t318 (decide (t318 < 0)) t310 t313) else (laws_FnProgTree.j0 k t316 t318 true t310 t313)) = some r := H
      have A12 := Aside0.mk A120
      clear A120
      by_cases c13 : t318 = t319
      · rw [if_pos c13] at H
        have c13b0 : (t318 == t319) = true := beq_iff_eq.mpr c13
        have c13b1 : (t318 != t319) = false := bne_eq_false_iff_eq.mpr c13
        clear c13
        (first | rw [c13b0] | (simp only [i64_w, i32_w]; rw [c13b0]) | skip)
        have H' := Aside0.mk H
        clear H
        have hcz14_0 : w11.cell? ⟨gb317, 0, none⟩ = some (.slice Ao8 t310.length co8) := (blk_cell BK317.out 0).trans rfl
        have hcz14_1 : w11.cell? ⟨gb317, 1, none⟩ = some (.slice Ao10 t313.length co10) := (blk_cell BK317.out 1).trans rfl
        have hfz14_0 := blk_frozen BK317.out 0
        have hfz14_1 := blk_frozen BK317.out 1
        go_wp2_with (first | ((with_reducible refine gate_callee (f := 30) rfl ?_); refine goesL_ (some 24) rfl rfl Try.func30 (by kernel_rfl) rfl #[.agg #[.slice Ao8 t310.length co8, .slice Ao10 t313.length co10], .int .i64 t316] rfl (by (try simp only [List.map_toArray, List.map_cons, List.map_nil]); first | done | rfl | (simp only [List.length_drop, List.length_take]; rfl)) ?_; (with_reducible refine (spec_ProgTree.calls k _ _ t310 _ _ t313 t316 t319 _ ?side1 ?side2 ?side3 ?side4 A12.out).mono ?_); (case side1 => repeat (first | exact (Kd.R_reads' HO312.out).2.2 | (with_reducible refine Kd.C_alloc ?_ _) | (with_reducible refine Kd.C_drewN ?_ _) | (with_reducible refine Kd.C_drew ?_))); (case side2 => exact (Kd.R_reads' HO312.out).2.1); (case side3 => repeat (first | exact (Kd.R_reads' HO315.out).2.2 | (with_reducible refine Kd.C_alloc ?_ _) | (with_reducible refine Kd.C_drewN ?_ _) | (with_reducible refine Kd.C_drew ?_))); (case side4 => exact (Kd.R_reads' HO315.out).2.1); rintro e w15 ⟨rfl, hb⟩; refine ⟨_, rfl, ?_⟩; have n0_ := Aside0.mk (Kd.R_below (by (with_reducible repeat (first | apply Kd.R_alloc | apply Kd.R_drewN | apply Kd.R_drew)); exact HO312.out) hb); have n1_ := Aside0.mk (Kd.R_below (by (with_reducible repeat (first | apply Kd.R_alloc | apply Kd.R_drewN | apply Kd.R_drew)); exact HO315.out) hb); have n2_ := Aside0.mk (blk_below (g := gb317) (o := .cells #[.slice Ao8 t310.length co8, .slice Ao10 t313.length co10] 36 (0, 0)) (by (with_reducible repeat (first | refine blk_drewN ?_ _ | refine blk_drew ?_ | refine blk_alloc ?_ _)); exact BK317.out) hb); have n3_ := Aside0.mk (below_step (by repeat (first | (with_reducible first | exact HB.out | apply below_alloc | apply pw_below_drewN | apply below_drew1 | refine below_set ?_ GE317.out) | exact HB.out)) hb); clear HO312; clear HO315; clear BK317; clear HB; have HO312 := n0_; have HO315 := n1_; have BK317 := n2_; have HB := n3_; clear n0_ n1_ n2_ n3_; (try clear hb); (try clear hb2); (try clear hk); (try clear hi)))
        go_meet
        case rel => exact ⟨_, (decide (t318 < 0)), (by first | rfl | (simp; done) | (simp [*]; done)), H', ⟨by first | omega | exact Nat.le_refl _⟩, ⟨by (with_reducible repeat (first | apply Kd.R_alloc | apply Kd.R_drewN | apply Kd.R_drew)); exact HO312.out⟩, ⟨by (with_reducible repeat (first | apply Kd.R_alloc | apply Kd.R_drewN | apply Kd.R_drew)); exact HO315.out⟩, ⟨by (with_reducible repeat (first | refine blk_drewN ?_ _ | refine blk_drew ?_ | refine blk_alloc ?_ _)); exact BK317.out⟩, ⟨by repeat (first | (with_reducible first | exact HB.out | apply below_alloc | apply pw_below_drewN | apply below_drew1 | refine below_set ?_ GE317.out) | exact HB.out)⟩⟩
      · rw [if_neg c13] at H
        have c13b0 : (t318 == t319) = false := beq_eq_false_iff_ne.mpr c13
        have c13b1 : (t318 != t319) = true := bne_iff_ne.mpr c13
        (first | rw [c13b0] | (simp only [i64_w, i32_w]; rw [c13b0]) | skip)
        have H' := Aside0.mk H
        clear H
        have hcz16_0 : w11.cell? ⟨gb317, 0, none⟩ = some (.slice Ao8 t310.length co8) := (blk_cell BK317.out 0).trans rfl
        have hcz16_1 : w11.cell? ⟨gb317, 1, none⟩ = some (.slice Ao10 t313.length co10) := (blk_cell BK317.out 1).trans rfl
        have hfz16_0 := blk_frozen BK317.out 0
        have hfz16_1 := blk_frozen BK317.out 1
        go_wp2_with (first | ((with_reducible refine gate_callee (f := 30) rfl ?_); refine goesL_ (some 24) rfl rfl Try.func30 (by kernel_rfl) rfl #[.agg #[.slice Ao8 t310.length co8, .slice Ao10 t313.length co10], .int .i64 t316] rfl (by (try simp only [List.map_toArray, List.map_cons, List.map_nil]); first | done | rfl | (simp only [List.length_drop, List.length_take]; rfl)) ?_; (with_reducible refine (spec_ProgTree.calls k _ _ t310 _ _ t313 t316 t319 _ ?side1 ?side2 ?side3 ?side4 A12.out).mono ?_); (case side1 => repeat (first | exact (Kd.R_reads' HO312.out).2.2 | (with_reducible refine Kd.C_alloc ?_ _) | (with_reducible refine Kd.C_drewN ?_ _) | (with_reducible refine Kd.C_drew ?_))); (case side2 => exact (Kd.R_reads' HO312.out).2.1); (case side3 => repeat (first | exact (Kd.R_reads' HO315.out).2.2 | (with_reducible refine Kd.C_alloc ?_ _) | (with_reducible refine Kd.C_drewN ?_ _) | (with_reducible refine Kd.C_drew ?_))); (case side4 => exact (Kd.R_reads' HO315.out).2.1); rintro e w17 ⟨rfl, hb⟩; refine ⟨_, rfl, ?_⟩; have n0_ := Aside0.mk (Kd.R_below (by (with_reducible repeat (first | apply Kd.R_alloc | apply Kd.R_drewN | apply Kd.R_drew)); exact HO312.out) hb); have n1_ := Aside0.mk (Kd.R_below (by (with_reducible repeat (first | apply Kd.R_alloc | apply Kd.R_drewN | apply Kd.R_drew)); exact HO315.out) hb); have n2_ := Aside0.mk (blk_below (g := gb317) (o := .cells #[.slice Ao8 t310.length co8, .slice Ao10 t313.length co10] 36 (0, 0)) (by (with_reducible repeat (first | refine blk_drewN ?_ _ | refine blk_drew ?_ | refine blk_alloc ?_ _)); exact BK317.out) hb); have n3_ := Aside0.mk (below_step (by repeat (first | (with_reducible first | exact HB.out | apply below_alloc | apply pw_below_drewN | apply below_drew1 | refine below_set ?_ GE317.out) | exact HB.out)) hb); clear HO312; clear HO315; clear BK317; clear HB; have HO312 := n0_; have HO315 := n1_; have BK317 := n2_; have HB := n3_; clear n0_ n1_ n2_ n3_; (try clear hb); (try clear hb2); (try clear hk); (try clear hi)))
        go_meet
        case rel => exact ⟨_, (true), (by first | rfl | (simp; done) | (simp [*]; done)), H', ⟨by first | omega | exact Nat.le_refl _⟩, ⟨by (with_reducible repeat (first | apply Kd.R_alloc | apply Kd.R_drewN | apply Kd.R_drew)); exact HO312.out⟩, ⟨by (with_reducible repeat (first | apply Kd.R_alloc | apply Kd.R_drewN | apply Kd.R_drew)); exact HO315.out⟩, ⟨by (with_reducible repeat (first | refine blk_drewN ?_ _ | refine blk_drew ?_ | refine blk_alloc ?_ _)); exact BK317.out⟩, ⟨by repeat (first | (with_reducible first | exact HB.out | apply below_alloc | apply pw_below_drewN | apply below_drew1 | refine below_set ?_ GE317.out) | exact HB.out)⟩⟩
    case rest =>
      clear HC5
      try clear c1
      try clear c2
      try clear c2b0
      try clear c2b1
      try clear p2
      try clear c3
      try clear c7
      try clear c13
      try clear c13b0
      try clear c13b1
      try clear hcz14_0
      try clear hcz14_1
      try clear hcz16_0
      try clear hcz16_1
      try clear hcz9_0
      try clear hcz9_1
      try clear hfz14_0
      try clear hfz14_1
      try clear hfz16_0
      try clear hfz16_1
      try clear hfz9_0
      try clear hfz9_1
      obtain ⟨kq, x29_4, rfl, HA, HJ4, HO_318000, HO_318001, BK317, HB⟩ := hcut
      cases kq with
      | zero => exact absurd HA.out (by simp [laws_FnProgTree.j0])
      | succ kj4 =>
        have H := HA.out
        clear HA
        simp only [laws_FnProgTree.j0] at H
        by_cases c18 : x29_4 = true
        · subst c18
          have H1 : ((spec_ProgTree.f kj4 t310 t313 t316).bind fun t320 => (some (t318 == t320))) = some r := by rw [if_pos rfl] at H; exact H
          clear H
          have H := H1
          clear H1
          replace H := Option.bind_eq_some_iff.mp H
          obtain ⟨t320, A190, H⟩ := H
          replace H : (some (t318 == t320)) = some r := H
          have A19 := Aside0.mk A190
          clear A190
          obtain rfl := Option.some.inj H
          have hcz20_0 : wc.cell? ⟨gb317, 0, none⟩ = some (.slice Ao8 t310.length co8) := (blk_cell BK317.out 0).trans rfl
          have hcz20_1 : wc.cell? ⟨gb317, 1, none⟩ = some (.slice Ao10 t313.length co10) := (blk_cell BK317.out 1).trans rfl
          have hfz20_0 := blk_frozen BK317.out 0
          have hfz20_1 := blk_frozen BK317.out 1
          go_wp2_with (first | ((with_reducible refine gate_callee (f := 30) rfl ?_); refine goesL_ (some 33) rfl rfl Try.func30 (by kernel_rfl) rfl #[.agg #[.slice Ao8 t310.length co8, .slice Ao10 t313.length co10], .int .i64 t316] rfl (by (try simp only [List.map_toArray, List.map_cons, List.map_nil]); first | done | rfl | (simp only [List.length_drop, List.length_take]; rfl)) ?_; (with_reducible refine (spec_ProgTree.calls kj4 _ _ t310 _ _ t313 t316 t320 _ ?side1 ?side2 ?side3 ?side4 A19.out).mono ?_); (case side1 => repeat (first | exact (Kd.R_reads' HO_318000.out).2.2 | (with_reducible refine Kd.C_alloc ?_ _) | (with_reducible refine Kd.C_drewN ?_ _) | (with_reducible refine Kd.C_drew ?_))); (case side2 => exact (Kd.R_reads' HO_318000.out).2.1); (case side3 => repeat (first | exact (Kd.R_reads' HO_318001.out).2.2 | (with_reducible refine Kd.C_alloc ?_ _) | (with_reducible refine Kd.C_drewN ?_ _) | (with_reducible refine Kd.C_drew ?_))); (case side4 => exact (Kd.R_reads' HO_318001.out).2.1); rintro e w21 ⟨rfl, hb⟩; refine ⟨_, rfl, ?_⟩; have n0_ := Aside0.mk (Kd.R_below (by (with_reducible repeat (first | apply Kd.R_alloc | apply Kd.R_drewN | apply Kd.R_drew)); exact HO_318000.out) hb); have n1_ := Aside0.mk (Kd.R_below (by (with_reducible repeat (first | apply Kd.R_alloc | apply Kd.R_drewN | apply Kd.R_drew)); exact HO_318001.out) hb); have n2_ := Aside0.mk (blk_below (g := gb317) (o := .cells #[.slice Ao8 t310.length co8, .slice Ao10 t313.length co10] 36 (0, 0)) (by (with_reducible repeat (first | refine blk_drewN ?_ _ | refine blk_drew ?_ | refine blk_alloc ?_ _)); exact BK317.out) hb); have n3_ := Aside0.mk (below_step (by repeat (first | (with_reducible first | exact HB.out | apply below_alloc | apply pw_below_drewN | apply below_drew1 | refine below_set ?_ GE317.out) | exact HB.out)) hb); clear HO_318000; clear HO_318001; clear BK317; clear HB; have HO_318000 := n0_; have HO_318001 := n1_; have BK317 := n2_; have HB := n3_; clear n0_ n1_ n2_ n3_; (try clear hb); (try clear hb2); (try clear hk); (try clear hi)))
          go_ret
          exact ⟨by first | rfl | (simp [errW_none, errW_some] <;> rfl) | (simp [*, errW_none, errW_some] <;> rfl), by repeat (first | (with_reducible first | exact HB.out | apply below_alloc | apply pw_below_drewN | apply below_drew1 | refine below_set ?_ GE317.out) | exact HB.out)⟩
        · replace c18 := Bool.eq_false_iff.mpr c18
          subst c18
          have H1 : (laws_FnProgTree.l0 kj4 t316 t318 1 0 t310 t313) = some r := by rw [if_neg (show ¬ (false = true) by decide)] at H; exact H
          clear H
          have H := H1
          clear H1
          have H' := Aside0.mk H
          clear H
          go_wp2
          go_loopg [6, 7] kj4 (fun kq v6 v7 w' => ∃ (x6_2 : Int) (x7_2 : Int), v6 = .int .i64 x6_2 ∧ v7 = .int .i64 x7_2 ∧ Aside0 (laws_FnProgTree.l0 kq t316 t318 x6_2 x7_2 t310 t313 = some r) ∧ Aside0 (kq ≤ kj4) ∧ Aside0 (Kd.R (Kd.int .i64) 3 w' w.heap.size (fun _ => True) (.slice Ao8 t310.length co8) t310) ∧ Aside0 (Kd.R (Kd.slice 57 k57) 54 w' w.heap.size (fun k_ => some k_ ≠ ((.slice Ao8 t310.length co8) : Value).ownBlock) (.slice Ao10 t313.length co10) t313) ∧ Aside0 (w'.heap[gb317]? = some (.cells #[(.slice Ao8 t310.length co8), (.slice Ao10 t313.length co10)] 36 (0, 0))) ∧ Aside0 (Below w.heap.size w w'))
          case atStart => exact ⟨(1), (0), (by first | rfl | (simp; done) | (simp [*]; done)), (by first | rfl | (simp; done) | (simp [*]; done)), H', ⟨Nat.le_refl _⟩, ⟨by (with_reducible repeat (first | apply Kd.R_alloc | apply Kd.R_drewN | apply Kd.R_drew)); exact HO_318000.out⟩, ⟨by (with_reducible repeat (first | apply Kd.R_alloc | apply Kd.R_drewN | apply Kd.R_drew)); exact HO_318001.out⟩, ⟨by (with_reducible repeat (first | refine blk_drewN ?_ _ | refine blk_drew ?_ | refine blk_alloc ?_ _)); exact BK317.out⟩, ⟨by repeat (first | (with_reducible first | exact HB.out | apply below_alloc | apply pw_below_drewN | apply below_drew1 | refine below_set ?_ GE317.out) | exact HB.out)⟩⟩
          case round =>
            clear H'
            try clear c1
            try clear c2
            try clear c2b0
            try clear c2b1
            try clear p2
            try clear c3
            try clear c7
            try clear c13
            try clear c13b0
            try clear c13b1
            try clear c18
            try clear hcz14_0
            try clear hcz14_1
            try clear hcz16_0
            try clear hcz16_1
            try clear hcz20_0
            try clear hcz20_1
            try clear hcz9_0
            try clear hcz9_1
            try clear hfz14_0
            try clear hfz14_1
            try clear hfz16_0
            try clear hfz16_1
            try clear hfz20_0
            try clear hfz20_1
            try clear hfz9_0
            try clear hfz9_1
            try clear p2
            obtain ⟨x6_2, x7_2, rfl, rfl, HA, HK2, HO_318000, HO_318001, BK317, HB⟩ := hrel
            cases gk with
            | zero => exact absurd HA.out (by simp [laws_FnProgTree.l0])
            | succ k2 =>
              have H := HA.out
              clear HA
              simp only [laws_FnProgTree.l0] at H
              by_cases c22 : 0 ≤ t316
              · rw [if_pos c22] at H
                have c22b0 : decide (0 ≤ t316) = true := decide_eq_true c22
                clear c22
                by_cases c23 : t316 < (t313.length : Int)
                · rw [if_pos c23] at H
                  have c23b0 : decide (t316 < (t313.length : Int)) = true := decide_eq_true c23
                  clear c23
                  by_cases c24 : x7_2 < ((rd_L6 t313 t316).length : Int)
                  · rw [if_pos c24] at H
                    have c24b0 : decide (x7_2 < ((rd_L6 t313 t316).length : Int)) = true := decide_eq_true c24
                    clear c24
                    by_cases c25 : 0 ≤ x7_2
                    · rw [if_pos c25] at H
                      have c25b0 : decide (0 ≤ x7_2) = true := decide_eq_true c25
                      clear c25
                      have H' := Aside0.mk H
                      clear H
                      have hcz26_0 : wr.cell? ⟨gb317, 0, none⟩ = some (.slice Ao8 t310.length co8) := (blk_cell BK317.out 0).trans rfl
                      have hcz26_1 : wr.cell? ⟨gb317, 1, none⟩ = some (.slice Ao10 t313.length co10) := (blk_cell BK317.out 1).trans rfl
                      have hfz26_0 := blk_frozen BK317.out 0
                      have hfz26_1 := blk_frozen BK317.out 1
                      have p321 : 0 ≤ (t316 : Int) := of_decide_eq_true (by first | (with_reducible assumption) | assumption)
                      have q321 : t316 < (t313.length : Int) := of_decide_eq_true (by first | (with_reducible assumption) | assumption)
                      obtain ⟨ad321, A321_0, c321_0, e321, hx321_0, hl321_0, hi321_0⟩ := at_L6 (Kd.R_reads' HO_318001.out).2.2 t316 p321 q321
                      cases e321
                      obtain ⟨ce321, hce321, hMe321, hcc321⟩ := Kd.R_get HO_318001.out [] t316 p321 (by first | exact q321 | exact of_decide_eq_true (by first | (with_reducible assumption) | assumption) | (have e_ := (Kd.R_reads' HO_318001.out).1; omega))
                      obtain ⟨ve321_0, rfl, ge321_0⟩ := hMe321
                      have hv321_0 := hcc321 0 _ rfl
                      rw [Nat.add_zero, show ((Kd.slice 57 k57)).sz = 1 from rfl, Nat.mul_one] at hv321_0
                      replace hv321_0 := Option.some.inj (hv321_0.symm.trans hx321_0)
                      rw [hv321_0] at ge321_0
                      have HL321_0 := Aside0.mk (show Kd.R k57 57 _ _ _ _ (rd_L6 t313 t316) from ge321_0)
                      clear hv321_0 ge321_0
                      clear hcc321 hce321
                      have HR321_0 := Aside0.mk hi321_0
                      have HC321_0 := Aside0.mk hl321_0
                      clear hi321_0 hl321_0
                      replace p321 := eq_true p321
                      replace q321 := eq_true q321
                      have p323 : 0 ≤ (t316 : Int) := of_decide_eq_true (by first | (with_reducible assumption) | assumption)
                      have q323 : t316 < (t313.length : Int) := of_decide_eq_true (by first | (with_reducible assumption) | assumption)
                      obtain ⟨ad323, A323_0, c323_0, e323, hx323_0, hl323_0, hi323_0⟩ := at_L6 (Kd.R_reads' HO_318001.out).2.2 t316 p323 q323
                      obtain rfl : ad321 = ad323 := (by injection e323)
                      obtain ⟨ce323, hce323, hMe323, hcc323⟩ := Kd.R_get HO_318001.out [] t316 p323 (by first | exact q323 | exact of_decide_eq_true (by first | (with_reducible assumption) | assumption) | (have e_ := (Kd.R_reads' HO_318001.out).1; omega))
                      obtain ⟨ve323_0, rfl, ge323_0⟩ := hMe323
                      have hv323_0 := hcc323 0 _ rfl
                      rw [Nat.add_zero, show ((Kd.slice 57 k57)).sz = 1 from rfl, Nat.mul_one] at hv323_0
                      replace hv323_0 := Option.some.inj (hv323_0.symm.trans hx323_0)
                      rw [hv323_0] at ge323_0
                      have HL323_0 := Aside0.mk (show Kd.R k57 57 _ _ _ _ (rd_L6 t313 t316) from ge323_0)
                      clear hv323_0 ge323_0
                      clear hcc323 hce323
                      have HR323_0 := Aside0.mk hi323_0
                      have HC323_0 := Aside0.mk hl323_0
                      clear hi323_0 hl323_0
                      replace p323 := eq_true p323
                      replace q323 := eq_true q323
                      have ea_ := Option.some.inj (hx321_0.symm.trans hx323_0)
                      injection ea_ with ea_ en_ ec_
                      subst ea_
                      subst ec_
                      clear en_
                      have p324 : 0 ≤ (x7_2 : Int) := of_decide_eq_true (by first | (with_reducible assumption) | assumption)
                      have q324 : x7_2 < ((rd_L6 t313 t316).length : Int) := of_decide_eq_true (by first | (with_reducible assumption) | assumption)
                      obtain ⟨ad324, A324_1, c324_1, A324_2, c324_2, e324, hx324_0, hx324_1, hx324_2, hx324_3, hl324_1, hi324_1, hl324_2, hi324_2⟩ := at_T57 (by repeat (first | (with_reducible exact HR323_0.out) | (with_reducible refine Kd.C_alloc ?_ _) | (with_reducible refine Kd.C_drewN ?_ _) | (with_reducible refine Kd.C_drew ?_) | exact HR323_0.out)) x7_2 p324 q324
                      cases e324
                      obtain ⟨ce324, hce324, hMe324, hcc324⟩ := Kd.R_get HL323_0.out z57 x7_2 p324 (by first | exact q324 | exact of_decide_eq_true (by first | (with_reducible assumption) | assumption) | (have e_ := (Kd.R_reads' HL323_0.out).1; omega))
                      obtain ⟨ve324_1, ve324_2, rfl, ge324_1, ge324_2⟩ := k57_openM hMe324
                      have hv324_1 := hcc324 1 _ rfl
                      rw [add_field _ _ 1 (by omega)] at hv324_1
                      replace hv324_1 := Option.some.inj (hv324_1.symm.trans hx324_1)
                      rw [hv324_1] at ge324_1
                      have HL324_1 := Aside0.mk (show Kd.R k122 122 _ _ _ _ ((rd_T57 (rd_L6 t313 t316) x7_2).f1) from ge324_1)
                      clear hv324_1 ge324_1
                      have hv324_2 := hcc324 2 _ rfl
                      rw [add_field _ _ 2 (by omega)] at hv324_2
                      replace hv324_2 := Option.some.inj (hv324_2.symm.trans hx324_2)
                      rw [hv324_2] at ge324_2
                      have HL324_2 := Aside0.mk (show Kd.R (Kd.int .i64) 3 _ _ _ _ ((rd_T57 (rd_L6 t313 t316) x7_2).f2) from ge324_2)
                      clear hv324_2 ge324_2
                      clear hcc324 hce324
                      have HR324_1 := Aside0.mk hi324_1
                      have HC324_1 := Aside0.mk hl324_1
                      clear hi324_1 hl324_1
                      have HR324_2 := Aside0.mk hi324_2
                      have HC324_2 := Aside0.mk hl324_2
                      clear hi324_2 hl324_2
                      replace p324 := eq_true p324
                      replace q324 := eq_true q324
                      go_wp2
                      go_loopg [6, 9] k2 (fun kq v6 v9 w' => ∃ (x6_3 : Int) (x9_3 : Int), v6 = .int .i64 x6_3 ∧ v9 = .int .i64 x9_3 ∧ Aside0 (laws_FnProgTree.l1 kq t316 t318 x6_3 x7_2 ((rd_T57 (rd_L6 t313 t316) x7_2).f2) x9_3 t310 t313 = some r) ∧ Aside0 (kq ≤ k2) ∧ Aside0 (Kd.R (Kd.int .i64) 3 w' w.heap.size (fun _ => True) (.slice Ao8 t310.length co8) t310) ∧ Aside0 (Kd.R (Kd.slice 57 k57) 54 w' w.heap.size (fun k_ => some k_ ≠ ((.slice Ao8 t310.length co8) : Value).ownBlock) (.slice (some ad321) t313.length co10) t313) ∧ Aside0 (w'.heap[gb317]? = some (.cells #[(.slice Ao8 t310.length co8), (.slice (some ad321) t313.length co10)] 36 (0, 0))) ∧ Aside0 (Kd.C k57 w' (some ad324) (rd_L6 t313 t316).length (rd_L6 t313 t316)) ∧ Aside0 (Kd.C k57 w' (some ad324) (rd_L6 t313 t316).length (rd_L6 t313 t316)) ∧ Aside0 (Kd.C k122 w' A324_1 ((rd_T57 (rd_L6 t313 t316) x7_2).f1).length ((rd_T57 (rd_L6 t313 t316) x7_2).f1)) ∧ Aside0 (Kd.C (Kd.int .i64) w' A324_2 ((rd_T57 (rd_L6 t313 t316) x7_2).f2).length ((rd_T57 (rd_L6 t313 t316) x7_2).f2)) ∧ Aside0 (Below w.heap.size w w'))
                      case atStart => exact ⟨(x6_2), (0), (by first | rfl | (simp; done) | (simp [*]; done)), (by first | rfl | (simp; done) | (simp [*]; done)), H', ⟨Nat.le_refl _⟩, ⟨by (with_reducible repeat (first | apply Kd.R_alloc | apply Kd.R_drewN | apply Kd.R_drew)); exact HO_318000.out⟩, ⟨by (with_reducible repeat (first | apply Kd.R_alloc | apply Kd.R_drewN | apply Kd.R_drew)); exact HO_318001.out⟩, ⟨by (with_reducible repeat (first | refine blk_drewN ?_ _ | refine blk_drew ?_ | refine blk_alloc ?_ _)); exact BK317.out⟩, ⟨by repeat (first | (with_reducible exact HR321_0.out) | (with_reducible refine Kd.C_alloc ?_ _) | (with_reducible refine Kd.C_drewN ?_ _) | (with_reducible refine Kd.C_drew ?_) | exact HR321_0.out)⟩, ⟨by repeat (first | (with_reducible exact HR323_0.out) | (with_reducible refine Kd.C_alloc ?_ _) | (with_reducible refine Kd.C_drewN ?_ _) | (with_reducible refine Kd.C_drew ?_) | exact HR323_0.out)⟩, ⟨by repeat (first | (with_reducible exact HR324_1.out) | (with_reducible refine Kd.C_alloc ?_ _) | (with_reducible refine Kd.C_drewN ?_ _) | (with_reducible refine Kd.C_drew ?_) | exact HR324_1.out)⟩, ⟨by repeat (first | (with_reducible exact HR324_2.out) | (with_reducible refine Kd.C_alloc ?_ _) | (with_reducible refine Kd.C_drewN ?_ _) | (with_reducible refine Kd.C_drew ?_) | exact HR324_2.out)⟩, ⟨by repeat (first | (with_reducible first | exact HB.out | apply below_alloc | apply pw_below_drewN | apply below_drew1 | refine below_set ?_ GE317.out) | exact HB.out)⟩⟩
                      case round =>
                        clear H'
                        try clear c1
                        try clear c2
                        try clear c2b0
                        try clear c2b1
                        try clear p2
                        try clear c3
                        try clear p3
                        try clear q3
                        try clear hx3
                        try clear c7
                        try clear c13
                        try clear c13b0
                        try clear c13b1
                        try clear c18
                        try clear c22
                        try clear c22b0
                        try clear c23
                        try clear c23b0
                        try clear c24
                        try clear c24b0
                        try clear c25
                        try clear c25b0
                        try clear hcz14_0
                        try clear hcz14_1
                        try clear hcz16_0
                        try clear hcz16_1
                        try clear hcz20_0
                        try clear hcz20_1
                        try clear hcz26_0
                        try clear hcz26_1
                        try clear hcz9_0
                        try clear hcz9_1
                        try clear hfz14_0
                        try clear hfz14_1
                        try clear hfz16_0
                        try clear hfz16_1
                        try clear hfz20_0
                        try clear hfz20_1
                        try clear hfz26_0
                        try clear hfz26_1
                        try clear hfz9_0
                        try clear hfz9_1
                        try clear hx321_0
                        try clear hx323_0
                        try clear hx324_0
                        try clear hx324_1
                        try clear hx324_2
                        try clear hx324_3
                        try clear p2
                        try clear p321
                        try clear p323
                        try clear p324
                        try clear q321
                        try clear q323
                        try clear q324
                        obtain ⟨x6_3, x9_3, rfl, rfl, HA, HK3, HO_318000, HO_318001, BK317, HR321_0, HR323_0, HR324_1, HR324_2, HB⟩ := hrel
                        cases gk with
                        | zero => exact absurd HA.out (by simp [laws_FnProgTree.l1])
                        | succ k3 =>
                          have H := HA.out
                          clear HA
                          simp only [laws_FnProgTree.l1] at H
                          by_cases c27 : x9_3 < (((rd_T57 (rd_L6 t313 t316) x7_2).f2).length : Int)
                          · rw [if_pos c27] at H
                            have c27b0 : decide (x9_3 < (((rd_T57 (rd_L6 t313 t316) x7_2).f2).length : Int)) = true := decide_eq_true c27
                            clear c27
                            by_cases c28 : 0 ≤ x9_3
                            · rw [if_pos c28] at H
                              have c28b0 : decide (0 ≤ x9_3) = true := decide_eq_true c28
                              clear c28
                              replace H := Option.bind_eq_some_iff.mp H
                              obtain ⟨t326, A290, H⟩ := H
                              replace H : (laws_FnProgTree.l1 k3 t316 t318 (wrap64 (x6_3 + t326)) x7_2 ((rd_T57 (rd_L6 t313 t316) x7_2).f2) (wrap64 (x9_3 + 1)) t310 t313) = some r := H
                              have A29 := Aside0.mk A290
                              clear A290
                              have H' := Aside0.mk H
                              clear H
                              try go_wp2
                              have n0_ := Aside0.mk (Kd.R_drew HO_318000.out)
                              have n1_ := Aside0.mk (Kd.R_drew HO_318001.out)
                              have n2_ := Aside0.mk (blk_drew BK317.out)
                              have n3_ := Aside0.mk (Kd.C_drew HR321_0.out)
                              have n4_ := Aside0.mk (Kd.C_drew HR323_0.out)
                              have n5_ := Aside0.mk (Kd.C_drew HR324_1.out)
                              have n6_ := Aside0.mk (Kd.C_drew HR324_2.out)
                              have n7_ := Aside0.mk (below_drew1 HB.out)
                              clear HO_318000
                              clear HO_318001
                              clear BK317
                              clear HR321_0
                              clear HR323_0
                              clear HR324_1
                              clear HR324_2
                              clear HB
                              have HO_318000 := n0_
                              have HO_318001 := n1_
                              have BK317 := n2_
                              have HR321_0 := n3_
                              have HR323_0 := n4_
                              have HR324_1 := n5_
                              have HR324_2 := n6_
                              have HB := n7_
                              clear n0_ n1_ n2_ n3_ n4_ n5_ n6_ n7_
                              have p325 : 0 ≤ (x9_3 : Int) := of_decide_eq_true (by first | (with_reducible assumption) | assumption)
                              have q325 : x9_3 < (((rd_T57 (rd_L6 t313 t316) x7_2).f2).length : Int) := of_decide_eq_true (by first | (with_reducible assumption) | assumption)
                              obtain ⟨ad325, e325, hx325_0⟩ := Kd.at_int HR324_2.out x9_3 p325 q325
                              have hw325_0 := hx325_0
                              cases e325
                              replace p325 := eq_true p325
                              replace q325 := eq_true q325
                              refine start_ (n := 9) (S := fun w' => w'.cell? ⟨gb317, 0, none⟩ = some (.slice Ao8 t310.length co8) ∧ w'.cell? ⟨gb317, 1, none⟩ = some (.slice (some ad321) t313.length co10) ∧ w'.cell? (ad325.add (x9_3).toNat) = some (.int .i64 (rd ((rd_T57 (rd_L6 t313 t316) x7_2).f2) x9_3))) (ds := []) #[false, false, false, false, false, false, false, false, false] (by kernel_rfl) rfl rfl ⟨(blk_cell BK317.out 0).trans rfl, (blk_cell BK317.out 1).trans rfl, (by obtain ⟨_, e_, h_⟩ := Kd.at_int HR324_2.out x9_3 (of_eq_true p325) (of_eq_true q325); cases e_; exact h_)⟩ (fun hHeld => ?_); refine with_tabW laws_FnProgTree.tab15 laws_FnProgTree.bits15 (fun HT_ HW_ => ?_)
                              generalize wr.drew = w30 at HO_318000 HO_318001 BK317 HR321_0 HR323_0 HR324_1 HR324_2 HB hx325_0 hHeld ⊢
                              refine pure_ (i := 0) (N := some 60) (v := ?_) (a' := ?_) #[true, false, false, false, false, false, false, false, false] rfl rfl (any_of HT_.out (by kernel_rfl)) (fun _ _ _ h => h) (Or.inl ⟨by rfl, ?_⟩) ?_ ?_
                              rotate_left
                              · intro w'
                                go_simp
                                with_reducible rfl
                              rotate_left
                              · simp only [Act.put, List.setIfInBounds_toArray, List.set_cons_zero, List.set_cons_succ, i64_w, i32_w]
                                rfl
                              refine pure_ (i := 2) (N := some 62) (v := ?_) (a' := ?_) #[true, false, true, false, false, false, false, false, false] rfl rfl (any_of HT_.out (by kernel_rfl)) (fun _ _ _ h => h) (Or.inl ⟨by rfl, ?_⟩) ?_ ?_
                              rotate_left
                              · intro w'
                                go_simp
                                with_reducible rfl
                              rotate_left
                              · simp only [Act.put, List.setIfInBounds_toArray, List.set_cons_zero, List.set_cons_succ, i64_w, i32_w]
                                rfl
                              refine pure_ (i := 3) (N := some 63) (v := ?_) (a' := ?_) #[true, false, true, true, false, false, false, false, false] rfl rfl (any_of HT_.out (by kernel_rfl)) (fun _ _ _ h => h) (Or.inl ⟨by rfl, ?_⟩) ?_ ?_
                              rotate_left
                              · intro w'
                                go_simp
                                with_reducible rfl
                              rotate_left
                              · simp only [Act.put, List.setIfInBounds_toArray, List.set_cons_zero, List.set_cons_succ, i64_w, i32_w]
                                rfl
                              refine pure_ (i := 4) (N := some 64) (v := ?_) (a' := ?_) #[true, false, true, true, true, false, false, false, false] rfl rfl (any_of HT_.out (by kernel_rfl)) (fun _ _ _ h => h) (Or.inl ⟨by rfl, ?_⟩) ?_ ?_
                              rotate_left
                              · intro w'
                                go_simp
                                with_reducible rfl
                              rotate_left
                              · simp only [Act.put, List.setIfInBounds_toArray, List.set_cons_zero, List.set_cons_succ, i64_w, i32_w]
                                rfl
                              refine take_ (i := 1) (N := some 61) (v := ?_) (a' := ?_) #[true, true, true, true, true, false, false, false, false] rfl rfl (take_ofW HT_.out HW_.out (by kernel_rfl)) (fun _ _ _ h => h) (Or.inl ⟨by rfl, ?_⟩) hHeld ?_ ?_
                              rotate_left
                              · rintro w' ⟨s0, s1, s2⟩
                                go_simp
                                with_reducible rfl
                              rotate_left
                              · simp only [Act.put, List.setIfInBounds_toArray, List.set_cons_zero, List.set_cons_succ, i64_w, i32_w]
                                rfl
                              refine take_ (i := 5) (N := some 65) (v := ?_) (a' := ?_) #[true, true, true, true, true, true, false, false, false] rfl rfl (take_ofW HT_.out HW_.out (by kernel_rfl)) (fun _ _ _ h => h) (Or.inl ⟨by rfl, ?_⟩) hHeld ?_ ?_
                              rotate_left
                              · rintro w' ⟨s0, s1, s2⟩
                                go_simp
                                with_reducible rfl
                              rotate_left
                              · simp only [Act.put, List.setIfInBounds_toArray, List.set_cons_zero, List.set_cons_succ, i64_w, i32_w]
                                rfl
                              refine one_ (i := 6) (N := some 66) #[true, true, true, true, true, true, true, false, false] rfl rfl (one_of HT_.out (by kernel_rfl)) (by decide) (fun K hK => ?_)
                              refine goes_ Try.func28 (by kernel_rfl) rfl #[.agg #[.slice Ao8 t310.length co8, .slice (some ad321) t313.length co10], .int .i64 (rd ((rd_T57 (rd_L6 t313 t316) x7_2).f2) x9_3)] (by rfl) rfl rfl (by (try simp only [List.map_toArray, List.map_cons, List.map_nil]); first | done | rfl | (simp only [List.length_drop, List.length_take]; rfl)) ?_
                              with_reducible refine (impl_ProgTree.calls k3 _ _ t310 _ _ t313 (rd ((rd_T57 (rd_L6 t313 t316) x7_2).f2) x9_3) t326 _ ?side1 ?side2 ?side3 ?side4 A29.out).mono ?_
                              (case side1 => repeat (first | exact (Kd.R_reads' HO_318000.out).2.2 | (with_reducible refine Kd.C_alloc ?_ _) | (with_reducible refine Kd.C_drewN ?_ _) | (with_reducible refine Kd.C_drew ?_)))
                              (case side2 => exact (Kd.R_reads' HO_318000.out).2.1)
                              (case side3 => repeat (first | exact (Kd.R_reads' HO_318001.out).2.2 | (with_reducible refine Kd.C_alloc ?_ _) | (with_reducible refine Kd.C_drewN ?_ _) | (with_reducible refine Kd.C_drew ?_)))
                              (case side4 => exact (Kd.R_reads' HO_318001.out).2.1)
                              rintro e w31 ⟨rfl, hb⟩
                              refine ⟨_, rfl, ?_⟩
                              have n0_ := Aside0.mk (Kd.R_below (by (with_reducible repeat (first | apply Kd.R_alloc | apply Kd.R_drewN | apply Kd.R_drew)); exact HO_318000.out) hb)
                              have n1_ := Aside0.mk (Kd.R_below (by (with_reducible repeat (first | apply Kd.R_alloc | apply Kd.R_drewN | apply Kd.R_drew)); exact HO_318001.out) hb)
                              have n2_ := Aside0.mk (blk_below (g := gb317) (o := .cells #[.slice Ao8 t310.length co8, .slice (some ad321) t313.length co10] 36 (0, 0)) (by (with_reducible repeat (first | refine blk_drewN ?_ _ | refine blk_drew ?_ | refine blk_alloc ?_ _)); exact BK317.out) hb)
                              have n3_ := Aside0.mk (Kd.C_below (by repeat (first | (with_reducible exact HR321_0.out) | (with_reducible refine Kd.C_alloc ?_ _) | (with_reducible refine Kd.C_drewN ?_ _) | (with_reducible refine Kd.C_drew ?_) | exact HR321_0.out)) hb)
                              have n4_ := Aside0.mk (Kd.C_below (by repeat (first | (with_reducible exact HR323_0.out) | (with_reducible refine Kd.C_alloc ?_ _) | (with_reducible refine Kd.C_drewN ?_ _) | (with_reducible refine Kd.C_drew ?_) | exact HR323_0.out)) hb)
                              have n5_ := Aside0.mk (Kd.C_below (by repeat (first | (with_reducible exact HR324_1.out) | (with_reducible refine Kd.C_alloc ?_ _) | (with_reducible refine Kd.C_drewN ?_ _) | (with_reducible refine Kd.C_drew ?_) | exact HR324_1.out)) hb)
                              have n6_ := Aside0.mk (Kd.C_below (by repeat (first | (with_reducible exact HR324_2.out) | (with_reducible refine Kd.C_alloc ?_ _) | (with_reducible refine Kd.C_drewN ?_ _) | (with_reducible refine Kd.C_drew ?_) | exact HR324_2.out)) hb)
                              have n7_ := Aside0.mk (below_step (by repeat (first | (with_reducible first | exact HB.out | apply below_alloc | apply pw_below_drewN | apply below_drew1 | refine below_set ?_ GE317.out) | exact HB.out)) hb)
                              clear HO_318000
                              clear HO_318001
                              clear BK317
                              clear HR321_0
                              clear HR323_0
                              clear HR324_1
                              clear HR324_2
                              clear HB
                              have HO_318000 := n0_
                              have HO_318001 := n1_
                              have BK317 := n2_
                              have HR321_0 := n3_
                              have HR323_0 := n4_
                              have HR324_1 := n5_
                              have HR324_2 := n6_
                              have HB := n7_
                              clear n0_ n1_ n2_ n3_ n4_ n5_ n6_ n7_
                              (try clear hb)
                              (try clear hb2)
                              (try clear hk)
                              (try clear hi)
                              refine hK.out _ _ ⟨(blk_cell BK317.out 0).trans rfl, (blk_cell BK317.out 1).trans rfl, (by obtain ⟨_, e_, h_⟩ := Kd.at_int HR324_2.out x9_3 (of_eq_true p325) (of_eq_true q325); cases e_; exact h_)⟩ (fun hHeld => ?_)
                              clear hK K
                              refine norm_ (a' := ?_) ?_ ?_
                              rotate_left
                              · show Act.put _ (some 66) _ = _
                                simp only [Act.put, List.setIfInBounds_toArray, List.set_cons_zero, List.set_cons_succ, i64_w, i32_w]
                                rfl
                              refine pure_ (i := 7) (N := some 67) (v := ?_) (a' := ?_) #[true, true, true, true, true, true, true, true, false] rfl rfl (any_of HT_.out (by kernel_rfl)) (fun _ _ _ h => h) (Or.inl ⟨by rfl, ?_⟩) ?_ ?_
                              rotate_left
                              · intro w'
                                go_simp
                                with_reducible rfl
                              rotate_left
                              · simp only [Act.put, List.setIfInBounds_toArray, List.set_cons_zero, List.set_cons_succ, i64_w, i32_w]
                                rfl
                              refine pure_ (i := 8) (N := some 6) (v := ?_) (a' := ?_) #[true, true, true, true, true, true, true, true, true] rfl rfl (any_of HT_.out (by kernel_rfl)) (fun _ _ _ h => h) (Or.inl ⟨by rfl, ?_⟩) ?_ ?_
                              rotate_left
                              · intro w'
                                go_simp
                                with_reducible rfl
                              rotate_left
                              · simp only [Act.put, List.setIfInBounds_toArray, List.set_cons_zero, List.set_cons_succ, i64_w, i32_w]
                                rfl
                              refine done_ (done_of HT_.out (by kernel_rfl)) ?_
                              try go_wp2
                              go_roundg k3
                              case measure => have := HJ4.out; have := HK2.out; have := HK3.out; omega
                              case rel => exact ⟨(wrap64 (x6_3 + t326)), (wrap64 (x9_3 + 1)), (by first | rfl | (simp; done) | (simp [*]; done)), (by first | rfl | (simp; done) | (simp [*]; done)), H', ⟨by have := HJ4.out; have := HK2.out; have := HK3.out; omega⟩, ⟨by (with_reducible repeat (first | apply Kd.R_alloc | apply Kd.R_drewN | apply Kd.R_drew)); exact HO_318000.out⟩, ⟨by (with_reducible repeat (first | apply Kd.R_alloc | apply Kd.R_drewN | apply Kd.R_drew)); exact HO_318001.out⟩, ⟨by (with_reducible repeat (first | refine blk_drewN ?_ _ | refine blk_drew ?_ | refine blk_alloc ?_ _)); exact BK317.out⟩, ⟨by repeat (first | (with_reducible exact HR321_0.out) | (with_reducible refine Kd.C_alloc ?_ _) | (with_reducible refine Kd.C_drewN ?_ _) | (with_reducible refine Kd.C_drew ?_) | exact HR321_0.out)⟩, ⟨by repeat (first | (with_reducible exact HR323_0.out) | (with_reducible refine Kd.C_alloc ?_ _) | (with_reducible refine Kd.C_drewN ?_ _) | (with_reducible refine Kd.C_drew ?_) | exact HR323_0.out)⟩, ⟨by repeat (first | (with_reducible exact HR324_1.out) | (with_reducible refine Kd.C_alloc ?_ _) | (with_reducible refine Kd.C_drewN ?_ _) | (with_reducible refine Kd.C_drew ?_) | exact HR324_1.out)⟩, ⟨by repeat (first | (with_reducible exact HR324_2.out) | (with_reducible refine Kd.C_alloc ?_ _) | (with_reducible refine Kd.C_drewN ?_ _) | (with_reducible refine Kd.C_drew ?_) | exact HR324_2.out)⟩, ⟨by repeat (first | (with_reducible first | exact HB.out | apply below_alloc | apply pw_below_drewN | apply below_drew1 | refine below_set ?_ GE317.out) | exact HB.out)⟩⟩
                            · rw [if_neg c28] at H
                              exact absurd H (by simp)
                          · rw [if_neg c27] at H
                            have c27b0 : decide (x9_3 < (((rd_T57 (rd_L6 t313 t316) x7_2).f2).length : Int)) = false := decide_eq_false c27
                            clear c27
                            have H' := Aside0.mk H
                            clear H
                            go_wp2
                            go_roundg k3
                            case measure => have := HJ4.out; have := HK2.out; have := HK3.out; omega
                            case rel => exact ⟨(x6_3), (wrap64 (x7_2 + 1)), (by first | rfl | (simp; done) | (simp [*]; done)), (by first | rfl | (simp; done) | (simp [*]; done)), H', ⟨by have := HJ4.out; have := HK2.out; have := HK3.out; omega⟩, ⟨by (with_reducible repeat (first | apply Kd.R_alloc | apply Kd.R_drewN | apply Kd.R_drew)); exact HO_318000.out⟩, ⟨by (with_reducible repeat (first | apply Kd.R_alloc | apply Kd.R_drewN | apply Kd.R_drew)); exact HO_318001.out⟩, ⟨by (with_reducible repeat (first | refine blk_drewN ?_ _ | refine blk_drew ?_ | refine blk_alloc ?_ _)); exact BK317.out⟩, ⟨by repeat (first | (with_reducible first | exact HB.out | apply below_alloc | apply pw_below_drewN | apply below_drew1 | refine below_set ?_ GE317.out) | exact HB.out)⟩⟩
                    · rw [if_neg c25] at H
                      exact absurd H (by simp)
                  · rw [if_neg c24] at H
                    have c24b0 : decide (x7_2 < ((rd_L6 t313 t316).length : Int)) = false := decide_eq_false c24
                    clear c24
                    by_cases c32 : t318 = x6_2
                    · rw [if_pos c32] at H
                      have c32b0 : (t318 == x6_2) = true := beq_iff_eq.mpr c32
                      have c32b1 : (t318 != x6_2) = false := bne_eq_false_iff_eq.mpr c32
                      clear c32
                      replace H := Option.bind_eq_some_iff.mp H
                      obtain ⟨t322, A330, H⟩ := H
                      replace H : (some (decide (t322 ≤ 7))) = some r := H
                      have A33 := Aside0.mk A330
                      clear A330
                      obtain rfl := Option.some.inj H
                      have hcz34_0 : wr.cell? ⟨gb317, 0, none⟩ = some (.slice Ao8 t310.length co8) := (blk_cell BK317.out 0).trans rfl
                      have hcz34_1 : wr.cell? ⟨gb317, 1, none⟩ = some (.slice Ao10 t313.length co10) := (blk_cell BK317.out 1).trans rfl
                      have hfz34_0 := blk_frozen BK317.out 0
                      have hfz34_1 := blk_frozen BK317.out 1
                      have p321 : 0 ≤ (t316 : Int) := of_decide_eq_true (by first | (with_reducible assumption) | assumption)
                      have q321 : t316 < (t313.length : Int) := of_decide_eq_true (by first | (with_reducible assumption) | assumption)
                      obtain ⟨ad321, A321_0, c321_0, e321, hx321_0, hl321_0, hi321_0⟩ := at_L6 (Kd.R_reads' HO_318001.out).2.2 t316 p321 q321
                      cases e321
                      obtain ⟨ce321, hce321, hMe321, hcc321⟩ := Kd.R_get HO_318001.out [] t316 p321 (by first | exact q321 | exact of_decide_eq_true (by first | (with_reducible assumption) | assumption) | (have e_ := (Kd.R_reads' HO_318001.out).1; omega))
                      obtain ⟨ve321_0, rfl, ge321_0⟩ := hMe321
                      have hv321_0 := hcc321 0 _ rfl
                      rw [Nat.add_zero, show ((Kd.slice 57 k57)).sz = 1 from rfl, Nat.mul_one] at hv321_0
                      replace hv321_0 := Option.some.inj (hv321_0.symm.trans hx321_0)
                      rw [hv321_0] at ge321_0
                      have HL321_0 := Aside0.mk (show Kd.R k57 57 _ _ _ _ (rd_L6 t313 t316) from ge321_0)
                      clear hv321_0 ge321_0
                      clear hcc321 hce321
                      have HR321_0 := Aside0.mk hi321_0
                      have HC321_0 := Aside0.mk hl321_0
                      clear hi321_0 hl321_0
                      replace p321 := eq_true p321
                      replace q321 := eq_true q321
                      go_wp2_with (first | (go_at_call 28; (with_reducible refine (impl_ProgTree.calls k2 _ _ t310 _ _ t313 0 t322 _ ?side1 ?side2 ?side3 ?side4 A33.out).mono ?_); (case side1 => repeat (first | exact (Kd.R_reads' HO_318000.out).2.2 | (with_reducible refine Kd.C_alloc ?_ _) | (with_reducible refine Kd.C_drewN ?_ _) | (with_reducible refine Kd.C_drew ?_))); (case side2 => exact (Kd.R_reads' HO_318000.out).2.1); (case side3 => repeat (first | exact (Kd.R_reads' HO_318001.out).2.2 | (with_reducible refine Kd.C_alloc ?_ _) | (with_reducible refine Kd.C_drewN ?_ _) | (with_reducible refine Kd.C_drew ?_))); (case side4 => exact (Kd.R_reads' HO_318001.out).2.1); rintro e w35 ⟨rfl, hb⟩; have n0_ := Aside0.mk (Kd.R_below (by (with_reducible repeat (first | apply Kd.R_alloc | apply Kd.R_drewN | apply Kd.R_drew)); exact HO_318000.out) hb); have n1_ := Aside0.mk (Kd.R_below (by (with_reducible repeat (first | apply Kd.R_alloc | apply Kd.R_drewN | apply Kd.R_drew)); exact HO_318001.out) hb); have n2_ := Aside0.mk (Kd.R_below (by (with_reducible repeat (first | apply Kd.R_alloc | apply Kd.R_drewN | apply Kd.R_drew)); exact HL321_0.out) hb); have n3_ := Aside0.mk (blk_below (g := gb317) (o := .cells #[.slice Ao8 t310.length co8, .slice (some ad321) t313.length co10] 36 (0, 0)) (by (with_reducible repeat (first | refine blk_drewN ?_ _ | refine blk_drew ?_ | refine blk_alloc ?_ _)); exact BK317.out) hb); have n4_ := Aside0.mk (Kd.C_below (by repeat (first | (with_reducible exact HR321_0.out) | (with_reducible refine Kd.C_alloc ?_ _) | (with_reducible refine Kd.C_drewN ?_ _) | (with_reducible refine Kd.C_drew ?_) | exact HR321_0.out)) hb); have n5_ := Aside0.mk (below_step (by repeat (first | (with_reducible first | exact HB.out | apply below_alloc | apply pw_below_drewN | apply below_drew1 | refine below_set ?_ GE317.out) | exact HB.out)) hb); clear HO_318000; clear HO_318001; clear HL321_0; clear BK317; clear HR321_0; clear HB; have HO_318000 := n0_; have HO_318001 := n1_; have HL321_0 := n2_; have BK317 := n3_; have HR321_0 := n4_; have HB := n5_; clear n0_ n1_ n2_ n3_ n4_ n5_; (try clear hb); (try clear hb2); (try clear hk); (try clear hi)))
                      go_ret
                      exact ⟨by first | rfl | (simp [errW_none, errW_some] <;> rfl) | (simp [*, errW_none, errW_some] <;> rfl), by repeat (first | (with_reducible first | exact HB.out | apply below_alloc | apply pw_below_drewN | apply below_drew1 | refine below_set ?_ GE317.out) | exact HB.out)⟩
                    · rw [if_neg c32] at H
                      have c32b0 : (t318 == x6_2) = false := beq_eq_false_iff_ne.mpr c32
                      have c32b1 : (t318 != x6_2) = true := bne_iff_ne.mpr c32
                      obtain rfl := Option.some.inj H
                      have hcz36_0 : wr.cell? ⟨gb317, 0, none⟩ = some (.slice Ao8 t310.length co8) := (blk_cell BK317.out 0).trans rfl
                      have hcz36_1 : wr.cell? ⟨gb317, 1, none⟩ = some (.slice Ao10 t313.length co10) := (blk_cell BK317.out 1).trans rfl
                      have hfz36_0 := blk_frozen BK317.out 0
                      have hfz36_1 := blk_frozen BK317.out 1
                      have p321 : 0 ≤ (t316 : Int) := of_decide_eq_true (by first | (with_reducible assumption) | assumption)
                      have q321 : t316 < (t313.length : Int) := of_decide_eq_true (by first | (with_reducible assumption) | assumption)
                      obtain ⟨ad321, A321_0, c321_0, e321, hx321_0, hl321_0, hi321_0⟩ := at_L6 (Kd.R_reads' HO_318001.out).2.2 t316 p321 q321
                      cases e321
                      obtain ⟨ce321, hce321, hMe321, hcc321⟩ := Kd.R_get HO_318001.out [] t316 p321 (by first | exact q321 | exact of_decide_eq_true (by first | (with_reducible assumption) | assumption) | (have e_ := (Kd.R_reads' HO_318001.out).1; omega))
                      obtain ⟨ve321_0, rfl, ge321_0⟩ := hMe321
                      have hv321_0 := hcc321 0 _ rfl
                      rw [Nat.add_zero, show ((Kd.slice 57 k57)).sz = 1 from rfl, Nat.mul_one] at hv321_0
                      replace hv321_0 := Option.some.inj (hv321_0.symm.trans hx321_0)
                      rw [hv321_0] at ge321_0
                      have HL321_0 := Aside0.mk (show Kd.R k57 57 _ _ _ _ (rd_L6 t313 t316) from ge321_0)
                      clear hv321_0 ge321_0
                      clear hcc321 hce321
                      have HR321_0 := Aside0.mk hi321_0
                      have HC321_0 := Aside0.mk hl321_0
                      clear hi321_0 hl321_0
                      replace p321 := eq_true p321
                      replace q321 := eq_true q321
                      go_wp2
                      go_ret
                      exact ⟨by first | rfl | (simp [errW_none, errW_some] <;> rfl) | (simp [*, errW_none, errW_some] <;> rfl), by repeat (first | (with_reducible first | exact HB.out | apply below_alloc | apply pw_below_drewN | apply below_drew1 | refine below_set ?_ GE317.out) | exact HB.out)⟩
                · rw [if_neg c23] at H
                  exact absurd H (by simp)
              · rw [if_neg c22] at H
                exact absurd H (by simp)
/-- THE ONE PURE STATEMENT of laws_FnProgTree: yours. -/
def laws_FnProgTree.Pure : Prop := ∀ (l0 : List Int), l0.length ≤ maxLen → l0.length * 1 ≤ 140737488351232 → (∀ x ∈ l0, (Lit.int .u8 x).wf = true) → ∃ k, laws_FnProgTree.f k l0 = some true
theorem laws_FnProgTree.walk (P : laws_FnProgTree.Pure) (a0 : Option Addr) (len0 cap0 : Nat) (z0 : List Int) (w : World) (w0 : (a0 = none ∧ len0 = 0 ∧ cap0 = 0 ∧ z0 = []) ∨ ∃ x, a0 = some x ∧ len0 ≤ cap0 ∧ cap0 ≤ maxLen ∧ z0.length = cap0 ∧ (∀ i, i < z0.length → w.cell? (x.add i) = some (.int .u8 (z0.getD i 0))) ∧ ∀ n ∈ z0, (Lit.int .u8 n).wf = true) (y0 : len0 * 1 ≤ 140737488351232) :
    Calls Try.prog 7 #[.slice a0 len0 cap0] w fun e w' => e = .returned (.bool true) ∧ Below w.heap.size w w' := by
  obtain ⟨l0, rfl, hr0, hm0, hw0, hc0⟩ := ReadsInt.ofRowC w0
  obtain ⟨k, h⟩ := P l0 hm0 y0 hw0
  refine (laws_FnProgTree.calls k _ _ l0 true w (Kd.C_of_reads (d := (0 : Int)) (h1 := fun _ => rfl) hr0) hc0 h).mono ?_
  rintro e w' ⟨rfl, hd⟩
  exact ⟨rfl, hd⟩
end Go.Proofs.Ytoeepmcaabmjkaa.QPM
namespace Go.Proofs.Ytoeepmcaabmjkaa.PProg
open Go.RowKit Go.Proofs.Ytoeepmcaabmjkaa.QPM Go.Proofs.YtoeepmcaabmjkaaW.PrintWords Go.Proofs.YtoeepmcaabmjkaaW.PrintLast
theorem w64 {i : Int} (h0 : -9223372036854775808 ≤ i) (h1 : i ≤ 9223372036854775807) : wrap64 i = i := by
  unfold wrap64
  omega
theorem down {P : Nat → Prop} {n : Nat} (he : P n) (hs : ∀ i, i < n → P (i + 1) → P i) : ∀ i, i ≤ n → P i := by
  intro i hi
  obtain ⟨d, hd⟩ : ∃ d, n = i + d := ⟨n - i, by omega⟩
  induction d generalizing i with
  | zero =>
    have : i = n := by omega
    rw [this]
    exact he
  | succ d ih => exact hs i (by omega) (ih (i + 1) (by omega) (by omega))
theorem ev_pos {α : Type} {c : Prop} [Decidable c] {f g : Nat → Option α} {r : α} (hc : c) (h : Ev f r) : Ev (fun n => if c then f n else g n) r := by
  simp only [if_pos hc]
  exact h
theorem ev_neg {α : Type} {c : Prop} [Decidable c] {f g : Nat → Option α} {r : α} (hc : ¬ c) (h : Ev g r) : Ev (fun n => if c then f n else g n) r := by
  simp only [if_neg hc]
  exact h
theorem rdI (l : List Int) (i : Nat) (hi : i < l.length) : rd l (i : Int) = l[i] := by
  simp [rd, List.getD, hi]
theorem rdAi (l : List S57) (i : Nat) (hi : i < l.length) : rd_T57 l (i : Int) = l[i] := by
  simp [rd_T57, List.getD, hi]
theorem rdBi (l : List (List S57)) (i : Nat) (hi : i < l.length) : rd_L6 l (i : Int) = l[i] := by
  simp [rd_L6, List.getD, hi]
end Go.Proofs.Ytoeepmcaabmjkaa.PProg
namespace Go.Proofs.Ytoeepmcaabmjkaa.PTree
open Go.RowKit Go.Proofs.Ytoeepmcaabmjkaa.QPM Go.Proofs.YtoeepmcaabmjkaaW.PrintWords Go.Proofs.YtoeepmcaabmjkaaW.PrintLast Go.Proofs.Ytoeepmcaabmjkaa.PProg
theorem rdD (l : List S122) (i : Nat) (hi : i < l.length) : rd_T122 l (i : Int) = l[i] := by
  simp [rd_T122, List.getD, hi]
def inB (x lo hi : Int) : Bool := decide (lo ≤ x) && decide (x ≤ hi)
theorem l6In_eq (x lo hi : Int) : spec_l6In.f x lo hi = some (inB x lo hi) := by
  unfold spec_l6In.f inB
  by_cases h : x ≥ lo
  · rw [if_pos h, decide_eq_true h, Bool.true_and]
  · rw [if_neg h, decide_eq_false h, Bool.false_and]
theorem isPlace_eq (x n : Int) : impl_isPlace.f x n = some (inB x 0 (n - 1)) := by
  unfold impl_isPlace.f inB
  by_cases h : 0 ≤ x
  · rw [if_pos h, decide_eq_true h, Bool.true_and]
    congr 1
    exact decide_eq_decide.2 (by omega)
  · rw [if_neg h, decide_eq_false h, Bool.false_and]
theorem isReg_eq (x : Int) : impl_isReg.f x = some (inB x 0 2) := by
  unfold impl_isReg.f
  rw [isPlace_eq]
  rfl
theorem isNum_eq (x : Int) : impl_isNum.f x = some (inB x 0 99) := by
  unfold impl_isNum.f
  rw [isPlace_eq]
  rfl
/-- Is a deed in form, if there are so many cells? -/
def deedB (k a b cells : Int) : Bool :=
  if k = 1 then inB a 0 2 && inB b 0 (cells - 1) else if k = 2 then inB a 0 (cells - 1) && inB b 0 2 else if k = 3 then inB a 0 2 && inB b 0 99
  else if k = 4 then inB a 0 2 && inB b 0 2 else if k = 5 then inB a 0 2 && (b == 0) else false
theorem some_and (p q : Bool) : (if p = true then some q else some false) = some (p && q) := by cases p <;> rfl
theorem l1Deed_eq (k a b c : Int) (h0 : 0 ≤ c) (h1 : c ≤ 3) : spec_l1Deed.f k a b c = some (deedB k a b c) := by
  unfold spec_l1Deed.f deedB
  simp only [l6In_eq, Option.bind_some, some_and, w64 (show -9223372036854775808 ≤ c - 1 by omega) (show c - 1 ≤ 9223372036854775807 by omega)]
  repeat' (first | rfl | split)
theorem deedOk_eq (k a b c : Int) : ((impl_partOfDeed.f k a b).bind fun t => impl_deedOk.f t c) = some (deedB k a b c) := by
  unfold impl_partOfDeed.f impl_deedOk.f deedB
  simp only [Option.bind_some, isReg_eq, isPlace_eq, isNum_eq, some_and]
  by_cases h1 : k = 1
  · subst h1; simp
  by_cases h2 : k = 2
  · subst h2; simp
  by_cases h3 : k = 3
  · subst h3; simp
  by_cases h4 : k = 4
  · subst h4; simp
  by_cases h5 : k = 5
  · subst h5
    by_cases h6 : b = 0
    · subst h6; simp
    · simp [h6]
  · simp [h1, h2, h3, h4, h5]
def dB (cells : Int) (d : S122) : Bool := deedB d.f0 d.f1 d.f2 cells
/-- Are deeds those of a change, if there are so many cells? -/
def okC (l : List S122) (cells : Int) : Bool := (inB cells 0 3 && decide (l.length ≤ 5)) && l.all (dB cells)
theorem implOk_ev (l : List S122) (cells : Int) (hl : l.length ≤ 9223372036854775806) : Ev (fun k => impl_ChangeOk.f k l cells) (okC l cells) := by
  have key : ∀ i, i ≤ l.length → Ev (fun k => impl_ChangeOk.l0 k cells l (l.length : Int) (i : Int)) ((l.drop i).all (dB cells)) := by
    refine down ?_ ?_
    · refine Ev.step (fun k => by rw [impl_ChangeOk.l0, if_neg (by omega)]) ?_
      rw [List.drop_length, List.all_nil]
      exact Ev.now _
    · intro i hi ih
      rw [List.drop_eq_getElem_cons hi, List.all_cons]
      have hd : ∀ (f : Bool → Option Bool), ((impl_partOfDeed.f l[i].f0 l[i].f1 l[i].f2).bind fun t => (impl_deedOk.f t cells).bind f) = f (dB cells l[i]) := by
        intro f
        have := deedOk_eq l[i].f0 l[i].f1 l[i].f2 cells
        unfold dB
        have e : ((impl_partOfDeed.f l[i].f0 l[i].f1 l[i].f2).bind fun t => (impl_deedOk.f t cells).bind f) = (((impl_partOfDeed.f l[i].f0 l[i].f1 l[i].f2).bind fun t => impl_deedOk.f t cells).bind f) := by rw [Option.bind_assoc]
        rw [e, this]
        rfl
      cases hb : dB cells l[i] with
      | true =>
        rw [Bool.true_and]
        refine Ev.step (fun k => ?_) ih
        rw [impl_ChangeOk.l0, if_pos (by omega), if_pos (by omega), if_pos (by omega), rdD l i hi, hd, hb, if_pos rfl, w64 (by omega) (by omega)]
        rfl
      | false =>
        rw [Bool.false_and]
        refine Ev.step (fun k => ?_) (Ev.now false)
        rw [impl_ChangeOk.l0, if_pos (by omega), if_pos (by omega), if_pos (by omega), rdD l i hi, hd, hb, if_neg Bool.false_ne_true]
  have k0 := key 0 (Nat.zero_le _)
  unfold impl_ChangeOk.f okC inB
  by_cases h0 : cells < 0
  · refine ev_pos h0 ?_
    rw [decide_eq_false (p := 0 ≤ cells) (by omega)]
    simp only [Bool.false_and]
    exact Ev.step (fun k => by rw [impl_ChangeOk.j0, if_pos rfl]) (Ev.now _)
  · refine ev_neg h0 ?_
    by_cases h1 : cells > 3
    · refine ev_pos h1 ?_
      rw [decide_eq_false (p := cells ≤ 3) (by omega)]
      simp only [Bool.and_false, Bool.false_and]
      exact Ev.step (fun k => by rw [impl_ChangeOk.j0, if_pos rfl]) (Ev.now _)
    · refine ev_neg h1 ?_
      rw [decide_eq_true (p := 0 ≤ cells) (by omega), decide_eq_true (p := cells ≤ 3) (by omega)]
      simp only [Bool.true_and]
      by_cases h2 : l.length ≤ 5
      · rw [decide_eq_true h2, Bool.true_and, decide_eq_false (p := (l.length : Int) > 5) (by omega)]
        exact Ev.step (fun k => by rw [impl_ChangeOk.j0, if_neg Bool.false_ne_true]; rfl) k0
      · rw [decide_eq_false h2, Bool.false_and, decide_eq_true (p := (l.length : Int) > 5) (by omega)]
        exact Ev.step (fun k => by rw [impl_ChangeOk.j0, if_pos rfl]) (Ev.now _)
theorem ev_eq {α : Type} {f : Nat → Option α} {r : α} (h : ∀ k, f k = some r) : Ev f r := Ev.congr (fun k => h k) (Ev.now r)
/-- Is an act of the body in form? -/
def actB (cells body bodies : Int) (a : S57) : Bool :=
  if a.f0 = 1 ∧ a.f2.length = 0 ∧ a.f3 = 0 then okC a.f1 cells
  else if a.f0 = 2 ∧ a.f1.length = 0 ∧ a.f3 = 0 then kidsOk a.f2 body bodies
  else if a.f0 = 3 ∧ a.f1.length = 0 ∧ a.f2.length = 0 ∧ a.f3 = 0 then true
  else if a.f0 = 4 ∧ a.f1.length = 0 ∧ a.f2.length = 0 then inB a.f3 0 2
  else false
theorem implAct_ev (cells body bodies : Int) (a : S57) (h1 : a.f1.length ≤ 1048576) : Ev (fun k => impl_actOk.f k a.f0 a.f1 a.f2 a.f3 cells body bodies) (actB cells body bodies a) := by
  unfold impl_actOk.f actB
  by_cases c1 : a.f0 = 1 ∧ a.f2.length = 0 ∧ a.f3 = 0
  · rw [if_pos c1]
    exact ev_pos c1 (implOk_ev _ _ (by omega))
  rw [if_neg c1]
  refine ev_neg c1 (ev_eq fun _ => ?_)
  by_cases c2 : a.f0 = 2 ∧ a.f1.length = 0 ∧ a.f3 = 0
  · rw [if_pos c2, if_pos c2]
  rw [if_neg c2, if_neg c2]
  by_cases c3 : a.f0 = 3 ∧ a.f1.length = 0 ∧ a.f2.length = 0 ∧ a.f3 = 0
  · rw [if_pos c3, if_pos c3]
  rw [if_neg c3, if_neg c3]
  by_cases c4 : a.f0 = 4 ∧ a.f1.length = 0 ∧ a.f2.length = 0
  · rw [if_pos c4, if_pos c4, isReg_eq]
  rw [if_neg c4, if_neg c4]
theorem specKids_ev (l : List Int) (body bodies : Int) (hl : l.length ≤ 1048576) (hb0 : 0 ≤ body) (hb1 : body ≤ 1048576) (hn0 : 0 ≤ bodies) (hn1 : bodies ≤ 1048576) : Ev (fun k => spec_l1Kids.f k l body bodies) (kidsOk l body bodies) := by
  have one : ∀ x : Int, inB x (body + 1) (bodies - 1) = kidOk body bodies x := by
    intro x
    unfold inB kidOk
    rw [Bool.eq_iff_iff]
    simp
    omega
  have key : ∀ i, i ≤ l.length → Ev (fun k => spec_l1Kids.l0 k l body bodies (i : Int)) ((l.drop i).all (kidOk body bodies) && (decide (1 ≤ l.length) && decide (l.length ≤ 2))) := by
    refine down ?_ ?_
    · rw [List.drop_length, List.all_nil, Bool.true_and]
      refine Ev.step (fun k => ?_) (Ev.now _)
      rw [spec_l1Kids.l0, if_neg (by omega), l6In_eq, Option.bind_some]
      unfold inB
      congr 1
      rw [Bool.eq_iff_iff]
      simp
      omega
    · intro i hi ih
      rw [List.drop_eq_getElem_cons hi, List.all_cons]
      cases hb : kidOk body bodies l[i] with
      | true =>
        rw [Bool.true_and]
        refine Ev.step (fun k => ?_) ih
        rw [spec_l1Kids.l0, if_pos (by omega), if_pos (by omega), rdI l i hi, w64 (i := body + 1) (by omega) (by omega), w64 (i := bodies - 1) (by omega) (by omega), l6In_eq, one, hb, Option.bind_some, if_pos rfl, w64 (by omega) (by omega)]
        rfl
      | false =>
        rw [Bool.false_and, Bool.false_and]
        refine Ev.step (fun k => ?_) (Ev.now false)
        rw [spec_l1Kids.l0, if_pos (by omega), if_pos (by omega), rdI l i hi, w64 (i := body + 1) (by omega) (by omega), w64 (i := bodies - 1) (by omega) (by omega), l6In_eq, one, hb, Option.bind_some, if_neg Bool.false_ne_true]
  have := key 0 (Nat.zero_le _)
  rw [List.drop_zero] at this
  exact this
theorem specDeeds_ev (l0 : List Int) (l1 : List (List S57)) (k0 : Int) (l : List S122) (l2 : List Int) (r : Int) (hl : l.length ≤ 1048576) (hc : l0.length ≤ 3) : Ev (fun k => spec_l1Act.l0 k 0 l0 l1 k0 l l2 r) (okC l (l0.length : Int)) := by
  have key : ∀ i, i ≤ l.length → Ev (fun k => spec_l1Act.l0 k (i : Int) l0 l1 k0 l l2 r) ((l.drop i).all (dB (l0.length : Int)) && decide (l.length ≤ 5)) := by
    refine down ?_ ?_
    · rw [List.drop_length, List.all_nil, Bool.true_and]
      refine Ev.step (fun k => ?_) (Ev.now _)
      rw [spec_l1Act.l0, if_neg (by omega)]
      congr 1
      exact decide_eq_decide.2 (by omega)
    · intro i hi ih
      rw [List.drop_eq_getElem_cons hi, List.all_cons]
      cases hb : dB (l0.length : Int) l[i] with
      | true =>
        rw [Bool.true_and]
        refine Ev.step (fun k => ?_) ih
        unfold dB at hb
        rw [spec_l1Act.l0, if_pos (by omega), if_pos (by omega), rdD l i hi, l1Deed_eq _ _ _ _ (by omega) (by omega), hb, Option.bind_some, if_pos rfl, w64 (by omega) (by omega)]
        rfl
      | false =>
        rw [Bool.false_and, Bool.false_and]
        refine Ev.step (fun k => ?_) (Ev.now false)
        unfold dB at hb
        rw [spec_l1Act.l0, if_pos (by omega), if_pos (by omega), rdD l i hi, l1Deed_eq _ _ _ _ (by omega) (by omega), hb, Option.bind_some, if_neg Bool.false_ne_true]
  have := key 0 (Nat.zero_le _)
  rw [List.drop_zero] at this
  have e : okC l (l0.length : Int) = (l.all (dB (l0.length : Int)) && decide (l.length ≤ 5)) := by
    unfold okC inB
    rw [decide_eq_true (p := 0 ≤ (l0.length : Int)) (by omega), decide_eq_true (p := (l0.length : Int) ≤ 3) (by omega), Bool.true_and, Bool.true_and, Bool.and_comm]
  rw [e]
  exact this
theorem specAct_ev (l0 : List Int) (l1 : List (List S57)) (body : Int) (a : S57) (hc : l0.length ≤ 3) (hn : l1.length ≤ 4) (hb0 : 0 ≤ body) (hb1 : body ≤ 4) (h1 : a.f1.length ≤ 1048576) (h2 : a.f2.length ≤ 1048576) :
    Ev (fun k => spec_l1Act.f k l0 l1 body a.f0 a.f1 a.f2 a.f3) (actB (l0.length : Int) body (l1.length : Int) a) := by
  obtain ⟨k0, d, m, r⟩ := a
  dsimp only at h1 h2 ⊢
  have bad : ∀ f : Nat → Option Bool, (∀ k, f k = spec_l1Act.j0 k body true l0 l1 k0 d m r) → Ev f false := fun f hf => Ev.congr hf (Ev.step (fun k => by rw [spec_l1Act.j0, if_pos rfl]) (Ev.now false))
  have good : ∀ (f : Nat → Option Bool) (z : Bool), (∀ k, f k = spec_l1Act.j0 k body false l0 l1 k0 d m r) → Ev (fun k => if k0 = 1 then (spec_l1Act.l0 k 0 l0 l1 k0 d m r) else (if k0 = 2 then ((spec_l1Kids.f k m body (l1.length : Int)).bind fun t125 => (some t125)) else (if k0 = 3 then (some true) else (if k0 = 4 then ((spec_l6In.f r 0 2).bind fun t126 => (some t126)) else (some false))))) z → Ev f z :=
    fun f z hf hz => Ev.congr hf (Ev.step (fun k => by rw [spec_l1Act.j0, if_neg Bool.false_ne_true]) hz)
  have e1 : ∀ l : List S122, ((l.length : Int) > 0) = (¬ l.length = 0) := fun l => propext (by omega)
  have e2 : ∀ l : List Int, ((l.length : Int) > 0) = (¬ l.length = 0) := fun l => propext (by omega)
  by_cases k1 : k0 = 1
  · subst k1
    by_cases c : m.length = 0
    · by_cases c' : r = 0
      · refine good _ _ (fun k => by unfold spec_l1Act.f; simp [c, c']) ?_
        have e : actB (l0.length : Int) body (l1.length : Int) ⟨1, d, m, r⟩ = okC d (l0.length : Int) := if_pos ⟨rfl, c, c'⟩
        rw [e]
        exact ev_pos rfl (specDeeds_ev _ _ _ _ _ _ h1 hc)
      · have : actB (l0.length : Int) body (l1.length : Int) ⟨1, d, m, r⟩ = false := by unfold actB; simp [c']
        rw [this]
        exact bad _ (fun k => by unfold spec_l1Act.f; simp [c, bne_iff_ne.2 c'])
    · have : actB (l0.length : Int) body (l1.length : Int) ⟨1, d, m, r⟩ = false := by unfold actB; simp; intro h; rw [h] at c; exact absurd rfl c
      rw [this]
      exact bad _ (fun k => by unfold spec_l1Act.f; simp only [e2, c]; simp)
  by_cases k2 : k0 = 2
  · subst k2
    by_cases c : d.length = 0
    · by_cases c' : r = 0
      · refine good _ _ (fun k => by unfold spec_l1Act.f; simp [c, c']) ?_
        have e : actB (l0.length : Int) body (l1.length : Int) ⟨2, d, m, r⟩ = kidsOk m body (l1.length : Int) := (if_neg (by dsimp only; omega)).trans (if_pos ⟨rfl, c, c'⟩)
        rw [e]
        exact ev_neg (by omega) (ev_pos rfl (Ev.bind (specKids_ev _ _ _ h2 hb0 (by omega) (by omega) (by omega)) (Ev.now _)))
      · have : actB (l0.length : Int) body (l1.length : Int) ⟨2, d, m, r⟩ = false := by unfold actB; simp [c']
        rw [this]
        exact bad _ (fun k => by unfold spec_l1Act.f; simp [c, bne_iff_ne.2 c'])
    · have : actB (l0.length : Int) body (l1.length : Int) ⟨2, d, m, r⟩ = false := by unfold actB; simp; intro h; rw [h] at c; exact absurd rfl c
      rw [this]
      exact bad _ (fun k => by unfold spec_l1Act.f; simp only [e1, c]; simp)
  by_cases cd : d.length = 0
  · by_cases cm : m.length = 0
    · by_cases k4 : k0 = 4
      · subst k4
        refine good _ _ (fun k => by unfold spec_l1Act.f; simp [cd, cm]) ?_
        have e : actB (l0.length : Int) body (l1.length : Int) ⟨4, d, m, r⟩ = inB r 0 2 := (if_neg (by dsimp only; omega)).trans ((if_neg (by dsimp only; omega)).trans ((if_neg (by dsimp only; omega)).trans (if_pos ⟨rfl, cd, cm⟩)))
        rw [e]
        exact ev_neg (by omega) (ev_neg (by omega) (ev_neg (by omega) (ev_pos rfl (ev_eq fun _ => by rw [l6In_eq]; rfl))))
      · by_cases c' : r = 0
        · refine good _ _ (fun k => by unfold spec_l1Act.f; simp [cd, cm, c', k1, k2, k4]) ?_
          refine ev_neg k1 (ev_neg k2 (ev_eq fun _ => ?_))
          by_cases k3 : k0 = 3
          · have e : actB (l0.length : Int) body (l1.length : Int) ⟨k0, d, m, r⟩ = true := (if_neg (by dsimp only; omega)).trans ((if_neg (by dsimp only; omega)).trans (if_pos ⟨k3, cd, cm, c'⟩))
            rw [e, if_pos k3]
          · have e : actB (l0.length : Int) body (l1.length : Int) ⟨k0, d, m, r⟩ = false := (if_neg (by dsimp only; omega)).trans ((if_neg (by dsimp only; omega)).trans ((if_neg (by dsimp only; omega)).trans (if_neg (by dsimp only; omega))))
            rw [e, if_neg k3, if_neg k4]
        · have : actB (l0.length : Int) body (l1.length : Int) ⟨k0, d, m, r⟩ = false := by
            unfold actB
            dsimp only
            rw [if_neg (by omega), if_neg (by omega), if_neg (by omega), if_neg (by omega)]
          rw [this]
          exact bad _ (fun k => by unfold spec_l1Act.f; simp [cd, cm, bne_iff_ne.2 c', k1, k2, k4])
    · have : actB (l0.length : Int) body (l1.length : Int) ⟨k0, d, m, r⟩ = false := by
        unfold actB
        dsimp only
        rw [if_neg (by omega), if_neg (by omega), if_neg (by omega), if_neg (by omega)]
      rw [this]
      exact bad _ (fun k => by unfold spec_l1Act.f; simp only [e2, cd, cm, k1, k2]; simp)
  · have : actB (l0.length : Int) body (l1.length : Int) ⟨k0, d, m, r⟩ = false := by
      unfold actB
      dsimp only
      rw [if_neg (by omega), if_neg (by omega), if_neg (by omega), if_neg (by omega)]
    rw [this]
    exact bad _ (fun k => by unfold spec_l1Act.f; simp only [e1, cd, k1]; simp)
/-- Are a body's acts in form? Are those of all bodies from the i-th on? -/
def bodyB (cells bodies : Int) (i : Nat) (l : List S57) : Bool := decide (l.length ≤ 4) && l.all (actB cells (i : Int) bodies)
def restB (cells bodies : Int) : Nat → List (List S57) → Bool
  | _, [] => true
  | i, l :: ls => bodyB cells bodies i l && restB cells bodies (i + 1) ls
def formB (l0 : List Int) (l1 : List (List S57)) : Bool :=
  (decide (l0.length ≤ 3) && decide (1 ≤ l1.length ∧ l1.length ≤ 4)) && (l0.all (fun x => inB x 0 99) && restB (l0.length : Int) (l1.length : Int) 0 l1)
def Small (l0 : List Int) (l1 : List (List S57)) : Prop := l0.length ≤ 1048576 ∧ l1.length ≤ 1048576 ∧ ∀ b ∈ l1, b.length ≤ 1048576 ∧ ∀ x ∈ b, x.f1.length ≤ 1048576 ∧ x.f2.length ≤ 1048576
theorem inner_ev (cells body bodies : Int) : ∀ l : List S57, (∀ x ∈ l, x.f1.length ≤ 1048576) → Ev (fun k => innerF k cells body bodies l) (l.all (actB cells body bodies))
  | [], _ => Ev.now true
  | a :: l, h => by
    simp only [innerF, List.all_cons]
    refine Ev.bind (implAct_ev cells body bodies a (h a List.mem_cons_self)) ?_
    cases actB cells body bodies a with
    | true =>
      rw [Bool.true_and]
      exact ev_pos rfl (inner_ev cells body bodies l (fun x hx => h x (List.mem_cons_of_mem _ hx)))
    | false => exact ev_neg Bool.false_ne_true (Ev.now _)
theorem outer_ev (cells bodies : Int) : ∀ (ls : List (List S57)) (i : Nat), (∀ b ∈ ls, ∀ x ∈ b, x.f1.length ≤ 1048576) → Ev (fun k => outerF k cells bodies i ls) (restB cells bodies i ls)
  | [], _, _ => Ev.now true
  | l :: ls, i, h => by
    simp only [outerF, restB, bodyB]
    by_cases c : l.length > 4
    · rw [decide_eq_false (by omega), Bool.false_and, Bool.false_and]
      exact ev_pos c (Ev.now _)
    · rw [decide_eq_true (by omega), Bool.true_and]
      refine ev_neg c (Ev.bind (inner_ev cells (i : Int) bodies l (h l List.mem_cons_self)) ?_)
      cases l.all (actB cells (i : Int) bodies) with
      | true =>
        rw [Bool.true_and]
        exact ev_pos rfl (outer_ev cells bodies ls (i + 1) (fun b hb => h b (List.mem_cons_of_mem _ hb)))
      | false => exact ev_neg Bool.false_ne_true (Ev.now _)
theorem allNums_ev (l : List Int) (hl : l.length ≤ 1048576) : Ev (fun k => impl_allNums.f k l) (l.all (fun x => inB x 0 99)) := by
  have key : ∀ i, i ≤ l.length → Ev (fun k => impl_allNums.l0 k l (l.length : Int) (i : Int)) ((l.drop i).all (fun x => inB x 0 99)) := by
    refine down ?_ ?_
    · rw [List.drop_length, List.all_nil]
      exact Ev.step (fun k => by rw [impl_allNums.l0, if_neg (by omega)]) (Ev.now _)
    · intro i hi ih
      rw [List.drop_eq_getElem_cons hi, List.all_cons]
      cases hb : inB l[i] 0 99 with
      | true =>
        rw [Bool.true_and]
        refine Ev.step (fun k => ?_) ih
        rw [impl_allNums.l0, if_pos (by omega), if_pos (by omega), if_pos (by omega), rdI l i hi, isNum_eq, hb, Option.bind_some, if_pos rfl, w64 (by omega) (by omega)]
        rfl
      | false =>
        rw [Bool.false_and]
        refine Ev.step (fun k => ?_) (Ev.now false)
        rw [impl_allNums.l0, if_pos (by omega), if_pos (by omega), if_pos (by omega), rdI l i hi, isNum_eq, hb, Option.bind_some, if_neg Bool.false_ne_true]
  have := key 0 (Nat.zero_le _)
  rw [List.drop_zero] at this
  exact this
theorem specForm_ev (l0 : List Int) (l1 : List (List S57)) (h : Small l0 l1) : Ev (fun k => spec_l1Form.f k l0 l1) (formB l0 l1) := by
  unfold spec_l1Form.f formB
  have bad : Ev (fun k => spec_l1Form.j0 k true l0 l1) false := Ev.step (fun k => by rw [spec_l1Form.j0, if_pos rfl]) (Ev.now false)
  by_cases c : l0.length ≤ 3
  · refine ev_neg (by omega) ?_
    rw [decide_eq_true c, Bool.true_and]
    simp only [l6In_eq, Option.bind_some]
    by_cases d : 1 ≤ l1.length ∧ l1.length ≤ 4
    · have e : inB (l1.length : Int) 1 4 = true := by unfold inB; rw [decide_eq_true (by omega), decide_eq_true (by omega)]; rfl
      rw [e, decide_eq_true d, Bool.true_and]
      refine Ev.step (fun k => by rw [Bool.not_true, spec_l1Form.j0, if_neg Bool.false_ne_true]) ?_
      have acts : ∀ i, (hi : i < l1.length) → l1[i].length ≤ 4 → ∀ R, Ev (fun k => spec_l1Form.l1 k ((i + 1 : Nat) : Int) l0 l1) R → ∀ j, j ≤ l1[i].length → Ev (fun k => spec_l1Form.l2 k (i : Int) (j : Int) l0 l1) ((l1[i].drop j).all (actB (l0.length : Int) (i : Int) (l1.length : Int)) && R) := by
        intro i hi hl R hR
        refine down ?_ ?_
        · rw [List.drop_length, List.all_nil, Bool.true_and]
          refine Ev.step (fun k => ?_) hR
          rw [spec_l1Form.l2, if_pos (by omega), if_pos (by omega), rdBi l1 i hi, if_neg (by omega), w64 (by omega) (by omega)]
          rfl
        · intro j hj ih
          rw [List.drop_eq_getElem_cons hj, List.all_cons]
          have sm := (h.2.2 l1[i] (List.getElem_mem hi)).2 l1[i][j] (List.getElem_mem hj)
          have ha := specAct_ev l0 l1 (i : Int) l1[i][j] c d.2 (by omega) (by omega) sm.1 sm.2
          refine Ev.step (fun k => by rw [spec_l1Form.l2, if_pos (by omega), if_pos (by omega), rdBi l1 i hi, if_pos (by omega), if_pos (by omega), rdAi _ j hj]) (Ev.bind ha ?_)
          cases actB (l0.length : Int) (i : Int) (l1.length : Int) l1[i][j] with
          | true =>
            rw [Bool.true_and]
            refine ev_pos rfl (Ev.congr (fun k => ?_) ih)
            rw [w64 (by omega) (by omega)]
            rfl
          | false =>
            rw [Bool.false_and, Bool.false_and]
            exact ev_neg Bool.false_ne_true (Ev.now _)
      have bods : ∀ i, i ≤ l1.length → Ev (fun k => spec_l1Form.l1 k (i : Int) l0 l1) (restB (l0.length : Int) (l1.length : Int) i (l1.drop i)) := by
        refine down ?_ ?_
        · have e : restB (l0.length : Int) (l1.length : Int) l1.length [] = true := by simp [restB]
          rw [List.drop_length, e]
          exact Ev.step (fun k => by rw [spec_l1Form.l1, if_neg (by omega)]) (Ev.now _)
        · intro i hi ih
          rw [List.drop_eq_getElem_cons hi]
          unfold restB bodyB
          by_cases q : l1[i].length ≤ 4
          · rw [decide_eq_true q, Bool.true_and]
            have := acts i hi q _ ih 0 (Nat.zero_le _)
            rw [List.drop_zero] at this
            refine Ev.step (fun k => ?_) this
            rw [spec_l1Form.l1, if_pos (by omega), if_pos (by omega), rdBi l1 i hi, if_neg (by omega)]
            rfl
          · rw [decide_eq_false q, Bool.false_and, Bool.false_and]
            refine Ev.step (fun k => ?_) (Ev.now false)
            rw [spec_l1Form.l1, if_pos (by omega), if_pos (by omega), rdBi l1 i hi, if_pos (by omega)]
      have key : ∀ i, i ≤ l0.length → Ev (fun k => spec_l1Form.l0 k (i : Int) l0 l1) ((l0.drop i).all (fun x => inB x 0 99) && restB (l0.length : Int) (l1.length : Int) 0 l1) := by
        refine down ?_ ?_
        · rw [List.drop_length, List.all_nil, Bool.true_and]
          have := bods 0 (Nat.zero_le _)
          rw [List.drop_zero] at this
          refine Ev.step (fun k => ?_) this
          rw [spec_l1Form.l0, if_neg (by omega)]
          rfl
        · intro i hi ih
          rw [List.drop_eq_getElem_cons hi, List.all_cons]
          cases hb : inB l0[i] 0 99 with
          | true =>
            rw [Bool.true_and]
            refine Ev.step (fun k => ?_) ih
            rw [spec_l1Form.l0, if_pos (by omega), if_pos (by omega), rdI l0 i hi, l6In_eq, hb, Option.bind_some, if_pos rfl, w64 (by omega) (by omega)]
            rfl
          | false =>
            rw [Bool.false_and, Bool.false_and]
            refine Ev.step (fun k => ?_) (Ev.now false)
            rw [spec_l1Form.l0, if_pos (by omega), if_pos (by omega), rdI l0 i hi, l6In_eq, hb, Option.bind_some, if_neg Bool.false_ne_true]
      have := key 0 (Nat.zero_le _)
      rw [List.drop_zero] at this
      exact this
    · have e : inB (l1.length : Int) 1 4 = false := by
        unfold inB
        rw [← Bool.not_eq_true, Bool.and_eq_true, decide_eq_true_iff, decide_eq_true_iff]
        omega
      rw [e, decide_eq_false d, Bool.false_and]
      exact bad
  · rw [decide_eq_false c, Bool.false_and, Bool.false_and]
    exact ev_pos (by omega) bad
/-- A body's kids, if all is in form: they stand behind it. -/
theorem rest_at {cells bodies : Int} : ∀ {ls : List (List S57)} {i : Nat}, restB cells bodies i ls = true → ∀ j (hj : j < ls.length), bodyB cells bodies (i + j) ls[j] = true
  | [], _, _, j, hj => absurd hj (by simp)
  | l :: ls, i, h, j, hj => by
    unfold restB at h
    rw [Bool.and_eq_true] at h
    match j, hj with
    | 0, _ => exact h.1
    | j + 1, hj =>
      have := rest_at h.2 j (by simp at hj; omega)
      rw [show i + 1 + j = i + (j + 1) by omega] at this
      exact this
theorem kids_behind {cells body bodies : Int} {a : S57} (h : actB cells body bodies a = true) : a.f2.length ≤ 2 ∧ ∀ x ∈ a.f2, body < x ∧ x < bodies := by
  unfold actB at h
  have z : a.f2.length = 0 → a.f2.length ≤ 2 ∧ ∀ x ∈ a.f2, body < x ∧ x < bodies := fun e => ⟨by omega, fun x hx => by rw [List.length_eq_zero_iff.1 e] at hx; cases hx⟩
  split at h
  · rename_i c; exact z c.2.1
  · split at h
    · unfold kidsOk at h
      rw [Bool.and_eq_true, List.all_eq_true, Bool.and_eq_true, decide_eq_true_iff, decide_eq_true_iff] at h
      refine ⟨h.2.2, fun x hx => ?_⟩
      have := h.1 x hx
      unfold kidOk at this
      simp at this
      omega
    · split at h
      · rename_i c; exact z c.2.2.1
      · split at h
        · rename_i c; exact z c.2.2
        · cases h
structure Form (l1 : List (List S57)) : Prop where
  few : 1 ≤ l1.length ∧ l1.length ≤ 4
  acts : ∀ b (hb : b < l1.length), l1[b].length ≤ 4
  kids : ∀ b (hb : b < l1.length), ∀ a ∈ l1[b], a.f2.length ≤ 2 ∧ ∀ x ∈ a.f2, (b : Int) < x ∧ x < (l1.length : Int)
theorem form_of {l0 : List Int} {l1 : List (List S57)} (h : formB l0 l1 = true) : Form l1 := by
  unfold formB at h
  rw [Bool.and_eq_true, Bool.and_eq_true, Bool.and_eq_true, decide_eq_true_iff, decide_eq_true_iff] at h
  have r := fun b hb => rest_at h.2.2 b hb
  refine ⟨h.1.2, fun b hb => ?_, fun b hb a ha => ?_⟩
  · have := r b hb
    unfold bodyB at this
    rw [Bool.and_eq_true, decide_eq_true_iff] at this
    exact this.1
  · have := r b hb
    unfold bodyB at this
    rw [Bool.and_eq_true, List.all_eq_true] at this
    have := kids_behind (this.2 a ha)
    rw [Nat.zero_add] at this
    exact this
/-- The tree of a body: both tell the same. -/
theorem tree_ev {l0 : List Int} {l1 : List (List S57)} (h : Form l1) : ∀ (d b : Nat), b < l1.length → l1.length ≤ b + d → ∃ T : Int, Ev (fun k => spec_l1Tree.f k l0 l1 (b : Int)) T ∧ Ev (fun k => impl_treeOf.f k l0 l1 (b : Int)) T
  | 0, b, hb, hd => absurd hb (by omega)
  | d + 1, b, hb, hd => by
    have hl := h.acts b hb
    have kid : ∀ x : Int, (b : Int) < x → x < (l1.length : Int) → ∃ T : Int, Ev (fun k => spec_l1Tree.f k l0 l1 x) T ∧ Ev (fun k => impl_treeOf.f k l0 l1 x) T := by
      intro x h0 h1
      have := tree_ev (l0 := l0) h d x.toNat (by omega) (by omega)
      rw [Int.toNat_of_nonneg (by omega)] at this
      exact this
    have acts : ∀ i, i ≤ l1[b].length → ∀ s : Int, ∃ T : Int, Ev (fun k => spec_l1Tree.l0 k (b : Int) s (i : Int) l0 l1) T ∧ Ev (fun k => impl_treeOf.l0 k s l1[b] (l1[b].length : Int) (i : Int) l0 l1) T := by
      refine down ?_ ?_
      · intro s
        refine ⟨s, Ev.step (fun k => ?_) (Ev.now _), Ev.step (fun k => ?_) (Ev.now _)⟩
        · rw [spec_l1Tree.l0, if_pos (by omega), if_pos (by omega), rdBi l1 b hb, if_neg (by omega)]
        · rw [impl_treeOf.l0, if_neg (by omega)]
      · intro i hi ih s
        obtain ⟨hk, hx⟩ := h.kids b hb l1[b][i] (List.getElem_mem hi)
        have inner : ∀ j, j ≤ l1[b][i].f2.length → ∀ s : Int, ∃ T : Int, Ev (fun k => spec_l1Tree.l1 k (b : Int) s (i : Int) l1[b][i].f2 (j : Int) l0 l1) T ∧ Ev (fun k => impl_treeOf.l1 k s l1[b] (l1[b].length : Int) (i : Int) l1[b][i].f2 (l1[b][i].f2.length : Int) (j : Int) l0 l1) T := by
          refine down ?_ ?_
          · intro s
            obtain ⟨T, t1, t2⟩ := ih s
            refine ⟨T, Ev.step (fun k => ?_) t1, Ev.step (fun k => ?_) t2⟩
            · rw [spec_l1Tree.l1, if_neg (by omega), w64 (by omega) (by omega)]
              rfl
            · rw [impl_treeOf.l1, if_neg (by omega), w64 (by omega) (by omega)]
              rfl
          · intro j hj ih2 s
            obtain ⟨q0, q1⟩ := hx _ (List.getElem_mem hj)
            obtain ⟨t, u1, u2⟩ := kid _ q0 q1
            obtain ⟨T, t1, t2⟩ := ih2 (wrap64 (s + t))
            refine ⟨T, Ev.step (fun k => by rw [spec_l1Tree.l1, if_pos (by omega), if_pos (by omega), rdI _ j hj]) (Ev.bind u1 (Ev.congr (fun k => ?_) t1)), Ev.step (fun k => by rw [impl_treeOf.l1, if_pos (by omega), if_pos (by omega), if_pos (by omega), rdI _ j hj]) (Ev.bind u2 (Ev.congr (fun k => ?_) t2))⟩
            · rw [w64 (i := (j : Int) + 1) (by omega) (by omega)]
              rfl
            · rw [w64 (i := (j : Int) + 1) (by omega) (by omega)]
              rfl
        obtain ⟨T, t1, t2⟩ := inner 0 (Nat.zero_le _) s
        refine ⟨T, Ev.step (fun k => ?_) t1, Ev.step (fun k => ?_) t2⟩
        · rw [spec_l1Tree.l0, if_pos (by omega), if_pos (by omega), rdBi l1 b hb, if_pos (by omega), if_pos (by omega), rdAi _ i hi]
          rfl
        · rw [impl_treeOf.l0, if_pos (by omega), if_pos (by omega), if_pos (by omega), rdAi _ i hi]
          rfl
    obtain ⟨T, t1, t2⟩ := acts 0 (Nat.zero_le _) 1
    refine ⟨T, Ev.step (fun k => ?_) t1, Ev.step (fun k => ?_) t2⟩
    · rw [spec_l1Tree.f]
      rfl
    · rw [impl_treeOf.f, if_pos (by omega), if_pos (by omega), rdBi l1 b hb]
      rfl
/-- Is a program one? Both tell the same; if it is one, it is in form. -/
theorem ok_ev (l0 : List Int) (l1 : List (List S57)) (h : Small l0 l1) : ∃ R : Bool, Ev (fun k => spec_ProgOk.f k l0 l1) R ∧ Ev (fun k => impl_ProgOk.f k l0 l1) R ∧ (R = true → formB l0 l1 = true) := by
  have sf := specForm_ev l0 l1 h
  cases hf : formB l0 l1 with
  | true =>
    rw [hf] at sf
    have fm := form_of hf
    obtain ⟨T, t1, t2⟩ := tree_ev (l0 := l0) fm 4 0 (by have := fm.few; omega) (by have := fm.few; omega)
    refine ⟨decide (T ≤ 7), ?_, ?_, fun _ => rfl⟩
    · unfold spec_ProgOk.f
      exact Ev.bind sf (ev_pos rfl (Ev.bind t1 (Ev.now _)))
    · unfold formB at hf
      rw [Bool.and_eq_true, Bool.and_eq_true, Bool.and_eq_true, decide_eq_true_iff, decide_eq_true_iff] at hf
      obtain ⟨⟨h3, h4⟩, h5, h6⟩ := hf
      have an := allNums_ev l0 h.1
      have ou := outer_ev (l0.length : Int) (l1.length : Int) l1 0 (fun b hb x hx => ((h.2.2 b hb).2 x hx).1)
      rw [h5] at an
      rw [h6] at ou
      unfold impl_ProgOk.f
      exact ev_neg (by omega) (Ev.bind an (ev_pos rfl (ev_neg (by omega) (Ev.bind ou (ev_pos rfl (Ev.bind t2 (Ev.now _)))))))
  | false =>
    rw [hf] at sf
    refine ⟨false, ?_, ?_, fun q => by cases q⟩
    · unfold spec_ProgOk.f
      exact Ev.bind sf (ev_neg Bool.false_ne_true (Ev.now _))
    · have an := allNums_ev l0 h.1
      have ou := outer_ev (l0.length : Int) (l1.length : Int) l1 0 (fun b hb x hx => ((h.2.2 b hb).2 x hx).1)
      unfold impl_ProgOk.f
      by_cases c : l0.length > 3
      · exact ev_pos c (Ev.now _)
      refine ev_neg c (Ev.bind an ?_)
      cases h5 : l0.all (fun x => inB x 0 99) with
      | false => exact ev_neg Bool.false_ne_true (Ev.now _)
      | true =>
        refine ev_pos rfl ?_
        by_cases c2 : l1.length < 1 ∨ 4 < l1.length
        · exact ev_pos c2 (Ev.now _)
        refine ev_neg c2 (Ev.bind ou ?_)
        cases h6 : restB (l0.length : Int) (l1.length : Int) 0 l1 with
        | false => exact ev_neg Bool.false_ne_true (Ev.now _)
        | true =>
          exfalso
          unfold formB at hf
          rw [h5, h6, decide_eq_true (show l0.length ≤ 3 by omega), decide_eq_true (show 1 ≤ l1.length ∧ l1.length ≤ 4 by omega)] at hf
          cases hf
end Go.Proofs.Ytoeepmcaabmjkaa.PTree
namespace Go.Proofs.Ytoeepmcaabmjkaa.PTau
open Go.RowKit Go.Proofs.Ytoeepmcaabmjkaa.QPM Go.Proofs.YtoeepmcaabmjkaaW.PrintWords Go.Proofs.YtoeepmcaabmjkaaW.PrintLast Go.Proofs.Ytoeepmcaabmjkaa.PProg Go.Proofs.Ytoeepmcaabmjkaa.PTree
theorem Ev_det {α : Type} {f : Nat → Option α} {a b : α} (h1 : Ev f a) (h2 : Ev f b) : a = b := by
  obtain ⟨n, h1⟩ := h1
  obtain ⟨m, h2⟩ := h2
  have e1 := h1 (max n m) (by omega)
  have e2 := h2 (max n m) (by omega)
  rw [e1] at e2
  injection e2
def tr (l1 : List (List S57)) : Nat → Int → Int
  | 0, _ => 0
  | d + 1, b => 1 + ((l1.getD b.toNat []).map (fun a => (a.f2.map (tr l1 d)).sum)).sum
theorem sum_nn {α : Type} {f : α → Int} : ∀ {l : List α}, (∀ x ∈ l, 0 ≤ f x) → 0 ≤ (l.map f).sum
  | [], _ => by simp
  | x :: l, h => by
    have h1 := h x (List.mem_cons_self)
    have h2 := sum_nn (l := l) (fun y hy => h y (List.mem_cons_of_mem _ hy))
    rw [List.map_cons, List.sum_cons]
    omega
theorem sum_le {α : Type} {f : α → Int} {c : Int} (hc : 0 ≤ c) : ∀ {l : List α}, (∀ x ∈ l, f x ≤ c) → (l.map f).sum ≤ l.length * c
  | [], _ => by simp
  | x :: l, h => by
    have h1 := h x (List.mem_cons_self)
    have h2 := sum_le hc (l := l) (fun y hy => h y (List.mem_cons_of_mem _ hy))
    rw [List.map_cons, List.sum_cons, List.length_cons]
    have : ((l.length + 1 : Nat) : Int) * c = l.length * c + c := by rw [Int.natCast_add, Int.add_mul]; simp
    omega
theorem tr_nn (l1 : List (List S57)) : ∀ d b, 0 ≤ tr l1 d b
  | 0, _ => by simp [tr]
  | d + 1, b => by
    have : 0 ≤ ((l1.getD b.toNat []).map (fun a => (a.f2.map (tr l1 d)).sum)).sum := sum_nn (fun a _ => sum_nn (fun x _ => tr_nn l1 d x))
    rw [tr]
    omega
theorem getD_at {α : Type} {l : List α} {z : α} {i : Nat} (h : i < l.length) : l.getD i z = l[i] := by
  rw [List.getD_eq_getElem?_getD, List.getElem?_eq_getElem h]
  rfl
/-- A body is few tasks. -/
theorem tr_le {l1 : List (List S57)} (h : PTree.Form l1) : ∀ (d : Nat) (b : Int), 0 ≤ b → b < l1.length → tr l1 d b ≤ 9 ^ d
  | 0, _, _, _ => by simp [tr]
  | d + 1, b, h0, h1 => by
    have hb : b.toNat < l1.length := by omega
    have hp : (0 : Int) ≤ 9 ^ d := Int.pow_nonneg (by decide)
    have hl := h.acts b.toNat hb
    have k1 : ((l1[b.toNat]).map (fun a => (a.f2.map (tr l1 d)).sum)).sum ≤ (l1[b.toNat]).length * (2 * 9 ^ d) := by
      refine sum_le (by omega) (fun a ha => ?_)
      obtain ⟨g1, g2⟩ := h.kids b.toNat hb a ha
      have := sum_le (f := tr l1 d) hp (l := a.f2) (fun x hx => tr_le h d x (by have := (g2 x hx).1; omega) (g2 x hx).2)
      have k2 : (a.f2.length : Int) * 9 ^ d ≤ 2 * 9 ^ d := Int.mul_le_mul_of_nonneg_right (by omega) hp
      omega
    have k3 : ((l1[b.toNat]).length : Int) * (2 * 9 ^ d) ≤ 4 * (2 * 9 ^ d) := Int.mul_le_mul_of_nonneg_right (by omega) (by omega)
    have hq : (0 : Int) < 9 ^ d := Int.pow_pos (by decide)
    rw [tr, getD_at hb, Int.pow_succ]
    omega
/-- The tree of a body, as a number: both tell it. -/
theorem tau_ev {l0 : List Int} {l1 : List (List S57)} (h : PTree.Form l1) : ∀ (d b : Nat), d ≤ 4 → b < l1.length → l1.length ≤ b + d → Ev (fun k => spec_l1Tree.f k l0 l1 (b : Int)) (tr l1 d b) ∧ Ev (fun k => impl_treeOf.f k l0 l1 (b : Int)) (tr l1 d b)
  | 0, b, _, hb, hd => absurd hb (by omega)
  | d + 1, b, h4, hb, hd => by
    have hl := h.acts b hb
    have kid : ∀ x : Int, (b : Int) < x → x < (l1.length : Int) → Ev (fun k => spec_l1Tree.f k l0 l1 x) (tr l1 d x) ∧ Ev (fun k => impl_treeOf.f k l0 l1 x) (tr l1 d x) := by
      intro x h0 h1
      have := tau_ev (l0 := l0) h d x.toNat (by omega) (by omega) (by omega)
      rw [Int.toNat_of_nonneg (by omega)] at this
      exact this
    have gnn : ∀ a : S57, 0 ≤ (a.f2.map (tr l1 d)).sum := fun a => sum_nn (fun x _ => tr_nn l1 d x)
    have acts : ∀ i, i ≤ l1[b].length → ∀ s : Int, 0 ≤ s → s + ((l1[b].drop i).map (fun a => (a.f2.map (tr l1 d)).sum)).sum ≤ 1000000 →
        Ev (fun k => spec_l1Tree.l0 k (b : Int) s (i : Int) l0 l1) (s + ((l1[b].drop i).map (fun a => (a.f2.map (tr l1 d)).sum)).sum) ∧ Ev (fun k => impl_treeOf.l0 k s l1[b] (l1[b].length : Int) (i : Int) l0 l1) (s + ((l1[b].drop i).map (fun a => (a.f2.map (tr l1 d)).sum)).sum) := by
      refine down ?_ ?_
      · intro s _ _
        rw [List.drop_length, List.map_nil, List.sum_nil, Int.add_zero]
        refine ⟨Ev.step (fun k => ?_) (Ev.now _), Ev.step (fun k => ?_) (Ev.now _)⟩
        · rw [spec_l1Tree.l0, if_pos (by omega), if_pos (by omega), rdBi l1 b hb, if_neg (by omega)]
        · rw [impl_treeOf.l0, if_neg (by omega)]
      · intro i hi ih s s0 s1
        obtain ⟨hk, hx⟩ := h.kids b hb l1[b][i] (List.getElem_mem hi)
        rw [List.drop_eq_getElem_cons hi, List.map_cons, List.sum_cons] at s1 ⊢
        have rn : 0 ≤ ((l1[b].drop (i + 1)).map (fun a => (a.f2.map (tr l1 d)).sum)).sum := sum_nn (fun a _ => gnn a)
        have inner : ∀ j, j ≤ l1[b][i].f2.length → ∀ s : Int, 0 ≤ s → s + ((l1[b][i].f2.drop j).map (tr l1 d)).sum + ((l1[b].drop (i + 1)).map (fun a => (a.f2.map (tr l1 d)).sum)).sum ≤ 1000000 →
            Ev (fun k => spec_l1Tree.l1 k (b : Int) s (i : Int) l1[b][i].f2 (j : Int) l0 l1) (s + ((l1[b][i].f2.drop j).map (tr l1 d)).sum + ((l1[b].drop (i + 1)).map (fun a => (a.f2.map (tr l1 d)).sum)).sum) ∧
            Ev (fun k => impl_treeOf.l1 k s l1[b] (l1[b].length : Int) (i : Int) l1[b][i].f2 (l1[b][i].f2.length : Int) (j : Int) l0 l1) (s + ((l1[b][i].f2.drop j).map (tr l1 d)).sum + ((l1[b].drop (i + 1)).map (fun a => (a.f2.map (tr l1 d)).sum)).sum) := by
          refine down ?_ ?_
          · intro s s0 s1
            rw [List.drop_length, List.map_nil, List.sum_nil, Int.add_zero] at s1 ⊢
            obtain ⟨t1, t2⟩ := ih s s0 s1
            refine ⟨Ev.step (fun k => ?_) t1, Ev.step (fun k => ?_) t2⟩
            · rw [spec_l1Tree.l1, if_neg (by omega), w64 (by omega) (by omega)]
              rfl
            · rw [impl_treeOf.l1, if_neg (by omega), w64 (by omega) (by omega)]
              rfl
          · intro j hj ih2 s s0 s1
            rw [List.drop_eq_getElem_cons hj, List.map_cons, List.sum_cons] at s1 ⊢
            have kn : 0 ≤ ((l1[b][i].f2.drop (j + 1)).map (tr l1 d)).sum := sum_nn (fun x _ => tr_nn l1 d x)
            have tn := tr_nn l1 d (l1[b][i].f2[j])
            obtain ⟨q0, q1⟩ := hx _ (List.getElem_mem hj)
            obtain ⟨u1, u2⟩ := kid _ q0 q1
            have ew : wrap64 (s + tr l1 d l1[b][i].f2[j]) = s + tr l1 d l1[b][i].f2[j] := w64 (by omega) (by omega)
            obtain ⟨t1, t2⟩ := ih2 (s + tr l1 d l1[b][i].f2[j]) (by omega) (by omega)
            rw [show s + (tr l1 d l1[b][i].f2[j] + ((l1[b][i].f2.drop (j + 1)).map (tr l1 d)).sum) = s + tr l1 d l1[b][i].f2[j] + ((l1[b][i].f2.drop (j + 1)).map (tr l1 d)).sum by omega]
            refine ⟨Ev.step (fun k => by rw [spec_l1Tree.l1, if_pos (by omega), if_pos (by omega), rdI _ j hj]) (Ev.bind u1 (Ev.congr (fun k => ?_) t1)), Ev.step (fun k => by rw [impl_treeOf.l1, if_pos (by omega), if_pos (by omega), if_pos (by omega), rdI _ j hj]) (Ev.bind u2 (Ev.congr (fun k => ?_) t2))⟩
            · rw [w64 (i := (j : Int) + 1) (by omega) (by omega), ew]
              rfl
            · rw [w64 (i := (j : Int) + 1) (by omega) (by omega), ew]
              rfl
        obtain ⟨t1, t2⟩ := inner 0 (Nat.zero_le _) s s0 (by rw [List.drop_zero]; omega)
        rw [List.drop_zero, Int.add_assoc] at t1 t2
        refine ⟨Ev.step (fun k => ?_) t1, Ev.step (fun k => ?_) t2⟩
        · rw [spec_l1Tree.l0, if_pos (by omega), if_pos (by omega), rdBi l1 b hb, if_pos (by omega), if_pos (by omega), rdAi _ i hi]
          rfl
        · rw [impl_treeOf.l0, if_pos (by omega), if_pos (by omega), if_pos (by omega), rdAi _ i hi]
          rfl
    have bd := tr_le h (d + 1) (b : Int) (by omega) (by omega)
    have p9 : (9 : Int) ^ (d + 1) ≤ 6561 := by
      have : d = 0 ∨ d = 1 ∨ d = 2 ∨ d = 3 := by omega
      rcases this with rfl | rfl | rfl | rfl <;> decide
    have et : tr l1 (d + 1) (b : Int) = 1 + ((l1[b].drop 0).map (fun a => (a.f2.map (tr l1 d)).sum)).sum := by
      rw [tr, Int.toNat_natCast, getD_at hb, List.drop_zero]
    rw [et] at bd ⊢
    obtain ⟨t1, t2⟩ := acts 0 (Nat.zero_le _) 1 (by decide) (by omega)
    refine ⟨Ev.step (fun k => ?_) t1, Ev.step (fun k => ?_) t2⟩
    · rw [spec_l1Tree.f]
      rfl
    · rw [impl_treeOf.f, if_pos (by omega), if_pos (by omega), rdBi l1 b hb]
      rfl
/-- How many tasks body b may be. -/
def tau (l1 : List (List S57)) (b : Int) : Int := tr l1 4 b
theorem tau_at {l0 : List Int} {l1 : List (List S57)} (h : PTree.Form l1) (b : Int) (h0 : 0 ≤ b) (h1 : b < l1.length) : Ev (fun k => spec_l1Tree.f k l0 l1 b) (tau l1 b) ∧ Ev (fun k => impl_treeOf.f k l0 l1 b) (tau l1 b) := by
  have := tau_ev (l0 := l0) h 4 b.toNat (Nat.le_refl _) (by omega) (by have := h.few; omega)
  rw [Int.toNat_of_nonneg h0] at this
  exact this
theorem tau_kid {l1 : List (List S57)} (h : PTree.Form l1) (x : Int) (h0 : 1 ≤ x) (h1 : x < l1.length) : tr l1 3 x = tau l1 x := by
  have k1 := (tau_ev (l0 := []) h 3 x.toNat (by omega) (by omega) (by have := h.few; omega)).1
  rw [Int.toNat_of_nonneg (by omega)] at k1
  exact Ev_det k1 (tau_at (l0 := []) h x (by omega) h1).1
theorem tau_nn (l1 : List (List S57)) (b : Int) : 0 ≤ tau l1 b := tr_nn l1 4 b
theorem tau_le {l1 : List (List S57)} (h : PTree.Form l1) (b : Int) (h0 : 0 ≤ b) (h1 : b < l1.length) : tau l1 b ≤ 6561 := tr_le h 4 b h0 h1
/-- One, and what it begins. -/
theorem tau_eq {l1 : List (List S57)} (h : PTree.Form l1) (b : Nat) (hb : b < l1.length) : tau l1 b = 1 + (l1[b].map (fun a => (a.f2.map (tau l1)).sum)).sum := by
  have e : l1[b].map (fun a => (a.f2.map (tr l1 3)).sum) = l1[b].map (fun a => (a.f2.map (tau l1)).sum) := by
    refine List.map_congr_left (fun a ha => ?_)
    obtain ⟨_, g2⟩ := h.kids b hb a ha
    rw [List.map_congr_left (fun x hx => tau_kid h x (by have := (g2 x hx).1; omega) (g2 x hx).2)]
  show tr l1 4 (b : Int) = _
  rw [tr, Int.toNat_natCast, getD_at hb, e]
/-- Is a program one? Both tell the same; one is in form, and its first body is few tasks. -/
theorem ok_tau (l0 : List Int) (l1 : List (List S57)) (h : Small l0 l1) : ∃ R : Bool, Ev (fun k => spec_ProgOk.f k l0 l1) R ∧ Ev (fun k => impl_ProgOk.f k l0 l1) R ∧ (R = true → formB l0 l1 = true ∧ PTree.Form l1 ∧ tau l1 0 ≤ 7) := by
  obtain ⟨R, r1, r2, r3⟩ := ok_ev l0 l1 h
  refine ⟨R, r1, r2, fun hR => ⟨r3 hR, form_of (r3 hR), ?_⟩⟩
  have fm := form_of (r3 hR)
  have sf := specForm_ev l0 l1 h
  rw [r3 hR] at sf
  have t0 := (tau_at (l0 := l0) fm 0 (by decide) (by have := fm.few; omega)).1
  have r4 : Ev (fun k => spec_ProgOk.f k l0 l1) (decide (tau l1 0 ≤ 7)) := by
    unfold spec_ProgOk.f
    exact Ev.bind sf (ev_pos rfl (Ev.bind t0 (Ev.now _)))
  have := Ev_det r1 r4
  rw [hR] at this
  exact of_decide_eq_true this.symm
end Go.Proofs.Ytoeepmcaabmjkaa.PTau
namespace Go.Proofs.Ytoeepmcaabmjkaa.PDraw
open Go.RowKit Go.Proofs.Ytoeepmcaabmjkaa.QPM Go.Proofs.YtoeepmcaabmjkaaW.PrintWords Go.Proofs.YtoeepmcaabmjkaaW.PrintLast Go.Proofs.Ytoeepmcaabmjkaa.PProg
theorem i64_xor (a b : Int) (h1 : 0 ≤ a) (h2 : a < 9223372036854775808) (h3 : 0 ≤ b) (h4 : b < 9223372036854775808) : 0 ≤ Go.bits .xor .i64 a b := by
  obtain ⟨A, rfl⟩ := Int.eq_ofNat_of_zero_le h1
  obtain ⟨B, rfl⟩ := Int.eq_ofNat_of_zero_le h3
  have hx : A ^^^ B < 2 ^ 63 := Nat.xor_lt_two_pow (by omega) (by omega)
  show (0 : Int) ≤ IntKind.i64.wrap ((BitVec.ofInt 64 (A : Int) ^^^ BitVec.ofInt 64 (B : Int)).toNat : Int)
  rw [BitVec.toNat_xor, ofInt_u64 A (by omega), ofInt_u64 B (by omega)]
  simp [IntKind.wrap, IntKind.bits, IntKind.signed]
  omega
theorem tmod_in {a n : Int} (ha : 0 ≤ a) (hn : 1 ≤ n) : 0 ≤ Int.tmod a n ∧ Int.tmod a n < n :=
  ⟨Int.tmod_nonneg n ha, Int.tmod_lt_of_pos a (by omega)⟩
def Bytes (b : List Int) : Prop := ∀ x ∈ b, 0 ≤ x ∧ x ≤ 255
theorem rd_byte {b : List Int} (hb : Bytes b) (i : Int) : 0 ≤ rd b i ∧ rd b i ≤ 255 := by
  unfold rd
  rw [List.getD_eq_getElem?_getD]
  cases h : b[i.toNat]? with
  | none => simp
  | some x => exact hb x (List.mem_of_getElem? h)
theorem pick_ev (b : List Int) (hb : Bytes b) (hl : b.length ≤ 2000) (n p : Int) (hp : 0 ≤ p) (hp' : p ≤ 1000000) (hn : n ≤ 1000000000) :
    ∃ r, Ev (fun k => spec_l6Rd_pick.f k b p n) (r, p + 1) ∧ 0 ≤ r ∧ (1 ≤ n → r < n) ∧ (n < 1 → r = 0) := by
  have e1 : wrap64 (p + 1) = p + 1 := w64 (by omega) (by omega)
  have e0 : wrap64 (p + 1 - 1) = p := by rw [show p + 1 - 1 = p by omega]; exact w64 (by omega) (by omega)
  by_cases h1 : n < 1
  · refine ⟨0, ?_, by omega, by omega, fun _ => rfl⟩
    unfold spec_l6Rd_pick.f
    refine ev_pos h1 (Ev.step (fun k => ?_) (Ev.now _))
    rw [spec_l6Rd_pick.j0, if_pos rfl, e1]
  · by_cases h2 : b.length = 0
    · refine ⟨0, ?_, by omega, by omega, fun _ => rfl⟩
      unfold spec_l6Rd_pick.f
      refine ev_neg h1 (Ev.step (fun k => ?_) (Ev.now _))
      rw [spec_l6Rd_pick.j0, if_pos (by simp [h2]), e1]
    · have hne : ((b.length : Int) == 0) = false := by simp; intro h; exact h2 (by simp [h])
      by_cases h3 : p < (b.length : Int)
      · have hr := rd_byte hb p
        have hw : wrap64 (rd b p) = rd b p := w64 (by omega) (by omega)
        refine ⟨Int.tmod (rd b p) n, ?_, (tmod_in hr.1 (by omega)).1, fun _ => (tmod_in hr.1 (by omega)).2, by omega⟩
        unfold spec_l6Rd_pick.f
        refine ev_neg h1 (Ev.step (fun k => ?_) (Ev.now _))
        rw [spec_l6Rd_pick.j0, hne, if_neg Bool.false_ne_true, e1, e0, if_pos h3, if_pos hp, if_neg (by omega), hw]
      · have hL : 1 ≤ (b.length : Int) := by omega
        have m1 := tmod_in (a := p) hp hL
        have e7 : wrap64 (p * 7) = p * 7 := w64 (by omega) (by omega)
        have e73 : wrap64 (p * 7 + 3) = p * 7 + 3 := w64 (by omega) (by omega)
        have m2 := tmod_in (a := p * 7 + 3) (by omega) hL
        have r1 := rd_byte hb (Int.tmod p (b.length : Int))
        have r2 := rd_byte hb (Int.tmod (p * 7 + 3) (b.length : Int))
        generalize hA : rd b (Int.tmod p (b.length : Int)) = A at r1
        generalize hB : rd b (Int.tmod (p * 7 + 3) (b.length : Int)) = B at r2
        have q1 : 0 ≤ Int.tdiv p (b.length : Int) := Int.tdiv_nonneg hp (by omega)
        have q2 : Int.tdiv p (b.length : Int) ≤ p := by
          rw [Int.tdiv_eq_ediv_of_nonneg hp]
          exact Int.ediv_le_self _ hp
        generalize hQ : Int.tdiv p (b.length : Int) = Q at q1 q2
        have eX : wrap64 ((wrap64 ((wrap64 ((wrap64 ((wrap64 A) * 131)) + (wrap64 ((wrap64 B) * 1117)))) + (wrap64 (p * 29)))) + (wrap64 ((wrap64 Q) * 53))) = A * 131 + B * 1117 + p * 29 + Q * 53 := by
          rw [w64 (i := A) (by omega) (by omega), w64 (i := B) (by omega) (by omega), w64 (i := Q) (by omega) (by omega), w64 (i := A * 131) (by omega) (by omega),
            w64 (i := B * 1117) (by omega) (by omega), w64 (i := A * 131 + B * 1117) (by omega) (by omega), w64 (i := p * 29) (by omega) (by omega), w64 (i := A * 131 + B * 1117 + p * 29) (by omega) (by omega),
            w64 (i := Q * 53) (by omega) (by omega), w64 (by omega) (by omega)]
        have t1 : 0 ≤ Int.tdiv (A * 131 + B * 1117 + p * 29 + Q * 53) 64 := Int.tdiv_nonneg (by omega) (by omega)
        have t2 : Int.tdiv (A * 131 + B * 1117 + p * 29 + Q * 53) 64 ≤ A * 131 + B * 1117 + p * 29 + Q * 53 := by
          rw [Int.tdiv_eq_ediv_of_nonneg (by omega)]
          exact Int.ediv_le_self _ (by omega)
        generalize hT : Int.tdiv (A * 131 + B * 1117 + p * 29 + Q * 53) 64 = T at t1 t2
        have hx := i64_xor (A * 131 + B * 1117 + p * 29 + Q * 53) T (by omega) (by omega) t1 (by omega)
        generalize hX : Go.bits .xor .i64 (A * 131 + B * 1117 + p * 29 + Q * 53) T = X at hx
        refine ⟨Int.tmod X n, ?_, (tmod_in hx (by omega)).1, fun _ => (tmod_in hx (by omega)).2, by omega⟩
        unfold spec_l6Rd_pick.f
        refine ev_neg h1 (Ev.step (fun k => ?_) (Ev.now _))
        rw [spec_l6Rd_pick.j0, hne, if_neg Bool.false_ne_true, e1, e0, if_neg h3, if_neg (by omega), if_pos m1.1, if_pos m1.2, e7, e73, if_pos m2.1, if_pos m2.2, if_neg (by omega), hA, hB, hQ, eX, hT,
          w64 (i := T) (by omega) (by omega), hX]
theorem open_ev (l : List Int) (hl : ∀ x ∈ l, (Lit.int .u8 x).wf = true) : ∃ b, spec_l6Open.f l = some (b, 0) ∧ Bytes b ∧ b.length ≤ 2000 := by
  have hb : Bytes l := by
    intro x hx
    have := hl x hx
    simp [Lit.wf, IntKind.min, IntKind.max, IntKind.bits, IntKind.signed] at this
    omega
  unfold spec_l6Open.f
  by_cases h : (l.length : Int) > 2000
  · rw [if_pos h, if_pos (by omega)]
    exact ⟨_, rfl, fun x hx => hb x (List.mem_of_mem_take hx), by rw [List.length_take]; omega⟩
  · rw [if_neg h]
    exact ⟨l, rfl, hb, by omega⟩
/-- A drawn deed: whatever it is, drawing it takes at most three picks. -/
theorem l71Deed_ev (b : List Int) (hb : Bytes b) (hl : b.length ≤ 2000) (n p : Int) (hp : 0 ≤ p) (hp' : p ≤ 100000) (hn : n ≤ 1000000000) :
    ∃ r : Int × Int × Int × Int, Ev (fun k => spec_l71Deed.f k b p n) r ∧ p ≤ r.2.2.2 ∧ r.2.2.2 ≤ p + 3 := by
  unfold spec_l71Deed.f
  by_cases h : n = 0
  · obtain ⟨a, ea, -⟩ := pick_ev b hb hl 3 p hp (by omega) (by omega)
    obtain ⟨c, ec, -⟩ := pick_ev b hb hl 5 (p + 1) (by omega) (by omega) (by omega)
    exact ⟨(3, a, c, p + 1 + 1), ev_pos h (Ev.bind ea (Ev.bind ec (Ev.now _))), by dsimp only; omega, by dsimp only; omega⟩
  · obtain ⟨a, ea, a0, a1, -⟩ := pick_ev b hb hl 10 p hp (by omega) (by omega)
    have J1 : ∀ v : Bool, ∃ r : Int × Int × Int × Int, Ev (fun k => spec_l71Deed.j1 k n a v b (p + 1)) r ∧ p ≤ r.2.2.2 ∧ r.2.2.2 ≤ p + 3 := by
      intro v
      cases v with
      | true =>
        obtain ⟨c, ec, -⟩ := pick_ev b hb hl n (p + 1) (by omega) (by omega) (by omega)
        obtain ⟨d, ed, -⟩ := pick_ev b hb hl 3 (p + 1 + 1) (by omega) (by omega) (by omega)
        exact ⟨(2, c, d, p + 1 + 1 + 1), Ev.step (fun k => by rw [spec_l71Deed.j1, if_pos rfl]) (by exact Ev.bind ec (Ev.bind ed (Ev.now _))), by dsimp only; omega, by dsimp only; omega⟩
      | false =>
        obtain ⟨c, ec, -⟩ := pick_ev b hb hl 3 (p + 1) (by omega) (by omega) (by omega)
        obtain ⟨d, ed, -⟩ := pick_ev b hb hl 8 (p + 1 + 1) (by omega) (by omega) (by omega)
        obtain ⟨f, ef, -⟩ := pick_ev b hb hl 3 (p + 1 + 1) (by omega) (by omega) (by omega)
        by_cases h7 : a = 7
        · exact ⟨(3, c, d, p + 1 + 1 + 1), Ev.step (fun k => by rw [spec_l71Deed.j1, if_neg Bool.false_ne_true, if_pos h7]) (by exact Ev.bind ec (Ev.bind ed (Ev.now _))), by dsimp only; omega, by dsimp only; omega⟩
        · by_cases h8 : a = 8
          · exact ⟨(4, c, f, p + 1 + 1 + 1), Ev.step (fun k => by rw [spec_l71Deed.j1, if_neg Bool.false_ne_true, if_neg h7, if_pos h8]) (by exact Ev.bind ec (Ev.bind ef (Ev.now _))), by dsimp only; omega, by dsimp only; omega⟩
          · exact ⟨(5, c, 0, p + 1 + 1), Ev.step (fun k => by rw [spec_l71Deed.j1, if_neg Bool.false_ne_true, if_neg h7, if_neg h8]) (by exact Ev.bind ec (Ev.now _)), by dsimp only; omega, by dsimp only; omega⟩
    have J0 : ∀ v : Bool, ∃ r : Int × Int × Int × Int, Ev (fun k => spec_l71Deed.j0 k n a v b (p + 1)) r ∧ p ≤ r.2.2.2 ∧ r.2.2.2 ≤ p + 3 := by
      intro v
      cases v with
      | true =>
        obtain ⟨c, ec, -⟩ := pick_ev b hb hl 3 (p + 1) (by omega) (by omega) (by omega)
        obtain ⟨d, ed, -⟩ := pick_ev b hb hl n (p + 1 + 1) (by omega) (by omega) (by omega)
        exact ⟨(1, c, d, p + 1 + 1 + 1), Ev.step (fun k => by rw [spec_l71Deed.j0, if_pos rfl]) (by exact Ev.bind ec (Ev.bind ed (Ev.now _))), by dsimp only; omega, by dsimp only; omega⟩
      | false =>
        by_cases h4 : a = 4
        · obtain ⟨r, er, h⟩ := J1 (a == 4)
          exact ⟨r, Ev.step (fun k => by rw [spec_l71Deed.j0, if_neg Bool.false_ne_true, if_pos h4]) er, h⟩
        · by_cases h5 : a = 5
          · obtain ⟨r, er, h⟩ := J1 (a == 5)
            exact ⟨r, Ev.step (fun k => by rw [spec_l71Deed.j0, if_neg Bool.false_ne_true, if_neg h4, if_pos h5]) er, h⟩
          · obtain ⟨r, er, h⟩ := J1 (a == 6)
            exact ⟨r, Ev.step (fun k => by rw [spec_l71Deed.j0, if_neg Bool.false_ne_true, if_neg h4, if_neg h5]) er, h⟩
    by_cases h0 : a = 0
    · obtain ⟨r, er, hr⟩ := J0 (a == 0)
      exact ⟨r, ev_neg h (Ev.bind ea (ev_pos h0 er)), hr⟩
    · by_cases h1 : a = 1
      · obtain ⟨r, er, hr⟩ := J0 (a == 1)
        exact ⟨r, ev_neg h (Ev.bind ea (ev_neg h0 (ev_pos h1 er))), hr⟩
      · by_cases h2 : a = 2
        · obtain ⟨r, er, hr⟩ := J0 (a == 2)
          exact ⟨r, ev_neg h (Ev.bind ea (ev_neg h0 (ev_neg h1 (ev_pos h2 er)))), hr⟩
        · obtain ⟨r, er, hr⟩ := J0 (a == 3)
          exact ⟨r, ev_neg h (Ev.bind ea (ev_neg h0 (ev_neg h1 (ev_neg h2 er)))), hr⟩
/-- Drawn deeds: at most five, with at most 22 picks. -/
theorem l71Deeds_ev (b : List Int) (hb : Bytes b) (hl : b.length ≤ 2000) (n p : Int) (hp : 0 ≤ p) (hp' : p ≤ 10000) (hn : n ≤ 1000000000) :
    ∃ r : List S122 × Int, Ev (fun k => spec_l71Deeds.f k b p n) r ∧ r.1.length ≤ 5 ∧ p ≤ r.2 ∧ r.2 ≤ p + 22 := by
  have L0 : ∀ (m : Nat) (d : List S122) (q : Int), p ≤ q → q + 3 * m ≤ 20000 → d.length + m ≤ 5 → m ≤ 5 →
      ∃ r : List S122 × Int, Ev (fun k => spec_l71Deeds.l0 k n d (m : Int) b q) r ∧ r.1.length ≤ 5 ∧ p ≤ r.2 ∧ r.2 ≤ q + 3 * m := by
    intro m
    induction m with
    | zero =>
      intro d q h1 h2 h3 h4
      exact ⟨(d, q), Ev.step (fun k => by rw [spec_l71Deeds.l0, if_neg (by omega)]) (Ev.now _), by dsimp only; omega, by dsimp only; omega, by dsimp only; omega⟩
    | succ m ih =>
      intro d q h1 h2 h3 h4
      obtain ⟨t, et, t1, t2⟩ := l71Deed_ev b hb hl n q (by omega) (by omega) hn
      obtain ⟨r, er, k1, k2, k3⟩ := ih (d ++ [⟨t.1, t.2.1, t.2.2.1⟩]) t.2.2.2 (by omega) (by omega) (by rw [List.length_append]; simp; omega) (by omega)
      refine ⟨r, Ev.step (fun k => by rw [spec_l71Deeds.l0, if_pos (by omega)]) ?_, k1, k2, by omega⟩
      refine Ev.bind et (ev_pos (by omega) ?_)
      rw [w64 (by omega) (by omega), show ((m + 1 : Nat) : Int) - 1 = (m : Int) by omega]
      exact er
  have J0 : ∀ (v : Bool) (q : Int), p ≤ q → q ≤ p + 1 → ∃ r : List S122 × Int, Ev (fun k => spec_l71Deeds.j0 k n v b q) r ∧ r.1.length ≤ 5 ∧ p ≤ r.2 ∧ r.2 ≤ p + 22 := by
    intro v q h1 h2
    cases v with
    | true =>
      obtain ⟨c, ec, -⟩ := pick_ev b hb hl n q (by omega) (by omega) (by omega)
      obtain ⟨d, ed, -⟩ := pick_ev b hb hl 4 (q + 1) (by omega) (by omega) (by omega)
      exact ⟨_, Ev.step (fun k => by rw [spec_l71Deeds.j0, if_pos rfl]) (by exact Ev.bind ec (Ev.bind ed (Ev.now _))), by simp, by dsimp only; omega, by dsimp only; omega⟩
    | false =>
      obtain ⟨c, ec, c0, c1, -⟩ := pick_ev b hb hl 5 q (by omega) (by omega) (by omega)
      have c1 := c1 (by omega)
      obtain ⟨r, er, r1, r2, r3⟩ := L0 (1 + c).toNat [] (q + 1) (by omega) (by omega) (by simp; omega) (by omega)
      rw [show (((1 + c).toNat : Nat) : Int) = 1 + c by omega] at er
      refine ⟨r, Ev.step (fun k => by rw [spec_l71Deeds.j0, if_neg Bool.false_ne_true]) ?_, r1, r2, by omega⟩
      refine Ev.bind ec ?_
      rw [w64 (by omega) (by omega)]
      exact er
  unfold spec_l71Deeds.f
  by_cases h : n > 0
  · obtain ⟨a, ea, -⟩ := pick_ev b hb hl 3 p hp (by omega) (by omega)
    obtain ⟨r, er, h1⟩ := J0 (a == 0) (p + 1) (by omega) (by omega)
    exact ⟨r, ev_pos h (Ev.bind ea er), h1⟩
  · obtain ⟨r, er, h1⟩ := J0 false p (by omega) (by omega)
    exact ⟨r, ev_neg h er, h1⟩
end Go.Proofs.Ytoeepmcaabmjkaa.PDraw
namespace Go.Proofs.Ytoeepmcaabmjkaa.PProgD
open Go.RowKit Go.Proofs.Ytoeepmcaabmjkaa.QPM Go.Proofs.YtoeepmcaabmjkaaW.PrintWords Go.Proofs.YtoeepmcaabmjkaaW.PrintLast Go.Proofs.Ytoeepmcaabmjkaa.PProg Go.Proofs.Ytoeepmcaabmjkaa.PDraw Go.Proofs.Ytoeepmcaabmjkaa.PTree
def Few (x : S57) : Prop := x.f1.length ≤ 5 ∧ x.f2.length ≤ 2
/-- A drawn body: at most three acts. -/
theorem l71Body_ev (b : List Int) (hb : Bytes b) (hl : b.length ≤ 2000) (i n c p : Int) (hi : 0 ≤ i) (hi' : i ≤ 100) (hn : 0 ≤ n) (hn' : n ≤ 100) (hc : c ≤ 100) (hp : 0 ≤ p) (hp' : p ≤ 9000) :
    ∃ r : List S57 × Int, Ev (fun k => spec_l71Body.f k b p i n c) r ∧ r.1.length ≤ 3 ∧ (∀ x ∈ r.1, Few x) ∧ p ≤ r.2 ∧ r.2 ≤ p + 76 := by
  have ei : wrap64 (i + 1) = i + 1 := w64 (by omega) (by omega)
  have en : wrap64 (wrap64 (n - i) - 1) = n - i - 1 := by rw [w64 (show -9223372036854775808 ≤ n - i by omega) (by omega)]; exact w64 (by omega) (by omega)
  have L0 : ∀ (m : Nat) (d : List S57) (q : Int), p ≤ q → q + 25 * m ≤ p + 200 → d.length + m ≤ 3 → (∀ x ∈ d, Few x) →
      ∃ r : List S57 × Int, Ev (fun k => spec_l71Body.l0 k i n c d (m : Int) b q) r ∧ r.1.length ≤ 3 ∧ (∀ x ∈ r.1, Few x) ∧ p ≤ r.2 ∧ r.2 ≤ q + 25 * m := by
    intro m
    induction m with
    | zero =>
      intro d q h1 h2 h3 h4
      exact ⟨(d, q), Ev.step (fun k => by rw [spec_l71Body.l0, if_neg (by omega)]) (Ev.now _), by dsimp only; omega, h4, by dsimp only; omega, by dsimp only; omega⟩
    | succ m ih =>
      intro d q h1 h2 h3 h4
      have em : wrap64 (((m + 1 : Nat) : Int) - 1) = (m : Int) := by rw [w64 (by omega) (by omega)]; omega
      have ON : ∀ q', q ≤ q' → q' ≤ q + 25 → ∃ r : List S57 × Int, Ev (fun k => spec_l71Body.l0 k i n c d (wrap64 (((m + 1 : Nat) : Int) - 1)) b q') r ∧ r.1.length ≤ 3 ∧ (∀ x ∈ r.1, Few x) ∧ p ≤ r.2 ∧ r.2 ≤ q + 25 * ((m + 1 : Nat) : Int) := by
        intro q' g1 g2
        obtain ⟨r, er, k1, k2, k3, k4⟩ := ih d q' (by omega) (by omega) (by omega) h4
        rw [em]
        exact ⟨r, er, k1, k2, k3, by omega⟩
      have GO : ∀ (x : S57) (q' : Int), Few x → q ≤ q' → q' ≤ q + 25 → ∃ r : List S57 × Int, Ev (fun k => if d.length < 2199023255552 then spec_l71Body.l0 k i n c (d ++ [x]) (wrap64 (((m + 1 : Nat) : Int) - 1)) b q' else none) r ∧ r.1.length ≤ 3 ∧ (∀ x ∈ r.1, Few x) ∧ p ≤ r.2 ∧ r.2 ≤ q + 25 * ((m + 1 : Nat) : Int) := by
        intro x q' hx g1 g2
        obtain ⟨r, er, k1, k2, k3, k4⟩ := ih (d ++ [x]) q' (by omega) (by omega) (by rw [List.length_append]; simp; omega) (fun y hy => by
          rcases List.mem_append.1 hy with hy | hy
          · exact h4 y hy
          · rw [List.mem_singleton.1 hy]; exact hx)
        rw [em]
        exact ⟨r, ev_pos (by omega) er, k1, k2, k3, by omega⟩
      have J1 : ∀ v : Bool, ∃ r : List S57 × Int, Ev (fun k => spec_l71Body.j1 k i n c d ((m + 1 : Nat) : Int) v b (q + 1)) r ∧ r.1.length ≤ 3 ∧ (∀ x ∈ r.1, Few x) ∧ p ≤ r.2 ∧ r.2 ≤ q + 25 * ((m + 1 : Nat) : Int) := by
        intro v
        cases v with
        | true =>
          by_cases hlt : wrap64 (i + 1) < n
          · obtain ⟨x, ex, -⟩ := pick_ev b hb hl (wrap64 (wrap64 (n - i) - 1)) (q + 1) (by omega) (by omega) (by rw [en]; omega)
            obtain ⟨y, ey, -⟩ := pick_ev b hb hl 3 (q + 1 + 1) (by omega) (by omega) (by omega)
            by_cases hy : y > 0
            · obtain ⟨z, ez, -⟩ := pick_ev b hb hl (wrap64 (wrap64 (n - i) - 1)) (q + 1 + 1 + 1) (by omega) (by omega) (by rw [en]; omega)
              obtain ⟨r, er, hr⟩ := GO ⟨2, [], [wrap64 (wrap64 (i + 1) + x)] ++ [wrap64 (wrap64 (i + 1) + z)], 0⟩ (q + 1 + 1 + 1 + 1) ⟨by simp, by simp⟩ (by omega) (by omega)
              exact ⟨r, Ev.step (fun k => by rw [spec_l71Body.j1, if_pos rfl]) (by exact ev_pos hlt (Ev.bind ex (Ev.bind (Ev.now _) (Ev.bind ey (ev_pos hy (Ev.bind ez (ev_pos (by simp) er))))))), hr⟩
            · obtain ⟨r, er, hr⟩ := GO ⟨2, [], [wrap64 (wrap64 (i + 1) + x)], 0⟩ (q + 1 + 1 + 1) ⟨by simp, by simp⟩ (by omega) (by omega)
              exact ⟨r, Ev.step (fun k => by rw [spec_l71Body.j1, if_pos rfl]) (by exact ev_pos hlt (Ev.bind ex (Ev.bind (Ev.now _) (Ev.bind ey (ev_neg hy er))))), hr⟩
          · obtain ⟨r, er, hr⟩ := ON (q + 1) (by omega) (by omega)
            exact ⟨r, Ev.step (fun k => by rw [spec_l71Body.j1, if_pos rfl]) (by exact ev_neg hlt er), hr⟩
        | false =>
          obtain ⟨t, et, t1, t2, t3⟩ := l71Deeds_ev b hb hl c (q + 1) (by omega) (by omega) (by omega)
          obtain ⟨r, er, hr⟩ := GO ⟨1, t.1, [], 0⟩ t.2 ⟨t1, by simp⟩ (by omega) (by omega)
          exact ⟨r, Ev.step (fun k => by rw [spec_l71Body.j1, if_neg Bool.false_ne_true]) (by exact Ev.bind et er), hr⟩
      obtain ⟨a, ea, -⟩ := pick_ev b hb hl 12 q (by omega) (by omega) (by omega)
      have ST : ∀ {r : List S57 × Int} {g : Nat → Option (List S57 × Int)}, (∀ k, spec_l71Body.l0 (k + 1) i n c d ((m + 1 : Nat) : Int) b q = g k) → Ev g r → Ev (fun k => spec_l71Body.l0 k i n c d ((m + 1 : Nat) : Int) b q) r := fun h1 h2 => Ev.step h1 h2
      by_cases h0 : a = 0
      · obtain ⟨f, ef, -⟩ := pick_ev b hb hl 2 (q + 1) (by omega) (by omega) (by omega)
        by_cases hf : f = 0
        · obtain ⟨r, er, hr⟩ := GO ⟨3, [], [], 0⟩ (q + 1 + 1) ⟨by simp, by simp⟩ (by omega) (by omega)
          exact ⟨r, ST (fun k => by rw [spec_l71Body.l0, if_pos (by omega)]) (by exact Ev.bind ea (ev_pos h0 (Ev.bind ef (ev_pos hf er)))), hr⟩
        · obtain ⟨r, er, hr⟩ := ON (q + 1 + 1) (by omega) (by omega)
          exact ⟨r, ST (fun k => by rw [spec_l71Body.l0, if_pos (by omega)]) (by exact Ev.bind ea (ev_pos h0 (Ev.bind ef (ev_neg hf er)))), hr⟩
      · by_cases h1 : a = 1
        · obtain ⟨f, ef, -⟩ := pick_ev b hb hl 3 (q + 1) (by omega) (by omega) (by omega)
          obtain ⟨r, er, hr⟩ := GO ⟨4, [], [], f⟩ (q + 1 + 1) ⟨by simp, by simp⟩ (by omega) (by omega)
          exact ⟨r, ST (fun k => by rw [spec_l71Body.l0, if_pos (by omega)]) (by exact Ev.bind ea (ev_neg h0 (ev_pos h1 (Ev.bind ef er)))), hr⟩
        · by_cases h2 : a = 2
          · obtain ⟨r, er, hr⟩ := J1 (a == 2)
            exact ⟨r, ST (fun k => by rw [spec_l71Body.l0, if_pos (by omega)]) (by exact Ev.bind ea (ev_neg h0 (ev_neg h1 (ev_pos h2 er)))), hr⟩
          · by_cases h3 : a = 3
            · obtain ⟨r, er, hr⟩ := J1 (a == 3)
              exact ⟨r, ST (fun k => by rw [spec_l71Body.l0, if_pos (by omega)]) (by exact Ev.bind ea (ev_neg h0 (ev_neg h1 (ev_neg h2 (ev_pos h3 er))))), hr⟩
            · by_cases h5 : a = 4
              · obtain ⟨r, er, hr⟩ := J1 (a == 4)
                exact ⟨r, ST (fun k => by rw [spec_l71Body.l0, if_pos (by omega)]) (by exact Ev.bind ea (ev_neg h0 (ev_neg h1 (ev_neg h2 (ev_neg h3 (ev_pos h5 er)))))), hr⟩
              · obtain ⟨r, er, hr⟩ := J1 (a == 5)
                exact ⟨r, ST (fun k => by rw [spec_l71Body.l0, if_pos (by omega)]) (by exact Ev.bind ea (ev_neg h0 (ev_neg h1 (ev_neg h2 (ev_neg h3 (ev_neg h5 er)))))), hr⟩
  obtain ⟨a, ea, a0, a1, -⟩ := pick_ev b hb hl 3 p hp (by omega) (by omega)
  have a1 := a1 (by omega)
  obtain ⟨r, er, r1, r2, r3, r4⟩ := L0 (1 + a).toNat [] (p + 1) (by omega) (by omega) (by simp; omega) (by simp)
  rw [show (((1 + a).toNat : Nat) : Int) = 1 + a by omega] at er r4
  unfold spec_l71Body.f
  refine ⟨r, Ev.bind ea ?_, r1, r2, r3, by omega⟩
  rw [w64 (by omega) (by omega)]
  exact er
/-- Bodies of few acts each. -/
def Bnd (c : Nat) (l1 : List (List S57)) : Prop := ∀ y ∈ l1, y.length ≤ c ∧ ∀ x ∈ y, Few x
def Nice (l0 : List Int) (l1 : List (List S57)) : Prop := (1 ≤ l0.length ∧ l0.length ≤ 3) ∧ (1 ≤ l1.length ∧ l1.length ≤ 4) ∧ Bnd 3 l1
theorem small_of {c : Nat} {l0 : List Int} {l1 : List (List S57)} (h0 : l0.length ≤ 1000) (h1 : l1.length ≤ 1000) (hc : c ≤ 1000) (h : Bnd c l1) : Small l0 l1 :=
  ⟨by omega, by omega, fun y hy => ⟨by have := (h y hy).1; omega, fun x hx => by obtain ⟨a, b⟩ := (h y hy).2 x hx; exact ⟨by omega, by omega⟩⟩⟩
theorem cells_ev (b : List Int) (hb : Bytes b) (hl : b.length ≤ 2000) : ∀ (n : Nat) (l : List Int) (p : Int), 0 ≤ p → p + n ≤ 9000 → ∃ r, Ev (fun k => cellsF k b n l p) r ∧ r.1.length = l.length + n ∧ p ≤ r.2 ∧ r.2 ≤ p + n
  | 0, l, p, h0, h1 => ⟨(l, p), Ev.now _, by simp, by simp, by simp⟩
  | n + 1, l, p, h0, h1 => by
    obtain ⟨c, ec, c0, c1, -⟩ := pick_ev b hb hl 5 p h0 (by omega) (by omega)
    have c1 := c1 (by omega)
    obtain ⟨r, er, r1, r2, r3⟩ := cells_ev b hb hl n (l ++ [nums5.getD c.toNat 0]) (p + 1) (by omega) (by omega)
    refine ⟨r, ?_, ?_, by omega, by omega⟩
    · simp only [cellsF]
      exact Ev.bind ec (ev_pos ⟨c0, c1⟩ er)
    · rw [r1, List.length_append]
      simp
      omega
theorem bodies_ev (b : List Int) (hb : Bytes b) (hl : b.length ≤ 2000) (bodies cells : Int) (g0 : 0 ≤ bodies) (g1 : bodies ≤ 100) (g2 : cells ≤ 100) : ∀ (n : Nat) (i : Int) (l : List (List S57)) (p : Int), 0 ≤ i → i + n ≤ 100 → 0 ≤ p → p + 76 * n ≤ 9000 → Bnd 3 l →
    ∃ r, Ev (fun k => bodiesF k b bodies cells n i l p) r ∧ r.1.length = l.length + n ∧ Bnd 3 r.1 ∧ p ≤ r.2 ∧ r.2 ≤ p + 76 * n
  | 0, i, l, p, _, _, h0, h1, h2 => ⟨(l, p), Ev.now _, by simp, h2, by simp, by simp⟩
  | n + 1, i, l, p, i0, i1, h0, h1, h2 => by
    obtain ⟨t, et, t1, t2, t3, t4⟩ := l71Body_ev b hb hl i bodies cells p i0 (by omega) g0 g1 g2 h0 (by omega)
    obtain ⟨r, er, r1, r2, r3, r4⟩ := bodies_ev b hb hl bodies cells g0 g1 g2 n (i + 1) (l ++ [t.1]) t.2 (by omega) (by omega) (by omega) (by omega) (fun y hy => by
      rcases List.mem_append.1 hy with hy | hy
      · exact h2 y hy
      · rw [List.mem_singleton.1 hy]; exact ⟨t1, t2⟩)
    refine ⟨r, ?_, ?_, r2, by omega, by omega⟩
    · simp only [bodiesF]
      exact Ev.bind et er
    · rw [r1, List.length_append]
      simp
      omega
theorem bnd_set {c : Nat} {l : List (List S57)} (h : Bnd c l) {v : List S57} (hv : v.length ≤ c) (hf : ∀ x ∈ v, Few x) : Bnd c (l.set 0 v) := fun y hy => by
  rcases List.mem_or_eq_of_mem_set hy with hy | rfl
  · exact h y hy
  · exact ⟨hv, hf⟩
theorem fork_ev (b : List Int) (hb : Bytes b) (hl : b.length ≤ 2000) (bodies cells : Int) (g0 : 2 ≤ bodies) (g1 : bodies ≤ 4) (g2 : cells ≤ 100) (l0 : List Int) (l1 : List (List S57)) (p : Int) (h0 : 0 ≤ p) (h1 : p ≤ 8000) (hB : Bnd 3 l1) :
    ∃ r, Ev (fun k => forkF k b bodies cells l0 l1 p) r ∧ r.1 = l0 ∧ r.2.1.length = l1.length ∧ Bnd 3 r.2.1 ∧ p ≤ r.2.2 ∧ r.2.2 ≤ p + 24 := by
  unfold forkF
  obtain ⟨e, ee, -⟩ := pick_ev b hb hl 4 p h0 (by omega) (by omega)
  by_cases he : e > 0
  · obtain ⟨x, ex, x0, x1, -⟩ := pick_ev b hb hl (bodies - 1) (p + 1) (by omega) (by omega) (by omega)
    have x1 := x1 (by omega)
    obtain ⟨t, et, t1, t2, t3⟩ := l71Deeds_ev b hb hl cells (p + 1 + 1) (by omega) (by omega) (by omega)
    refine ⟨(l0, l1.set 0 [⟨2, [], [1, 1 + x], 0⟩, ⟨1, t.1, [], 0⟩], t.2), Ev.bind ee (ev_pos he (Ev.bind ex (ev_pos ⟨x0, by omega⟩ (Ev.bind et (Ev.now _))))), rfl, by simp, bnd_set hB (by simp) (fun y hy => ?_), by dsimp only; omega, by dsimp only; omega⟩
    rcases List.mem_cons.1 hy with rfl | hy
    · exact ⟨by simp, by simp⟩
    · rw [List.mem_singleton.1 hy]; exact ⟨t1, by simp⟩
  · exact ⟨(l0, l1, p + 1), Ev.bind ee (ev_neg he (Ev.now _)), rfl, rfl, hB, by dsimp only; omega, by dsimp only; omega⟩
theorem one_ev (b : List Int) (hb : Bytes b) (hl : b.length ≤ 2000) (p : Int) (h0 : 0 ≤ p) (h1 : p ≤ 7000) : ∃ r, Ev (fun k => oneF k b p) r ∧ Nice r.1 r.2.1 ∧ p ≤ r.2.2 ∧ r.2.2 ≤ p + 340 := by
  unfold oneF
  obtain ⟨c, ec, c0, c1, -⟩ := pick_ev b hb hl 3 p h0 (by omega) (by omega)
  have c1 := c1 (by omega)
  obtain ⟨l, el, k1, k2, k3⟩ := cells_ev b hb hl (1 + c).toNat [] (p + 1) (by omega) (by omega)
  obtain ⟨d, ed, d0, d1, -⟩ := pick_ev b hb hl 3 l.2 (by omega) (by omega) (by omega)
  have d1 := d1 (by omega)
  obtain ⟨m, em, m1, m2, m3, m4⟩ := bodies_ev b hb hl (2 + d) (1 + c) (by omega) (by omega) (by omega) (2 + d).toNat 0 [] (l.2 + 1) (by omega) (by omega) (by omega) (by omega) (by intro y hy; simp at hy)
  obtain ⟨f, ef, f1, f2, f3, f4, f5⟩ := fork_ev b hb hl (2 + d) (1 + c) (by omega) (by omega) (by omega) l.1 m.1 m.2 (by omega) (by omega) m2
  simp only [List.length_nil, Nat.zero_add] at k1 m1
  exact ⟨f, Ev.bind ec (ev_pos ⟨c0, c1⟩ (Ev.bind el (Ev.bind ed (ev_pos ⟨d0, d1⟩ (Ev.bind em ef))))), ⟨by rw [f1]; omega, by omega, f3⟩, by omega, by omega⟩
theorem prog_ev (b : List Int) (hb : Bytes b) (hl : b.length ≤ 2000) : ∀ (n : Nat) (p : Int), 0 ≤ p → p + 340 * n ≤ 7000 → ∃ r, Ev (fun k => progF k b n p) r ∧ Nice r.1 r.2.1 ∧ p ≤ r.2.2 ∧ r.2.2 ≤ p + 340 * n
  | 0, p, h0, h1 => ⟨_, Ev.now _, ⟨⟨by simp, by simp⟩, ⟨by simp, by simp⟩, fun y hy => by
      rcases List.mem_cons.1 hy with rfl | hy
      · exact ⟨by simp, fun x hx => by rw [List.mem_singleton.1 hx]; exact ⟨by simp, by simp⟩⟩
      · rw [List.mem_singleton.1 hy]; exact ⟨by simp, fun x hx => by rw [List.mem_singleton.1 hx]; exact ⟨by simp, by simp⟩⟩⟩, by simp, by simp⟩
  | n + 1, p, h0, h1 => by
    obtain ⟨r, er, r1, r2, r3⟩ := one_ev b hb hl p h0 (by omega)
    obtain ⟨R, o1, _, _⟩ := ok_ev r.1 r.2.1 (small_of (c := 3) (by have := r1.1; omega) (by have := r1.2.1; omega) (by omega) r1.2.2)
    obtain ⟨q, eq, q1, q2, q3⟩ := prog_ev b hb hl n r.2.2 (by omega) (by omega)
    cases R with
    | true => exact ⟨r, by simp only [progF]; exact Ev.bind er (Ev.bind o1 (ev_pos rfl (Ev.now _))), r1, by omega, by omega⟩
    | false => exact ⟨q, by simp only [progF]; exact Ev.bind er (Ev.bind o1 (ev_neg Bool.false_ne_true eq)), q1, by omega, by omega⟩
theorem l71Prog_ev (b : List Int) (hb : Bytes b) (hl : b.length ≤ 2000) (p : Int) (h0 : 0 ≤ p) (h1 : p ≤ 3000) : ∃ r, Ev (fun k => spec_l71Prog.f k b p) r ∧ Nice r.1 r.2.1 ∧ p ≤ r.2.2 ∧ r.2.2 ≤ p + 3400 := by
  obtain ⟨r, er, r1, r2, r3⟩ := prog_ev b hb hl 10 p h0 (by omega)
  exact ⟨r, er, r1, r2, by omega⟩
theorem bnd_app {c : Nat} {l : List (List S57)} (h : Bnd c l) (h0 : 0 < l.length) {x : S57} (hx : Few x) : Bnd (c + 1) (app0 l x) ∧ (app0 l x).length = l.length := by
  have hm : l.getD 0 [] ∈ l := by
    rw [List.getD_eq_getElem?_getD, List.getElem?_eq_getElem h0]
    exact List.getElem_mem h0
  obtain ⟨m1, m2⟩ := h _ hm
  refine ⟨bnd_set (fun y hy => ⟨Nat.le_succ_of_le (h y hy).1, (h y hy).2⟩) (by rw [List.length_append]; simp; exact m1) (fun y hy => ?_), app0_len l x⟩
  rcases List.mem_append.1 hy with hy | hy
  · exact m2 y hy
  · rw [List.mem_singleton.1 hy]; exact hx
theorem bend_ev (b : List Int) (hb : Bytes b) (hl : b.length ≤ 2000) (c : Int) (l0 : List Int) (l1 : List (List S57)) (p : Int) (h0 : 0 ≤ p) (h1 : p ≤ 9000) (hN : Nice l0 l1) :
    ∃ r, Ev (fun k => bendF k b c l0 l1 p) r ∧ Small r.1 r.2.1 ∧ p ≤ r.2.2 ∧ r.2.2 ≤ p + 3 := by
  obtain ⟨n0, n1, nB⟩ := hN
  have hp : 0 < l1.length := by omega
  have A : ∀ x : S57, Few x → Small l0 (app0 l1 x) := fun x hx => by
    obtain ⟨b1, b2⟩ := bnd_app nB hp hx
    exact small_of (by first | omega | (dsimp only; omega) | (simp; omega)) (by first | omega | (dsimp only; omega) | (simp; omega)) (by omega) b1
  unfold bendF
  by_cases c0 : c = 0
  · obtain ⟨d, ed, d0, d1, -⟩ := pick_ev b hb hl 2 p h0 (by omega) (by omega)
    have d1 := d1 (by omega)
    exact ⟨_, ev_pos c0 (Ev.bind ed (ev_pos ⟨d0, d1⟩ (Ev.now _))), small_of (by first | omega | (dsimp only; omega) | (simp; omega)) (by first | omega | (dsimp only; omega) | (simp; omega)) (by omega) nB, by dsimp only; omega, by dsimp only; omega⟩
  by_cases c1 : c = 1
  · exact ⟨_, ev_neg c0 (ev_pos c1 (Ev.now _)), small_of (by first | omega | (dsimp only; omega) | (simp; omega)) (by first | omega | (dsimp only; omega) | (simp; omega)) (by omega) nB, by dsimp only; omega, by dsimp only; omega⟩
  by_cases c2 : c = 2
  · obtain ⟨d, ed, -⟩ := pick_ev b hb hl 7 p h0 (by omega) (by omega)
    exact ⟨_, ev_neg c0 (ev_neg c1 (ev_pos c2 (Ev.bind ed (Ev.now _)))), A _ ⟨by simp, by simp⟩, by dsimp only; omega, by dsimp only; omega⟩
  by_cases c3 : c = 3
  · obtain ⟨d, ed, -⟩ := pick_ev b hb hl 6 p h0 (by omega) (by omega)
    exact ⟨_, ev_neg c0 (ev_neg c1 (ev_neg c2 (ev_pos c3 (Ev.bind ed (Ev.now _))))), A _ ⟨by simp, by simp⟩, by dsimp only; omega, by dsimp only; omega⟩
  by_cases c4 : c = 4
  · obtain ⟨d, ed, -⟩ := pick_ev b hb hl 7 p h0 (by omega) (by omega)
    obtain ⟨e, ee, -⟩ := pick_ev b hb hl 5 (p + 1) (by omega) (by omega) (by omega)
    obtain ⟨f, ef, -⟩ := pick_ev b hb hl 5 (p + 1 + 1) (by omega) (by omega) (by omega)
    exact ⟨_, ev_neg c0 (ev_neg c1 (ev_neg c2 (ev_neg c3 (ev_pos c4 (Ev.bind ed (Ev.bind ee (Ev.bind ef (Ev.now _)))))))), A _ ⟨by simp, by simp⟩, by dsimp only; omega, by dsimp only; omega⟩
  by_cases c5 : c = 5
  · refine ⟨_, ev_neg c0 (ev_neg c1 (ev_neg c2 (ev_neg c3 (ev_neg c4 (ev_pos c5 (Ev.now _)))))), small_of (c := 3) (by first | omega | (dsimp only; omega) | (simp; omega)) (by first | omega | (dsimp only; omega) | (simp; omega)) (by omega) (fun y hy => ?_), by dsimp only; omega, by dsimp only; omega⟩
    rcases List.mem_append.1 hy with hy | hy
    · exact nB y hy
    · have : y = [] := by simpa using hy
      subst this
      exact ⟨by simp, by simp⟩
  by_cases c6 : c = 6
  · obtain ⟨d, ed, -⟩ := pick_ev b hb hl 5 p h0 (by omega) (by omega)
    exact ⟨_, ev_neg c0 (ev_neg c1 (ev_neg c2 (ev_neg c3 (ev_neg c4 (ev_neg c5 (ev_pos c6 (Ev.bind ed (Ev.now _)))))))), A _ ⟨by simp, by simp⟩, by dsimp only; omega, by dsimp only; omega⟩
  have fx : Few (⟨3, [], [], 0⟩ : S57) := ⟨by simp, by simp⟩
  obtain ⟨b1, e1⟩ := bnd_app nB hp fx
  obtain ⟨b2, e2⟩ := bnd_app b1 (by omega) fx
  obtain ⟨b3, e3⟩ := bnd_app b2 (by omega) fx
  obtain ⟨b4, e4⟩ := bnd_app b3 (by omega) fx
  obtain ⟨b5, e5⟩ := bnd_app b4 (by omega) fx
  exact ⟨_, ev_neg c0 (ev_neg c1 (ev_neg c2 (ev_neg c3 (ev_neg c4 (ev_neg c5 (ev_neg c6 (Ev.now _))))))), small_of (by first | omega | (dsimp only; omega) | (simp; omega)) (by first | omega | (dsimp only; omega) | (simp; omega)) (by omega) b5, by dsimp only; omega, by dsimp only; omega⟩
theorem l71Bent_ev (b : List Int) (hb : Bytes b) (hl : b.length ≤ 2000) (l0 : List Int) (l1 : List (List S57)) (p : Int) (h0 : 0 ≤ p) (h1 : p ≤ 8000) (hN : Nice l0 l1) :
    ∃ r, Ev (fun k => spec_l71Bent.f k b p l0 l1) r ∧ Small r.1 r.2.1 ∧ p ≤ r.2.2 ∧ r.2.2 ≤ p + 4 := by
  obtain ⟨c, ec, -⟩ := pick_ev b hb hl 8 p h0 (by omega) (by omega)
  obtain ⟨r, er, r1, r2, r3⟩ := bend_ev b hb hl c l0 l1 (p + 1) (by omega) (by omega) hN
  have hok : bendOk l0 l1 := ⟨by have := hN.1; omega, by have := hN.2.1; omega, List.all_eq_true.2 (fun y hy => decide_eq_true (by have := (hN.2.2 y hy).1; omega))⟩
  unfold spec_l71Bent.f
  exact ⟨r, ev_pos hok (Ev.bind ec er), r1, by omega, by omega⟩
theorem nice_small {l0 : List Int} {l1 : List (List S57)} (h : Nice l0 l1) : Small l0 l1 := small_of (c := 3) (by have := h.1; omega) (by have := h.2.1; omega) (by omega) h.2.2
end Go.Proofs.Ytoeepmcaabmjkaa.PProgD
namespace Go.Proofs.Ytoeepmcaabmjkaa.Pure
open Go.RowKit Go.Proofs.Ytoeepmcaabmjkaa.QPM Go.Proofs.YtoeepmcaabmjkaaW.PrintWords Go.Proofs.YtoeepmcaabmjkaaW.PrintLast Go.Proofs.Ytoeepmcaabmjkaa.PProg Go.Proofs.Ytoeepmcaabmjkaa.PDraw Go.Proofs.Ytoeepmcaabmjkaa.PTree Go.Proofs.Ytoeepmcaabmjkaa.PTau Go.Proofs.Ytoeepmcaabmjkaa.PProgD
theorem l71Any_ev (b : List Int) (hb : Bytes b) (hl : b.length ≤ 2000) (p : Int) (h0 : 0 ≤ p) (h1 : p ≤ 3000) : ∃ r, Ev (fun k => spec_l71Any.f k b p) r ∧ Small r.1 r.2.1 ∧ p ≤ r.2.2 ∧ r.2.2 ≤ p + 3500 := by
  obtain ⟨x, ex, x1, x2, x3⟩ := l71Prog_ev b hb hl p h0 h1
  obtain ⟨d, ed, -⟩ := pick_ev b hb hl 14 x.2.2 (by omega) (by omega) (by omega)
  unfold spec_l71Any.f
  by_cases c : d = 0
  · obtain ⟨r, er, r1, r2, r3⟩ := l71Bent_ev b hb hl x.1 x.2.1 (x.2.2 + 1) (by omega) (by omega) x1
    exact ⟨(r.1, r.2.1, r.2.2), Ev.bind ex (Ev.bind ed (ev_pos c (Ev.bind er (Ev.now _)))), r1, by dsimp only; omega, by dsimp only; omega⟩
  · exact ⟨(x.1, x.2.1, x.2.2 + 1), Ev.bind ex (Ev.bind ed (ev_neg c (Ev.now _))), nice_small x1, by dsimp only; omega, by dsimp only; omega⟩
theorem drawTree_ev (l : List Int) (hl : ∀ x ∈ l, (Lit.int .u8 x).wf = true) : ∃ r, Ev (fun k => spec_DrawProgTree.f k l) r ∧ Small r.1 r.2.1 := by
  obtain ⟨b, eb, b1, b2⟩ := open_ev l hl
  obtain ⟨x, ex, x1, x2, x3⟩ := l71Any_ev b b1 b2 0 (by omega) (by omega)
  have hs := x1.2.1
  obtain ⟨d, ed, -⟩ := pick_ev b b1 b2 (wrap64 ((x.2.1.length : Int) + 1)) x.2.2 (by omega) (by omega) (by rw [w64 (by omega) (by omega)]; omega)
  obtain ⟨e, ee, -⟩ := pick_ev b b1 b2 9 (x.2.2 + 1) (by omega) (by omega) (by omega)
  unfold spec_DrawProgTree.f
  rw [eb]
  exact ⟨_, Ev.bind (Ev.now _) (Ev.bind ex (Ev.bind ed (Ev.bind ee (Ev.now _)))), x1⟩
theorem progTree_valT {l0 : List Int} {l1 : List (List S57)} (ho : Ev (fun k => impl_ProgOk.f k l0 l1) true) (fm : PTree.Form l1) (b : Int) (b0 : 0 ≤ b) (b1 : b < l1.length) : Ev (fun k => impl_ProgTree.f k l0 l1 b) (tau l1 b) := by
  have hi : inB b 0 ((l1.length : Int) - 1) = true := by
    unfold inB
    rw [decide_eq_true b0, decide_eq_true (show b ≤ (l1.length : Int) - 1 by omega)]
    rfl
  unfold impl_ProgTree.f
  refine Ev.bind ho (ev_pos rfl ?_)
  simp only [isPlace_eq, hi, Option.bind_some]
  exact ev_pos trivial (Ev.bind (tau_at (l0 := l0) fm b b0 b1).2 (Ev.now _))
theorem loopT {l0 : List Int} {l1 : List (List S57)} (ho : Ev (fun k => impl_ProgOk.f k l0 l1) true) (fm : PTree.Form l1) (h7 : tau l1 0 ≤ 7) (a : Nat) (ha : a < l1.length) : Ev (fun k => laws_FnProgTree.l0 k (a : Int) (tau l1 a) 1 0 l0 l1) true := by
  have few := fm.few
  have acts := fm.acts a ha
  have tle := tau_le fm a (by omega) (by omega)
  have gnn : ∀ y : S57, 0 ≤ (y.f2.map (tau l1)).sum := fun y => sum_nn (fun x _ => tau_nn l1 x)
  have key : ∀ i, i ≤ l1[a].length → ∀ s : Int, 0 ≤ s → s + ((l1[a].drop i).map (fun y => (y.f2.map (tau l1)).sum)).sum = tau l1 a → Ev (fun k => laws_FnProgTree.l0 k (a : Int) (tau l1 a) s (i : Int) l0 l1) true := by
    refine down ?_ ?_
    · intro s s0 s1
      rw [List.drop_length, List.map_nil, List.sum_nil, Int.add_zero] at s1
      refine Ev.step (fun k => by rw [laws_FnProgTree.l0, if_pos (by omega), if_pos (by omega), rdBi l1 a ha, if_neg (by omega), if_pos s1.symm]) ?_
      have := Ev.bind (f := fun _ t => some (decide (t ≤ 7))) (progTree_valT ho fm 0 (by omega) (by omega)) (Ev.now (decide (tau l1 0 ≤ 7)))
      rw [decide_eq_true h7] at this
      exact this
    · intro i hi ih s s0 s1
      obtain ⟨kl, kx⟩ := fm.kids a ha l1[a][i] (List.getElem_mem hi)
      rw [List.drop_eq_getElem_cons hi, List.map_cons, List.sum_cons] at s1
      have rn : 0 ≤ ((l1[a].drop (i + 1)).map (fun y => (y.f2.map (tau l1)).sum)).sum := sum_nn (fun y _ => gnn y)
      have inner : ∀ j, j ≤ l1[a][i].f2.length → ∀ s : Int, 0 ≤ s → s + ((l1[a][i].f2.drop j).map (tau l1)).sum + ((l1[a].drop (i + 1)).map (fun y => (y.f2.map (tau l1)).sum)).sum = tau l1 a →
          Ev (fun k => laws_FnProgTree.l1 k (a : Int) (tau l1 a) s (i : Int) l1[a][i].f2 (j : Int) l0 l1) true := by
        refine down ?_ ?_
        · intro s s0 s1
          rw [List.drop_length, List.map_nil, List.sum_nil, Int.add_zero] at s1
          refine Ev.step (fun k => ?_) (ih s s0 s1)
          rw [laws_FnProgTree.l1, if_neg (by omega), w64 (by omega) (by omega)]
          rfl
        · intro j hj ih2 s s0 s1
          rw [List.drop_eq_getElem_cons hj, List.map_cons, List.sum_cons] at s1
          have kn : 0 ≤ ((l1[a][i].f2.drop (j + 1)).map (tau l1)).sum := sum_nn (fun x _ => tau_nn l1 x)
          have tn := tau_nn l1 (l1[a][i].f2[j])
          obtain ⟨q0, q1⟩ := kx _ (List.getElem_mem hj)
          refine Ev.step (fun k => by rw [laws_FnProgTree.l1, if_pos (by omega), if_pos (by omega), rdI _ j hj]) ?_
          refine Ev.bind (progTree_valT ho fm _ (by omega) q1) (Ev.congr (fun k => ?_) (ih2 (s + tau l1 l1[a][i].f2[j]) (by omega) (by omega)))
          rw [w64 (i := (j : Int) + 1) (by omega) (by omega), w64 (i := s + _) (by omega) (by omega)]
          rfl
      refine Ev.step (fun k => ?_) (inner 0 (Nat.zero_le _) s s0 (by rw [List.drop_zero]; omega))
      rw [laws_FnProgTree.l0, if_pos (by omega), if_pos (by omega), rdBi l1 a ha, if_pos (by omega), if_pos (by omega), rdAi _ i hi]
      rfl
  refine key 0 (Nat.zero_le _) 1 (by decide) ?_
  rw [List.drop_zero]
  exact (tau_eq fm a ha).symm
theorem FnProgTree : laws_FnProgTree.Pure := by
  intro l0 hl _ hb
  refine Ev.rounds (g := fun k => laws_FnProgTree.f k l0) ?_
  unfold laws_FnProgTree.f
  by_cases c : (l0.length : Int) > 1048576
  · exact ev_pos c (Ev.now _)
  refine ev_neg c ?_
  obtain ⟨r, er, rs⟩ := drawTree_ev l0 hb
  obtain ⟨R, o1, o2, o3⟩ := ok_tau r.1 r.2.1 rs
  refine Ev.bind er ?_
  have bad : Ev (fun k => impl_ProgTree.f k r.1 r.2.1 r.2.2) (-1) → Ev (fun k => spec_ProgTree.f k r.1 r.2.1 r.2.2) (-1) → Ev (fun n => (impl_ProgTree.f n r.1 r.2.1 r.2.2).bind fun t318 => (spec_ProgTree.f n r.1 r.2.1 r.2.2).bind fun t319 => if t318 = t319 then laws_FnProgTree.j0 n r.2.2 t318 (decide (t318 < 0)) r.1 r.2.1 else laws_FnProgTree.j0 n r.2.2 t318 true r.1 r.2.1) true := fun h1 h2 =>
    Ev.bind h1 (Ev.bind h2 (ev_pos rfl (Ev.step (fun k => by rw [laws_FnProgTree.j0, if_pos (by decide)]) (by exact Ev.bind h2 (Ev.now _)))))
  cases R with
  | false =>
    refine bad ?_ ?_
    · unfold impl_ProgTree.f
      exact Ev.bind o2 (ev_neg Bool.false_ne_true (Ev.now _))
    · unfold spec_ProgTree.f
      exact Ev.bind o1 (ev_neg Bool.false_ne_true (Ev.now _))
  | true =>
    obtain ⟨-, fm, h7⟩ := o3 rfl
    have few := fm.few
    have e : wrap64 ((r.2.1.length : Int) - 1) = (r.2.1.length : Int) - 1 := w64 (by omega) (by omega)
    cases hi : inB r.2.2 0 ((r.2.1.length : Int) - 1) with
    | false =>
      refine bad ?_ ?_
      · unfold impl_ProgTree.f
        simp only [isPlace_eq, hi, Option.bind_some]
        exact Ev.bind o2 (ev_pos rfl (ev_neg Bool.false_ne_true (Ev.now _)))
      · unfold spec_ProgTree.f
        simp only [l6In_eq, e, hi, Option.bind_some]
        exact Ev.bind o1 (ev_pos rfl (ev_neg Bool.false_ne_true (Ev.now _)))
    | true =>
      have hi' := hi
      unfold inB at hi'
      rw [Bool.and_eq_true, decide_eq_true_iff, decide_eq_true_iff] at hi'
      obtain ⟨a, ea⟩ := Int.eq_ofNat_of_zero_le hi'.1
      rw [ea] at hi hi' ⊢
      have ha : a < r.2.1.length := by omega
      have v1 := progTree_valT o2 fm (a : Int) (by omega) (by omega)
      have v2 : Ev (fun k => spec_ProgTree.f k r.1 r.2.1 (a : Int)) (tau r.2.1 a) := by
        unfold spec_ProgTree.f
        simp only [l6In_eq, e, hi, Option.bind_some]
        exact Ev.bind o1 (ev_pos rfl (ev_pos trivial (Ev.bind (tau_at (l0 := r.1) fm a (by omega) (by omega)).1 (Ev.now _))))
      have tn := tau_nn r.2.1 a
      refine Ev.bind v1 (Ev.bind v2 (ev_pos rfl (Ev.step (fun k => by rw [laws_FnProgTree.j0, decide_eq_false (by omega), if_neg Bool.false_ne_true]) (loopT o2 fm h7 a ha))))
end Go.Proofs.Ytoeepmcaabmjkaa.Pure
-- PRINTED WORDS (module Derived/Print/Sized.lean): go-gate-2's, for the rows of laws over slices: an AI agent of Go's test side, Tue Nov 17 2026; no person has read it. Lean checks it.
namespace Go.Proofs.YtoeepmcaabmjkaaW.PrintWords
open Go.ChangeShapes Go.WideShapes
/-- A row's slice of whole numbers is no longer than its weight allows. -/
theorem sized_ints {H : Type} {enc : TypeId × Value → H} {P : Program} {W : World} {base : Nat} {spare : Nat → Bool} {held : Bool} {t e : TypeId} {k : IntKind} {a : Option Addr} {len cap : Nat} {d : DataW H} {ps : List MemPlace} {ts : List TypeId} {ds : List (DataW H)} {j : Nat}
    (hsz : (DataW.weightsEach P ts ds).all (· ≤ reachBytes) = true) (ht : ts[j]? = some t) (hd : ds[j]? = some d) (hu : P.underlying t = some (.slice e)) (he : P.underlying e = some (.int k)) (hc : P.cellsOf e = 1) {B : Nat} (hB : P.bytesOf e = B)
    (h : DataW.Trod enc P W base spare held t (.slice a len cap) d ps) : len * B ≤ 140737488351232 := by
  obtain ⟨fuel, hf⟩ := h
  rcases open_ints hu he hc hf with ⟨hcs, _⟩ | ⟨x, l, c, zs, hcs, _, hl, _, hz, hx, _, _⟩
  · simp [Value.cells] at hcs
    obtain ⟨rfl, rfl, rfl⟩ := hcs
    simp
  · simp [Value.cells] at hcs
    obtain ⟨rfl, rfl, rfl⟩ := hcs
    obtain ⟨hx, _⟩ := Prod.mk.inj hx
    subst hx
    have z := sized_slice hsz ht hd hu
    rw [hB] at z
    have hl2 : len ≤ zs.length := by
      rw [hz]
      split
      · exact hl
      · exact Nat.le_refl _
    have h1 : (lits (H := H) k (zs.take len)).length + (lits (H := H) k (zs.drop len)).length = zs.length := by
      simp [lits]
      omega
    rw [h1] at z
    exact Nat.le_trans (Nat.mul_le_mul_right _ hl2) z
end Go.Proofs.YtoeepmcaabmjkaaW.PrintWords
