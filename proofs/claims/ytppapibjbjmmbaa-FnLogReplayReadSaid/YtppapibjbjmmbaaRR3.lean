import Derived.Test.YtppapibjbjmmbaaRR0
import Derived.Test.YtppapibjbjmmbaaRR1
import Derived.Test.YtppapibjbjmmbaaRR2
set_option linter.unusedVariables false
set_option linter.unusedSimpArgs false
namespace Go.Proofs.Ytppapibjbjmmbaa.QSY
open Go.RowKit Go.Proofs.YtppapibjbjmmbaaW.PrintWords Go.Proofs.YtppapibjbjmmbaaW.PrintLast Go.Proofs.YtppapibjbjmmbaaW.PrintMore
def St.reg (σ : St) (k a n : Int) : St := σ.upd k fun t => { t with f3 := (σ.t k).f3.set a.toNat n }
def St.load (σ : St) (k dA dB : Int) : St :=
 if 0 ≤ xk (σ.t k).f10 dB then (σ.reg k dA (putAt (σ.t k).f10 (xk (σ.t k).f10 dB)).f1).next k (σ.t k).f6
 else if xq (cg σ.C dB) k (σ.t k).f7 = true then σ.again k
 else ((σ.reg k dA (cg σ.C dB).f0).upd k fun t => { t with f9 := xG ⟨dB, (cg σ.C dB).f0⟩ (σ.t k).f9 false }).next k (σ.t k).f6
theorem reg_cell {w : World} {B b3 n c : Nat} {l : List Int} (h : Kd.R (Kd.int .i64) 3 w B (fun _ => True) (.slice (some ⟨b3, 0, none⟩) n c) l) (a : Int) (h0 : 0 ≤ a) (h1 : a < l.length) :
  w.cell? ⟨b3, a.toNat, none⟩ = some (.int .i64 (l.getD a.toNat 0)) ∧ w.frozen? ⟨b3, a.toNat, none⟩ = false := by
 have hn : n = l.length := (Kd.zH h).1
 obtain ⟨ce, hcl, hM, hcc, hfr⟩ := Kd.R_elem h 0 a h0 (by omega)
 obtain rfl : ce = [.int .i64 (l.getD a.toNat 0)] := hM
 have h2 := hcc 0 _ rfl
 have h3 := hfr 0
 rw [show (Kd.int .i64).sz = 1 from rfl, Nat.mul_one, Nat.add_zero] at h2 h3
 exact ⟨h2, h3⟩
set_option maxHeartbeats 4000000 in
set_option maxRecDepth 100000 in
theorem load_a {w0 w : World} {g : Nat} {vp0 vp1 : Value} {σ : St} (k dK dA dB : Int) (h : zS w0 w g vp0 vp1 σ) (h0 : 0 ≤ k) (h1 : k < σ.T.length) (h8 : (σ.t k).f8.length ≤ 1000) (h9 : (σ.t k).f9.length ≤ 1000) (h10 : (σ.t k).f10.length ≤ 1000) (h6 : 0 ≤ (σ.t k).f6 ∧ (σ.t k).f6 ≤ 1000) (hA0 : 0 ≤ dA) (hA1 : dA < (σ.t k).f3.length) (hB0 : 0 ≤ dB) (hB1 : dB < σ.C.length) (q : 0 ≤ xk (σ.t k).f10 dB) :
  Calls Try.prog 138 #[.pointer (some ⟨g, 0, none⟩), .int .i64 k, .agg #[.int .i64 dK, .int .i64 dA, .int .i64 dB]] w fun e w' => e = .returned (.tuple #[]) ∧ zS w0 w' g vp0 vp1 (σ.load k dA dB) := by
 have H1 := zb.mk h1
 have H6 := zb.mk h6
 have H8 := zb.mk h8
 have H9 := zb.mk h9
 have H10 := zb.mk h10
 clear h1 h6 h8 h9 h10
 obtain ⟨gT, cap, T, vC, vL, A3, c3, A8, c8, A9, c9, A10, c10, HR, HE, HT, H1', a3, ⟨k0, k1, k2, k3, k4, k5, k6, k7, k8, k9, k10, k11, k12⟩, hf, HB, HC3, HC8, HC9, HC10⟩ := h.open13 k h0 H1.out
 clear h
 have r3 := (HR.out.V.rows _ (yF h0 H1'.out)).r3
 rw [HT.out] at r3
 have r3 : Kd.R (Kd.int .i64) 3 w w0.heap.size (fun _ => True) (.slice A3 (σ.t k).f3.length c3) (σ.t k).f3 := r3
 obtain ⟨b3, cap3, e3, hb3, hlt3, cells3, hcc3⟩ := Kd.xT r3 (by omega)
 injection e3 with e3 _ e3'
 subst e3 e3'
 have HR3 := zb.mk r3
 obtain ⟨gC, capC, rfl, e0, e1, cc, hcc⟩ := HR.out.cform (by omega)
 obtain ⟨y0, y1, y2, yf⟩ := HR.out.celem dB hB0 hB1
 have a2 := HR.out.c2
 have hu := Try.underlying43
 have hud := Try.underlying113
 have hup := Try.underlying45
 have p1 : k < (σ.T.length : Int) := H1.out
 have b1 := HB.out.1
 have bg := HB.out.2.2.2
 have HNE := zb.mk (show b3 ≠ gT ∧ b3 ≠ g ∧ b3 ≠ gC ∧ b3 < w.heap.size ∧ gC < w.heap.size ∧ gC ≠ g from ⟨fun e => by
   subst e
   obtain ⟨cT, hcT⟩ := Kd.xb HR.out.V.rT b3 (by simp [Value.ownBlock])
   rw [hcT] at hcc3
   injection hcc3 with hcc3
   injection hcc3 with _ hcc3
   exact absurd hcc3 (by decide), fun e => by
   subst e
   have := HR.out.blk
   rw [hcc3] at this
   injection this with this
   injection this with _ this
   exact absurd this (by decide), fun e => by
   subst e
   rw [hcc] at hcc3
   injection hcc3 with hcc3
   injection hcc3 with _ hcc3
   exact absurd hcc3 (by decide), hlt3, e1, fun e => by
   subst e
   have := HR.out.blk
   rw [hcc] at this
   injection this with this
   injection this with _ this
   exact absurd this (by decide)⟩)
 clear r3 y1 y2 yf hcc cc hcc3 cells3 hb3 e0
 have hfo := findF_ok (σ.t k).f10 dB
 obtain ⟨f0, f1, _⟩ : 0 ≤ xk (σ.t k).f10 dB ∧ xk (σ.t k).f10 dB < (σ.t k).f10.length ∧ (zw (σ.t k).f10 (xk (σ.t k).f10 dB)).f0 = dB := by rcases hfo with h | h; omega; exact h
 obtain ⟨ad, rfl, x0, x1⟩ := yK HC10.out.1 (xk (σ.t k).f10 dB) f0 f1
 obtain ⟨pn, hpn⟩ : ∃ pn, pn = (zw (σ.t k).f10 (xk (σ.t k).f10 dB)).f1 := ⟨_, rfl⟩
 rw [← hpn] at x1
 have HQ := zb.mk (show σ.load k dA dB = (σ.reg k dA pn).next k (σ.t k).f6 by unfold St.load; rw [if_pos q, hpn]; rfl)
 clear hpn x0 hfo q
 go_enter Try.func138, Try.ntmps138
 go_upto_region 2 with (fail)
 obtain ⟨V0, hV⟩ : ∃ V0, V0 = (w.alloc (.cells #[.int .i64 dK, .int .i64 dA, .int .i64 dB] 113)).alloc (.cells #[.int .i64 (σ.t k).f0, .int .i64 (σ.t k).f1, .int .i64 (σ.t k).f2, .slice (some ⟨b3, 0, none⟩) (σ.t k).f3.length c3, .int .i64 (σ.t k).f4, .int .i64 (σ.t k).f5, .int .i64 (σ.t k).f6, .int .i64 (σ.t k).f7, .slice A8 (σ.t k).f8.length c8, .slice A9 (σ.t k).f9.length c9, .slice (some ad) (σ.t k).f10.length c10, .int .i64 (σ.t k).f11, .int .i64 (σ.t k).f12] 43) := ⟨_, rfl⟩
 have HB0 := zb.mk (show Below w.heap.size w V0 by rw [hV]; exact zc (zc (Below.refl _ _) _) _)
 have HV0 := zb.mk (show V0.heap.size = w.heap.size + 2 by rw [hV]; simp)
 have HX0 := zb.mk (show V0.heap[w.heap.size + 1]? = some (.cells #[.int .i64 (σ.t k).f0, .int .i64 (σ.t k).f1, .int .i64 (σ.t k).f2, .slice (some ⟨b3, 0, none⟩) (σ.t k).f3.length c3, .int .i64 (σ.t k).f4, .int .i64 (σ.t k).f5, .int .i64 (σ.t k).f6, .int .i64 (σ.t k).f7, .slice A8 (σ.t k).f8.length c8, .slice A9 (σ.t k).f9.length c9, .slice (some ad) (σ.t k).f10.length c10, .int .i64 (σ.t k).f11, .int .i64 (σ.t k).f12] 43 (0, 0)) by rw [hV, show w.heap.size + 1 = (w.alloc (.cells #[.int .i64 dK, .int .i64 dA, .int .i64 dB] 113)).heap.size by simp]; exact heap_alloc_new _ _)
 have HD0 := zb.mk (show V0.heap[w.heap.size]? = some (.cells #[.int .i64 dK, .int .i64 dA, .int .i64 dB] 113 (0, 0)) by rw [hV]; exact (Below.heap_alloc _ _ _ (by simp)).trans (heap_alloc_new _ _))
 rw [← hV]
 have w10 := (zd HX0.out 10).trans rfl
 have d2 := (zd HD0.out 2).trans rfl
 clear hV k0 k1 k2 k3 k4 k5 k6 k7 k8 k9 k10 k11 k12
 go_wp2_with fail
 refine (find_calls (some ad) c10 (σ.t k).f10 dB V0 (Kd.zt HC10.out.1 HB0.out) HC10.out.2 H10.out).mono ?_
 rintro e V ⟨rfl, hbV⟩
 have HBV := zb.mk (show Below w.heap.size w V from zi HB0.out hbV)
 have HX := zb.mk ((hbV.block _ (zo HX0.out)).trans HX0.out)
 have HD := zb.mk ((hbV.block _ (zo HD0.out)).trans HD0.out)
 have HVS := zb.mk (show w.heap.size + 2 ≤ V.heap.size by have := hbV.size; have := HV0.out; omega)
 have HRV := zb.mk (HR.out.below HBV.out)
 have w10 := (zd HX.out 10).trans rfl
 have d1 := (zd HD.out 1).trans rfl
 have d2 := (zd HD.out 2).trans rfl
 have a2 := za HBV.out a2
 have a3 := za HBV.out a3
 have y0 := za HBV.out y0
 clear hbV HX0 HD0 HV0 HB0
 obtain ⟨fi, hfi⟩ : ∃ fi, fi = xk (σ.t k).f10 dB := ⟨_, rfl⟩
 have HFI := zb.mk hfi
 rw [← hfi]
 clear hfi
 rw [← HFI.out] at x1 f0 f1
 have x1 := za HBV.out x1
 have c0 : decide (fi ≥ 0) = true := decide_eq_true f0
 have c0' : decide (0 ≤ fi) = true := decide_eq_true f0
 have HRV3 := zb.mk (Kd.zN HR3.out HBV.out)
 obtain ⟨rc, rf⟩ := reg_cell HRV3.out dA hA0 hA1
 have v3 : V.cell? ⟨gT, k.toNat * 13 + 3, none⟩ = some (.slice (some ⟨b3, 0, none⟩) (σ.t k).f3.length c3) := (HRV.out.elem k h0 H1'.out).1 3 _ (by rw [HT.out]; rfl)
 go_upto_region 6 with (fail)
 refine yc (n := 19) (S := fun w' => w'.cell? ⟨g, 3, none⟩ = some (.slice (some ⟨gT, 0, none⟩) σ.T.length cap) ∧ w'.cell? ⟨gT, k.toNat * 13 + 3, none⟩ = some (.slice (some ⟨b3, 0, none⟩) (σ.t k).f3.length c3) ∧ w'.cell? ⟨w.heap.size, 1, none⟩ = some (.int .i64 dA) ∧ w'.cell? ⟨w.heap.size + 1, 10, none⟩ = some (.slice (some ad) (σ.t k).f10.length c10) ∧ w'.cell? ⟨(ad.add (fi.toNat * 2)).block, (ad.add (fi.toNat * 2)).off + 1, none⟩ = some (.int .i64 pn)) (ds := [18]) (bm 19 0) (by kernel_rfl) rfl rfl ⟨(za (ze (Below.refl _ _)) a3), (za (ze (Below.refl _ _)) v3), (za (ze (Below.refl _ _)) d1), (za (ze (Below.refl _ _)) w10), (za (ze (Below.refl _ _)) x1)⟩ (fun hHeld => ?_)
 refine zl (i := 0) (N := some 70) (v := ?_) (a' := ?_) (bm 19 1) rfl rfl (by kernel_rfl) (fun _ _ _ h => h) (Or.inl ⟨by rfl, ?_⟩) ?_ ?_
 rotate_left
 ·intro w'
  go_simp
  with_reducible rfl
 rotate_left
 ·simp only [Act.put, List.setIfInBounds_toArray, List.set_cons_zero, List.set_cons_succ, zg, zh]
  rfl
 refine zl (i := 1) (N := some 71) (v := ?_) (a' := ?_) (bm 19 3) rfl rfl (by kernel_rfl) (fun _ _ _ h => h) (Or.inl ⟨by rfl, ?_⟩) ?_ ?_
 rotate_left
 ·intro w'
  go_simp
  with_reducible rfl
 rotate_left
 ·simp only [Act.put, List.setIfInBounds_toArray, List.set_cons_zero, List.set_cons_succ, zg, zh]
  rfl
 refine zl (i := 2) (N := some 72) (v := ?_) (a' := ?_) (bm 19 7) rfl rfl (by kernel_rfl) (fun _ _ _ h => h) (Or.inl ⟨by rfl, ?_⟩) ?_ ?_
 rotate_left
 ·intro w'
  go_simp
  with_reducible rfl
 rotate_left
 ·simp only [Act.put, List.setIfInBounds_toArray, List.set_cons_zero, List.set_cons_succ, zg, zh]
  rfl
 refine zl (i := 3) (N := some 73) (v := ?_) (a' := ?_) (bm 19 15) rfl rfl (by kernel_rfl) (fun _ _ _ h => h) (Or.inl ⟨by rfl, ?_⟩) ?_ ?_
 rotate_left
 ·intro w'
  go_simp
  with_reducible rfl
 rotate_left
 ·simp only [Act.put, List.setIfInBounds_toArray, List.set_cons_zero, List.set_cons_succ, zg, zh]
  rfl
 refine zl (i := 5) (N := some 75) (v := ?_) (a' := ?_) (bm 19 47) rfl rfl (by kernel_rfl) (fun _ _ _ h => h) (Or.inl ⟨by rfl, ?_⟩) ?_ ?_
 rotate_left
 ·intro w'
  go_simp
  with_reducible rfl
 rotate_left
 ·simp only [Act.put, List.setIfInBounds_toArray, List.set_cons_zero, List.set_cons_succ, zg, zh]
  rfl
 refine zl (i := 9) (N := some 79) (v := ?_) (a' := ?_) (bm 19 559) rfl rfl (by kernel_rfl) (fun _ _ _ h => h) (Or.inl ⟨by rfl, ?_⟩) ?_ ?_
 rotate_left
 ·intro w'
  go_simp
  with_reducible rfl
 rotate_left
 ·simp only [Act.put, List.setIfInBounds_toArray, List.set_cons_zero, List.set_cons_succ, zg, zh]
  rfl
 refine zl (i := 11) (N := some 81) (v := ?_) (a' := ?_) (bm 19 2607) rfl rfl (by kernel_rfl) (fun _ _ _ h => h) (Or.inl ⟨by rfl, ?_⟩) ?_ ?_
 rotate_left
 ·intro w'
  go_simp
  with_reducible rfl
 rotate_left
 ·simp only [Act.put, List.setIfInBounds_toArray, List.set_cons_zero, List.set_cons_succ, zg, zh]
  rfl
 refine zl (i := 13) (N := some 83) (v := ?_) (a' := ?_) (bm 19 10799) rfl rfl (by kernel_rfl) (fun _ _ _ h => h) (Or.inl ⟨by rfl, ?_⟩) ?_ ?_
 rotate_left
 ·intro w'
  go_simp
  with_reducible rfl
 rotate_left
 ·simp only [Act.put, List.setIfInBounds_toArray, List.set_cons_zero, List.set_cons_succ, zg, zh]
  rfl
 refine zA (i := 4) (N := some 74) (v := ?_) (a' := ?_) (bm 19 10815) rfl rfl (by kernel_rfl) (fun _ _ _ h => h) (Or.inl ⟨by rfl, ?_⟩) hHeld ?_ ?_
 rotate_left
 ·rintro w' ⟨s0, s1, s2, s3, s4⟩
  go_simp
  with_reducible rfl
 rotate_left
 ·simp only [Act.put, List.setIfInBounds_toArray, List.set_cons_zero, List.set_cons_succ, zg, zh]
  rfl
 refine zl (i := 6) (N := some 76) (v := ?_) (a' := ?_) (bm 19 10879) rfl rfl (by kernel_rfl) (fun _ _ _ h => h) (Or.inl ⟨by rfl, ?_⟩) ?_ ?_
 rotate_left
 ·intro w'
  go_simp
  with_reducible rfl
 rotate_left
 ·simp only [Act.put, List.setIfInBounds_toArray, List.set_cons_zero, List.set_cons_succ, zg, zh]
  rfl
 refine zl (i := 7) (N := some 77) (v := ?_) (a' := ?_) (bm 19 11007) rfl rfl (by kernel_rfl) (fun _ _ _ h => h) (Or.inl ⟨by rfl, ?_⟩) ?_ ?_
 rotate_left
 ·intro w'
  go_simp
  with_reducible rfl
 rotate_left
 ·simp only [Act.put, List.setIfInBounds_toArray, List.set_cons_zero, List.set_cons_succ, zg, zh]
  rfl
 refine zA (i := 8) (N := some 78) (v := ?_) (a' := ?_) (bm 19 11263) rfl rfl (by kernel_rfl) (fun _ _ _ h => h) (Or.inl ⟨by rfl, ?_⟩) hHeld ?_ ?_
 rotate_left
 ·rintro w' ⟨s0, s1, s2, s3, s4⟩
  go_simp
  with_reducible rfl
 rotate_left
 ·simp only [Act.put, List.setIfInBounds_toArray, List.set_cons_zero, List.set_cons_succ, zg, zh]
  rfl
 refine zA (i := 10) (N := some 80) (v := ?_) (a' := ?_) (bm 19 12287) rfl rfl (by kernel_rfl) (fun _ _ _ h => h) (Or.inl ⟨by rfl, ?_⟩) hHeld ?_ ?_
 rotate_left
 ·rintro w' ⟨s0, s1, s2, s3, s4⟩
  go_simp
  with_reducible rfl
 rotate_left
 ·simp only [Act.put, List.setIfInBounds_toArray, List.set_cons_zero, List.set_cons_succ, zg, zh]
  rfl
 refine zA (i := 12) (N := some 82) (v := ?_) (a' := ?_) (bm 19 16383) rfl rfl (by kernel_rfl) (fun _ _ _ h => h) (Or.inl ⟨by rfl, ?_⟩) hHeld ?_ ?_
 rotate_left
 ·rintro w' ⟨s0, s1, s2, s3, s4⟩
  go_simp
  with_reducible rfl
 rotate_left
 ·simp only [Act.put, List.setIfInBounds_toArray, List.set_cons_zero, List.set_cons_succ, zg, zh]
  rfl
 refine zl (i := 14) (N := some 84) (v := ?_) (a' := ?_) (bm 19 32767) rfl rfl (by kernel_rfl) (fun _ _ _ h => h) (Or.inl ⟨by rfl, ?_⟩) ?_ ?_
 rotate_left
 ·intro w'
  go_simp
  with_reducible rfl
 rotate_left
 ·simp only [Act.put, List.setIfInBounds_toArray, List.set_cons_zero, List.set_cons_succ, zg, zh]
  rfl
 refine zl (i := 15) (N := some 85) (v := ?_) (a' := ?_) (bm 19 65535) rfl rfl (by kernel_rfl) (fun _ _ _ h => h) (Or.inl ⟨by rfl, ?_⟩) ?_ ?_
 rotate_left
 ·intro w'
  go_simp
  with_reducible rfl
 rotate_left
 ·simp only [Act.put, List.setIfInBounds_toArray, List.set_cons_zero, List.set_cons_succ, zg, zh]
  rfl
 refine zA (i := 16) (N := some 86) (v := ?_) (a' := ?_) (bm 19 131071) rfl rfl (by kernel_rfl) (fun _ _ _ h => h) (Or.inl ⟨by rfl, ?_⟩) hHeld ?_ ?_
 rotate_left
 ·rintro w' ⟨s0, s1, s2, s3, s4⟩
  go_simp
  with_reducible rfl
 rotate_left
 ·simp only [Act.put, List.setIfInBounds_toArray, List.set_cons_zero, List.set_cons_succ, zg, zh]
  rfl
 refine zl (i := 17) (N := some 87) (v := ?_) (a' := ?_) (bm 19 262143) rfl rfl (by kernel_rfl) (fun _ _ _ h => h) (Or.inl ⟨by rfl, ?_⟩) ?_ ?_
 rotate_left
 ·intro w'
  go_simp
  with_reducible rfl
 rotate_left
 ·simp only [Act.put, List.setIfInBounds_toArray, List.set_cons_zero, List.set_cons_succ, zg, zh]
  rfl
 refine yR (i := 18) (N := none) (bm 19 524287) rfl rfl (by kernel_rfl) (by decide) (fun K hK => ?_)
 refine yQ (w1 := ?_) (by rfl) rfl ?_ ?_
 rotate_left
 ·go_simp
  rfl
 refine hK.out _ _ ?_
 clear hK K
 refine yt (by kernel_rfl) ?_
 have hg3 := Kd.R_putg HRV3.out dA pn
 have HR2 := zb.mk (show yL w0 (V.setCell ⟨b3, dA.toNat, none⟩ (.int .i64 pn)) g _ vp0 vp1 gT cap (σ.reg k dA pn) from yL.regs HRV.out HE.out k h0 H1'.out _ (by rw [HT.out]; exact hg3.1) (by rw [HT.out]; exact ⟨hg3.2.size, fun j hj hn => hg3.2.block j hj hn⟩) (HRV.out.hb.setCell (p := ⟨b3, dA.toNat, none⟩) (Kd.yV HRV3.out b3 (by simp [Value.ownBlock])) _))
 have HX2 := zb.mk ((Below.heap_setCell V ⟨b3, dA.toNat, none⟩ (.int .i64 pn) (w.heap.size + 1) (by show w.heap.size + 1 ≠ b3; have := HNE.out; omega)).trans HX.out)
 have HD2 := zb.mk ((Below.heap_setCell V ⟨b3, dA.toNat, none⟩ (.int .i64 pn) w.heap.size (by show w.heap.size ≠ b3; have := HNE.out; omega)).trans HD.out)
 have a3 := yo (b := ⟨b3, dA.toNat, none⟩) (u := .int .i64 pn) a3 (fun e => by rw [Addr.mk.injEq] at e; exact HNE.out.2.1 e.1.symm)
 have a2 := yo (b := ⟨b3, dA.toNat, none⟩) (u := .int .i64 pn) a2 (fun e => by rw [Addr.mk.injEq] at e; exact HNE.out.2.1 e.1.symm)
 have y0 := yo (b := ⟨b3, dA.toNat, none⟩) (u := .int .i64 pn) y0 (fun e => by rw [Addr.mk.injEq] at e; exact HNE.out.2.2.1 e.1.symm)
 obtain ⟨W2, hW2⟩ : ∃ W2, W2 = V.setCell ⟨b3, dA.toNat, none⟩ (.int .i64 pn) := ⟨_, rfl⟩
 rw [← hW2] at HR2 HX2 a3 ⊢
 have x6 := (zd HX2.out 6).trans rfl
 obtain ⟨at_, hat⟩ : ∃ at_, at_ = (σ.t k).f6 := ⟨_, rfl⟩
 rw [← hat] at x6 HQ
 have HA1 := zb.mk (show at_ ≤ 1000 ∧ 0 ≤ at_ by have := H6.out; rw [hat]; omega)
 have e6 : wrap64 (at_ + 1) = at_ + 1 := yN (by have := HA1.out; omega) (by have := HA1.out; omega)
 obtain ⟨n2, vC2, vL2, T2, HR2, HE2⟩ := HR2.out
 have HR2 := zb.mk HR2
 have HE2 := zb.mk HE2
 have h12 := zb.mk (show k < (T2.length : Int) by rw [len_of HE2.out]; exact (by rw [show (σ.reg k dA pn).T.length = σ.T.length from St.len_upd]; exact H1.out))
 have kz := HR2.out.elem k h0 h12.out
 have k1 := kz.1 6 _ rfl
 have z1 := kz.2.1 6
 clear hW2 hat hg3 kz a2 y0 v3 rc rf x1 w10 d1 d2 hHeld
 go_upto_region 9 with (fail)
 refine yc (n := 12) (S := fun w' => w'.cell? ⟨g, 3, none⟩ = some (.slice (some ⟨gT, 0, none⟩) σ.T.length cap) ∧ w'.cell? ⟨w.heap.size + 1, 6, none⟩ = some (.int .i64 at_)) (ds := [11]) (bm 12 0) (by kernel_rfl) rfl rfl ⟨(za (ze (Below.refl _ _)) a3), (za (ze (Below.refl _ _)) x6)⟩ (fun hHeld => ?_)
 refine zl (i := 0) (N := some 97) (v := ?_) (a' := ?_) (bm 12 1) rfl rfl (by kernel_rfl) (fun _ _ _ h => h) (Or.inl ⟨by rfl, ?_⟩) ?_ ?_
 rotate_left
 ·intro w'
  go_simp
  with_reducible rfl
 rotate_left
 ·simp only [Act.put, List.setIfInBounds_toArray, List.set_cons_zero, List.set_cons_succ, zg, zh]
  rfl
 refine zl (i := 1) (N := some 98) (v := ?_) (a' := ?_) (bm 12 3) rfl rfl (by kernel_rfl) (fun _ _ _ h => h) (Or.inl ⟨by rfl, ?_⟩) ?_ ?_
 rotate_left
 ·intro w'
  go_simp
  with_reducible rfl
 rotate_left
 ·simp only [Act.put, List.setIfInBounds_toArray, List.set_cons_zero, List.set_cons_succ, zg, zh]
  rfl
 refine zl (i := 2) (N := some 99) (v := ?_) (a' := ?_) (bm 12 7) rfl rfl (by kernel_rfl) (fun _ _ _ h => h) (Or.inl ⟨by rfl, ?_⟩) ?_ ?_
 rotate_left
 ·intro w'
  go_simp
  with_reducible rfl
 rotate_left
 ·simp only [Act.put, List.setIfInBounds_toArray, List.set_cons_zero, List.set_cons_succ, zg, zh]
  rfl
 refine zl (i := 3) (N := some 100) (v := ?_) (a' := ?_) (bm 12 15) rfl rfl (by kernel_rfl) (fun _ _ _ h => h) (Or.inl ⟨by rfl, ?_⟩) ?_ ?_
 rotate_left
 ·intro w'
  go_simp
  with_reducible rfl
 rotate_left
 ·simp only [Act.put, List.setIfInBounds_toArray, List.set_cons_zero, List.set_cons_succ, zg, zh]
  rfl
 refine zl (i := 5) (N := some 102) (v := ?_) (a' := ?_) (bm 12 47) rfl rfl (by kernel_rfl) (fun _ _ _ h => h) (Or.inl ⟨by rfl, ?_⟩) ?_ ?_
 rotate_left
 ·intro w'
  go_simp
  with_reducible rfl
 rotate_left
 ·simp only [Act.put, List.setIfInBounds_toArray, List.set_cons_zero, List.set_cons_succ, zg, zh]
  rfl
 refine zl (i := 6) (N := some 103) (v := ?_) (a' := ?_) (bm 12 111) rfl rfl (by kernel_rfl) (fun _ _ _ h => h) (Or.inl ⟨by rfl, ?_⟩) ?_ ?_
 rotate_left
 ·intro w'
  go_simp
  with_reducible rfl
 rotate_left
 ·simp only [Act.put, List.setIfInBounds_toArray, List.set_cons_zero, List.set_cons_succ, zg, zh]
  rfl
 refine zA (i := 4) (N := some 101) (v := ?_) (a' := ?_) (bm 12 127) rfl rfl (by kernel_rfl) (fun _ _ _ h => h) (Or.inl ⟨by rfl, ?_⟩) hHeld ?_ ?_
 rotate_left
 ·rintro w' ⟨s0, s1⟩
  go_simp
  with_reducible rfl
 rotate_left
 ·simp only [Act.put, List.setIfInBounds_toArray, List.set_cons_zero, List.set_cons_succ, zg, zh]
  rfl
 refine zA (i := 7) (N := some 104) (v := ?_) (a' := ?_) (bm 12 255) rfl rfl (by kernel_rfl) (fun _ _ _ h => h) (Or.inl ⟨by rfl, ?_⟩) hHeld ?_ ?_
 rotate_left
 ·rintro w' ⟨s0, s1⟩
  go_simp
  with_reducible rfl
 rotate_left
 ·simp only [Act.put, List.setIfInBounds_toArray, List.set_cons_zero, List.set_cons_succ, zg, zh]
  rfl
 refine zl (i := 8) (N := some 105) (v := ?_) (a' := ?_) (bm 12 511) rfl rfl (by kernel_rfl) (fun _ _ _ h => h) (Or.inl ⟨by rfl, ?_⟩) ?_ ?_
 rotate_left
 ·intro w'
  go_simp
  with_reducible rfl
 rotate_left
 ·simp only [Act.put, List.setIfInBounds_toArray, List.set_cons_zero, List.set_cons_succ, zg, zh]
  rfl
 refine zl (i := 9) (N := some 106) (v := ?_) (a' := ?_) (bm 12 1023) rfl rfl (by kernel_rfl) (fun _ _ _ h => h) (Or.inl ⟨by rfl, ?_⟩) ?_ ?_
 rotate_left
 ·intro w'
  go_simp
  with_reducible rfl
 rotate_left
 ·simp only [Act.put, List.setIfInBounds_toArray, List.set_cons_zero, List.set_cons_succ, zg, zh]
  rfl
 refine zl (i := 10) (N := some 107) (v := ?_) (a' := ?_) (bm 12 2047) rfl rfl (by kernel_rfl) (fun _ _ _ h => h) (Or.inl ⟨by rfl, ?_⟩) ?_ ?_
 rotate_left
 ·intro w'
  go_simp
  with_reducible rfl
 rotate_left
 ·simp only [Act.put, List.setIfInBounds_toArray, List.set_cons_zero, List.set_cons_succ, zg, zh]
  rfl
 refine yR (i := 11) (N := none) (bm 12 4095) rfl rfl (by kernel_rfl) (by decide) (fun K hK => ?_)
 refine yQ (w1 := ?_) (by rfl) rfl ?_ ?_
 rotate_left
 ·go_simp
  rfl
 refine hK.out _ _ ?_
 clear hK K
 refine yt (by kernel_rfl) ?_
 go_wp2
 go_end0
 rw [HQ.out]
 exact ⟨rfl, (zS.next (σ := σ.reg k dA pn) ⟨_, _, _, _, HR2.out.now, HE2.out⟩ k at_ h0 (by rw [show (σ.reg k dA pn).T.length = σ.T.length from St.len_upd]; exact H1.out)).below (ze (ze (Below.refl _ _)))⟩
set_option maxHeartbeats 4000000 in
set_option maxRecDepth 100000 in
theorem load_b {w0 w : World} {g : Nat} {vp0 vp1 : Value} {σ : St} (k dK dA dB : Int) (h : zS w0 w g vp0 vp1 σ) (h0 : 0 ≤ k) (h1 : k < σ.T.length) (h8 : (σ.t k).f8.length ≤ 1000) (h9 : (σ.t k).f9.length ≤ 1000) (h10 : (σ.t k).f10.length ≤ 1000) (h6 : 0 ≤ (σ.t k).f6 ∧ (σ.t k).f6 ≤ 1000) (hA0 : 0 ≤ dA) (hA1 : dA < (σ.t k).f3.length) (hB0 : 0 ≤ dB) (hB1 : dB < σ.C.length) (q : ¬ 0 ≤ xk (σ.t k).f10 dB) (qb : xq (cg σ.C dB) k (σ.t k).f7 = true) :
  Calls Try.prog 138 #[.pointer (some ⟨g, 0, none⟩), .int .i64 k, .agg #[.int .i64 dK, .int .i64 dA, .int .i64 dB]] w fun e w' => e = .returned (.tuple #[]) ∧ zS w0 w' g vp0 vp1 (σ.load k dA dB) := by
 have H1 := zb.mk h1
 have H6 := zb.mk h6
 have H8 := zb.mk h8
 have H9 := zb.mk h9
 have H10 := zb.mk h10
 clear h1 h6 h8 h9 h10
 obtain ⟨gT, cap, T, vC, vL, A3, c3, A8, c8, A9, c9, A10, c10, HR, HE, HT, H1', a3, ⟨k0, k1, k2, k3, k4, k5, k6, k7, k8, k9, k10, k11, k12⟩, hf, HB, HC3, HC8, HC9, HC10⟩ := h.open13 k h0 H1.out
 clear h
 have r3 := (HR.out.V.rows _ (yF h0 H1'.out)).r3
 rw [HT.out] at r3
 have r3 : Kd.R (Kd.int .i64) 3 w w0.heap.size (fun _ => True) (.slice A3 (σ.t k).f3.length c3) (σ.t k).f3 := r3
 obtain ⟨b3, cap3, e3, hb3, hlt3, cells3, hcc3⟩ := Kd.xT r3 (by omega)
 injection e3 with e3 _ e3'
 subst e3 e3'
 have HR3 := zb.mk r3
 obtain ⟨gC, capC, rfl, e0, e1, cc, hcc⟩ := HR.out.cform (by omega)
 obtain ⟨y0, y1, y2, yf⟩ := HR.out.celem dB hB0 hB1
 have a2 := HR.out.c2
 have hu := Try.underlying43
 have hud := Try.underlying113
 have hup := Try.underlying45
 have p1 : k < (σ.T.length : Int) := H1.out
 have b1 := HB.out.1
 have bg := HB.out.2.2.2
 have HNE := zb.mk (show b3 ≠ gT ∧ b3 ≠ g ∧ b3 ≠ gC ∧ b3 < w.heap.size ∧ gC < w.heap.size ∧ gC ≠ g from ⟨fun e => by
   subst e
   obtain ⟨cT, hcT⟩ := Kd.xb HR.out.V.rT b3 (by simp [Value.ownBlock])
   rw [hcT] at hcc3
   injection hcc3 with hcc3
   injection hcc3 with _ hcc3
   exact absurd hcc3 (by decide), fun e => by
   subst e
   have := HR.out.blk
   rw [hcc3] at this
   injection this with this
   injection this with _ this
   exact absurd this (by decide), fun e => by
   subst e
   rw [hcc] at hcc3
   injection hcc3 with hcc3
   injection hcc3 with _ hcc3
   exact absurd hcc3 (by decide), hlt3, e1, fun e => by
   subst e
   have := HR.out.blk
   rw [hcc] at this
   injection this with this
   injection this with _ this
   exact absurd this (by decide)⟩)
 clear r3 y1 y2 yf hcc cc hcc3 cells3 hb3 e0
 have HQ := zb.mk (show σ.load k dA dB = σ.again k by unfold St.load; rw [if_neg q, if_pos qb])
 have QB := zb.mk qb
 have QN := zb.mk q
 clear q qb
 go_enter Try.func138, Try.ntmps138
 go_upto_region 2 with (fail)
 obtain ⟨V0, hV⟩ : ∃ V0, V0 = (w.alloc (.cells #[.int .i64 dK, .int .i64 dA, .int .i64 dB] 113)).alloc (.cells #[.int .i64 (σ.t k).f0, .int .i64 (σ.t k).f1, .int .i64 (σ.t k).f2, .slice (some ⟨b3, 0, none⟩) (σ.t k).f3.length c3, .int .i64 (σ.t k).f4, .int .i64 (σ.t k).f5, .int .i64 (σ.t k).f6, .int .i64 (σ.t k).f7, .slice A8 (σ.t k).f8.length c8, .slice A9 (σ.t k).f9.length c9, .slice A10 (σ.t k).f10.length c10, .int .i64 (σ.t k).f11, .int .i64 (σ.t k).f12] 43) := ⟨_, rfl⟩
 have HB0 := zb.mk (show Below w.heap.size w V0 by rw [hV]; exact zc (zc (Below.refl _ _) _) _)
 have HV0 := zb.mk (show V0.heap.size = w.heap.size + 2 by rw [hV]; simp)
 have HX0 := zb.mk (show V0.heap[w.heap.size + 1]? = some (.cells #[.int .i64 (σ.t k).f0, .int .i64 (σ.t k).f1, .int .i64 (σ.t k).f2, .slice (some ⟨b3, 0, none⟩) (σ.t k).f3.length c3, .int .i64 (σ.t k).f4, .int .i64 (σ.t k).f5, .int .i64 (σ.t k).f6, .int .i64 (σ.t k).f7, .slice A8 (σ.t k).f8.length c8, .slice A9 (σ.t k).f9.length c9, .slice A10 (σ.t k).f10.length c10, .int .i64 (σ.t k).f11, .int .i64 (σ.t k).f12] 43 (0, 0)) by rw [hV, show w.heap.size + 1 = (w.alloc (.cells #[.int .i64 dK, .int .i64 dA, .int .i64 dB] 113)).heap.size by simp]; exact heap_alloc_new _ _)
 have HD0 := zb.mk (show V0.heap[w.heap.size]? = some (.cells #[.int .i64 dK, .int .i64 dA, .int .i64 dB] 113 (0, 0)) by rw [hV]; exact (Below.heap_alloc _ _ _ (by simp)).trans (heap_alloc_new _ _))
 rw [← hV]
 have w10 := (zd HX0.out 10).trans rfl
 have d2 := (zd HD0.out 2).trans rfl
 clear hV k0 k1 k2 k3 k4 k5 k6 k7 k8 k9 k10 k11 k12
 go_wp2_with fail
 refine (find_calls A10 c10 (σ.t k).f10 dB V0 (Kd.zt HC10.out.1 HB0.out) HC10.out.2 H10.out).mono ?_
 rintro e V ⟨rfl, hbV⟩
 have HBV := zb.mk (show Below w.heap.size w V from zi HB0.out hbV)
 have HX := zb.mk ((hbV.block _ (zo HX0.out)).trans HX0.out)
 have HD := zb.mk ((hbV.block _ (zo HD0.out)).trans HD0.out)
 have HVS := zb.mk (show w.heap.size + 2 ≤ V.heap.size by have := hbV.size; have := HV0.out; omega)
 have HRV := zb.mk (HR.out.below HBV.out)
 have w10 := (zd HX.out 10).trans rfl
 have d1 := (zd HD.out 1).trans rfl
 have d2 := (zd HD.out 2).trans rfl
 have a2 := za HBV.out a2
 have a3 := za HBV.out a3
 have y0 := za HBV.out y0
 clear hbV HX0 HD0 HV0 HB0
 obtain ⟨fi, hfi⟩ : ∃ fi, fi = xk (σ.t k).f10 dB := ⟨_, rfl⟩
 have HFI := zb.mk hfi
 rw [← hfi]
 clear hfi
 have c0 : decide (fi ≥ 0) = false := by rw [HFI.out]; exact decide_eq_false (by have := QN.out; omega)
 have c0' : decide (0 ≤ fi) = false := by rw [HFI.out]; exact decide_eq_false (by have := QN.out; omega)
 have HS := zb.mk (show zS w0 V g vp0 vp1 σ from ⟨_, _, _, _, _, HRV.out, HE.out⟩)
 go_wp2_with fail
 refine (blind_calls k dB HS.out h0 H1.out hB0 hB1).mono ?_
 rw [QB.out]
 rintro e w2 ⟨rfl, hb2⟩
 have HS2 := zb.mk (HS.out.below hb2)
 go_wp2_with fail
 refine (wg k HS2.out h0 H1.out H8.out).mono ?_
 rintro e w3 ⟨rfl, h3⟩
 go_wp2
 refine bodyPost_ret (results_none rfl _ _ _) rfl ?_
 rw [HQ.out]
 exact ⟨rfl, h3⟩
set_option maxHeartbeats 4000000 in
set_option maxRecDepth 100000 in
theorem load_c {w0 w : World} {g : Nat} {vp0 vp1 : Value} {σ : St} (k dK dA dB : Int) (h : zS w0 w g vp0 vp1 σ) (h0 : 0 ≤ k) (h1 : k < σ.T.length) (h8 : (σ.t k).f8.length ≤ 1000) (h9 : (σ.t k).f9.length ≤ 1000) (h10 : (σ.t k).f10.length ≤ 1000) (h6 : 0 ≤ (σ.t k).f6 ∧ (σ.t k).f6 ≤ 1000) (hA0 : 0 ≤ dA) (hA1 : dA < (σ.t k).f3.length) (hB0 : 0 ≤ dB) (hB1 : dB < σ.C.length) (q : ¬ 0 ≤ xk (σ.t k).f10 dB) (qb : xq (cg σ.C dB) k (σ.t k).f7 = false) :
  Calls Try.prog 138 #[.pointer (some ⟨g, 0, none⟩), .int .i64 k, .agg #[.int .i64 dK, .int .i64 dA, .int .i64 dB]] w fun e w' => e = .returned (.tuple #[]) ∧ zS w0 w' g vp0 vp1 (σ.load k dA dB) := by
 have H1 := zb.mk h1
 have H6 := zb.mk h6
 have H8 := zb.mk h8
 have H9 := zb.mk h9
 have H10 := zb.mk h10
 clear h1 h6 h8 h9 h10
 obtain ⟨gT, cap, T, vC, vL, A3, c3, A8, c8, A9, c9, A10, c10, HR, HE, HT, H1', a3, ⟨k0, k1, k2, k3, k4, k5, k6, k7, k8, k9, k10, k11, k12⟩, hf, HB, HC3, HC8, HC9, HC10⟩ := h.open13 k h0 H1.out
 clear h
 have r3 := (HR.out.V.rows _ (yF h0 H1'.out)).r3
 rw [HT.out] at r3
 have r3 : Kd.R (Kd.int .i64) 3 w w0.heap.size (fun _ => True) (.slice A3 (σ.t k).f3.length c3) (σ.t k).f3 := r3
 obtain ⟨b3, cap3, e3, hb3, hlt3, cells3, hcc3⟩ := Kd.xT r3 (by omega)
 injection e3 with e3 _ e3'
 subst e3 e3'
 have HR3 := zb.mk r3
 obtain ⟨gC, capC, rfl, e0, e1, cc, hcc⟩ := HR.out.cform (by omega)
 obtain ⟨y0, y1, y2, yf⟩ := HR.out.celem dB hB0 hB1
 have a2 := HR.out.c2
 have hu := Try.underlying43
 have hud := Try.underlying113
 have hup := Try.underlying45
 have p1 : k < (σ.T.length : Int) := H1.out
 have b1 := HB.out.1
 have bg := HB.out.2.2.2
 have HNE := zb.mk (show b3 ≠ gT ∧ b3 ≠ g ∧ b3 ≠ gC ∧ b3 < w.heap.size ∧ gC < w.heap.size ∧ gC ≠ g from ⟨fun e => by
   subst e
   obtain ⟨cT, hcT⟩ := Kd.xb HR.out.V.rT b3 (by simp [Value.ownBlock])
   rw [hcT] at hcc3
   injection hcc3 with hcc3
   injection hcc3 with _ hcc3
   exact absurd hcc3 (by decide), fun e => by
   subst e
   have := HR.out.blk
   rw [hcc3] at this
   injection this with this
   injection this with _ this
   exact absurd this (by decide), fun e => by
   subst e
   rw [hcc] at hcc3
   injection hcc3 with hcc3
   injection hcc3 with _ hcc3
   exact absurd hcc3 (by decide), hlt3, e1, fun e => by
   subst e
   have := HR.out.blk
   rw [hcc] at this
   injection this with this
   injection this with _ this
   exact absurd this (by decide)⟩)
 clear r3 y1 y2 yf hcc cc hcc3 cells3 hb3 e0
 obtain ⟨cn, hcn⟩ : ∃ cn, cn = (cg σ.C dB).f0 := ⟨_, rfl⟩
 have HQ := zb.mk (show σ.load k dA dB = ((σ.reg k dA cn).upd k fun t => { t with f9 := xG ⟨dB, cn⟩ (σ.t k).f9 false }).next k (σ.t k).f6 by unfold St.load; rw [if_neg q, if_neg (by rw [qb]; decide), ← hcn])
 rw [← hcn] at y0
 have QB := zb.mk qb
 have QN := zb.mk q
 clear q qb hcn
 go_enter Try.func138, Try.ntmps138
 go_upto_region 2 with (fail)
 obtain ⟨V0, hV⟩ : ∃ V0, V0 = (w.alloc (.cells #[.int .i64 dK, .int .i64 dA, .int .i64 dB] 113)).alloc (.cells #[.int .i64 (σ.t k).f0, .int .i64 (σ.t k).f1, .int .i64 (σ.t k).f2, .slice (some ⟨b3, 0, none⟩) (σ.t k).f3.length c3, .int .i64 (σ.t k).f4, .int .i64 (σ.t k).f5, .int .i64 (σ.t k).f6, .int .i64 (σ.t k).f7, .slice A8 (σ.t k).f8.length c8, .slice A9 (σ.t k).f9.length c9, .slice A10 (σ.t k).f10.length c10, .int .i64 (σ.t k).f11, .int .i64 (σ.t k).f12] 43) := ⟨_, rfl⟩
 have HB0 := zb.mk (show Below w.heap.size w V0 by rw [hV]; exact zc (zc (Below.refl _ _) _) _)
 have HV0 := zb.mk (show V0.heap.size = w.heap.size + 2 by rw [hV]; simp)
 have HX0 := zb.mk (show V0.heap[w.heap.size + 1]? = some (.cells #[.int .i64 (σ.t k).f0, .int .i64 (σ.t k).f1, .int .i64 (σ.t k).f2, .slice (some ⟨b3, 0, none⟩) (σ.t k).f3.length c3, .int .i64 (σ.t k).f4, .int .i64 (σ.t k).f5, .int .i64 (σ.t k).f6, .int .i64 (σ.t k).f7, .slice A8 (σ.t k).f8.length c8, .slice A9 (σ.t k).f9.length c9, .slice A10 (σ.t k).f10.length c10, .int .i64 (σ.t k).f11, .int .i64 (σ.t k).f12] 43 (0, 0)) by rw [hV, show w.heap.size + 1 = (w.alloc (.cells #[.int .i64 dK, .int .i64 dA, .int .i64 dB] 113)).heap.size by simp]; exact heap_alloc_new _ _)
 have HD0 := zb.mk (show V0.heap[w.heap.size]? = some (.cells #[.int .i64 dK, .int .i64 dA, .int .i64 dB] 113 (0, 0)) by rw [hV]; exact (Below.heap_alloc _ _ _ (by simp)).trans (heap_alloc_new _ _))
 rw [← hV]
 have w10 := (zd HX0.out 10).trans rfl
 have d2 := (zd HD0.out 2).trans rfl
 clear hV k0 k1 k2 k3 k4 k5 k6 k7 k8 k9 k10 k11 k12
 go_wp2_with fail
 refine (find_calls A10 c10 (σ.t k).f10 dB V0 (Kd.zt HC10.out.1 HB0.out) HC10.out.2 H10.out).mono ?_
 rintro e V ⟨rfl, hbV⟩
 have HBV := zb.mk (show Below w.heap.size w V from zi HB0.out hbV)
 have HX := zb.mk ((hbV.block _ (zo HX0.out)).trans HX0.out)
 have HD := zb.mk ((hbV.block _ (zo HD0.out)).trans HD0.out)
 have HVS := zb.mk (show w.heap.size + 2 ≤ V.heap.size by have := hbV.size; have := HV0.out; omega)
 have HRV := zb.mk (HR.out.below HBV.out)
 have w10 := (zd HX.out 10).trans rfl
 have d1 := (zd HD.out 1).trans rfl
 have d2 := (zd HD.out 2).trans rfl
 have a2 := za HBV.out a2
 have a3 := za HBV.out a3
 have y0 := za HBV.out y0
 clear hbV HX0 HD0 HV0 HB0
 obtain ⟨fi, hfi⟩ : ∃ fi, fi = xk (σ.t k).f10 dB := ⟨_, rfl⟩
 have HFI := zb.mk hfi
 rw [← hfi]
 clear hfi
 have c0 : decide (fi ≥ 0) = false := by rw [HFI.out]; exact decide_eq_false (by have := QN.out; omega)
 have c0' : decide (0 ≤ fi) = false := by rw [HFI.out]; exact decide_eq_false (by have := QN.out; omega)
 have HS := zb.mk (show zS w0 V g vp0 vp1 σ from ⟨_, _, _, _, _, HRV.out, HE.out⟩)
 go_wp2_with fail
 refine (blind_calls k dB HS.out h0 H1.out hB0 hB1).mono ?_
 rw [QB.out]
 rintro e W2 ⟨rfl, hb2⟩
 have HRV := zb.mk (HRV.out.below hb2)
 have HBW := zb.mk (zi HBV.out hb2)
 have HX := zb.mk ((hb2.block _ (zo HX.out)).trans HX.out)
 have HD := zb.mk ((hb2.block _ (zo HD.out)).trans HD.out)
 have d1 := (zd HD.out 1).trans rfl
 have d2 := (zd HD.out 2).trans rfl
 have a2 := za hb2 a2
 have a3 := za hb2 a3
 have y0 := za hb2 y0
 have HRV3 := zb.mk (Kd.zN HR3.out HBW.out)
 obtain ⟨rc, rf⟩ := reg_cell HRV3.out dA hA0 hA1
 have v3 : W2.cell? ⟨gT, k.toNat * 13 + 3, none⟩ = some (.slice (some ⟨b3, 0, none⟩) (σ.t k).f3.length c3) := (HRV.out.elem k h0 H1'.out).1 3 _ (by rw [HT.out]; rfl)
 have HWS := zb.mk (show w.heap.size + 2 ≤ W2.heap.size by have := hb2.size; have := HVS.out; omega)
 clear hb2 w10
 go_upto_region 3 with (fail)
 refine yc (n := 23) (S := fun w' => w'.cell? ⟨g, 3, none⟩ = some (.slice (some ⟨gT, 0, none⟩) σ.T.length cap) ∧ w'.cell? ⟨gT, k.toNat * 13 + 3, none⟩ = some (.slice (some ⟨b3, 0, none⟩) (σ.t k).f3.length c3) ∧ w'.cell? ⟨w.heap.size, 1, none⟩ = some (.int .i64 dA) ∧ w'.cell? ⟨w.heap.size, 2, none⟩ = some (.int .i64 dB) ∧ w'.cell? ⟨g, 2, none⟩ = some (.slice (some ⟨gC, 0, none⟩) σ.C.length capC) ∧ w'.cell? ⟨gC, dB.toNat * 3, none⟩ = some (.int .i64 cn)) (ds := [22]) (bm 23 0) (by kernel_rfl) rfl rfl ⟨(za (ze (Below.refl _ _)) a3), (za (ze (Below.refl _ _)) v3), (za (ze (Below.refl _ _)) d1), (za (ze (Below.refl _ _)) d2), (za (ze (Below.refl _ _)) a2), (za (ze (Below.refl _ _)) y0)⟩ (fun hHeld => ?_)
 refine zl (i := 0) (N := some 21) (v := ?_) (a' := ?_) (bm 23 1) rfl rfl (by kernel_rfl) (fun _ _ _ h => h) (Or.inl ⟨by rfl, ?_⟩) ?_ ?_
 rotate_left
 ·intro w'
  go_simp
  with_reducible rfl
 rotate_left
 ·simp only [Act.put, List.setIfInBounds_toArray, List.set_cons_zero, List.set_cons_succ, zg, zh]
  rfl
 refine zl (i := 1) (N := some 22) (v := ?_) (a' := ?_) (bm 23 3) rfl rfl (by kernel_rfl) (fun _ _ _ h => h) (Or.inl ⟨by rfl, ?_⟩) ?_ ?_
 rotate_left
 ·intro w'
  go_simp
  with_reducible rfl
 rotate_left
 ·simp only [Act.put, List.setIfInBounds_toArray, List.set_cons_zero, List.set_cons_succ, zg, zh]
  rfl
 refine zl (i := 2) (N := some 23) (v := ?_) (a' := ?_) (bm 23 7) rfl rfl (by kernel_rfl) (fun _ _ _ h => h) (Or.inl ⟨by rfl, ?_⟩) ?_ ?_
 rotate_left
 ·intro w'
  go_simp
  with_reducible rfl
 rotate_left
 ·simp only [Act.put, List.setIfInBounds_toArray, List.set_cons_zero, List.set_cons_succ, zg, zh]
  rfl
 refine zl (i := 3) (N := some 24) (v := ?_) (a' := ?_) (bm 23 15) rfl rfl (by kernel_rfl) (fun _ _ _ h => h) (Or.inl ⟨by rfl, ?_⟩) ?_ ?_
 rotate_left
 ·intro w'
  go_simp
  with_reducible rfl
 rotate_left
 ·simp only [Act.put, List.setIfInBounds_toArray, List.set_cons_zero, List.set_cons_succ, zg, zh]
  rfl
 refine zl (i := 5) (N := some 26) (v := ?_) (a' := ?_) (bm 23 47) rfl rfl (by kernel_rfl) (fun _ _ _ h => h) (Or.inl ⟨by rfl, ?_⟩) ?_ ?_
 rotate_left
 ·intro w'
  go_simp
  with_reducible rfl
 rotate_left
 ·simp only [Act.put, List.setIfInBounds_toArray, List.set_cons_zero, List.set_cons_succ, zg, zh]
  rfl
 refine zl (i := 9) (N := some 30) (v := ?_) (a' := ?_) (bm 23 559) rfl rfl (by kernel_rfl) (fun _ _ _ h => h) (Or.inl ⟨by rfl, ?_⟩) ?_ ?_
 rotate_left
 ·intro w'
  go_simp
  with_reducible rfl
 rotate_left
 ·simp only [Act.put, List.setIfInBounds_toArray, List.set_cons_zero, List.set_cons_succ, zg, zh]
  rfl
 refine zl (i := 11) (N := some 32) (v := ?_) (a' := ?_) (bm 23 2607) rfl rfl (by kernel_rfl) (fun _ _ _ h => h) (Or.inl ⟨by rfl, ?_⟩) ?_ ?_
 rotate_left
 ·intro w'
  go_simp
  with_reducible rfl
 rotate_left
 ·simp only [Act.put, List.setIfInBounds_toArray, List.set_cons_zero, List.set_cons_succ, zg, zh]
  rfl
 refine zl (i := 12) (N := some 33) (v := ?_) (a' := ?_) (bm 23 6703) rfl rfl (by kernel_rfl) (fun _ _ _ h => h) (Or.inl ⟨by rfl, ?_⟩) ?_ ?_
 rotate_left
 ·intro w'
  go_simp
  with_reducible rfl
 rotate_left
 ·simp only [Act.put, List.setIfInBounds_toArray, List.set_cons_zero, List.set_cons_succ, zg, zh]
  rfl
 refine zl (i := 13) (N := some 34) (v := ?_) (a' := ?_) (bm 23 14895) rfl rfl (by kernel_rfl) (fun _ _ _ h => h) (Or.inl ⟨by rfl, ?_⟩) ?_ ?_
 rotate_left
 ·intro w'
  go_simp
  with_reducible rfl
 rotate_left
 ·simp only [Act.put, List.setIfInBounds_toArray, List.set_cons_zero, List.set_cons_succ, zg, zh]
  rfl
 refine zl (i := 14) (N := some 35) (v := ?_) (a' := ?_) (bm 23 31279) rfl rfl (by kernel_rfl) (fun _ _ _ h => h) (Or.inl ⟨by rfl, ?_⟩) ?_ ?_
 rotate_left
 ·intro w'
  go_simp
  with_reducible rfl
 rotate_left
 ·simp only [Act.put, List.setIfInBounds_toArray, List.set_cons_zero, List.set_cons_succ, zg, zh]
  rfl
 refine zl (i := 16) (N := some 37) (v := ?_) (a' := ?_) (bm 23 96815) rfl rfl (by kernel_rfl) (fun _ _ _ h => h) (Or.inl ⟨by rfl, ?_⟩) ?_ ?_
 rotate_left
 ·intro w'
  go_simp
  with_reducible rfl
 rotate_left
 ·simp only [Act.put, List.setIfInBounds_toArray, List.set_cons_zero, List.set_cons_succ, zg, zh]
  rfl
 refine zA (i := 4) (N := some 25) (v := ?_) (a' := ?_) (bm 23 96831) rfl rfl (by kernel_rfl) (fun _ _ _ h => h) (Or.inl ⟨by rfl, ?_⟩) hHeld ?_ ?_
 rotate_left
 ·rintro w' ⟨s0, s1, s2, s3, s4, s5⟩
  go_simp
  with_reducible rfl
 rotate_left
 ·simp only [Act.put, List.setIfInBounds_toArray, List.set_cons_zero, List.set_cons_succ, zg, zh]
  rfl
 refine zl (i := 6) (N := some 27) (v := ?_) (a' := ?_) (bm 23 96895) rfl rfl (by kernel_rfl) (fun _ _ _ h => h) (Or.inl ⟨by rfl, ?_⟩) ?_ ?_
 rotate_left
 ·intro w'
  go_simp
  with_reducible rfl
 rotate_left
 ·simp only [Act.put, List.setIfInBounds_toArray, List.set_cons_zero, List.set_cons_succ, zg, zh]
  rfl
 refine zl (i := 7) (N := some 28) (v := ?_) (a' := ?_) (bm 23 97023) rfl rfl (by kernel_rfl) (fun _ _ _ h => h) (Or.inl ⟨by rfl, ?_⟩) ?_ ?_
 rotate_left
 ·intro w'
  go_simp
  with_reducible rfl
 rotate_left
 ·simp only [Act.put, List.setIfInBounds_toArray, List.set_cons_zero, List.set_cons_succ, zg, zh]
  rfl
 refine zA (i := 8) (N := some 29) (v := ?_) (a' := ?_) (bm 23 97279) rfl rfl (by kernel_rfl) (fun _ _ _ h => h) (Or.inl ⟨by rfl, ?_⟩) hHeld ?_ ?_
 rotate_left
 ·rintro w' ⟨s0, s1, s2, s3, s4, s5⟩
  go_simp
  with_reducible rfl
 rotate_left
 ·simp only [Act.put, List.setIfInBounds_toArray, List.set_cons_zero, List.set_cons_succ, zg, zh]
  rfl
 refine zA (i := 10) (N := some 31) (v := ?_) (a' := ?_) (bm 23 98303) rfl rfl (by kernel_rfl) (fun _ _ _ h => h) (Or.inl ⟨by rfl, ?_⟩) hHeld ?_ ?_
 rotate_left
 ·rintro w' ⟨s0, s1, s2, s3, s4, s5⟩
  go_simp
  with_reducible rfl
 rotate_left
 ·simp only [Act.put, List.setIfInBounds_toArray, List.set_cons_zero, List.set_cons_succ, zg, zh]
  rfl
 refine zA (i := 15) (N := some 36) (v := ?_) (a' := ?_) (bm 23 131071) rfl rfl (by kernel_rfl) (fun _ _ _ h => h) (Or.inl ⟨by rfl, ?_⟩) hHeld ?_ ?_
 rotate_left
 ·rintro w' ⟨s0, s1, s2, s3, s4, s5⟩
  go_simp
  with_reducible rfl
 rotate_left
 ·simp only [Act.put, List.setIfInBounds_toArray, List.set_cons_zero, List.set_cons_succ, zg, zh]
  rfl
 refine zA (i := 17) (N := some 38) (v := ?_) (a' := ?_) (bm 23 262143) rfl rfl (by kernel_rfl) (fun _ _ _ h => h) (Or.inl ⟨by rfl, ?_⟩) hHeld ?_ ?_
 rotate_left
 ·rintro w' ⟨s0, s1, s2, s3, s4, s5⟩
  go_simp
  with_reducible rfl
 rotate_left
 ·simp only [Act.put, List.setIfInBounds_toArray, List.set_cons_zero, List.set_cons_succ, zg, zh]
  rfl
 refine zl (i := 18) (N := some 39) (v := ?_) (a' := ?_) (bm 23 524287) rfl rfl (by kernel_rfl) (fun _ _ _ h => h) (Or.inl ⟨by rfl, ?_⟩) ?_ ?_
 rotate_left
 ·intro w'
  go_simp
  with_reducible rfl
 rotate_left
 ·simp only [Act.put, List.setIfInBounds_toArray, List.set_cons_zero, List.set_cons_succ, zg, zh]
  rfl
 refine zl (i := 19) (N := some 40) (v := ?_) (a' := ?_) (bm 23 1048575) rfl rfl (by kernel_rfl) (fun _ _ _ h => h) (Or.inl ⟨by rfl, ?_⟩) ?_ ?_
 rotate_left
 ·intro w'
  go_simp
  with_reducible rfl
 rotate_left
 ·simp only [Act.put, List.setIfInBounds_toArray, List.set_cons_zero, List.set_cons_succ, zg, zh]
  rfl
 refine zA (i := 20) (N := some 41) (v := ?_) (a' := ?_) (bm 23 2097151) rfl rfl (by kernel_rfl) (fun _ _ _ h => h) (Or.inl ⟨by rfl, ?_⟩) hHeld ?_ ?_
 rotate_left
 ·rintro w' ⟨s0, s1, s2, s3, s4, s5⟩
  go_simp
  with_reducible rfl
 rotate_left
 ·simp only [Act.put, List.setIfInBounds_toArray, List.set_cons_zero, List.set_cons_succ, zg, zh]
  rfl
 refine zl (i := 21) (N := some 42) (v := ?_) (a' := ?_) (bm 23 4194303) rfl rfl (by kernel_rfl) (fun _ _ _ h => h) (Or.inl ⟨by rfl, ?_⟩) ?_ ?_
 rotate_left
 ·intro w'
  go_simp
  with_reducible rfl
 rotate_left
 ·simp only [Act.put, List.setIfInBounds_toArray, List.set_cons_zero, List.set_cons_succ, zg, zh]
  rfl
 refine yR (i := 22) (N := none) (bm 23 8388607) rfl rfl (by kernel_rfl) (by decide) (fun K hK => ?_)
 refine yQ (w1 := ?_) (by rfl) rfl ?_ ?_
 rotate_left
 ·go_simp
  rfl
 refine hK.out _ _ ?_
 clear hK K
 refine yt (by kernel_rfl) ?_
 have hg3 := Kd.R_putg HRV3.out dA cn
 have HR2 := zb.mk (show yL w0 (W2.setCell ⟨b3, dA.toNat, none⟩ (.int .i64 cn)) g _ vp0 vp1 gT cap (σ.reg k dA cn) from yL.regs HRV.out HE.out k h0 H1'.out _ (by rw [HT.out]; exact hg3.1) (by rw [HT.out]; exact ⟨hg3.2.size, fun j hj hn => hg3.2.block j hj hn⟩) (HRV.out.hb.setCell (p := ⟨b3, dA.toNat, none⟩) (Kd.yV HRV3.out b3 (by simp [Value.ownBlock])) _))
 have HX2 := zb.mk ((Below.heap_setCell W2 ⟨b3, dA.toNat, none⟩ (.int .i64 cn) (w.heap.size + 1) (by show w.heap.size + 1 ≠ b3; have := HNE.out; omega)).trans HX.out)
 have HD2 := zb.mk ((Below.heap_setCell W2 ⟨b3, dA.toNat, none⟩ (.int .i64 cn) w.heap.size (by show w.heap.size ≠ b3; have := HNE.out; omega)).trans HD.out)
 have a3 := yo (b := ⟨b3, dA.toNat, none⟩) (u := .int .i64 cn) a3 (fun e => by rw [Addr.mk.injEq] at e; exact HNE.out.2.1 e.1.symm)
 have a2 := yo (b := ⟨b3, dA.toNat, none⟩) (u := .int .i64 cn) a2 (fun e => by rw [Addr.mk.injEq] at e; exact HNE.out.2.1 e.1.symm)
 have y0 := yo (b := ⟨b3, dA.toNat, none⟩) (u := .int .i64 cn) y0 (fun e => by rw [Addr.mk.injEq] at e; exact HNE.out.2.2.1 e.1.symm)
 have d2 := (zd HD2.out 2).trans rfl
 have u9 := (zd HX2.out 9).trans rfl
 have HBW3 := zb.mk (show Below b3 W2 (W2.setCell ⟨b3, dA.toNat, none⟩ (.int .i64 cn)) from (Below.refl _ _).setCell (p := ⟨b3, dA.toNat, none⟩) (Nat.le_refl _) _)
 have HC9 := zb.mk (show Kd.C k45 (W2.setCell ⟨b3, dA.toNat, none⟩ (.int .i64 cn)) A9 (σ.t k).f9.length (σ.t k).f9 ∧ (σ.t k).f9.length ≤ c9 from ⟨by
  obtain ⟨n2, vC2, vL2, T2, HR4, HE4⟩ := HR2.out
  have h12 : k < (T2.length : Int) := by rw [len_of HE4]; exact (by rw [show (σ.reg k dA cn).T.length = σ.T.length from St.len_upd]; exact H1.out)
  have hx := (HRV.out.V.rows _ (yF h0 H1'.out)).r9
  rw [HT.out] at hx
  have hx : Kd.R k45 45 W2 w0.heap.size (fun _ => True) (.slice A9 (σ.t k).f9.length c9) (σ.t k).f9 := hx
  obtain ⟨ci, hci⟩ := Kd.xb HRV3.out b3 (by simp [Value.ownBlock])
  exact (Kd.zH (Kd.R_set hx hci (by decide) dA.toNat (.int .i64 cn))).2.2, HC9.out.2⟩)
 obtain ⟨W3, hW3⟩ : ∃ W3, W3 = W2.setCell ⟨b3, dA.toNat, none⟩ (.int .i64 cn) := ⟨_, rfl⟩
 have HW3 := zb.mk (show W3.heap.size = W2.heap.size by rw [hW3]; simp [World.setCell])
 rw [← hW3] at HR2 HX2 HD2 a3 a2 y0 u9 d2 HC9 ⊢
 clear hW3 hg3 v3 rc rf d1 hHeld HBW3
 obtain ⟨n2, vC2, vL2, T2, HR2, HE2⟩ := HR2.out
 have HR2 := zb.mk HR2.now
 have HE2 := zb.mk HE2
 have LS := zb.mk (show (σ.reg k dA cn).T.length = σ.T.length from St.len_upd)
 have h12 := zb.mk (show k < (T2.length : Int) by rw [len_of HE2.out, LS.out]; exact H1.out)
 have kz := HR2.out.elem k h0 h12.out
 have k9 := kz.1 9 _ rfl
 have z9 := kz.2.1 9
 have HTS := zb.mk (show gT < W3.heap.size from Kd.R_lt HR2.out.V.rT gT (by simp [Value.ownBlock]))
 clear kz
 go_upto_region 4 with (fail)
 refine yc (n := 25) (S := fun w' => w'.cell? ⟨g, 3, none⟩ = some (.slice (some ⟨gT, 0, none⟩) σ.T.length cap) ∧ w'.cell? ⟨w.heap.size + 1, 9, none⟩ = some (.slice A9 (σ.t k).f9.length c9) ∧ w'.cell? ⟨w.heap.size, 2, none⟩ = some (.int .i64 dB) ∧ w'.cell? ⟨g, 2, none⟩ = some (.slice (some ⟨gC, 0, none⟩) σ.C.length capC) ∧ w'.cell? ⟨gC, dB.toNat * 3, none⟩ = some (.int .i64 cn)) (ds := [24]) (bm 25 0) (by kernel_rfl) rfl rfl ⟨(za (ze (ze (Below.refl _ _))) a3), (za (ze (ze (Below.refl _ _))) u9), (za (ze (ze (Below.refl _ _))) d2), (za (ze (ze (Below.refl _ _))) a2), (za (ze (ze (Below.refl _ _))) y0)⟩ (fun hHeld => ?_)
 refine zl (i := 0) (N := some 43) (v := ?_) (a' := ?_) (bm 25 1) rfl rfl (by kernel_rfl) (fun _ _ _ h => h) (Or.inl ⟨by rfl, ?_⟩) ?_ ?_
 rotate_left
 ·intro w'
  go_simp
  with_reducible rfl
 rotate_left
 ·simp only [Act.put, List.setIfInBounds_toArray, List.set_cons_zero, List.set_cons_succ, zg, zh]
  rfl
 refine zl (i := 1) (N := some 44) (v := ?_) (a' := ?_) (bm 25 3) rfl rfl (by kernel_rfl) (fun _ _ _ h => h) (Or.inl ⟨by rfl, ?_⟩) ?_ ?_
 rotate_left
 ·intro w'
  go_simp
  with_reducible rfl
 rotate_left
 ·simp only [Act.put, List.setIfInBounds_toArray, List.set_cons_zero, List.set_cons_succ, zg, zh]
  rfl
 refine zl (i := 2) (N := some 45) (v := ?_) (a' := ?_) (bm 25 7) rfl rfl (by kernel_rfl) (fun _ _ _ h => h) (Or.inl ⟨by rfl, ?_⟩) ?_ ?_
 rotate_left
 ·intro w'
  go_simp
  with_reducible rfl
 rotate_left
 ·simp only [Act.put, List.setIfInBounds_toArray, List.set_cons_zero, List.set_cons_succ, zg, zh]
  rfl
 refine zl (i := 3) (N := some 46) (v := ?_) (a' := ?_) (bm 25 15) rfl rfl (by kernel_rfl) (fun _ _ _ h => h) (Or.inl ⟨by rfl, ?_⟩) ?_ ?_
 rotate_left
 ·intro w'
  go_simp
  with_reducible rfl
 rotate_left
 ·simp only [Act.put, List.setIfInBounds_toArray, List.set_cons_zero, List.set_cons_succ, zg, zh]
  rfl
 refine zl (i := 5) (N := some 48) (v := ?_) (a' := ?_) (bm 25 47) rfl rfl (by kernel_rfl) (fun _ _ _ h => h) (Or.inl ⟨by rfl, ?_⟩) ?_ ?_
 rotate_left
 ·intro w'
  go_simp
  with_reducible rfl
 rotate_left
 ·simp only [Act.put, List.setIfInBounds_toArray, List.set_cons_zero, List.set_cons_succ, zg, zh]
  rfl
 refine zl (i := 6) (N := some 49) (v := ?_) (a' := ?_) (bm 25 111) rfl rfl (by kernel_rfl) (fun _ _ _ h => h) (Or.inl ⟨by rfl, ?_⟩) ?_ ?_
 rotate_left
 ·intro w'
  go_simp
  with_reducible rfl
 rotate_left
 ·simp only [Act.put, List.setIfInBounds_toArray, List.set_cons_zero, List.set_cons_succ, zg, zh]
  rfl
 refine zl (i := 8) (N := some 51) (v := ?_) (a' := ?_) (bm 25 367) rfl rfl (by kernel_rfl) (fun _ _ _ h => h) (Or.inl ⟨by rfl, ?_⟩) ?_ ?_
 rotate_left
 ·intro w'
  go_simp
  with_reducible rfl
 rotate_left
 ·simp only [Act.put, List.setIfInBounds_toArray, List.set_cons_zero, List.set_cons_succ, zg, zh]
  rfl
 refine zl (i := 10) (N := some 53) (v := ?_) (a' := ?_) (bm 25 1391) rfl rfl (by kernel_rfl) (fun _ _ _ h => h) (Or.inl ⟨by rfl, ?_⟩) ?_ ?_
 rotate_left
 ·intro w'
  go_simp
  with_reducible rfl
 rotate_left
 ·simp only [Act.put, List.setIfInBounds_toArray, List.set_cons_zero, List.set_cons_succ, zg, zh]
  rfl
 refine zl (i := 11) (N := some 54) (v := ?_) (a' := ?_) (bm 25 3439) rfl rfl (by kernel_rfl) (fun _ _ _ h => h) (Or.inl ⟨by rfl, ?_⟩) ?_ ?_
 rotate_left
 ·intro w'
  go_simp
  with_reducible rfl
 rotate_left
 ·simp only [Act.put, List.setIfInBounds_toArray, List.set_cons_zero, List.set_cons_succ, zg, zh]
  rfl
 refine zl (i := 12) (N := some 55) (v := ?_) (a' := ?_) (bm 25 7535) rfl rfl (by kernel_rfl) (fun _ _ _ h => h) (Or.inl ⟨by rfl, ?_⟩) ?_ ?_
 rotate_left
 ·intro w'
  go_simp
  with_reducible rfl
 rotate_left
 ·simp only [Act.put, List.setIfInBounds_toArray, List.set_cons_zero, List.set_cons_succ, zg, zh]
  rfl
 refine zl (i := 13) (N := some 56) (v := ?_) (a' := ?_) (bm 25 15727) rfl rfl (by kernel_rfl) (fun _ _ _ h => h) (Or.inl ⟨by rfl, ?_⟩) ?_ ?_
 rotate_left
 ·intro w'
  go_simp
  with_reducible rfl
 rotate_left
 ·simp only [Act.put, List.setIfInBounds_toArray, List.set_cons_zero, List.set_cons_succ, zg, zh]
  rfl
 refine zl (i := 15) (N := some 58) (v := ?_) (a' := ?_) (bm 25 48495) rfl rfl (by kernel_rfl) (fun _ _ _ h => h) (Or.inl ⟨by rfl, ?_⟩) ?_ ?_
 rotate_left
 ·intro w'
  go_simp
  with_reducible rfl
 rotate_left
 ·simp only [Act.put, List.setIfInBounds_toArray, List.set_cons_zero, List.set_cons_succ, zg, zh]
  rfl
 refine zA (i := 4) (N := some 47) (v := ?_) (a' := ?_) (bm 25 48511) rfl rfl (by kernel_rfl) (fun _ _ _ h => h) (Or.inl ⟨by rfl, ?_⟩) hHeld ?_ ?_
 rotate_left
 ·rintro w' ⟨s0, s1, s2, s3, s4⟩
  go_simp
  with_reducible rfl
 rotate_left
 ·simp only [Act.put, List.setIfInBounds_toArray, List.set_cons_zero, List.set_cons_succ, zg, zh]
  rfl
 refine zA (i := 7) (N := some 50) (v := ?_) (a' := ?_) (bm 25 48639) rfl rfl (by kernel_rfl) (fun _ _ _ h => h) (Or.inl ⟨by rfl, ?_⟩) hHeld ?_ ?_
 rotate_left
 ·rintro w' ⟨s0, s1, s2, s3, s4⟩
  go_simp
  with_reducible rfl
 rotate_left
 ·simp only [Act.put, List.setIfInBounds_toArray, List.set_cons_zero, List.set_cons_succ, zg, zh]
  rfl
 refine zA (i := 9) (N := some 52) (v := ?_) (a' := ?_) (bm 25 49151) rfl rfl (by kernel_rfl) (fun _ _ _ h => h) (Or.inl ⟨by rfl, ?_⟩) hHeld ?_ ?_
 rotate_left
 ·rintro w' ⟨s0, s1, s2, s3, s4⟩
  go_simp
  with_reducible rfl
 rotate_left
 ·simp only [Act.put, List.setIfInBounds_toArray, List.set_cons_zero, List.set_cons_succ, zg, zh]
  rfl
 refine zA (i := 14) (N := some 57) (v := ?_) (a' := ?_) (bm 25 65535) rfl rfl (by kernel_rfl) (fun _ _ _ h => h) (Or.inl ⟨by rfl, ?_⟩) hHeld ?_ ?_
 rotate_left
 ·rintro w' ⟨s0, s1, s2, s3, s4⟩
  go_simp
  with_reducible rfl
 rotate_left
 ·simp only [Act.put, List.setIfInBounds_toArray, List.set_cons_zero, List.set_cons_succ, zg, zh]
  rfl
 refine zA (i := 16) (N := some 59) (v := ?_) (a' := ?_) (bm 25 131071) rfl rfl (by kernel_rfl) (fun _ _ _ h => h) (Or.inl ⟨by rfl, ?_⟩) hHeld ?_ ?_
 rotate_left
 ·rintro w' ⟨s0, s1, s2, s3, s4⟩
  go_simp
  with_reducible rfl
 rotate_left
 ·simp only [Act.put, List.setIfInBounds_toArray, List.set_cons_zero, List.set_cons_succ, zg, zh]
  rfl
 refine zl (i := 17) (N := some 60) (v := ?_) (a' := ?_) (bm 25 262143) rfl rfl (by kernel_rfl) (fun _ _ _ h => h) (Or.inl ⟨by rfl, ?_⟩) ?_ ?_
 rotate_left
 ·intro w'
  go_simp
  with_reducible rfl
 rotate_left
 ·simp only [Act.put, List.setIfInBounds_toArray, List.set_cons_zero, List.set_cons_succ, zg, zh]
  rfl
 refine zl (i := 18) (N := some 61) (v := ?_) (a' := ?_) (bm 25 524287) rfl rfl (by kernel_rfl) (fun _ _ _ h => h) (Or.inl ⟨by rfl, ?_⟩) ?_ ?_
 rotate_left
 ·intro w'
  go_simp
  with_reducible rfl
 rotate_left
 ·simp only [Act.put, List.setIfInBounds_toArray, List.set_cons_zero, List.set_cons_succ, zg, zh]
  rfl
 refine zA (i := 19) (N := some 62) (v := ?_) (a' := ?_) (bm 25 1048575) rfl rfl (by kernel_rfl) (fun _ _ _ h => h) (Or.inl ⟨by rfl, ?_⟩) hHeld ?_ ?_
 rotate_left
 ·rintro w' ⟨s0, s1, s2, s3, s4⟩
  go_simp
  with_reducible rfl
 rotate_left
 ·simp only [Act.put, List.setIfInBounds_toArray, List.set_cons_zero, List.set_cons_succ, zg, zh]
  rfl
 refine zl (i := 20) (N := some 63) (v := ?_) (a' := ?_) (bm 25 2097151) rfl rfl (by kernel_rfl) (fun _ _ _ h => h) (Or.inl ⟨by rfl, ?_⟩) ?_ ?_
 rotate_left
 ·intro w'
  go_simp
  with_reducible rfl
 rotate_left
 ·simp only [Act.put, List.setIfInBounds_toArray, List.set_cons_zero, List.set_cons_succ, zg, zh]
  rfl
 refine yE (i := 21) (N := some 64) (bm 25 4194303) rfl rfl (by kernel_rfl) (by decide) (fun K hK => ?_)
 refine xQ Try.func139 (by kernel_rfl) rfl #[.slice A9 (σ.t k).f9.length c9, .agg #[.int .i64 dB, .int .i64 cn]] (by rfl) rfl rfl (by simp only [List.map_toArray, List.map_cons, List.map_nil]; rfl) ?_
 with_reducible refine (add_calls A9 c9 (σ.t k).f9 dB cn _ (Kd.zt HC9.out.1 (ze (ze (Below.refl _ _)))) HC9.out.2 H9.out).mono ?_
 rintro e wa ⟨va, rfl, hra, hba⟩
 refine ⟨_, rfl, ?_⟩
 have HRa := zb.mk hra
 have HBa := zb.mk (show Below W3.heap.size W3 wa from zi (ze (ze (Below.refl _ _))) hba)
 have oA := (Kd.R_val hra).2
 obtain ⟨Aa, ca, rfl⟩ := Kd.zJ hra
 have ka9 := za HBa.out k9
 have za9 := (HBa.out.frozen (p := ⟨gT, _, none⟩) HTS.out).trans z9
 clear hra hba oA
 refine hK.out _ _ ⟨(za HBa.out a3), (za HBa.out u9), (za HBa.out d2), (za HBa.out a2), (za HBa.out y0)⟩ (fun hHeld => ?_)
 clear hK K
 refine zp (a' := ?_) ?_ ?_
 rotate_left
 ·show Act.put _ (some 64) _ = _
  simp only [Act.put, List.setIfInBounds_toArray, List.set_cons_zero, List.set_cons_succ, zg, zh]
  rfl
 refine zl (i := 22) (N := some 65) (v := ?_) (a' := ?_) (bm 25 8388607) rfl rfl (by kernel_rfl) (fun _ _ _ h => h) (Or.inl ⟨by rfl, ?_⟩) ?_ ?_
 rotate_left
 ·intro w'
  go_simp
  with_reducible rfl
 rotate_left
 ·simp only [Act.put, List.setIfInBounds_toArray, List.set_cons_zero, List.set_cons_succ, zg, zh]
  rfl
 refine zl (i := 23) (N := some 66) (v := ?_) (a' := ?_) (bm 25 16777215) rfl rfl (by kernel_rfl) (fun _ _ _ h => h) (Or.inl ⟨by rfl, ?_⟩) ?_ ?_
 rotate_left
 ·intro w'
  go_simp
  with_reducible rfl
 rotate_left
 ·simp only [Act.put, List.setIfInBounds_toArray, List.set_cons_zero, List.set_cons_succ, zg, zh]
  rfl
 refine yR (i := 24) (N := none) (bm 25 33554431) rfl rfl (by kernel_rfl) (by decide) (fun K hK => ?_)
 refine yQ (w1 := ?_) (by rfl) rfl ?_ ?_
 rotate_left
 ·go_simp
  rfl
 refine hK.out _ _ ?_
 clear hK K
 refine yt (by kernel_rfl) ?_
 have HR5 := zb.mk (yL.put9 (show yL w0 wa g W3.heap.size vp0 vp1 gT cap (σ.reg k dA cn) from ⟨_, _, _, _, HR2.out.below HBa.out, HE2.out⟩) k h0 (by rw [LS.out]; exact H1.out) (.slice Aa (xG ⟨dB, cn⟩ (σ.t k).f9 false).length ca) (xG ⟨dB, cn⟩ (σ.t k).f9 false) HBa.out.size (Kd.zT (Kd.zP HRa.out (show W3.heap.size ≤ _ from Nat.le_refl _)) (fun _ _ => trivial)) HR2.out.hb.size)
 have a3 := yo (b := ⟨gT, k.toNat * 13 + 9, none⟩) (u := .slice Aa (xG ⟨dB, cn⟩ (σ.t k).f9 false).length ca) (za HBa.out a3) (fun e => by rw [Addr.mk.injEq] at e; exact HB.out.2.1 e.1)
 have HX5 := zb.mk ((Below.heap_setCell wa ⟨gT, k.toNat * 13 + 9, none⟩ (.slice Aa (xG ⟨dB, cn⟩ (σ.t k).f9 false).length ca) (w.heap.size + 1) (by show w.heap.size + 1 ≠ gT; have := HB.out; omega)).trans ((HBa.out.block _ (zo HX2.out)).trans HX2.out))
 obtain ⟨W2, hW2⟩ : ∃ W2, W2 = wa.setCell ⟨gT, k.toNat * 13 + 9, none⟩ (.slice Aa (xG ⟨dB, cn⟩ (σ.t k).f9 false).length ca) := ⟨_, rfl⟩
 rw [← hW2] at HR5 a3 HX5 ⊢
 have x6 := (zd HX5.out 6).trans rfl
 obtain ⟨at_, hat⟩ : ∃ at_, at_ = (σ.t k).f6 := ⟨_, rfl⟩
 rw [← hat] at x6 HQ
 have HA1 := zb.mk (show at_ ≤ 1000 ∧ 0 ≤ at_ by have := H6.out; rw [hat]; omega)
 have e6 : wrap64 (at_ + 1) = at_ + 1 := yN (by have := HA1.out; omega) (by have := HA1.out; omega)
 obtain ⟨n5, vC5, vL5, T5, HR5, HE5⟩ := HR5.out
 have HR5 := zb.mk HR5
 have HE5 := zb.mk HE5
 have L5 := zb.mk (show k < (((σ.reg k dA cn).upd k fun t => { t with f9 := xG ⟨dB, cn⟩ (σ.t k).f9 false }).T.length : Int) by rw [St.len_upd, LS.out]; exact H1.out)
 have h15 := zb.mk (show k < (T5.length : Int) by rw [len_of HE5.out]; exact L5.out)
 have kz := HR5.out.elem k h0 h15.out
 have k1 := kz.1 6 _ rfl
 have z1 := kz.2.1 6
 clear hW2 hat kz u9 k9 z9 ka9 za9 hHeld d2 a2 y0
 go_upto_region 9 with (fail)
 refine yc (n := 12) (S := fun w' => w'.cell? ⟨g, 3, none⟩ = some (.slice (some ⟨gT, 0, none⟩) σ.T.length cap) ∧ w'.cell? ⟨w.heap.size + 1, 6, none⟩ = some (.int .i64 at_)) (ds := [11]) (bm 12 0) (by kernel_rfl) rfl rfl ⟨(za (ze (Below.refl _ _)) a3), (za (ze (Below.refl _ _)) x6)⟩ (fun hHeld => ?_)
 refine zl (i := 0) (N := some 97) (v := ?_) (a' := ?_) (bm 12 1) rfl rfl (by kernel_rfl) (fun _ _ _ h => h) (Or.inl ⟨by rfl, ?_⟩) ?_ ?_
 rotate_left
 ·intro w'
  go_simp
  with_reducible rfl
 rotate_left
 ·simp only [Act.put, List.setIfInBounds_toArray, List.set_cons_zero, List.set_cons_succ, zg, zh]
  rfl
 refine zl (i := 1) (N := some 98) (v := ?_) (a' := ?_) (bm 12 3) rfl rfl (by kernel_rfl) (fun _ _ _ h => h) (Or.inl ⟨by rfl, ?_⟩) ?_ ?_
 rotate_left
 ·intro w'
  go_simp
  with_reducible rfl
 rotate_left
 ·simp only [Act.put, List.setIfInBounds_toArray, List.set_cons_zero, List.set_cons_succ, zg, zh]
  rfl
 refine zl (i := 2) (N := some 99) (v := ?_) (a' := ?_) (bm 12 7) rfl rfl (by kernel_rfl) (fun _ _ _ h => h) (Or.inl ⟨by rfl, ?_⟩) ?_ ?_
 rotate_left
 ·intro w'
  go_simp
  with_reducible rfl
 rotate_left
 ·simp only [Act.put, List.setIfInBounds_toArray, List.set_cons_zero, List.set_cons_succ, zg, zh]
  rfl
 refine zl (i := 3) (N := some 100) (v := ?_) (a' := ?_) (bm 12 15) rfl rfl (by kernel_rfl) (fun _ _ _ h => h) (Or.inl ⟨by rfl, ?_⟩) ?_ ?_
 rotate_left
 ·intro w'
  go_simp
  with_reducible rfl
 rotate_left
 ·simp only [Act.put, List.setIfInBounds_toArray, List.set_cons_zero, List.set_cons_succ, zg, zh]
  rfl
 refine zl (i := 5) (N := some 102) (v := ?_) (a' := ?_) (bm 12 47) rfl rfl (by kernel_rfl) (fun _ _ _ h => h) (Or.inl ⟨by rfl, ?_⟩) ?_ ?_
 rotate_left
 ·intro w'
  go_simp
  with_reducible rfl
 rotate_left
 ·simp only [Act.put, List.setIfInBounds_toArray, List.set_cons_zero, List.set_cons_succ, zg, zh]
  rfl
 refine zl (i := 6) (N := some 103) (v := ?_) (a' := ?_) (bm 12 111) rfl rfl (by kernel_rfl) (fun _ _ _ h => h) (Or.inl ⟨by rfl, ?_⟩) ?_ ?_
 rotate_left
 ·intro w'
  go_simp
  with_reducible rfl
 rotate_left
 ·simp only [Act.put, List.setIfInBounds_toArray, List.set_cons_zero, List.set_cons_succ, zg, zh]
  rfl
 refine zA (i := 4) (N := some 101) (v := ?_) (a' := ?_) (bm 12 127) rfl rfl (by kernel_rfl) (fun _ _ _ h => h) (Or.inl ⟨by rfl, ?_⟩) hHeld ?_ ?_
 rotate_left
 ·rintro w' ⟨s0, s1⟩
  go_simp
  with_reducible rfl
 rotate_left
 ·simp only [Act.put, List.setIfInBounds_toArray, List.set_cons_zero, List.set_cons_succ, zg, zh]
  rfl
 refine zA (i := 7) (N := some 104) (v := ?_) (a' := ?_) (bm 12 255) rfl rfl (by kernel_rfl) (fun _ _ _ h => h) (Or.inl ⟨by rfl, ?_⟩) hHeld ?_ ?_
 rotate_left
 ·rintro w' ⟨s0, s1⟩
  go_simp
  with_reducible rfl
 rotate_left
 ·simp only [Act.put, List.setIfInBounds_toArray, List.set_cons_zero, List.set_cons_succ, zg, zh]
  rfl
 refine zl (i := 8) (N := some 105) (v := ?_) (a' := ?_) (bm 12 511) rfl rfl (by kernel_rfl) (fun _ _ _ h => h) (Or.inl ⟨by rfl, ?_⟩) ?_ ?_
 rotate_left
 ·intro w'
  go_simp
  with_reducible rfl
 rotate_left
 ·simp only [Act.put, List.setIfInBounds_toArray, List.set_cons_zero, List.set_cons_succ, zg, zh]
  rfl
 refine zl (i := 9) (N := some 106) (v := ?_) (a' := ?_) (bm 12 1023) rfl rfl (by kernel_rfl) (fun _ _ _ h => h) (Or.inl ⟨by rfl, ?_⟩) ?_ ?_
 rotate_left
 ·intro w'
  go_simp
  with_reducible rfl
 rotate_left
 ·simp only [Act.put, List.setIfInBounds_toArray, List.set_cons_zero, List.set_cons_succ, zg, zh]
  rfl
 refine zl (i := 10) (N := some 107) (v := ?_) (a' := ?_) (bm 12 2047) rfl rfl (by kernel_rfl) (fun _ _ _ h => h) (Or.inl ⟨by rfl, ?_⟩) ?_ ?_
 rotate_left
 ·intro w'
  go_simp
  with_reducible rfl
 rotate_left
 ·simp only [Act.put, List.setIfInBounds_toArray, List.set_cons_zero, List.set_cons_succ, zg, zh]
  rfl
 refine yR (i := 11) (N := none) (bm 12 4095) rfl rfl (by kernel_rfl) (by decide) (fun K hK => ?_)
 refine yQ (w1 := ?_) (by rfl) rfl ?_ ?_
 rotate_left
 ·go_simp
  rfl
 refine hK.out _ _ ?_
 clear hK K
 refine yt (by kernel_rfl) ?_
 go_wp2
 go_end0
 rw [HQ.out]
 exact ⟨rfl, (zS.next ⟨_, _, _, _, HR5.out.now, HE5.out⟩ k at_ h0 L5.out).below (by first | exact ze (ze (Below.refl _ _)) | exact ze (ze (ze (Below.refl _ _))) | exact ze (Below.refl _ _))⟩
theorem load_calls {w0 w : World} {g : Nat} {vp0 vp1 : Value} {σ : St} (k dK dA dB : Int) (h : zS w0 w g vp0 vp1 σ) (h0 : 0 ≤ k) (h1 : k < σ.T.length) (h8 : (σ.t k).f8.length ≤ 1000) (h9 : (σ.t k).f9.length ≤ 1000) (h10 : (σ.t k).f10.length ≤ 1000) (h6 : 0 ≤ (σ.t k).f6 ∧ (σ.t k).f6 ≤ 1000) (hA0 : 0 ≤ dA) (hA1 : dA < (σ.t k).f3.length) (hB0 : 0 ≤ dB) (hB1 : dB < σ.C.length) :
  Calls Try.prog 138 #[.pointer (some ⟨g, 0, none⟩), .int .i64 k, .agg #[.int .i64 dK, .int .i64 dA, .int .i64 dB]] w fun e w' => e = .returned (.tuple #[]) ∧ zS w0 w' g vp0 vp1 (σ.load k dA dB) := by
 by_cases q : 0 ≤ xk (σ.t k).f10 dB
 ·exact load_a k dK dA dB h h0 h1 h8 h9 h10 h6 hA0 hA1 hB0 hB1 q
 ·cases qb : xq (cg σ.C dB) k (σ.t k).f7 with
  | true => exact load_b k dK dA dB h h0 h1 h8 h9 h10 h6 hA0 hA1 hB0 hB1 q qb
  | false => exact load_c k dK dA dB h h0 h1 h8 h9 h10 h6 hA0 hA1 hB0 hB1 q qb
end Go.Proofs.Ytppapibjbjmmbaa.QSY
namespace Go.Proofs.Ytppapibjbjmmbaa.QSY
open Go.RowKit Go.Proofs.YtppapibjbjmmbaaW.PrintWords Go.Proofs.YtppapibjbjmmbaaW.PrintLast Go.Proofs.YtppapibjbjmmbaaW.PrintMore
attribute [local go_sem] max2_int min2_int max_two min_two we xZ max_four min_four   -- for this text's walks alone
set_option linter.unusedVariables false
set_option linter.unusedSimpArgs false
def ye.f (l0 : List Int) (a1_0 : Int) (a1_1 : Int) (a1_2 : Int) : Option (List Int) := if a1_0 = 3 then (if 0 ≤ a1_1 then (if a1_1 < (l0.length : Int) then (some (l0.set (a1_1 : Int).toNat a1_2)) else (none)) else (none)) else (if a1_0 = 4 then (if 0 ≤ a1_1 then (if a1_1 < (l0.length : Int) then (if 0 ≤ a1_2 then (if a1_2 < (l0.length : Int) then (some (l0.set (a1_1 : Int).toNat (Int.tmod (wrap64 ((rd l0 a1_1) + (rd l0 a1_2))) 100))) else (none)) else (none)) else (none)) else (none)) else (some l0))
def ye.T5 : Bool × List (List Nat × List Nat) := (true, [([], []), ([], []), ([1], [1]), ([], []), ([], []), ([4], [4]), ([3, 5], [3, 5]), ([6], [6]), ([], []), ([], []), ([9], [9]), ([8, 10], [8, 10]), ([11], [11]), ([7, 12], [7, 12]), ([13], [13]), ([0, 2, 0, 1, 2, 3, 4, 5, 6, 7, 8, 9, 10, 11, 12, 13, 14], [0, 2]), ([15, 14, 0, 1, 2, 3, 4, 5, 6, 7, 8, 9, 10, 11, 12, 13, 14], [14, 15])])
def ye.B5 : List Nat := [0, 0, 2, 0, 0, 16, 56, 120, 0, 0, 512, 1792, 3840, 8184, 16376, 32767, 65535]
theorem ye.tab5 : rtab .any (opsOf Try.f140 5) = ye.T5 := by kernel_rfl
theorem ye.bits5 : waitsOk ye.T5.2 ye.B5 = true := by kernel_rfl
set_option maxHeartbeats 8000000 in
set_option maxRecDepth 100000 in
theorem ye.calls (P0_ : Nat → Prop) (u9000_ : Value) (l0 : List Int) (a1_0 : Int) (a1_1 : Int) (a1_2 : Int) (r : List Int) (w0 w : World) (hB : Below w0.heap.size w0 w) (ho0 : Kd.R (Kd.int .i64) 3 w w0.heap.size P0_ u9000_ l0) (h : ye.f l0 a1_0 a1_1 a1_2 = some r) :
  Calls Try.prog 140 #[u9000_, .agg #[.int .i64 a1_0, .int .i64 a1_1, .int .i64 a1_2]] w fun e w' => e = .returned (.tuple #[]) ∧ Kd.R (Kd.int .i64) 3 w' w0.heap.size (fun k_ => (P0_ k_ ∨ w.heap.size ≤ k_)) u9000_ r ∧ Below w0.heap.size w0 w' ∧ Kept w w' (fun k_ => P0_ k_) := by
 have hu113 := Try.underlying113
 have HO0 := zb.mk (show Kd.R (Kd.int .i64) 3 w w0.heap.size (fun k_ => (P0_ k_ ∨ w.heap.size ≤ k_)) u9000_ l0 from Kd.zT ho0 (fun k_ hk => (.inl hk)))
 have HK := zb.mk (Kept.refl w (fun k_ => P0_ k_))
 have HW0 := zb.mk hB.size
 have HB := zb.mk hB
 clear hB
 have H : (if a1_0 = 3 then (if 0 ≤ a1_1 then (if a1_1 < (l0.length : Int) then (some (l0.set (a1_1 : Int).toNat a1_2)) else (none)) else (none)) else (if a1_0 = 4 then (if 0 ≤ a1_1 then (if a1_1 < (l0.length : Int) then (if 0 ≤ a1_2 then (if a1_2 < (l0.length : Int) then (some (l0.set (a1_1 : Int).toNat (Int.tmod (wrap64 ((rd l0 a1_1) + (rd l0 a1_2))) 100))) else (none)) else (none)) else (none)) else (none)) else (some l0))) = some r := h
 clear h
 by_cases c3 : a1_0 = 3
 ·rw [if_pos c3] at H
  have c3b0 : (a1_0 == 3) = true := beq_iff_eq.mpr c3
  have c3b1 : (a1_0 != 3) = false := bne_eq_false_iff_eq.mpr c3
  clear c3
  by_cases c4 : 0 ≤ a1_1
  ·rw [if_pos c4] at H
   have c4b0 : decide (0 ≤ a1_1) = true := decide_eq_true c4
   clear c4
   by_cases c5 : a1_1 < (l0.length : Int)
   ·rw [if_pos c5] at H
    have c5b0 : decide (a1_1 < (l0.length : Int)) = true := decide_eq_true c5
    clear c5
    obtain ⟨y446, hy446⟩ : ∃ y_ : List Int, y_ = (l0.set (a1_1 : Int).toNat a1_2) := ⟨_, rfl⟩
    replace H : (some y446) = some r := by first | (rw [hy446]; with_reducible exact H) | (have H2_ := (Option.bind_some _ _).symm.trans H; rw [hy446]; with_reducible exact H2_) | (have H2_ := (Option.bind_some _ _).symm.trans H; with_reducible exact H2_) | with_reducible exact H | (rw [hy446]; exact H) | exact H
    have Ny446 := zb.mk hy446
    clear hy446
    obtain rfl := Option.some.inj H
    go_enter Try.func140, Try.ntmps140
    go_wp2_with (first | ((with_reducible refine xR (N := 3) rfl ?_); refine box_event ?hg (N := 3) ?hd (cs := #[.int .i64 a1_0, .int .i64 a1_1, .int .i64 a1_2]) (t := 113) ?hr ?_; (case hd => rfl); (case hg => rfl); (case hr => first | (go_simp; done) | (go_simp; rfl)); intro gb445 hg w7 hbox hb; have n0_ := zb.mk (Kd.zN (by (with_reducible repeat (first | apply Kd.zX | apply Kd.zU | apply Kd.ym)); exact HO0.out) hb); have n1_ := zb.mk (Kept.below (S := (fun k_ => P0_ k_)) (by repeat (with_reducible first | exact HK.out | apply Kept.alloc | apply Kept.drewN | apply Kept.drew)) hb); have n2_ := zb.mk (zi (by repeat (with_reducible first | exact HB.out | apply zc | apply zj | apply zn)) hb); have n3_ := zb.mk (hbox); have n4_ := zb.mk ((by rw [hg]; exact (by first | exact HK.out.1 | exact (show Kept w _ (fun k_ => P0_ k_) from by repeat (with_reducible first | exact HK.out | apply Kept.alloc | apply Kept.drewN | apply Kept.drew)).1) : w.heap.size ≤ gb445)); have n5_ := zb.mk ((by rw [hg]; exact (zL (by repeat (with_reducible first | exact HB.out | apply zc | apply zj | apply zn))) : w0.heap.size ≤ gb445)); clear HO0; clear HK; clear HB; have HO0 := n0_; have HK := n1_; have HB := n2_; have BK445 := n3_; have GW445 := n4_; have GE445 := n5_; clear n0_ n1_ n2_ n3_ n4_ n5_; clear hb hbox hg; have hcz8_0 : w7.cell? ⟨gb445, 0, none⟩ = some (.int .i64 a1_0) := (zd BK445.out 0).trans rfl; have hcz8_1 : w7.cell? ⟨gb445, 1, none⟩ = some (.int .i64 a1_1) := (zd BK445.out 1).trans rfl; have hcz8_2 : w7.cell? ⟨gb445, 2, none⟩ = some (.int .i64 a1_2) := (zd BK445.out 2).trans rfl; have hfz8_0 := zk BK445.out 0; have hfz8_1 := zk BK445.out 1; have hfz8_2 := zk BK445.out 2; have p6 : 0 ≤ (a1_1 : Int) := of_decide_eq_true (by first | (with_reducible assumption) | assumption); have q6 : (a1_1 : Int) < ((l0.length : Int) : Int) := of_decide_eq_true (by first | (with_reducible assumption) | assumption); obtain ⟨go6, co6, eo6, gb6, gl6, cl6, HG6⟩ := Kd.xT HO0.out (by omega); (first | cases eo6 | (injection eo6 with ea_ en_ ec_; (first | subst ea_ | (injection ea_ with ea_; subst ea_)); subst ec_; clear en_)); have GB6 := zb.mk gb6; have GG6 := zb.mk HG6; clear gb6 gl6 HG6; have HMgo6 := zb.mk (show (P0_ go6 ∨ w.heap.size ≤ go6) from (HO0.out.1 _ rfl)); obtain ⟨hx6_0, hf6_0⟩ := Kd.R_celln 0 HO0.out (a1_1 : Int) p6 q6; replace p6 := eq_true p6; replace q6 := eq_true q6; obtain ⟨hy9_, hz9_⟩ := Kd.R_celln 0 HO0.out (a1_1 : Int) (of_decide_eq_true (by first | (with_reducible assumption) | assumption)) (of_decide_eq_true (by first | (with_reducible assumption) | assumption)); have HP9 := Kd.R_putg HO0.out (a1_1 : Int) a1_2) | ((with_reducible refine gate_store (t := 3) (p := 13) rfl ?_); refine store_event (t := 3) (p := 13) (v := ?vo_w10) (w1 := (w7.setCell ⟨go6, (a1_1 : Int).toNat, none⟩ (.int .i64 a1_2))) ?hg ?ho ?hn ?hr ?_; (case ho => rfl); (case hg => rfl); (case hn => rfl); (case hr => first | (go_simp; done) | (go_simp; rfl)); intro w10 hw; have hg : w7.grownBy w10 (some go6) := (by rw [hw]; exact HP9.2); have hp_ : Kd.R (Kd.int .i64) 3 w10 w0.heap.size (fun k_ => (P0_ k_ ∨ w.heap.size ≤ k_)) (.slice (some ⟨go6, 0, none⟩) l0.length co6) y446 := (by rw [hw, Ny446.out]; exact HP9.1); clear HP9; have n0_ := zb.mk (hp_); have n1_ := zb.mk (yv (g := gb445) (o := .cells #[.int .i64 a1_0, .int .i64 a1_1, .int .i64 a1_2] 113 (0, 0)) (by (with_reducible repeat (first | refine zE ?_ _ | refine zD ?_ | refine zm ?_ _)); exact BK445.out) hg (Kd.R_ne HO0.out BK445.out (by decide))); have n2_ := zb.mk ((by rw [hw]; exact zv (HB.out) GB6.out : Below w0.heap.size w0 w10)); have n3_ := zb.mk (Kept.of_grown (S := (fun k_ => P0_ k_)) hg (by repeat (with_reducible first | exact HK.out | apply Kept.alloc | apply Kept.drewN | apply Kept.drew | refine Kept.setCell ?_ (.inr GW445.out) _)) (fun k_ e_ => (HO0.out.1 k_ e_))); clear HO0; clear BK445; clear HB; clear HK; have HO0 := n0_; have BK445 := n1_; have HB := n2_; have HK := n3_; clear n0_ n1_ n2_ n3_; clear hg hw hp_))
    first | go_end0 | ((try simp only [Exit.inBlock, Exit.then]); refine bodyPost_ret (results_none rfl _ _ _) rfl ?_)
    exact ⟨by first | rfl | (simp [yX, yW] <;> rfl) | (simp [*, yX, yW] <;> rfl), by (with_reducible repeat (first | apply Kd.zX | apply Kd.zU | apply Kd.ym)); exact HO0.out, by repeat (with_reducible first | exact HB.out | apply zc | apply zj | apply zn | refine zv ?_ GE445.out), by repeat (with_reducible first | exact HK.out | apply Kept.alloc | apply Kept.drewN | apply Kept.drew | refine Kept.setCell ?_ (.inr GW445.out) _)⟩
   ·rw [if_neg c5] at H
    exact absurd H (by simp)
  ·rw [if_neg c4] at H
   exact absurd H (by simp)
 ·rw [if_neg c3] at H
  have c3b0 : (a1_0 == 3) = false := beq_eq_false_iff_ne.mpr c3
  have c3b1 : (a1_0 != 3) = true := bne_iff_ne.mpr c3
  by_cases c11 : a1_0 = 4
  ·rw [if_pos c11] at H
   have c11b0 : (a1_0 == 4) = true := beq_iff_eq.mpr c11
   have c11b1 : (a1_0 != 4) = false := bne_eq_false_iff_eq.mpr c11
   clear c11
   by_cases c12 : 0 ≤ a1_1
   ·rw [if_pos c12] at H
    have c12b0 : decide (0 ≤ a1_1) = true := decide_eq_true c12
    clear c12
    by_cases c13 : a1_1 < (l0.length : Int)
    ·rw [if_pos c13] at H
     have c13b0 : decide (a1_1 < (l0.length : Int)) = true := decide_eq_true c13
     clear c13
     by_cases c14 : 0 ≤ a1_2
     ·rw [if_pos c14] at H
      have c14b0 : decide (0 ≤ a1_2) = true := decide_eq_true c14
      clear c14
      by_cases c15 : a1_2 < (l0.length : Int)
      ·rw [if_pos c15] at H
       have c15b0 : decide (a1_2 < (l0.length : Int)) = true := decide_eq_true c15
       clear c15
       obtain ⟨y449, hy449⟩ : ∃ y_ : List Int, y_ = (l0.set (a1_1 : Int).toNat (Int.tmod (wrap64 ((rd l0 a1_1) + (rd l0 a1_2))) 100)) := ⟨_, rfl⟩
       replace H : (some y449) = some r := by first | (rw [hy449]; with_reducible exact H) | (have H2_ := (Option.bind_some _ _).symm.trans H; rw [hy449]; with_reducible exact H2_) | (have H2_ := (Option.bind_some _ _).symm.trans H; with_reducible exact H2_) | with_reducible exact H | (rw [hy449]; exact H) | exact H
       have Ny449 := zb.mk hy449
       clear hy449
       obtain rfl := Option.some.inj H
       go_enter Try.func140, Try.ntmps140
       try go_wp2_with (first | ((with_reducible refine xR (N := 3) rfl ?_); refine box_event ?hg (N := 3) ?hd (cs := #[.int .i64 a1_0, .int .i64 a1_1, .int .i64 a1_2]) (t := 113) ?hr ?_; (case hd => rfl); (case hg => rfl); (case hr => first | (go_simp; done) | (go_simp; rfl)); intro gb445 hg w17 hbox hb; have n0_ := zb.mk (Kd.zN (by (with_reducible repeat (first | apply Kd.zX | apply Kd.zU | apply Kd.ym)); exact HO0.out) hb); have n1_ := zb.mk (Kept.below (S := (fun k_ => P0_ k_)) (by repeat (with_reducible first | exact HK.out | apply Kept.alloc | apply Kept.drewN | apply Kept.drew)) hb); have n2_ := zb.mk (zi (by repeat (with_reducible first | exact HB.out | apply zc | apply zj | apply zn)) hb); have n3_ := zb.mk (hbox); have n4_ := zb.mk ((by rw [hg]; exact (by first | exact HK.out.1 | exact (show Kept w _ (fun k_ => P0_ k_) from by repeat (with_reducible first | exact HK.out | apply Kept.alloc | apply Kept.drewN | apply Kept.drew)).1) : w.heap.size ≤ gb445)); have n5_ := zb.mk ((by rw [hg]; exact (zL (by repeat (with_reducible first | exact HB.out | apply zc | apply zj | apply zn))) : w0.heap.size ≤ gb445)); clear HO0; clear HK; clear HB; have HO0 := n0_; have HK := n1_; have HB := n2_; have BK445 := n3_; have GW445 := n4_; have GE445 := n5_; clear n0_ n1_ n2_ n3_ n4_ n5_; clear hb hbox hg; have hcz18_0 : w17.cell? ⟨gb445, 0, none⟩ = some (.int .i64 a1_0) := (zd BK445.out 0).trans rfl; have hcz18_1 : w17.cell? ⟨gb445, 1, none⟩ = some (.int .i64 a1_1) := (zd BK445.out 1).trans rfl; have hcz18_2 : w17.cell? ⟨gb445, 2, none⟩ = some (.int .i64 a1_2) := (zd BK445.out 2).trans rfl; have hfz18_0 := zk BK445.out 0; have hfz18_1 := zk BK445.out 1; have hfz18_2 := zk BK445.out 2))
       have n0_ := zb.mk (Kd.ym HO0.out)
       have n1_ := zb.mk (zD BK445.out)
       have n2_ := zb.mk (Kept.drew HK.out)
       have n3_ := zb.mk (zn HB.out)
       clear HO0
       clear BK445
       clear HK
       clear HB
       have HO0 := n0_
       have BK445 := n1_
       have HK := n2_
       have HB := n3_
       clear n0_ n1_ n2_ n3_
       obtain ⟨Ao20, co20, eo20⟩ := Kd.zJ HO0.out
       (first | subst eo20 | (injection eo20 with f1_ f2_ f3_; have f4_ := f1_.symm; have f5_ := f3_.symm; clear f1_ f2_ f3_; subst f4_; subst f5_))
       have p447 : 0 ≤ (a1_1 : Int) := of_decide_eq_true (by first | (with_reducible assumption) | assumption)
       have q447 : a1_1 < (l0.length : Int) := of_decide_eq_true (by first | (with_reducible assumption) | assumption)
       obtain ⟨ad447, e447, hx447_0⟩ := Kd.at_int (Kd.zH HO0.out).2.2 a1_1 p447 q447
       cases e447
       replace p447 := eq_true p447
       replace q447 := eq_true q447
       have p448 : 0 ≤ (a1_2 : Int) := of_decide_eq_true (by first | (with_reducible assumption) | assumption)
       have q448 : a1_2 < (l0.length : Int) := of_decide_eq_true (by first | (with_reducible assumption) | assumption)
       obtain ⟨ad448, e448, hx448_0⟩ := Kd.at_int (Kd.zH HO0.out).2.2 a1_2 p448 q448
       obtain rfl : ad447 = ad448 := (by injection e448)
       replace p448 := eq_true p448
       replace q448 := eq_true q448
       have p16 : 0 ≤ (a1_1 : Int) := of_decide_eq_true (by first | (with_reducible assumption) | assumption)
       have q16 : (a1_1 : Int) < ((l0.length : Int) : Int) := of_decide_eq_true (by first | (with_reducible assumption) | assumption)
       obtain ⟨go16, co16, eo16, gb16, gl16, cl16, HG16⟩ := Kd.xT HO0.out (by omega)
       (first | cases eo16 | (injection eo16 with ea_ en_ ec_; (first | subst ea_ | (injection ea_ with ea_; subst ea_)); subst ec_; clear en_))
       have GB16 := zb.mk gb16
       have GG16 := zb.mk HG16
       clear gb16 gl16 HG16
       have HMgo16 := zb.mk (show (P0_ go16 ∨ w.heap.size ≤ go16) from (HO0.out.1 _ rfl))
       (first | simp only [add_plain] at hx447_0 | skip)
       (first | simp only [add_plain] at hx448_0 | skip)
       obtain ⟨hx16_0, hf16_0⟩ := Kd.R_celln 0 HO0.out (a1_1 : Int) p16 q16
       replace p16 := eq_true p16
       replace q16 := eq_true q16
       have HP21 := Kd.R_putn HO0.out (a1_1 : Int) (Int.tmod (wrap64 ((rd l0 a1_1) + (rd l0 a1_2))) 100)
       rw [← Ny449.out] at HP21
       have HQ21 := zb.mk HP21
       clear HP21
       refine yc (n := 17) (S := fun w' => w'.cell? ⟨gb445, 0, none⟩ = some (.int .i64 a1_0) ∧ w'.cell? ⟨gb445, 1, none⟩ = some (.int .i64 a1_1) ∧ w'.cell? ⟨gb445, 2, none⟩ = some (.int .i64 a1_2) ∧ w'.cell? ⟨go16, (a1_1).toNat, none⟩ = some (.int .i64 (rd l0 a1_1)) ∧ w'.cell? ⟨go16, (a1_2).toNat, none⟩ = some (.int .i64 (rd l0 a1_2))) (ds := [16]) #[false, false, false, false, false, false, false, false, false, false, false, false, false, false, false, false, false] (by kernel_rfl) rfl rfl ⟨(zd BK445.out 0).trans rfl, (zd BK445.out 1).trans rfl, (zd BK445.out 2).trans rfl, hx447_0, hx448_0⟩ (fun hHeld => ?_); refine with_tabW ye.tab5 ye.bits5 (fun HT_ HW_ => ?_)
       generalize w17.drew = w19 at HO0 BK445 HK HB GG16 HQ21 hf16_0 hx16_0 hx447_0 hx448_0 hHeld ⊢
       refine zl (i := 0) (N := some 16) (v := ?_) (a' := ?_) #[true, false, false, false, false, false, false, false, false, false, false, false, false, false, false, false, false] rfl rfl (any_of HT_.out (by kernel_rfl)) (fun _ _ _ h => h) (Or.inl ⟨by rfl, ?_⟩) ?_ ?_
       rotate_left
       ·intro w'
        go_simp
        with_reducible rfl
       rotate_left
       ·simp only [Act.put, List.setIfInBounds_toArray, List.set_cons_zero, List.set_cons_succ, zg, zh]
        rfl
       refine zl (i := 1) (N := some 17) (v := ?_) (a' := ?_) #[true, true, false, false, false, false, false, false, false, false, false, false, false, false, false, false, false] rfl rfl (any_of HT_.out (by kernel_rfl)) (fun _ _ _ h => h) (Or.inl ⟨by rfl, ?_⟩) ?_ ?_
       rotate_left
       ·intro w'
        go_simp
        with_reducible rfl
       rotate_left
       ·simp only [Act.put, List.setIfInBounds_toArray, List.set_cons_zero, List.set_cons_succ, zg, zh]
        rfl
       refine zl (i := 3) (N := some 19) (v := ?_) (a' := ?_) #[true, true, false, true, false, false, false, false, false, false, false, false, false, false, false, false, false] rfl rfl (any_of HT_.out (by kernel_rfl)) (fun _ _ _ h => h) (Or.inl ⟨by rfl, ?_⟩) ?_ ?_
       rotate_left
       ·intro w'
        go_simp
        with_reducible rfl
       rotate_left
       ·simp only [Act.put, List.setIfInBounds_toArray, List.set_cons_zero, List.set_cons_succ, zg, zh]
        rfl
       refine zl (i := 4) (N := some 20) (v := ?_) (a' := ?_) #[true, true, false, true, true, false, false, false, false, false, false, false, false, false, false, false, false] rfl rfl (any_of HT_.out (by kernel_rfl)) (fun _ _ _ h => h) (Or.inl ⟨by rfl, ?_⟩) ?_ ?_
       rotate_left
       ·intro w'
        go_simp
        with_reducible rfl
       rotate_left
       ·simp only [Act.put, List.setIfInBounds_toArray, List.set_cons_zero, List.set_cons_succ, zg, zh]
        rfl
       refine zl (i := 8) (N := some 24) (v := ?_) (a' := ?_) #[true, true, false, true, true, false, false, false, true, false, false, false, false, false, false, false, false] rfl rfl (any_of HT_.out (by kernel_rfl)) (fun _ _ _ h => h) (Or.inl ⟨by rfl, ?_⟩) ?_ ?_
       rotate_left
       ·intro w'
        go_simp
        with_reducible rfl
       rotate_left
       ·simp only [Act.put, List.setIfInBounds_toArray, List.set_cons_zero, List.set_cons_succ, zg, zh]
        rfl
       refine zl (i := 9) (N := some 25) (v := ?_) (a' := ?_) #[true, true, false, true, true, false, false, false, true, true, false, false, false, false, false, false, false] rfl rfl (any_of HT_.out (by kernel_rfl)) (fun _ _ _ h => h) (Or.inl ⟨by rfl, ?_⟩) ?_ ?_
       rotate_left
       ·intro w'
        go_simp
        with_reducible rfl
       rotate_left
       ·simp only [Act.put, List.setIfInBounds_toArray, List.set_cons_zero, List.set_cons_succ, zg, zh]
        rfl
       refine zA (i := 2) (N := some 18) (v := ?_) (a' := ?_) #[true, true, true, true, true, false, false, false, true, true, false, false, false, false, false, false, false] rfl rfl (take_ofW HT_.out HW_.out (by kernel_rfl)) (fun _ _ _ h => h) (Or.inl ⟨by rfl, ?_⟩) hHeld ?_ ?_
       rotate_left
       ·rintro w' ⟨s0, s1, s2, s3, s4⟩
        go_simp
        with_reducible rfl
       rotate_left
       ·simp only [Act.put, List.setIfInBounds_toArray, List.set_cons_zero, List.set_cons_succ, zg, zh]
        rfl
       refine zA (i := 5) (N := some 21) (v := ?_) (a' := ?_) #[true, true, true, true, true, true, false, false, true, true, false, false, false, false, false, false, false] rfl rfl (take_ofW HT_.out HW_.out (by kernel_rfl)) (fun _ _ _ h => h) (Or.inl ⟨by rfl, ?_⟩) hHeld ?_ ?_
       rotate_left
       ·rintro w' ⟨s0, s1, s2, s3, s4⟩
        go_simp
        with_reducible rfl
       rotate_left
       ·simp only [Act.put, List.setIfInBounds_toArray, List.set_cons_zero, List.set_cons_succ, zg, zh]
        rfl
       refine zl (i := 6) (N := some 22) (v := ?_) (a' := ?_) #[true, true, true, true, true, true, true, false, true, true, false, false, false, false, false, false, false] rfl rfl (any_of HT_.out (by kernel_rfl)) (fun _ _ _ h => h) (Or.inl ⟨by rfl, ?_⟩) ?_ ?_
       rotate_left
       ·intro w'
        go_simp
        with_reducible rfl
       rotate_left
       ·simp only [Act.put, List.setIfInBounds_toArray, List.set_cons_zero, List.set_cons_succ, zg, zh]
        rfl
       refine zA (i := 7) (N := some 23) (v := ?_) (a' := ?_) #[true, true, true, true, true, true, true, true, true, true, false, false, false, false, false, false, false] rfl rfl (take_ofW HT_.out HW_.out (by kernel_rfl)) (fun _ _ _ h => h) (Or.inl ⟨by rfl, ?_⟩) hHeld ?_ ?_
       rotate_left
       ·rintro w' ⟨s0, s1, s2, s3, s4⟩
        go_simp
        with_reducible rfl
       rotate_left
       ·simp only [Act.put, List.setIfInBounds_toArray, List.set_cons_zero, List.set_cons_succ, zg, zh]
        rfl
       refine zA (i := 10) (N := some 26) (v := ?_) (a' := ?_) #[true, true, true, true, true, true, true, true, true, true, true, false, false, false, false, false, false] rfl rfl (take_ofW HT_.out HW_.out (by kernel_rfl)) (fun _ _ _ h => h) (Or.inl ⟨by rfl, ?_⟩) hHeld ?_ ?_
       rotate_left
       ·rintro w' ⟨s0, s1, s2, s3, s4⟩
        go_simp
        with_reducible rfl
       rotate_left
       ·simp only [Act.put, List.setIfInBounds_toArray, List.set_cons_zero, List.set_cons_succ, zg, zh]
        rfl
       refine zl (i := 11) (N := some 27) (v := ?_) (a' := ?_) #[true, true, true, true, true, true, true, true, true, true, true, true, false, false, false, false, false] rfl rfl (any_of HT_.out (by kernel_rfl)) (fun _ _ _ h => h) (Or.inl ⟨by rfl, ?_⟩) ?_ ?_
       rotate_left
       ·intro w'
        go_simp
        with_reducible rfl
       rotate_left
       ·simp only [Act.put, List.setIfInBounds_toArray, List.set_cons_zero, List.set_cons_succ, zg, zh]
        rfl
       refine zA (i := 12) (N := some 28) (v := ?_) (a' := ?_) #[true, true, true, true, true, true, true, true, true, true, true, true, true, false, false, false, false] rfl rfl (take_ofW HT_.out HW_.out (by kernel_rfl)) (fun _ _ _ h => h) (Or.inl ⟨by rfl, ?_⟩) hHeld ?_ ?_
       rotate_left
       ·rintro w' ⟨s0, s1, s2, s3, s4⟩
        go_simp
        with_reducible rfl
       rotate_left
       ·simp only [Act.put, List.setIfInBounds_toArray, List.set_cons_zero, List.set_cons_succ, zg, zh]
        rfl
       refine zl (i := 13) (N := some 29) (v := ?_) (a' := ?_) #[true, true, true, true, true, true, true, true, true, true, true, true, true, true, false, false, false] rfl rfl (any_of HT_.out (by kernel_rfl)) (fun _ _ _ h => h) (Or.inl ⟨by rfl, ?_⟩) ?_ ?_
       rotate_left
       ·intro w'
        go_simp
        with_reducible rfl
       rotate_left
       ·simp only [Act.put, List.setIfInBounds_toArray, List.set_cons_zero, List.set_cons_succ, zg, zh]
        rfl
       refine zl (i := 14) (N := some 30) (v := ?_) (a' := ?_) #[true, true, true, true, true, true, true, true, true, true, true, true, true, true, true, false, false] rfl rfl (any_of HT_.out (by kernel_rfl)) (fun _ _ _ h => h) (Or.inl ⟨by rfl, ?_⟩) ?_ ?_
       rotate_left
       ·intro w'
        go_simp
        with_reducible rfl
       rotate_left
       ·simp only [Act.put, List.setIfInBounds_toArray, List.set_cons_zero, List.set_cons_succ, zg, zh]
        rfl
       refine zl (i := 15) (N := some 31) (v := ?_) (a' := ?_) #[true, true, true, true, true, true, true, true, true, true, true, true, true, true, true, true, false] rfl rfl (any_of HT_.out (by kernel_rfl)) (fun _ _ _ h => h) (Or.inl ⟨by rfl, ?_⟩) ?_ ?_
       rotate_left
       ·intro w'
        go_simp
        with_reducible rfl
       rotate_left
       ·simp only [Act.put, List.setIfInBounds_toArray, List.set_cons_zero, List.set_cons_succ, zg, zh]
        rfl
       refine yR (i := 16) (N := none) #[true, true, true, true, true, true, true, true, true, true, true, true, true, true, true, true, true] rfl rfl (one_of HT_.out (by kernel_rfl)) (by decide) (fun K hK => ?_)
       refine yQ (w1 := ?_) (by rfl) rfl ?_ ?_
       rotate_left
       ·go_simp
        rfl
       refine hK.out _ _ ?_
       clear hK K
       refine yt (done_of HT_.out (by kernel_rfl)) ?_
       try go_wp2
       first | go_end0 | ((try simp only [Exit.inBlock, Exit.then]); refine bodyPost_ret (results_none rfl _ _ _) rfl ?_)
       exact ⟨by first | rfl | (simp [yX, yW] <;> rfl) | (simp [*, yX, yW] <;> rfl), by (with_reducible repeat (first | apply Kd.zX | apply Kd.zU | apply Kd.ym)); exact HQ21.out, by repeat (with_reducible first | exact HB.out | apply zc | apply zj | apply zn | refine zv ?_ GB16.out | refine zv ?_ GE445.out), by repeat (with_reducible first | exact HK.out | apply Kept.alloc | apply Kept.drewN | apply Kept.drew | refine Kept.setCell ?_ HMgo16.out _ | refine Kept.setCell ?_ (.inr GW445.out) _)⟩
      ·rw [if_neg c15] at H
       exact absurd H (by simp)
     ·rw [if_neg c14] at H
      exact absurd H (by simp)
    ·rw [if_neg c13] at H
     exact absurd H (by simp)
   ·rw [if_neg c12] at H
    exact absurd H (by simp)
  ·rw [if_neg c11] at H
   have c11b0 : (a1_0 == 4) = false := beq_eq_false_iff_ne.mpr c11
   have c11b1 : (a1_0 != 4) = true := bne_iff_ne.mpr c11
   obtain rfl := Option.some.inj H
   go_enter Try.func140, Try.ntmps140
   go_wp2_with (first | ((with_reducible refine xR (N := 3) rfl ?_); refine box_event ?hg (N := 3) ?hd (cs := #[.int .i64 a1_0, .int .i64 a1_1, .int .i64 a1_2]) (t := 113) ?hr ?_; (case hd => rfl); (case hg => rfl); (case hr => first | (go_simp; done) | (go_simp; rfl)); intro gb445 hg w22 hbox hb; have n0_ := zb.mk (Kd.zN (by (with_reducible repeat (first | apply Kd.zX | apply Kd.zU | apply Kd.ym)); exact HO0.out) hb); have n1_ := zb.mk (Kept.below (S := (fun k_ => P0_ k_)) (by repeat (with_reducible first | exact HK.out | apply Kept.alloc | apply Kept.drewN | apply Kept.drew)) hb); have n2_ := zb.mk (zi (by repeat (with_reducible first | exact HB.out | apply zc | apply zj | apply zn)) hb); have n3_ := zb.mk (hbox); have n4_ := zb.mk ((by rw [hg]; exact (by first | exact HK.out.1 | exact (show Kept w _ (fun k_ => P0_ k_) from by repeat (with_reducible first | exact HK.out | apply Kept.alloc | apply Kept.drewN | apply Kept.drew)).1) : w.heap.size ≤ gb445)); have n5_ := zb.mk ((by rw [hg]; exact (zL (by repeat (with_reducible first | exact HB.out | apply zc | apply zj | apply zn))) : w0.heap.size ≤ gb445)); clear HO0; clear HK; clear HB; have HO0 := n0_; have HK := n1_; have HB := n2_; have BK445 := n3_; have GW445 := n4_; have GE445 := n5_; clear n0_ n1_ n2_ n3_ n4_ n5_; clear hb hbox hg; have hcz23_0 : w22.cell? ⟨gb445, 0, none⟩ = some (.int .i64 a1_0) := (zd BK445.out 0).trans rfl; have hcz23_1 : w22.cell? ⟨gb445, 1, none⟩ = some (.int .i64 a1_1) := (zd BK445.out 1).trans rfl; have hcz23_2 : w22.cell? ⟨gb445, 2, none⟩ = some (.int .i64 a1_2) := (zd BK445.out 2).trans rfl; have hfz23_0 := zk BK445.out 0; have hfz23_1 := zk BK445.out 1; have hfz23_2 := zk BK445.out 2))
   first | go_end0 | ((try simp only [Exit.inBlock, Exit.then]); refine bodyPost_ret (results_none rfl _ _ _) rfl ?_)
   exact ⟨by first | rfl | (simp [yX, yW] <;> rfl) | (simp [*, yX, yW] <;> rfl), by (with_reducible repeat (first | apply Kd.zX | apply Kd.zU | apply Kd.ym)); exact HO0.out, by repeat (with_reducible first | exact HB.out | apply zc | apply zj | apply zn | refine zv ?_ GE445.out), by repeat (with_reducible first | exact HK.out | apply Kept.alloc | apply Kept.drewN | apply Kept.drew | refine Kept.setCell ?_ (.inr GW445.out) _)⟩
def wh.f (a0 : Int) (a1 : Int) : Option (Int × Int × Int × List Int × Int × Int × Int × Int × List Int × (List (S45)) × (List (S45)) × Int × Int) := some (a0, 0, a1, (List.replicate 3 0), 0, 0, 0, 0, (List.replicate 3 0), [], [], 0, 0)
theorem yY {W : World} {o : Obj} {b : Nat} (h : W.heap.size = b) : (W.alloc o).heap[b]? = some o := by subst h; exact heap_alloc_new W o
theorem five0 (w : World) (x o1 o2 o3 o4 : Obj) : (((((w.alloc x).alloc o1).alloc o2).alloc o3).alloc o4).drew.heap[w.heap.size]? = some x := zD (zm (zm (zm (zm (yY (by simp)) _) _) _) _)
theorem five1 (w : World) (x o1 o2 o3 o4 : Obj) : (((((w.alloc x).alloc o1).alloc o2).alloc o3).alloc o4).drew.heap[w.heap.size + 1]? = some o1 := zD (zm (zm (zm (yY (by simp)) _) _) _)
theorem five2 (w : World) (x o1 o2 o3 o4 : Obj) : (((((w.alloc x).alloc o1).alloc o2).alloc o3).alloc o4).drew.heap[w.heap.size + 1 + 1]? = some o2 := zD (zm (zm (yY (by simp)) _) _)
theorem five3 (w : World) (x o1 o2 o3 o4 : Obj) : (((((w.alloc x).alloc o1).alloc o2).alloc o3).alloc o4).drew.heap[w.heap.size + 1 + 1 + 1]? = some o3 := zD (zm (yY (by simp)) _)
theorem five4 (w : World) (x o1 o2 o3 o4 : Obj) : (((((w.alloc x).alloc o1).alloc o2).alloc o3).alloc o4).drew.heap[w.heap.size + 1 + 1 + 1 + 1]? = some o4 := zD (yY (by simp))
theorem five_below (w : World) (x o1 o2 o3 o4 : Obj) : Below w.heap.size w (((((w.alloc x).alloc o1).alloc o2).alloc o3).alloc o4).drew := ze (zc (zc (zc (zc (zc (Below.refl _ _) _) _) _) _) _)
theorem R_at {α : Type} {d : Kd α} {e : Nat} {w : World} {base b : Nat} {ok : Nat → Prop} {xs : List α} {cs : List Value} (h : w.heap[b]? = some (.cells cs.toArray e (0, 0))) (hb : base ≤ b) (hok : ok b) (hl : xs.length ≤ maxLen) (hr : yh (d.M w base (fun _ => False)) d.sz xs cs) :
  Kd.R d e w base ok (.slice (some ⟨b, 0, none⟩) xs.length xs.length) xs := by
 have hcl : cs.length = xs.length * d.sz := hr.1
 refine ⟨fun k hk => ?_, cs, ⟨hcl, .inr ⟨b, xs.length, cs.toArray, rfl, hb, h, Nat.le_refl _, hl, by simpa using hcl, ?_⟩⟩, hr.imp_ (fun _ _ hp => d.M_mono (fun _ hk => hk.elim) hp)⟩
 ·have : b = k := by simpa [Value.ownBlock] using hk
  subst this
  exact hok
 ·rw [← hcl]; simp
theorem ints3 (w : World) (base : Nat) (ok : Nat → Prop) : yh ((Kd.int .i64).M w base ok) (Kd.int .i64).sz (List.replicate 3 (0 : Int)) [.int .i64 0, .int .i64 0, .int .i64 0] :=
 ((((yh.none _ _).snoc (p := (0 : Int)) (c := [.int .i64 0]) rfl rfl).snoc (p := (0 : Int)) (c := [.int .i64 0]) rfl rfl).snoc (p := (0 : Int)) (c := [.int .i64 0]) rfl rfl)
theorem R_zero3 {w : World} {base b : Nat} {ok : Nat → Prop} (h : w.heap[b]? = some (.cells #[.int .i64 0, .int .i64 0, .int .i64 0] 3 (0, 0))) (hb : base ≤ b) (hok : ok b) : Kd.R (Kd.int .i64) 3 w base ok (.slice (some ⟨b, 0, none⟩) 3 3) (List.replicate 3 (0 : Int)) :=
 R_at (cs := [.int .i64 0, .int .i64 0, .int .i64 0]) h hb hok (by simp [maxLen]) (ints3 w base _)
theorem yz {α : Type} {d : Kd α} {e : Nat} {w : World} {base b : Nat} {ok : Nat → Prop} (h : w.heap[b]? = some (.cells #[] e (0, 0))) (hb : base ≤ b) (hok : ok b) : Kd.R d e w base ok (.slice (some ⟨b, 0, none⟩) 0 0) ([] : List α) :=
 R_at (xs := []) (cs := []) h hb hok (Nat.zero_le _) (yh.none _ _)
set_option maxHeartbeats 4000000 in
set_option maxRecDepth 100000 in
theorem wh.calls (a0 : Int) (a1 : Int) (r1 : Int) (r2 : Int) (r3 : Int) (r4 : List Int) (r5 : Int) (r6 : Int) (r7 : Int) (r8 : Int) (r9 : List Int) (r10 : List (S45)) (r11 : List (S45)) (r12 : Int) (r13 : Int) (w : World) (h : wh.f a0 a1 = some (r1, r2, r3, r4, r5, r6, r7, r8, r9, r10, r11, r12, r13)) :
  Calls Try.prog 118 #[.int .i64 a0, .int .i64 a1] w fun e w' => ∃ v3_ v8_ v9_ v10_ : Value, e = .returned (.agg #[.int .i64 r1, .int .i64 r2, .int .i64 r3, v3_, .int .i64 r5, .int .i64 r6, .int .i64 r7, .int .i64 r8, v8_, v9_, v10_, .int .i64 r12, .int .i64 r13]) ∧ Kd.R (Kd.int .i64) 3 w' w.heap.size (fun k_ => some k_ ≠ (v8_ : Value).ownBlock) v3_ r4 ∧ Kd.R (Kd.int .i64) 3 w' w.heap.size (fun k_ => some k_ ≠ (v3_ : Value).ownBlock) v8_ r9 ∧ Kd.R k45 45 w' w.heap.size (fun k_ => some k_ ≠ (v10_ : Value).ownBlock) v9_ r10 ∧ Kd.R k45 45 w' w.heap.size (fun k_ => some k_ ≠ (v9_ : Value).ownBlock) v10_ r11 ∧ Below w.heap.size w w' := by
 unfold wh.f at h
 injection h with h
 simp only [Prod.mk.injEq] at h
 obtain ⟨rfl, rfl, rfl, rfl, rfl, rfl, rfl, rfl, rfl, rfl, rfl, rfl, rfl⟩ := h
 have hu1 := Try.underlying43
 have hu2 := Try.underlying41
 have hinf : (Try.prog.info? 43).map (·.size) = some 13 := by kernel_rfl
 have hmk : ∀ W : World, (Instr.makeSlice 29 (.int .i64 3) (.int .i64 3)).run Try.prog W = .ok (.slice (some ⟨W.heap.size, 0, none⟩) 3 3) (W.alloc (.cells #[.int .i64 0, .int .i64 0, .int .i64 0] 3)) := fun W => by
  have h := print_make (P := Try.prog) 29 3 .i64 8 Try.underlying29 (by kernel_rfl) (by decide) 3 (by decide) W
  have e : madeCells #[Value.int .i64 0] 3 = #[.int .i64 0, .int .i64 0, .int .i64 0] := by first | rfl | decide | kernel_rfl
  rw [e] at h
  exact h
 go_enter Try.func118, Try.ntmps118
 go_wp2_with fail
 go_region_held3 (fun _ => True) (trivial) (fail)
 all_goals go_wp2
 all_goals exact bodyPost_ret (results_cell_row rfl _ _ w.heap.size 43 _ (0, 0) _ rfl (five0 _ _ _ _ _ _) Try.underlying43 rfl hinf) rfl ⟨_, _, _, _, rfl, R_zero3 (by with_reducible first | exact five1 _ _ _ _ _ _ | exact five2 _ _ _ _ _ _ | exact five3 _ _ _ _ _ _ | exact five4 _ _ _ _ _ _) (by omega) (by simp [Value.ownBlock] <;> omega), R_zero3 (by with_reducible first | exact five1 _ _ _ _ _ _ | exact five2 _ _ _ _ _ _ | exact five3 _ _ _ _ _ _ | exact five4 _ _ _ _ _ _) (by omega) (by simp [Value.ownBlock] <;> omega), yz (by with_reducible first | exact five1 _ _ _ _ _ _ | exact five2 _ _ _ _ _ _ | exact five3 _ _ _ _ _ _ | exact five4 _ _ _ _ _ _) (by omega) (by simp [Value.ownBlock] <;> omega), yz (by with_reducible first | exact five1 _ _ _ _ _ _ | exact five2 _ _ _ _ _ _ | exact five3 _ _ _ _ _ _ | exact five4 _ _ _ _ _ _) (by omega) (by simp [Value.ownBlock] <;> omega), five_below _ _ _ _ _ _⟩
end Go.Proofs.Ytppapibjbjmmbaa.QSY
set_option linter.unusedVariables false
set_option linter.unusedSimpArgs false
namespace Go.Proofs.Ytppapibjbjmmbaa.QSY
open Go.RowKit Go.Proofs.YtppapibjbjmmbaaW.PrintWords Go.Proofs.YtppapibjbjmmbaaW.PrintLast Go.Proofs.YtppapibjbjmmbaaW.PrintMore
def regF (l : List Int) (d : yO) : List Int := (ye.f l d.f0 d.f1 d.f2).getD l
def St.deed (σ : St) (k : Int) (D : List yO) : St :=
 if (D.length : Int) ≤ (σ.t k).f6 then (if (σ.t k).f10.length = 0 then σ.end_ k (σ.t k).f7 else σ.stage k 2)
 else if (zx D (σ.t k).f6).f0 = 1 then σ.load k (zx D (σ.t k).f6).f1 (zx D (σ.t k).f6).f2
 else if (zx D (σ.t k).f6).f0 = 2 then (σ.upd k fun t => { t with f10 := xG ⟨(zx D (σ.t k).f6).f1, rd (σ.t k).f3 (zx D (σ.t k).f6).f2⟩ (σ.t k).f10 false }).next k (σ.t k).f6
 else if (zx D (σ.t k).f6).f0 = 5 then (if rd (σ.t k).f3 (zx D (σ.t k).f6).f1 = 0 then (σ.again k).upd k fun t => { t with f11 := (σ.t k).f7 + 1 } else σ.next k (σ.t k).f6)
 else (σ.upd k fun t => { t with f3 := regF (σ.t k).f3 (zx D (σ.t k).f6) }).next k (σ.t k).f6
set_option maxHeartbeats 4000000 in
set_option maxRecDepth 100000 in
theorem deed_e0 {w0 w : World} {g : Nat} {vp0 vp1 : Value} {σ : St} (k : Int) (A0 : Option Addr) (c0 : Nat) (D : List yO) (h : zS w0 w g vp0 vp1 σ) (h0 : 0 ≤ k) (h1 : k < σ.T.length) (hD : Kd.C xu w A0 D.length D) (hp : 0 ≤ (σ.t k).f1 ∧ (σ.t k).f1 ≤ 1000) (h8 : (σ.t k).f8.length ≤ 1000) (h9 : (σ.t k).f9.length ≤ 1000) (h10 : (σ.t k).f10.length ≤ 1000) (hL : σ.L.length ≤ 1000000000) (h6 : 0 ≤ (σ.t k).f6 ∧ (σ.t k).f6 ≤ 1000) (h7 : 0 ≤ (σ.t k).f7 ∧ (σ.t k).f7 ≤ 1000) (q : (D.length : Int) ≤ (σ.t k).f6) (q2 : (σ.t k).f10.length = 0) :
  Calls Try.prog 129 #[.pointer (some ⟨g, 0, none⟩), .int .i64 k, .slice A0 D.length c0] w fun e w' => e = .returned (.tuple #[]) ∧ zS w0 w' g vp0 vp1 (σ.deed k D) := by
 have H1 := zb.mk h1
 have HP := zb.mk hp
 have H6 := zb.mk h6
 have H7 := zb.mk h7
 have H8 := zb.mk h8
 have H9 := zb.mk h9
 have H10 := zb.mk h10
 have HL := zb.mk hL
 have HD0 := zb.mk hD
 have HS0 := zb.mk h
 clear h1 hp h6 h7 h8 h9 h10 hL hD
 have HQ := zb.mk (show σ.deed k D = σ.end_ k (σ.t k).f7 by unfold St.deed; rw [if_pos q, if_pos q2])
 have QE := zb.mk q
 have Q2 := zb.mk q2
 clear q q2
 obtain ⟨gT, cap, T, vC, vL, A3, c3, A8, c8, A9, c9, A10, c10, HR, HE, HT, H1', a3, ⟨k0, k1, k2, k3, k4, k5, k6, k7, k8, k9, k10, k11, k12⟩, hf, HB, HC3, HC8, HC9, HC10⟩ := h.open13 k h0 H1.out
 clear h
 have hu := Try.underlying43
 have hud := Try.underlying113
 have p1 : k < (σ.T.length : Int) := H1.out
 have b1 := HB.out.1
 have bg := HB.out.2.2.2
 go_enter Try.func129, Try.ntmps129
 go_upto_region 1 with (fail)
 obtain ⟨V, hV⟩ : ∃ V, V = w.alloc (.cells #[.int .i64 (σ.t k).f0, .int .i64 (σ.t k).f1, .int .i64 (σ.t k).f2, .slice A3 (σ.t k).f3.length c3, .int .i64 (σ.t k).f4, .int .i64 (σ.t k).f5, .int .i64 (σ.t k).f6, .int .i64 (σ.t k).f7, .slice A8 (σ.t k).f8.length c8, .slice A9 (σ.t k).f9.length c9, .slice A10 (σ.t k).f10.length c10, .int .i64 (σ.t k).f11, .int .i64 (σ.t k).f12] 43) := ⟨_, rfl⟩
 have HBV := zb.mk (show Below w.heap.size w V by rw [hV]; exact zc (Below.refl _ _) _)
 have VSZ := zb.mk (show V.heap.size = w.heap.size + 1 by rw [hV]; simp)
 have HX := zb.mk (show V.heap[w.heap.size]? = some (.cells #[.int .i64 (σ.t k).f0, .int .i64 (σ.t k).f1, .int .i64 (σ.t k).f2, .slice A3 (σ.t k).f3.length c3, .int .i64 (σ.t k).f4, .int .i64 (σ.t k).f5, .int .i64 (σ.t k).f6, .int .i64 (σ.t k).f7, .slice A8 (σ.t k).f8.length c8, .slice A9 (σ.t k).f9.length c9, .slice A10 (σ.t k).f10.length c10, .int .i64 (σ.t k).f11, .int .i64 (σ.t k).f12] 43 (0, 0)) by rw [hV]; exact heap_alloc_new _ _)
 rw [← hV]
 have w6 := (zd HX.out 6).trans rfl
 have w10 := (zd HX.out 10).trans rfl
 have w7 := (zd HX.out 7).trans rfl
 clear hV k0 k1 k2 k3 k4 k5 k6 k7 k8 k9 k10 k11 k12
 have c1 : decide ((σ.t k).f6 ≥ (D.length : Int)) = true := decide_eq_true QE.out
 have c1' : decide ((D.length : Int) ≤ (σ.t k).f6) = true := decide_eq_true QE.out
 have c2 : (((σ.t k).f10.length : Int) == 0) = true := by have := Q2.out; simp; exact List.eq_nil_of_length_eq_zero this
 have c2' : ((σ.t k).f10.length == 0) = true := by have := Q2.out; simp; exact List.eq_nil_of_length_eq_zero this
 obtain ⟨ln, hln⟩ : ∃ ln, ln = (σ.t k).f10.length := ⟨_, rfl⟩
 rw [← hln] at w10 c2 c2'
 clear hln
 go_wp2_with fail
 refine (end_calls k (σ.t k).f7 (HS0.out.below HBV.out) h0 H1.out HP.out H9.out H10.out HL.out).mono ?_
 rintro e w3 ⟨rfl, h3⟩
 go_wp2
 refine bodyPost_ret (results_none rfl _ _ _) rfl ?_
 rw [HQ.out]
 exact ⟨rfl, h3⟩
set_option maxHeartbeats 4000000 in
set_option maxRecDepth 100000 in
theorem deed_e1 {w0 w : World} {g : Nat} {vp0 vp1 : Value} {σ : St} (k : Int) (A0 : Option Addr) (c0 : Nat) (D : List yO) (h : zS w0 w g vp0 vp1 σ) (h0 : 0 ≤ k) (h1 : k < σ.T.length) (hD : Kd.C xu w A0 D.length D) (hp : 0 ≤ (σ.t k).f1 ∧ (σ.t k).f1 ≤ 1000) (h8 : (σ.t k).f8.length ≤ 1000) (h9 : (σ.t k).f9.length ≤ 1000) (h10 : (σ.t k).f10.length ≤ 1000) (hL : σ.L.length ≤ 1000000000) (h6 : 0 ≤ (σ.t k).f6 ∧ (σ.t k).f6 ≤ 1000) (h7 : 0 ≤ (σ.t k).f7 ∧ (σ.t k).f7 ≤ 1000) (q : (D.length : Int) ≤ (σ.t k).f6) (q2 : ¬ (σ.t k).f10.length = 0) :
  Calls Try.prog 129 #[.pointer (some ⟨g, 0, none⟩), .int .i64 k, .slice A0 D.length c0] w fun e w' => e = .returned (.tuple #[]) ∧ zS w0 w' g vp0 vp1 (σ.deed k D) := by
 have H1 := zb.mk h1
 have HP := zb.mk hp
 have H6 := zb.mk h6
 have H7 := zb.mk h7
 have H8 := zb.mk h8
 have H9 := zb.mk h9
 have H10 := zb.mk h10
 have HL := zb.mk hL
 have HD0 := zb.mk hD
 have HS0 := zb.mk h
 clear h1 hp h6 h7 h8 h9 h10 hL hD
 have HQ := zb.mk (show σ.deed k D = σ.stage k 2 by unfold St.deed; rw [if_pos q, if_neg q2])
 have QE := zb.mk q
 have Q2 := zb.mk q2
 clear q q2
 obtain ⟨gT, cap, T, vC, vL, A3, c3, A8, c8, A9, c9, A10, c10, HR, HE, HT, H1', a3, ⟨k0, k1, k2, k3, k4, k5, k6, k7, k8, k9, k10, k11, k12⟩, hf, HB, HC3, HC8, HC9, HC10⟩ := h.open13 k h0 H1.out
 clear h
 have hu := Try.underlying43
 have hud := Try.underlying113
 have p1 : k < (σ.T.length : Int) := H1.out
 have b1 := HB.out.1
 have bg := HB.out.2.2.2
 go_enter Try.func129, Try.ntmps129
 go_upto_region 1 with (fail)
 obtain ⟨V, hV⟩ : ∃ V, V = w.alloc (.cells #[.int .i64 (σ.t k).f0, .int .i64 (σ.t k).f1, .int .i64 (σ.t k).f2, .slice A3 (σ.t k).f3.length c3, .int .i64 (σ.t k).f4, .int .i64 (σ.t k).f5, .int .i64 (σ.t k).f6, .int .i64 (σ.t k).f7, .slice A8 (σ.t k).f8.length c8, .slice A9 (σ.t k).f9.length c9, .slice A10 (σ.t k).f10.length c10, .int .i64 (σ.t k).f11, .int .i64 (σ.t k).f12] 43) := ⟨_, rfl⟩
 have HBV := zb.mk (show Below w.heap.size w V by rw [hV]; exact zc (Below.refl _ _) _)
 have VSZ := zb.mk (show V.heap.size = w.heap.size + 1 by rw [hV]; simp)
 have HX := zb.mk (show V.heap[w.heap.size]? = some (.cells #[.int .i64 (σ.t k).f0, .int .i64 (σ.t k).f1, .int .i64 (σ.t k).f2, .slice A3 (σ.t k).f3.length c3, .int .i64 (σ.t k).f4, .int .i64 (σ.t k).f5, .int .i64 (σ.t k).f6, .int .i64 (σ.t k).f7, .slice A8 (σ.t k).f8.length c8, .slice A9 (σ.t k).f9.length c9, .slice A10 (σ.t k).f10.length c10, .int .i64 (σ.t k).f11, .int .i64 (σ.t k).f12] 43 (0, 0)) by rw [hV]; exact heap_alloc_new _ _)
 rw [← hV]
 have w6 := (zd HX.out 6).trans rfl
 have w10 := (zd HX.out 10).trans rfl
 have w7 := (zd HX.out 7).trans rfl
 clear hV k0 k1 k2 k3 k4 k5 k6 k7 k8 k9 k10 k11 k12
 have c1 : decide ((σ.t k).f6 ≥ (D.length : Int)) = true := decide_eq_true QE.out
 have c1' : decide ((D.length : Int) ≤ (σ.t k).f6) = true := decide_eq_true QE.out
 obtain ⟨ln, hln⟩ : ∃ ln, ln = (σ.t k).f10.length := ⟨_, rfl⟩
 rw [← hln] at w10 Q2
 have c2 : ((ln : Int) == 0) = false := by have := Q2.out; simp; omega
 have c2' : (ln == 0) = false := by have := Q2.out; simp; omega
 clear hln
 go_wp2_with fail
 refine (xw k 2 (HS0.out.below HBV.out) h0 H1.out).mono ?_
 rintro e w3 ⟨rfl, h3⟩
 go_wp2
 refine bodyPost_ret (results_none rfl _ _ _) rfl ?_
 rw [HQ.out]
 exact ⟨rfl, h3⟩
set_option maxHeartbeats 4000000 in
set_option maxRecDepth 100000 in
theorem deed_1 {w0 w : World} {g : Nat} {vp0 vp1 : Value} {σ : St} (k : Int) (A0 : Option Addr) (c0 : Nat) (D : List yO) (h : zS w0 w g vp0 vp1 σ) (h0 : 0 ≤ k) (h1 : k < σ.T.length) (hD : Kd.C xu w A0 D.length D) (hp : 0 ≤ (σ.t k).f1 ∧ (σ.t k).f1 ≤ 1000) (h8 : (σ.t k).f8.length ≤ 1000) (h9 : (σ.t k).f9.length ≤ 1000) (h10 : (σ.t k).f10.length ≤ 1000) (hL : σ.L.length ≤ 1000000000) (h6 : 0 ≤ (σ.t k).f6 ∧ (σ.t k).f6 ≤ 1000) (h7 : 0 ≤ (σ.t k).f7 ∧ (σ.t k).f7 ≤ 1000) (q : ¬ (D.length : Int) ≤ (σ.t k).f6) (hk : (zx D (σ.t k).f6).f0 = 1) (hA : 0 ≤ (zx D (σ.t k).f6).f1 ∧ (zx D (σ.t k).f6).f1 < (σ.t k).f3.length) (hB : 0 ≤ (zx D (σ.t k).f6).f2 ∧ (zx D (σ.t k).f6).f2 < σ.C.length) :
  Calls Try.prog 129 #[.pointer (some ⟨g, 0, none⟩), .int .i64 k, .slice A0 D.length c0] w fun e w' => e = .returned (.tuple #[]) ∧ zS w0 w' g vp0 vp1 (σ.deed k D) := by
 have H1 := zb.mk h1
 have HP := zb.mk hp
 have H6 := zb.mk h6
 have H7 := zb.mk h7
 have H8 := zb.mk h8
 have H9 := zb.mk h9
 have H10 := zb.mk h10
 have HL := zb.mk hL
 have HD0 := zb.mk hD
 have HS0 := zb.mk h
 clear h1 hp h6 h7 h8 h9 h10 hL hD
 have HQ := zb.mk (show σ.deed k D = σ.load k (zx D (σ.t k).f6).f1 (zx D (σ.t k).f6).f2 by unfold St.deed; rw [if_neg q, if_pos hk])
 have QE := zb.mk (show (σ.t k).f6 < (D.length : Int) by omega)
 have HK := zb.mk hk
 have HAA := zb.mk hA
 have HBB := zb.mk hB
 clear q hk hA hB
 obtain ⟨gT, cap, T, vC, vL, A3, c3, A8, c8, A9, c9, A10, c10, HR, HE, HT, H1', a3, ⟨k0, k1, k2, k3, k4, k5, k6, k7, k8, k9, k10, k11, k12⟩, hf, HB, HC3, HC8, HC9, HC10⟩ := h.open13 k h0 H1.out
 clear h
 have hu := Try.underlying43
 have hud := Try.underlying113
 have p1 : k < (σ.T.length : Int) := H1.out
 have b1 := HB.out.1
 have bg := HB.out.2.2.2
 go_enter Try.func129, Try.ntmps129
 go_upto_region 1 with (fail)
 obtain ⟨V, hV⟩ : ∃ V, V = w.alloc (.cells #[.int .i64 (σ.t k).f0, .int .i64 (σ.t k).f1, .int .i64 (σ.t k).f2, .slice A3 (σ.t k).f3.length c3, .int .i64 (σ.t k).f4, .int .i64 (σ.t k).f5, .int .i64 (σ.t k).f6, .int .i64 (σ.t k).f7, .slice A8 (σ.t k).f8.length c8, .slice A9 (σ.t k).f9.length c9, .slice A10 (σ.t k).f10.length c10, .int .i64 (σ.t k).f11, .int .i64 (σ.t k).f12] 43) := ⟨_, rfl⟩
 have HBV := zb.mk (show Below w.heap.size w V by rw [hV]; exact zc (Below.refl _ _) _)
 have VSZ := zb.mk (show V.heap.size = w.heap.size + 1 by rw [hV]; simp)
 have HX := zb.mk (show V.heap[w.heap.size]? = some (.cells #[.int .i64 (σ.t k).f0, .int .i64 (σ.t k).f1, .int .i64 (σ.t k).f2, .slice A3 (σ.t k).f3.length c3, .int .i64 (σ.t k).f4, .int .i64 (σ.t k).f5, .int .i64 (σ.t k).f6, .int .i64 (σ.t k).f7, .slice A8 (σ.t k).f8.length c8, .slice A9 (σ.t k).f9.length c9, .slice A10 (σ.t k).f10.length c10, .int .i64 (σ.t k).f11, .int .i64 (σ.t k).f12] 43 (0, 0)) by rw [hV]; exact heap_alloc_new _ _)
 rw [← hV]
 have w6 := (zd HX.out 6).trans rfl
 have w10 := (zd HX.out 10).trans rfl
 have w7 := (zd HX.out 7).trans rfl
 clear hV k0 k1 k2 k3 k4 k5 k6 k7 k8 k9 k10 k11 k12
 have c1 : decide ((σ.t k).f6 ≥ (D.length : Int)) = false := decide_eq_false (by have := QE.out; omega)
 have c1' : decide ((D.length : Int) ≤ (σ.t k).f6) = false := decide_eq_false (by have := QE.out; omega)
 have hlt : (σ.t k).f6 < (D.length : Int) := QE.out
 have hge : 0 ≤ (σ.t k).f6 := H6.out.1
 obtain ⟨ad, rfl, x0, x1, x2⟩ := at_T113 HD0.out (σ.t k).f6 hge hlt
 have x0 := za HBV.out x0
 have x1 := za HBV.out x1
 have x2 := za HBV.out x2
 obtain ⟨dK, hdK⟩ : ∃ x, x = (zx D (σ.t k).f6).f0 := ⟨_, rfl⟩
 obtain ⟨dA, hdA⟩ : ∃ x, x = (zx D (σ.t k).f6).f1 := ⟨_, rfl⟩
 obtain ⟨dB, hdB⟩ : ∃ x, x = (zx D (σ.t k).f6).f2 := ⟨_, rfl⟩
 rw [← hdK] at x0 HK
 rw [← hdA] at x1 HAA
 (try rw [← hdA] at HQ)
 rw [← hdB] at x2 HBB
 (try rw [← hdB] at HQ)
 clear hdK hdA hdB
 have hVS := VSZ.out
 go_upto_region 6 with (fail)
 (try rw [hVS])
 obtain ⟨V2, hV2⟩ : ∃ V2, V2 = V.alloc (.cells #[.int .i64 dK, .int .i64 dA, .int .i64 dB] 113) := ⟨_, rfl⟩
 have HBV2 := zb.mk (show Below w.heap.size w V2 by rw [hV2]; exact zi HBV.out (zc (Below.refl _ _) _))
 have HX := zb.mk ((show V2.heap[w.heap.size]? = V.heap[w.heap.size]? by rw [hV2]; exact Below.heap_alloc _ _ _ (by omega)).trans HX.out)
 have HD := zb.mk (show V2.heap[w.heap.size + 1]? = some (.cells #[.int .i64 dK, .int .i64 dA, .int .i64 dB] 113 (0, 0)) by rw [hV2, ← hVS]; exact heap_alloc_new _ _)
 rw [← hV2]
 have w6 := (zd HX.out 6).trans rfl
 have w10 := (zd HX.out 10).trans rfl
 have w7 := (zd HX.out 7).trans rfl
 have w3 := (zd HX.out 3).trans rfl
 have d0 := (zd HD.out 0).trans rfl
 have d1 := (zd HD.out 1).trans rfl
 have d2 := (zd HD.out 2).trans rfl
 have HRV := zb.mk (HR.out.below HBV2.out)
 have HS2 := zb.mk (HS0.out.below HBV2.out)
 have a3 := za HBV2.out a3
 clear hV2 x0 x1 x2 hVS
 have ck1 : (dK == 1) = true := by have := HK.out; simp [this]
 go_wp2_with fail
 refine (load_calls k dK dA dB HS2.out h0 H1.out H8.out H9.out H10.out H6.out HAA.out.1 HAA.out.2 HBB.out.1 HBB.out.2).mono ?_
 rintro e w3 ⟨rfl, h3⟩
 go_wp2
 refine bodyPost_ret (results_none rfl _ _ _) rfl ?_
 rw [HQ.out]
 exact ⟨rfl, h3⟩
set_option maxHeartbeats 4000000 in
set_option maxRecDepth 100000 in
theorem deed_2 {w0 w : World} {g : Nat} {vp0 vp1 : Value} {σ : St} (k : Int) (A0 : Option Addr) (c0 : Nat) (D : List yO) (h : zS w0 w g vp0 vp1 σ) (h0 : 0 ≤ k) (h1 : k < σ.T.length) (hD : Kd.C xu w A0 D.length D) (hp : 0 ≤ (σ.t k).f1 ∧ (σ.t k).f1 ≤ 1000) (h8 : (σ.t k).f8.length ≤ 1000) (h9 : (σ.t k).f9.length ≤ 1000) (h10 : (σ.t k).f10.length ≤ 1000) (hL : σ.L.length ≤ 1000000000) (h6 : 0 ≤ (σ.t k).f6 ∧ (σ.t k).f6 ≤ 1000) (h7 : 0 ≤ (σ.t k).f7 ∧ (σ.t k).f7 ≤ 1000) (q : ¬ (D.length : Int) ≤ (σ.t k).f6) (hk : (zx D (σ.t k).f6).f0 = 2) (hB : 0 ≤ (zx D (σ.t k).f6).f2 ∧ (zx D (σ.t k).f6).f2 < (σ.t k).f3.length) :
  Calls Try.prog 129 #[.pointer (some ⟨g, 0, none⟩), .int .i64 k, .slice A0 D.length c0] w fun e w' => e = .returned (.tuple #[]) ∧ zS w0 w' g vp0 vp1 (σ.deed k D) := by
 have H1 := zb.mk h1
 have HP := zb.mk hp
 have H6 := zb.mk h6
 have H7 := zb.mk h7
 have H8 := zb.mk h8
 have H9 := zb.mk h9
 have H10 := zb.mk h10
 have HL := zb.mk hL
 have HD0 := zb.mk hD
 have HS0 := zb.mk h
 clear h1 hp h6 h7 h8 h9 h10 hL hD
 have HQ := zb.mk (show σ.deed k D = (σ.upd k fun t => { t with f10 := xG ⟨(zx D (σ.t k).f6).f1, rd (σ.t k).f3 (zx D (σ.t k).f6).f2⟩ (σ.t k).f10 false }).next k (σ.t k).f6 by unfold St.deed; rw [if_neg q, if_neg (by omega), if_pos hk])
 have QE := zb.mk (show (σ.t k).f6 < (D.length : Int) by omega)
 have HK := zb.mk hk
 have HAA := zb.mk (show (zx D (σ.t k).f6).f1 = (zx D (σ.t k).f6).f1 from rfl)
 have HBB := zb.mk hB
 have hpos : 0 < (σ.t k).f3.length := by omega
 clear q hk hB
 obtain ⟨gT, cap, T, vC, vL, A3, c3, A8, c8, A9, c9, A10, c10, HR, HE, HT, H1', a3, ⟨k0, k1, k2, k3, k4, k5, k6, k7, k8, k9, k10, k11, k12⟩, hf, HB, HC3, HC8, HC9, HC10⟩ := h.open13 k h0 H1.out
 clear h
 have r3 := (HR.out.V.rows _ (yF h0 H1'.out)).r3
 rw [HT.out] at r3
 have r3 : Kd.R (Kd.int .i64) 3 w w0.heap.size (fun _ => True) (.slice A3 (σ.t k).f3.length c3) (σ.t k).f3 := r3
 obtain ⟨b3, cap3, e3, hb3, hlt3, cells3, hcc3⟩ := Kd.xT r3 (by omega)
 injection e3 with e3 _ e3'
 subst e3 e3'
 have HR3 := zb.mk r3
 have HNE := zb.mk (show b3 ≠ gT ∧ b3 ≠ g ∧ b3 < w.heap.size from ⟨fun e => by
   subst e
   obtain ⟨cT, hcT⟩ := Kd.xb HR.out.V.rT b3 (by simp [Value.ownBlock])
   rw [hcT] at hcc3
   injection hcc3 with hcc3
   injection hcc3 with _ hcc3
   exact absurd hcc3 (by decide), fun e => by
   subst e
   have := HR.out.blk
   rw [hcc3] at this
   injection this with this
   injection this with _ this
   exact absurd this (by decide), hlt3⟩)
 clear r3 hcc3 cells3 hb3
 have hu := Try.underlying43
 have hud := Try.underlying113
 have p1 : k < (σ.T.length : Int) := H1.out
 have b1 := HB.out.1
 have bg := HB.out.2.2.2
 go_enter Try.func129, Try.ntmps129
 go_upto_region 1 with (fail)
 obtain ⟨V, hV⟩ : ∃ V, V = w.alloc (.cells #[.int .i64 (σ.t k).f0, .int .i64 (σ.t k).f1, .int .i64 (σ.t k).f2, .slice (some ⟨b3, 0, none⟩) (σ.t k).f3.length c3, .int .i64 (σ.t k).f4, .int .i64 (σ.t k).f5, .int .i64 (σ.t k).f6, .int .i64 (σ.t k).f7, .slice A8 (σ.t k).f8.length c8, .slice A9 (σ.t k).f9.length c9, .slice A10 (σ.t k).f10.length c10, .int .i64 (σ.t k).f11, .int .i64 (σ.t k).f12] 43) := ⟨_, rfl⟩
 have HBV := zb.mk (show Below w.heap.size w V by rw [hV]; exact zc (Below.refl _ _) _)
 have VSZ := zb.mk (show V.heap.size = w.heap.size + 1 by rw [hV]; simp)
 have HX := zb.mk (show V.heap[w.heap.size]? = some (.cells #[.int .i64 (σ.t k).f0, .int .i64 (σ.t k).f1, .int .i64 (σ.t k).f2, .slice (some ⟨b3, 0, none⟩) (σ.t k).f3.length c3, .int .i64 (σ.t k).f4, .int .i64 (σ.t k).f5, .int .i64 (σ.t k).f6, .int .i64 (σ.t k).f7, .slice A8 (σ.t k).f8.length c8, .slice A9 (σ.t k).f9.length c9, .slice A10 (σ.t k).f10.length c10, .int .i64 (σ.t k).f11, .int .i64 (σ.t k).f12] 43 (0, 0)) by rw [hV]; exact heap_alloc_new _ _)
 rw [← hV]
 have w6 := (zd HX.out 6).trans rfl
 have w10 := (zd HX.out 10).trans rfl
 have w7 := (zd HX.out 7).trans rfl
 clear hV k0 k1 k2 k3 k4 k5 k6 k7 k8 k9 k10 k11 k12
 have c1 : decide ((σ.t k).f6 ≥ (D.length : Int)) = false := decide_eq_false (by have := QE.out; omega)
 have c1' : decide ((D.length : Int) ≤ (σ.t k).f6) = false := decide_eq_false (by have := QE.out; omega)
 have hlt : (σ.t k).f6 < (D.length : Int) := QE.out
 have hge : 0 ≤ (σ.t k).f6 := H6.out.1
 obtain ⟨ad, rfl, x0, x1, x2⟩ := at_T113 HD0.out (σ.t k).f6 hge hlt
 have x0 := za HBV.out x0
 have x1 := za HBV.out x1
 have x2 := za HBV.out x2
 obtain ⟨dK, hdK⟩ : ∃ x, x = (zx D (σ.t k).f6).f0 := ⟨_, rfl⟩
 obtain ⟨dA, hdA⟩ : ∃ x, x = (zx D (σ.t k).f6).f1 := ⟨_, rfl⟩
 obtain ⟨dB, hdB⟩ : ∃ x, x = (zx D (σ.t k).f6).f2 := ⟨_, rfl⟩
 rw [← hdK] at x0 HK
 rw [← hdA] at x1 HAA
 (try rw [← hdA] at HQ)
 rw [← hdB] at x2 HBB
 (try rw [← hdB] at HQ)
 clear hdK hdA hdB
 have hVS := VSZ.out
 go_upto_region 6 with (fail)
 (try rw [hVS])
 obtain ⟨V2, hV2⟩ : ∃ V2, V2 = V.alloc (.cells #[.int .i64 dK, .int .i64 dA, .int .i64 dB] 113) := ⟨_, rfl⟩
 have HBV2 := zb.mk (show Below w.heap.size w V2 by rw [hV2]; exact zi HBV.out (zc (Below.refl _ _) _))
 have HX := zb.mk ((show V2.heap[w.heap.size]? = V.heap[w.heap.size]? by rw [hV2]; exact Below.heap_alloc _ _ _ (by omega)).trans HX.out)
 have HD := zb.mk (show V2.heap[w.heap.size + 1]? = some (.cells #[.int .i64 dK, .int .i64 dA, .int .i64 dB] 113 (0, 0)) by rw [hV2, ← hVS]; exact heap_alloc_new _ _)
 rw [← hV2]
 have w6 := (zd HX.out 6).trans rfl
 have w10 := (zd HX.out 10).trans rfl
 have w7 := (zd HX.out 7).trans rfl
 have w3 := (zd HX.out 3).trans rfl
 have d0 := (zd HD.out 0).trans rfl
 have d1 := (zd HD.out 1).trans rfl
 have d2 := (zd HD.out 2).trans rfl
 have HRV := zb.mk (HR.out.below HBV2.out)
 have HS2 := zb.mk (HS0.out.below HBV2.out)
 have a3 := za HBV2.out a3
 clear hV2 x0 x1 x2 hVS
 have ck1 : (dK == 1) = false := by have := HK.out; simp; omega
 have ck2 : (dK == 2) = true := by have := HK.out; simp [this]
 have q20 := HBB.out.1
 have q21 := HBB.out.2
 have HRV3 := zb.mk (Kd.zN HR3.out HBV2.out)
 have rc := (reg_cell HRV3.out dB HBB.out.1 HBB.out.2).1
 obtain ⟨rn, hrn⟩ : ∃ rn, rn = rd (σ.t k).f3 dB := ⟨_, rfl⟩
 rw [show (σ.t k).f3.getD dB.toNat 0 = rn from hrn.symm] at rc
 rw [← hrn] at HQ
 have kz := HRV.out.elem k h0 H1'.out
 have k10 := kz.1 10 _ rfl
 have z10 := kz.2.1 10
 have HTS := zb.mk (show gT < V2.heap.size by have := HBV2.out.size; omega)
 have HC10 := zb.mk (show Kd.C k45 V2 A10 (σ.t k).f10.length (σ.t k).f10 ∧ _ from ⟨Kd.zt HC10.out.1 HBV2.out, HC10.out.2⟩)
 clear hrn kz
 go_upto_region 11 with (fail)
 refine yc (n := 21) (S := fun w' => w'.cell? ⟨g, 3, none⟩ = some (.slice (some ⟨gT, 0, none⟩) σ.T.length cap) ∧ w'.cell? ⟨w.heap.size, 10, none⟩ = some (.slice A10 (σ.t k).f10.length c10) ∧ w'.cell? ⟨w.heap.size + 1, 1, none⟩ = some (.int .i64 dA) ∧ w'.cell? ⟨w.heap.size, 3, none⟩ = some (.slice (some ⟨b3, 0, none⟩) (σ.t k).f3.length c3) ∧ w'.cell? ⟨w.heap.size + 1, 2, none⟩ = some (.int .i64 dB) ∧ w'.cell? ⟨b3, dB.toNat, none⟩ = some (.int .i64 rn)) (ds := [20]) (bm 21 0) (by kernel_rfl) rfl rfl ⟨(za (ze (Below.refl _ _)) a3), (za (ze (Below.refl _ _)) w10), (za (ze (Below.refl _ _)) d1), (za (ze (Below.refl _ _)) w3), (za (ze (Below.refl _ _)) d2), (za (ze (Below.refl _ _)) rc)⟩ (fun hHeld => ?_)
 refine zl (i := 0) (N := some 60) (v := ?_) (a' := ?_) (bm 21 1) rfl rfl (by kernel_rfl) (fun _ _ _ h => h) (Or.inl ⟨by rfl, ?_⟩) ?_ ?_
 rotate_left
 ·intro w'
  go_simp
  with_reducible rfl
 rotate_left
 ·simp only [Act.put, List.setIfInBounds_toArray, List.set_cons_zero, List.set_cons_succ, zg, zh]
  rfl
 refine zl (i := 1) (N := some 61) (v := ?_) (a' := ?_) (bm 21 3) rfl rfl (by kernel_rfl) (fun _ _ _ h => h) (Or.inl ⟨by rfl, ?_⟩) ?_ ?_
 rotate_left
 ·intro w'
  go_simp
  with_reducible rfl
 rotate_left
 ·simp only [Act.put, List.setIfInBounds_toArray, List.set_cons_zero, List.set_cons_succ, zg, zh]
  rfl
 refine zl (i := 2) (N := some 62) (v := ?_) (a' := ?_) (bm 21 7) rfl rfl (by kernel_rfl) (fun _ _ _ h => h) (Or.inl ⟨by rfl, ?_⟩) ?_ ?_
 rotate_left
 ·intro w'
  go_simp
  with_reducible rfl
 rotate_left
 ·simp only [Act.put, List.setIfInBounds_toArray, List.set_cons_zero, List.set_cons_succ, zg, zh]
  rfl
 refine zl (i := 3) (N := some 63) (v := ?_) (a' := ?_) (bm 21 15) rfl rfl (by kernel_rfl) (fun _ _ _ h => h) (Or.inl ⟨by rfl, ?_⟩) ?_ ?_
 rotate_left
 ·intro w'
  go_simp
  with_reducible rfl
 rotate_left
 ·simp only [Act.put, List.setIfInBounds_toArray, List.set_cons_zero, List.set_cons_succ, zg, zh]
  rfl
 refine zl (i := 5) (N := some 65) (v := ?_) (a' := ?_) (bm 21 47) rfl rfl (by kernel_rfl) (fun _ _ _ h => h) (Or.inl ⟨by rfl, ?_⟩) ?_ ?_
 rotate_left
 ·intro w'
  go_simp
  with_reducible rfl
 rotate_left
 ·simp only [Act.put, List.setIfInBounds_toArray, List.set_cons_zero, List.set_cons_succ, zg, zh]
  rfl
 refine zl (i := 6) (N := some 66) (v := ?_) (a' := ?_) (bm 21 111) rfl rfl (by kernel_rfl) (fun _ _ _ h => h) (Or.inl ⟨by rfl, ?_⟩) ?_ ?_
 rotate_left
 ·intro w'
  go_simp
  with_reducible rfl
 rotate_left
 ·simp only [Act.put, List.setIfInBounds_toArray, List.set_cons_zero, List.set_cons_succ, zg, zh]
  rfl
 refine zl (i := 8) (N := some 68) (v := ?_) (a' := ?_) (bm 21 367) rfl rfl (by kernel_rfl) (fun _ _ _ h => h) (Or.inl ⟨by rfl, ?_⟩) ?_ ?_
 rotate_left
 ·intro w'
  go_simp
  with_reducible rfl
 rotate_left
 ·simp only [Act.put, List.setIfInBounds_toArray, List.set_cons_zero, List.set_cons_succ, zg, zh]
  rfl
 refine zl (i := 10) (N := some 70) (v := ?_) (a' := ?_) (bm 21 1391) rfl rfl (by kernel_rfl) (fun _ _ _ h => h) (Or.inl ⟨by rfl, ?_⟩) ?_ ?_
 rotate_left
 ·intro w'
  go_simp
  with_reducible rfl
 rotate_left
 ·simp only [Act.put, List.setIfInBounds_toArray, List.set_cons_zero, List.set_cons_succ, zg, zh]
  rfl
 refine zl (i := 12) (N := some 72) (v := ?_) (a' := ?_) (bm 21 5487) rfl rfl (by kernel_rfl) (fun _ _ _ h => h) (Or.inl ⟨by rfl, ?_⟩) ?_ ?_
 rotate_left
 ·intro w'
  go_simp
  with_reducible rfl
 rotate_left
 ·simp only [Act.put, List.setIfInBounds_toArray, List.set_cons_zero, List.set_cons_succ, zg, zh]
  rfl
 refine zA (i := 4) (N := some 64) (v := ?_) (a' := ?_) (bm 21 5503) rfl rfl (by kernel_rfl) (fun _ _ _ h => h) (Or.inl ⟨by rfl, ?_⟩) hHeld ?_ ?_
 rotate_left
 ·rintro w' ⟨s0, s1, s2, s3, s4, s5⟩
  go_simp
  with_reducible rfl
 rotate_left
 ·simp only [Act.put, List.setIfInBounds_toArray, List.set_cons_zero, List.set_cons_succ, zg, zh]
  rfl
 refine zA (i := 7) (N := some 67) (v := ?_) (a' := ?_) (bm 21 5631) rfl rfl (by kernel_rfl) (fun _ _ _ h => h) (Or.inl ⟨by rfl, ?_⟩) hHeld ?_ ?_
 rotate_left
 ·rintro w' ⟨s0, s1, s2, s3, s4, s5⟩
  go_simp
  with_reducible rfl
 rotate_left
 ·simp only [Act.put, List.setIfInBounds_toArray, List.set_cons_zero, List.set_cons_succ, zg, zh]
  rfl
 refine zA (i := 9) (N := some 69) (v := ?_) (a' := ?_) (bm 21 6143) rfl rfl (by kernel_rfl) (fun _ _ _ h => h) (Or.inl ⟨by rfl, ?_⟩) hHeld ?_ ?_
 rotate_left
 ·rintro w' ⟨s0, s1, s2, s3, s4, s5⟩
  go_simp
  with_reducible rfl
 rotate_left
 ·simp only [Act.put, List.setIfInBounds_toArray, List.set_cons_zero, List.set_cons_succ, zg, zh]
  rfl
 refine zA (i := 11) (N := some 71) (v := ?_) (a' := ?_) (bm 21 8191) rfl rfl (by kernel_rfl) (fun _ _ _ h => h) (Or.inl ⟨by rfl, ?_⟩) hHeld ?_ ?_
 rotate_left
 ·rintro w' ⟨s0, s1, s2, s3, s4, s5⟩
  go_simp
  with_reducible rfl
 rotate_left
 ·simp only [Act.put, List.setIfInBounds_toArray, List.set_cons_zero, List.set_cons_succ, zg, zh]
  rfl
 refine zA (i := 13) (N := some 73) (v := ?_) (a' := ?_) (bm 21 16383) rfl rfl (by kernel_rfl) (fun _ _ _ h => h) (Or.inl ⟨by rfl, ?_⟩) hHeld ?_ ?_
 rotate_left
 ·rintro w' ⟨s0, s1, s2, s3, s4, s5⟩
  go_simp
  with_reducible rfl
 rotate_left
 ·simp only [Act.put, List.setIfInBounds_toArray, List.set_cons_zero, List.set_cons_succ, zg, zh]
  rfl
 refine zl (i := 14) (N := some 74) (v := ?_) (a' := ?_) (bm 21 32767) rfl rfl (by kernel_rfl) (fun _ _ _ h => h) (Or.inl ⟨by rfl, ?_⟩) ?_ ?_
 rotate_left
 ·intro w'
  go_simp
  with_reducible rfl
 rotate_left
 ·simp only [Act.put, List.setIfInBounds_toArray, List.set_cons_zero, List.set_cons_succ, zg, zh]
  rfl
 refine zA (i := 15) (N := some 75) (v := ?_) (a' := ?_) (bm 21 65535) rfl rfl (by kernel_rfl) (fun _ _ _ h => h) (Or.inl ⟨by rfl, ?_⟩) hHeld ?_ ?_
 rotate_left
 ·rintro w' ⟨s0, s1, s2, s3, s4, s5⟩
  go_simp
  with_reducible rfl
 rotate_left
 ·simp only [Act.put, List.setIfInBounds_toArray, List.set_cons_zero, List.set_cons_succ, zg, zh]
  rfl
 refine zl (i := 16) (N := some 76) (v := ?_) (a' := ?_) (bm 21 131071) rfl rfl (by kernel_rfl) (fun _ _ _ h => h) (Or.inl ⟨by rfl, ?_⟩) ?_ ?_
 rotate_left
 ·intro w'
  go_simp
  with_reducible rfl
 rotate_left
 ·simp only [Act.put, List.setIfInBounds_toArray, List.set_cons_zero, List.set_cons_succ, zg, zh]
  rfl
 refine yE (i := 17) (N := some 77) (bm 21 262143) rfl rfl (by kernel_rfl) (by decide) (fun K hK => ?_)
 refine xQ Try.func139 (by kernel_rfl) rfl #[.slice A10 (σ.t k).f10.length c10, .agg #[.int .i64 dA, .int .i64 rn]] (by rfl) rfl rfl (by simp only [List.map_toArray, List.map_cons, List.map_nil]; rfl) ?_
 with_reducible refine (add_calls A10 c10 (σ.t k).f10 dA rn _ (Kd.zt HC10.out.1 (ze (Below.refl _ _))) HC10.out.2 H10.out).mono ?_
 rintro e wa ⟨va, rfl, hra, hba⟩
 refine ⟨_, rfl, ?_⟩
 have HRa := zb.mk hra
 have HBa := zb.mk (show Below V2.heap.size V2 wa from zi (ze (Below.refl _ _)) hba)
 have oA := (Kd.R_val hra).2
 obtain ⟨Aa, ca, rfl⟩ := Kd.zJ hra
 have ka10 := za HBa.out k10
 have za10 := (HBa.out.frozen (p := ⟨gT, _, none⟩) HTS.out).trans z10
 clear hra hba oA
 refine hK.out _ _ ⟨(za HBa.out a3), (za HBa.out w10), (za HBa.out d1), (za HBa.out w3), (za HBa.out d2), (za HBa.out rc)⟩ (fun hHeld => ?_)
 clear hK K
 refine zp (a' := ?_) ?_ ?_
 rotate_left
 ·show Act.put _ (some 77) _ = _
  simp only [Act.put, List.setIfInBounds_toArray, List.set_cons_zero, List.set_cons_succ, zg, zh]
  rfl
 refine zl (i := 18) (N := some 78) (v := ?_) (a' := ?_) (bm 21 524287) rfl rfl (by kernel_rfl) (fun _ _ _ h => h) (Or.inl ⟨by rfl, ?_⟩) ?_ ?_
 rotate_left
 ·intro w'
  go_simp
  with_reducible rfl
 rotate_left
 ·simp only [Act.put, List.setIfInBounds_toArray, List.set_cons_zero, List.set_cons_succ, zg, zh]
  rfl
 refine zl (i := 19) (N := some 79) (v := ?_) (a' := ?_) (bm 21 1048575) rfl rfl (by kernel_rfl) (fun _ _ _ h => h) (Or.inl ⟨by rfl, ?_⟩) ?_ ?_
 rotate_left
 ·intro w'
  go_simp
  with_reducible rfl
 rotate_left
 ·simp only [Act.put, List.setIfInBounds_toArray, List.set_cons_zero, List.set_cons_succ, zg, zh]
  rfl
 refine yR (i := 20) (N := none) (bm 21 2097151) rfl rfl (by kernel_rfl) (by decide) (fun K hK => ?_)
 refine yQ (w1 := ?_) (by rfl) rfl ?_ ?_
 rotate_left
 ·go_simp
  rfl
 refine hK.out _ _ ?_
 clear hK K
 refine yt (by kernel_rfl) ?_
 have HR5 := zb.mk (yL.put10 (show yL w0 wa g V2.heap.size vp0 vp1 gT cap σ from ⟨_, _, _, _, HRV.out.now.below HBa.out, HE.out⟩) k h0 H1.out (.slice Aa (xG ⟨dA, rn⟩ (σ.t k).f10 false).length ca) (xG ⟨dA, rn⟩ (σ.t k).f10 false) HBa.out.size (Kd.zP HRa.out (show V2.heap.size ≤ _ from Nat.le_refl _)) HRV.out.hb.size)
 have a3 := yo (b := ⟨gT, k.toNat * 13 + 10, none⟩) (u := .slice Aa (xG ⟨dA, rn⟩ (σ.t k).f10 false).length ca) (za HBa.out a3) (fun e => by rw [Addr.mk.injEq] at e; exact HB.out.2.1 e.1)
 have HX5 := zb.mk ((Below.heap_setCell wa ⟨gT, k.toNat * 13 + 10, none⟩ (.slice Aa (xG ⟨dA, rn⟩ (σ.t k).f10 false).length ca) w.heap.size (by show w.heap.size ≠ gT; have := HB.out; omega)).trans ((HBa.out.block _ (zo HX.out)).trans HX.out))
 obtain ⟨W2, hW2⟩ : ∃ W2, W2 = wa.setCell ⟨gT, k.toNat * 13 + 10, none⟩ (.slice Aa (xG ⟨dA, rn⟩ (σ.t k).f10 false).length ca) := ⟨_, rfl⟩
 rw [← hW2] at HR5 a3 HX5 ⊢
 have x6 := (zd HX5.out 6).trans rfl
 clear hW2 w6 w10 w7 w3 d0 d1 d2 k10 z10 ka10 za10 rc hHeld
 obtain ⟨at_, hat⟩ : ∃ at_, at_ = (σ.t k).f6 := ⟨_, rfl⟩
 rw [← hat] at HQ x6
 have HA1 := zb.mk (show at_ ≤ 1000 ∧ 0 ≤ at_ by have := H6.out; rw [hat]; omega)
 have e6 : wrap64 (at_ + 1) = at_ + 1 := yN (by have := HA1.out; omega) (by have := HA1.out; omega)
 obtain ⟨n5, vC5, vL5, T5, HR5, HE5⟩ := HR5.out
 have HR5 := zb.mk HR5
 have HE5 := zb.mk HE5
 have L5 := zb.mk (show k < ((σ.upd k fun t => { t with f10 := xG ⟨dA, rn⟩ (σ.t k).f10 false }).T.length : Int) by rw [St.len_upd]; exact H1.out)
 have h15 := zb.mk (show k < (T5.length : Int) by rw [len_of HE5.out]; exact L5.out)
 have kz := HR5.out.elem k h0 h15.out
 have k1 := kz.1 6 _ rfl
 have z1 := kz.2.1 6
 clear kz hat
 go_upto_region 17 with (fail)
 refine yc (n := 12) (S := fun w' => w'.cell? ⟨g, 3, none⟩ = some (.slice (some ⟨gT, 0, none⟩) σ.T.length cap) ∧ w'.cell? ⟨w.heap.size, 6, none⟩ = some (.int .i64 at_)) (ds := [11]) (bm 12 0) (by kernel_rfl) rfl rfl ⟨(za (ze (Below.refl _ _)) a3), (za (ze (Below.refl _ _)) x6)⟩ (fun hHeld => ?_)
 refine zl (i := 0) (N := some 104) (v := ?_) (a' := ?_) (bm 12 1) rfl rfl (by kernel_rfl) (fun _ _ _ h => h) (Or.inl ⟨by rfl, ?_⟩) ?_ ?_
 rotate_left
 ·intro w'
  go_simp
  with_reducible rfl
 rotate_left
 ·simp only [Act.put, List.setIfInBounds_toArray, List.set_cons_zero, List.set_cons_succ, zg, zh]
  rfl
 refine zl (i := 1) (N := some 105) (v := ?_) (a' := ?_) (bm 12 3) rfl rfl (by kernel_rfl) (fun _ _ _ h => h) (Or.inl ⟨by rfl, ?_⟩) ?_ ?_
 rotate_left
 ·intro w'
  go_simp
  with_reducible rfl
 rotate_left
 ·simp only [Act.put, List.setIfInBounds_toArray, List.set_cons_zero, List.set_cons_succ, zg, zh]
  rfl
 refine zl (i := 2) (N := some 106) (v := ?_) (a' := ?_) (bm 12 7) rfl rfl (by kernel_rfl) (fun _ _ _ h => h) (Or.inl ⟨by rfl, ?_⟩) ?_ ?_
 rotate_left
 ·intro w'
  go_simp
  with_reducible rfl
 rotate_left
 ·simp only [Act.put, List.setIfInBounds_toArray, List.set_cons_zero, List.set_cons_succ, zg, zh]
  rfl
 refine zl (i := 3) (N := some 107) (v := ?_) (a' := ?_) (bm 12 15) rfl rfl (by kernel_rfl) (fun _ _ _ h => h) (Or.inl ⟨by rfl, ?_⟩) ?_ ?_
 rotate_left
 ·intro w'
  go_simp
  with_reducible rfl
 rotate_left
 ·simp only [Act.put, List.setIfInBounds_toArray, List.set_cons_zero, List.set_cons_succ, zg, zh]
  rfl
 refine zl (i := 5) (N := some 109) (v := ?_) (a' := ?_) (bm 12 47) rfl rfl (by kernel_rfl) (fun _ _ _ h => h) (Or.inl ⟨by rfl, ?_⟩) ?_ ?_
 rotate_left
 ·intro w'
  go_simp
  with_reducible rfl
 rotate_left
 ·simp only [Act.put, List.setIfInBounds_toArray, List.set_cons_zero, List.set_cons_succ, zg, zh]
  rfl
 refine zl (i := 6) (N := some 110) (v := ?_) (a' := ?_) (bm 12 111) rfl rfl (by kernel_rfl) (fun _ _ _ h => h) (Or.inl ⟨by rfl, ?_⟩) ?_ ?_
 rotate_left
 ·intro w'
  go_simp
  with_reducible rfl
 rotate_left
 ·simp only [Act.put, List.setIfInBounds_toArray, List.set_cons_zero, List.set_cons_succ, zg, zh]
  rfl
 refine zA (i := 4) (N := some 108) (v := ?_) (a' := ?_) (bm 12 127) rfl rfl (by kernel_rfl) (fun _ _ _ h => h) (Or.inl ⟨by rfl, ?_⟩) hHeld ?_ ?_
 rotate_left
 ·rintro w' ⟨s0, s1⟩
  go_simp
  with_reducible rfl
 rotate_left
 ·simp only [Act.put, List.setIfInBounds_toArray, List.set_cons_zero, List.set_cons_succ, zg, zh]
  rfl
 refine zA (i := 7) (N := some 111) (v := ?_) (a' := ?_) (bm 12 255) rfl rfl (by kernel_rfl) (fun _ _ _ h => h) (Or.inl ⟨by rfl, ?_⟩) hHeld ?_ ?_
 rotate_left
 ·rintro w' ⟨s0, s1⟩
  go_simp
  with_reducible rfl
 rotate_left
 ·simp only [Act.put, List.setIfInBounds_toArray, List.set_cons_zero, List.set_cons_succ, zg, zh]
  rfl
 refine zl (i := 8) (N := some 112) (v := ?_) (a' := ?_) (bm 12 511) rfl rfl (by kernel_rfl) (fun _ _ _ h => h) (Or.inl ⟨by rfl, ?_⟩) ?_ ?_
 rotate_left
 ·intro w'
  go_simp
  with_reducible rfl
 rotate_left
 ·simp only [Act.put, List.setIfInBounds_toArray, List.set_cons_zero, List.set_cons_succ, zg, zh]
  rfl
 refine zl (i := 9) (N := some 113) (v := ?_) (a' := ?_) (bm 12 1023) rfl rfl (by kernel_rfl) (fun _ _ _ h => h) (Or.inl ⟨by rfl, ?_⟩) ?_ ?_
 rotate_left
 ·intro w'
  go_simp
  with_reducible rfl
 rotate_left
 ·simp only [Act.put, List.setIfInBounds_toArray, List.set_cons_zero, List.set_cons_succ, zg, zh]
  rfl
 refine zl (i := 10) (N := some 114) (v := ?_) (a' := ?_) (bm 12 2047) rfl rfl (by kernel_rfl) (fun _ _ _ h => h) (Or.inl ⟨by rfl, ?_⟩) ?_ ?_
 rotate_left
 ·intro w'
  go_simp
  with_reducible rfl
 rotate_left
 ·simp only [Act.put, List.setIfInBounds_toArray, List.set_cons_zero, List.set_cons_succ, zg, zh]
  rfl
 refine yR (i := 11) (N := none) (bm 12 4095) rfl rfl (by kernel_rfl) (by decide) (fun K hK => ?_)
 refine yQ (w1 := ?_) (by rfl) rfl ?_ ?_
 rotate_left
 ·go_simp
  rfl
 refine hK.out _ _ ?_
 clear hK K
 refine yt (by kernel_rfl) ?_
 go_wp2
 go_end0
 rw [HQ.out]
 exact ⟨rfl, (zS.next ⟨_, _, _, _, HR5.out.now, HE5.out⟩ k at_ h0 L5.out).below (by first | exact ze (ze (Below.refl _ _)) | exact ze (Below.refl _ _))⟩
set_option maxHeartbeats 4000000 in
set_option maxRecDepth 100000 in
theorem deed_5a {w0 w : World} {g : Nat} {vp0 vp1 : Value} {σ : St} (k : Int) (A0 : Option Addr) (c0 : Nat) (D : List yO) (h : zS w0 w g vp0 vp1 σ) (h0 : 0 ≤ k) (h1 : k < σ.T.length) (hD : Kd.C xu w A0 D.length D) (hp : 0 ≤ (σ.t k).f1 ∧ (σ.t k).f1 ≤ 1000) (h8 : (σ.t k).f8.length ≤ 1000) (h9 : (σ.t k).f9.length ≤ 1000) (h10 : (σ.t k).f10.length ≤ 1000) (hL : σ.L.length ≤ 1000000000) (h6 : 0 ≤ (σ.t k).f6 ∧ (σ.t k).f6 ≤ 1000) (h7 : 0 ≤ (σ.t k).f7 ∧ (σ.t k).f7 ≤ 1000) (q : ¬ (D.length : Int) ≤ (σ.t k).f6) (hk : (zx D (σ.t k).f6).f0 = 5) (hA : 0 ≤ (zx D (σ.t k).f6).f1 ∧ (zx D (σ.t k).f6).f1 < (σ.t k).f3.length) (hz : rd (σ.t k).f3 (zx D (σ.t k).f6).f1 = 0) :
  Calls Try.prog 129 #[.pointer (some ⟨g, 0, none⟩), .int .i64 k, .slice A0 D.length c0] w fun e w' => e = .returned (.tuple #[]) ∧ zS w0 w' g vp0 vp1 (σ.deed k D) := by
 have H1 := zb.mk h1
 have HP := zb.mk hp
 have H6 := zb.mk h6
 have H7 := zb.mk h7
 have H8 := zb.mk h8
 have H9 := zb.mk h9
 have H10 := zb.mk h10
 have HL := zb.mk hL
 have HD0 := zb.mk hD
 have HS0 := zb.mk h
 clear h1 hp h6 h7 h8 h9 h10 hL hD
 have HQ := zb.mk (show σ.deed k D = (σ.again k).upd k fun t => { t with f11 := (σ.t k).f7 + 1 } by unfold St.deed; rw [if_neg q, if_neg (by omega), if_neg (by omega), if_pos hk, if_pos hz])
 have QE := zb.mk (show (σ.t k).f6 < (D.length : Int) by omega)
 have HK := zb.mk hk
 have HAA := zb.mk (And.intro hA hz)
 have HBB := zb.mk (show (zx D (σ.t k).f6).f2 = (zx D (σ.t k).f6).f2 from rfl)
 have hpos : 0 < (σ.t k).f3.length := by omega
 clear q hk hA hz
 obtain ⟨gT, cap, T, vC, vL, A3, c3, A8, c8, A9, c9, A10, c10, HR, HE, HT, H1', a3, ⟨k0, k1, k2, k3, k4, k5, k6, k7, k8, k9, k10, k11, k12⟩, hf, HB, HC3, HC8, HC9, HC10⟩ := h.open13 k h0 H1.out
 clear h
 have r3 := (HR.out.V.rows _ (yF h0 H1'.out)).r3
 rw [HT.out] at r3
 have r3 : Kd.R (Kd.int .i64) 3 w w0.heap.size (fun _ => True) (.slice A3 (σ.t k).f3.length c3) (σ.t k).f3 := r3
 obtain ⟨b3, cap3, e3, hb3, hlt3, cells3, hcc3⟩ := Kd.xT r3 (by omega)
 injection e3 with e3 _ e3'
 subst e3 e3'
 have HR3 := zb.mk r3
 have HNE := zb.mk (show b3 ≠ gT ∧ b3 ≠ g ∧ b3 < w.heap.size from ⟨fun e => by
   subst e
   obtain ⟨cT, hcT⟩ := Kd.xb HR.out.V.rT b3 (by simp [Value.ownBlock])
   rw [hcT] at hcc3
   injection hcc3 with hcc3
   injection hcc3 with _ hcc3
   exact absurd hcc3 (by decide), fun e => by
   subst e
   have := HR.out.blk
   rw [hcc3] at this
   injection this with this
   injection this with _ this
   exact absurd this (by decide), hlt3⟩)
 clear r3 hcc3 cells3 hb3
 have hu := Try.underlying43
 have hud := Try.underlying113
 have p1 : k < (σ.T.length : Int) := H1.out
 have b1 := HB.out.1
 have bg := HB.out.2.2.2
 go_enter Try.func129, Try.ntmps129
 go_upto_region 1 with (fail)
 obtain ⟨V, hV⟩ : ∃ V, V = w.alloc (.cells #[.int .i64 (σ.t k).f0, .int .i64 (σ.t k).f1, .int .i64 (σ.t k).f2, .slice (some ⟨b3, 0, none⟩) (σ.t k).f3.length c3, .int .i64 (σ.t k).f4, .int .i64 (σ.t k).f5, .int .i64 (σ.t k).f6, .int .i64 (σ.t k).f7, .slice A8 (σ.t k).f8.length c8, .slice A9 (σ.t k).f9.length c9, .slice A10 (σ.t k).f10.length c10, .int .i64 (σ.t k).f11, .int .i64 (σ.t k).f12] 43) := ⟨_, rfl⟩
 have HBV := zb.mk (show Below w.heap.size w V by rw [hV]; exact zc (Below.refl _ _) _)
 have VSZ := zb.mk (show V.heap.size = w.heap.size + 1 by rw [hV]; simp)
 have HX := zb.mk (show V.heap[w.heap.size]? = some (.cells #[.int .i64 (σ.t k).f0, .int .i64 (σ.t k).f1, .int .i64 (σ.t k).f2, .slice (some ⟨b3, 0, none⟩) (σ.t k).f3.length c3, .int .i64 (σ.t k).f4, .int .i64 (σ.t k).f5, .int .i64 (σ.t k).f6, .int .i64 (σ.t k).f7, .slice A8 (σ.t k).f8.length c8, .slice A9 (σ.t k).f9.length c9, .slice A10 (σ.t k).f10.length c10, .int .i64 (σ.t k).f11, .int .i64 (σ.t k).f12] 43 (0, 0)) by rw [hV]; exact heap_alloc_new _ _)
 rw [← hV]
 have w6 := (zd HX.out 6).trans rfl
 have w10 := (zd HX.out 10).trans rfl
 have w7 := (zd HX.out 7).trans rfl
 clear hV k0 k1 k2 k3 k4 k5 k6 k7 k8 k9 k10 k11 k12
 have c1 : decide ((σ.t k).f6 ≥ (D.length : Int)) = false := decide_eq_false (by have := QE.out; omega)
 have c1' : decide ((D.length : Int) ≤ (σ.t k).f6) = false := decide_eq_false (by have := QE.out; omega)
 have hlt : (σ.t k).f6 < (D.length : Int) := QE.out
 have hge : 0 ≤ (σ.t k).f6 := H6.out.1
 obtain ⟨ad, rfl, x0, x1, x2⟩ := at_T113 HD0.out (σ.t k).f6 hge hlt
 have x0 := za HBV.out x0
 have x1 := za HBV.out x1
 have x2 := za HBV.out x2
 obtain ⟨dK, hdK⟩ : ∃ x, x = (zx D (σ.t k).f6).f0 := ⟨_, rfl⟩
 obtain ⟨dA, hdA⟩ : ∃ x, x = (zx D (σ.t k).f6).f1 := ⟨_, rfl⟩
 obtain ⟨dB, hdB⟩ : ∃ x, x = (zx D (σ.t k).f6).f2 := ⟨_, rfl⟩
 rw [← hdK] at x0 HK
 rw [← hdA] at x1 HAA
 (try rw [← hdA] at HQ)
 rw [← hdB] at x2 HBB
 (try rw [← hdB] at HQ)
 clear hdK hdA hdB
 have hVS := VSZ.out
 go_upto_region 6 with (fail)
 (try rw [hVS])
 obtain ⟨V2, hV2⟩ : ∃ V2, V2 = V.alloc (.cells #[.int .i64 dK, .int .i64 dA, .int .i64 dB] 113) := ⟨_, rfl⟩
 have HBV2 := zb.mk (show Below w.heap.size w V2 by rw [hV2]; exact zi HBV.out (zc (Below.refl _ _) _))
 have HX := zb.mk ((show V2.heap[w.heap.size]? = V.heap[w.heap.size]? by rw [hV2]; exact Below.heap_alloc _ _ _ (by omega)).trans HX.out)
 have HD := zb.mk (show V2.heap[w.heap.size + 1]? = some (.cells #[.int .i64 dK, .int .i64 dA, .int .i64 dB] 113 (0, 0)) by rw [hV2, ← hVS]; exact heap_alloc_new _ _)
 rw [← hV2]
 have w6 := (zd HX.out 6).trans rfl
 have w10 := (zd HX.out 10).trans rfl
 have w7 := (zd HX.out 7).trans rfl
 have w3 := (zd HX.out 3).trans rfl
 have d0 := (zd HD.out 0).trans rfl
 have d1 := (zd HD.out 1).trans rfl
 have d2 := (zd HD.out 2).trans rfl
 have HRV := zb.mk (HR.out.below HBV2.out)
 have HS2 := zb.mk (HS0.out.below HBV2.out)
 have a3 := za HBV2.out a3
 clear hV2 x0 x1 x2 hVS
 have ck1 : (dK == 1) = false := by have := HK.out; simp; omega
 have ck2 : (dK == 2) = false := by have := HK.out; simp; omega
 have ck5 : (dK == 5) = true := by have := HK.out; simp [this]
 have q20 := HAA.out.1.1
 have q21 := HAA.out.1.2
 have HRV3 := zb.mk (Kd.zN HR3.out HBV2.out)
 have rc := (reg_cell HRV3.out dA HAA.out.1.1 HAA.out.1.2).1
 rw [show (σ.t k).f3.getD dA.toNat 0 = 0 from HAA.out.2] at rc
 go_wp2_with fail
 refine (wg k HS2.out h0 H1.out H8.out).mono ?_
 rintro e W2 ⟨rfl, h3⟩
 have L3 := zb.mk (show k < ((σ.again k).T.length : Int) by rw [St.len_again]; exact H1.out)
 obtain ⟨σ2, hσ2⟩ : ∃ σ2, σ2 = σ.again k := ⟨_, rfl⟩
 rw [← hσ2] at h3 L3 HQ
 clear hσ2 a3 rc w6 w10 w7 w3 d0 d1 d2
 obtain ⟨gT2, cap2, T2, vC2, vL2, HR2, HE2, HT2, H12, a3, hc, hf2, HB2⟩ := h3.open1 k h0 L3.out
 have k11 := hc.out 11 _ rfl
 have z11 := hf2.out 11
 have p2 : k < (σ2.T.length : Int) := L3.out
 obtain ⟨sn, hsn⟩ : ∃ sn, sn = (σ.t k).f7 := ⟨_, rfl⟩
 rw [← hsn] at H7 HQ ⊢
 have e7 : wrap64 (sn + 1) = sn + 1 := yN (by have := H7.out; omega) (by have := H7.out; omega)
 clear hsn h3
 go_wp2
 refine bodyPost_ret (results_none rfl _ _ _) rfl ?_
 rw [HQ.out]
 exact ⟨rfl, ((show yL w0 W2 g W2.heap.size vp0 vp1 gT2 cap2 σ2 from ⟨_, _, _, _, HR2.out, HE2.out⟩).num k h0 L3.out (fun t => { t with f11 := sn + 1 }) 11 (sn + 1) (by decide) (fun _ => rfl) (fun _ => rfl) (fun _ => rfl) (fun _ => rfl) (fun _ => rfl)).S⟩
set_option maxHeartbeats 4000000 in
set_option maxRecDepth 100000 in
theorem deed_5b {w0 w : World} {g : Nat} {vp0 vp1 : Value} {σ : St} (k : Int) (A0 : Option Addr) (c0 : Nat) (D : List yO) (h : zS w0 w g vp0 vp1 σ) (h0 : 0 ≤ k) (h1 : k < σ.T.length) (hD : Kd.C xu w A0 D.length D) (hp : 0 ≤ (σ.t k).f1 ∧ (σ.t k).f1 ≤ 1000) (h8 : (σ.t k).f8.length ≤ 1000) (h9 : (σ.t k).f9.length ≤ 1000) (h10 : (σ.t k).f10.length ≤ 1000) (hL : σ.L.length ≤ 1000000000) (h6 : 0 ≤ (σ.t k).f6 ∧ (σ.t k).f6 ≤ 1000) (h7 : 0 ≤ (σ.t k).f7 ∧ (σ.t k).f7 ≤ 1000) (q : ¬ (D.length : Int) ≤ (σ.t k).f6) (hk : (zx D (σ.t k).f6).f0 = 5) (hA : 0 ≤ (zx D (σ.t k).f6).f1 ∧ (zx D (σ.t k).f6).f1 < (σ.t k).f3.length) (hz : ¬ rd (σ.t k).f3 (zx D (σ.t k).f6).f1 = 0) :
  Calls Try.prog 129 #[.pointer (some ⟨g, 0, none⟩), .int .i64 k, .slice A0 D.length c0] w fun e w' => e = .returned (.tuple #[]) ∧ zS w0 w' g vp0 vp1 (σ.deed k D) := by
 have H1 := zb.mk h1
 have HP := zb.mk hp
 have H6 := zb.mk h6
 have H7 := zb.mk h7
 have H8 := zb.mk h8
 have H9 := zb.mk h9
 have H10 := zb.mk h10
 have HL := zb.mk hL
 have HD0 := zb.mk hD
 have HS0 := zb.mk h
 clear h1 hp h6 h7 h8 h9 h10 hL hD
 have HQ := zb.mk (show σ.deed k D = σ.next k (σ.t k).f6 by unfold St.deed; rw [if_neg q, if_neg (by omega), if_neg (by omega), if_pos hk, if_neg hz])
 have QE := zb.mk (show (σ.t k).f6 < (D.length : Int) by omega)
 have HK := zb.mk hk
 have HAA := zb.mk (And.intro hA hz)
 have HBB := zb.mk (show (zx D (σ.t k).f6).f2 = (zx D (σ.t k).f6).f2 from rfl)
 have hpos : 0 < (σ.t k).f3.length := by omega
 clear q hk hA hz
 obtain ⟨gT, cap, T, vC, vL, A3, c3, A8, c8, A9, c9, A10, c10, HR, HE, HT, H1', a3, ⟨k0, k1, k2, k3, k4, k5, k6, k7, k8, k9, k10, k11, k12⟩, hf, HB, HC3, HC8, HC9, HC10⟩ := h.open13 k h0 H1.out
 clear h
 have r3 := (HR.out.V.rows _ (yF h0 H1'.out)).r3
 rw [HT.out] at r3
 have r3 : Kd.R (Kd.int .i64) 3 w w0.heap.size (fun _ => True) (.slice A3 (σ.t k).f3.length c3) (σ.t k).f3 := r3
 obtain ⟨b3, cap3, e3, hb3, hlt3, cells3, hcc3⟩ := Kd.xT r3 (by omega)
 injection e3 with e3 _ e3'
 subst e3 e3'
 have HR3 := zb.mk r3
 have HNE := zb.mk (show b3 ≠ gT ∧ b3 ≠ g ∧ b3 < w.heap.size from ⟨fun e => by
   subst e
   obtain ⟨cT, hcT⟩ := Kd.xb HR.out.V.rT b3 (by simp [Value.ownBlock])
   rw [hcT] at hcc3
   injection hcc3 with hcc3
   injection hcc3 with _ hcc3
   exact absurd hcc3 (by decide), fun e => by
   subst e
   have := HR.out.blk
   rw [hcc3] at this
   injection this with this
   injection this with _ this
   exact absurd this (by decide), hlt3⟩)
 clear r3 hcc3 cells3 hb3
 have hu := Try.underlying43
 have hud := Try.underlying113
 have p1 : k < (σ.T.length : Int) := H1.out
 have b1 := HB.out.1
 have bg := HB.out.2.2.2
 go_enter Try.func129, Try.ntmps129
 go_upto_region 1 with (fail)
 obtain ⟨V, hV⟩ : ∃ V, V = w.alloc (.cells #[.int .i64 (σ.t k).f0, .int .i64 (σ.t k).f1, .int .i64 (σ.t k).f2, .slice (some ⟨b3, 0, none⟩) (σ.t k).f3.length c3, .int .i64 (σ.t k).f4, .int .i64 (σ.t k).f5, .int .i64 (σ.t k).f6, .int .i64 (σ.t k).f7, .slice A8 (σ.t k).f8.length c8, .slice A9 (σ.t k).f9.length c9, .slice A10 (σ.t k).f10.length c10, .int .i64 (σ.t k).f11, .int .i64 (σ.t k).f12] 43) := ⟨_, rfl⟩
 have HBV := zb.mk (show Below w.heap.size w V by rw [hV]; exact zc (Below.refl _ _) _)
 have VSZ := zb.mk (show V.heap.size = w.heap.size + 1 by rw [hV]; simp)
 have HX := zb.mk (show V.heap[w.heap.size]? = some (.cells #[.int .i64 (σ.t k).f0, .int .i64 (σ.t k).f1, .int .i64 (σ.t k).f2, .slice (some ⟨b3, 0, none⟩) (σ.t k).f3.length c3, .int .i64 (σ.t k).f4, .int .i64 (σ.t k).f5, .int .i64 (σ.t k).f6, .int .i64 (σ.t k).f7, .slice A8 (σ.t k).f8.length c8, .slice A9 (σ.t k).f9.length c9, .slice A10 (σ.t k).f10.length c10, .int .i64 (σ.t k).f11, .int .i64 (σ.t k).f12] 43 (0, 0)) by rw [hV]; exact heap_alloc_new _ _)
 rw [← hV]
 have w6 := (zd HX.out 6).trans rfl
 have w10 := (zd HX.out 10).trans rfl
 have w7 := (zd HX.out 7).trans rfl
 clear hV k0 k1 k2 k3 k4 k5 k6 k7 k8 k9 k10 k11 k12
 have c1 : decide ((σ.t k).f6 ≥ (D.length : Int)) = false := decide_eq_false (by have := QE.out; omega)
 have c1' : decide ((D.length : Int) ≤ (σ.t k).f6) = false := decide_eq_false (by have := QE.out; omega)
 have hlt : (σ.t k).f6 < (D.length : Int) := QE.out
 have hge : 0 ≤ (σ.t k).f6 := H6.out.1
 obtain ⟨ad, rfl, x0, x1, x2⟩ := at_T113 HD0.out (σ.t k).f6 hge hlt
 have x0 := za HBV.out x0
 have x1 := za HBV.out x1
 have x2 := za HBV.out x2
 obtain ⟨dK, hdK⟩ : ∃ x, x = (zx D (σ.t k).f6).f0 := ⟨_, rfl⟩
 obtain ⟨dA, hdA⟩ : ∃ x, x = (zx D (σ.t k).f6).f1 := ⟨_, rfl⟩
 obtain ⟨dB, hdB⟩ : ∃ x, x = (zx D (σ.t k).f6).f2 := ⟨_, rfl⟩
 rw [← hdK] at x0 HK
 rw [← hdA] at x1 HAA
 (try rw [← hdA] at HQ)
 rw [← hdB] at x2 HBB
 (try rw [← hdB] at HQ)
 clear hdK hdA hdB
 have hVS := VSZ.out
 go_upto_region 6 with (fail)
 (try rw [hVS])
 obtain ⟨V2, hV2⟩ : ∃ V2, V2 = V.alloc (.cells #[.int .i64 dK, .int .i64 dA, .int .i64 dB] 113) := ⟨_, rfl⟩
 have HBV2 := zb.mk (show Below w.heap.size w V2 by rw [hV2]; exact zi HBV.out (zc (Below.refl _ _) _))
 have HX := zb.mk ((show V2.heap[w.heap.size]? = V.heap[w.heap.size]? by rw [hV2]; exact Below.heap_alloc _ _ _ (by omega)).trans HX.out)
 have HD := zb.mk (show V2.heap[w.heap.size + 1]? = some (.cells #[.int .i64 dK, .int .i64 dA, .int .i64 dB] 113 (0, 0)) by rw [hV2, ← hVS]; exact heap_alloc_new _ _)
 rw [← hV2]
 have w6 := (zd HX.out 6).trans rfl
 have w10 := (zd HX.out 10).trans rfl
 have w7 := (zd HX.out 7).trans rfl
 have w3 := (zd HX.out 3).trans rfl
 have d0 := (zd HD.out 0).trans rfl
 have d1 := (zd HD.out 1).trans rfl
 have d2 := (zd HD.out 2).trans rfl
 have HRV := zb.mk (HR.out.below HBV2.out)
 have HS2 := zb.mk (HS0.out.below HBV2.out)
 have a3 := za HBV2.out a3
 clear hV2 x0 x1 x2 hVS
 have ck1 : (dK == 1) = false := by have := HK.out; simp; omega
 have ck2 : (dK == 2) = false := by have := HK.out; simp; omega
 have ck5 : (dK == 5) = true := by have := HK.out; simp [this]
 have q20 := HAA.out.1.1
 have q21 := HAA.out.1.2
 have HRV3 := zb.mk (Kd.zN HR3.out HBV2.out)
 have rc := (reg_cell HRV3.out dA HAA.out.1.1 HAA.out.1.2).1
 obtain ⟨rn, hrn⟩ : ∃ rn, rn = rd (σ.t k).f3 dA := ⟨_, rfl⟩
 rw [show (σ.t k).f3.getD dA.toNat 0 = rn from hrn.symm] at rc
 have cz : (rn == 0) = false := by have := HAA.out.2; rw [← hrn] at this; simp [this]
 have kz := HRV.out.elem k h0 H1'.out
 have k1 := kz.1 6 _ rfl
 have z1 := kz.2.1 6
 clear hrn kz
 go_upto_region 17 with (fail)
 obtain ⟨at_, hat⟩ : ∃ at_, at_ = (σ.t k).f6 := ⟨_, rfl⟩
 rw [← hat] at HQ w6
 have HA1 := zb.mk (show at_ ≤ 1000 ∧ 0 ≤ at_ by have := H6.out; rw [hat]; omega)
 have e6 : wrap64 (at_ + 1) = at_ + 1 := yN (by have := HA1.out; omega) (by have := HA1.out; omega)
 have x6 := w6
 obtain ⟨W2, hW2⟩ : ∃ W2, W2 = V2 := ⟨_, rfl⟩
 rw [← hW2] at HRV a3 x6 k1 z1 ⊢
 clear hW2 w6 w10 w7 w3 d0 d1 d2 rc hat
 refine yc (n := 12) (S := fun w' => w'.cell? ⟨g, 3, none⟩ = some (.slice (some ⟨gT, 0, none⟩) σ.T.length cap) ∧ w'.cell? ⟨w.heap.size, 6, none⟩ = some (.int .i64 at_)) (ds := [11]) (bm 12 0) (by kernel_rfl) rfl rfl ⟨(za (ze (Below.refl _ _)) a3), (za (ze (Below.refl _ _)) x6)⟩ (fun hHeld => ?_)
 refine zl (i := 0) (N := some 104) (v := ?_) (a' := ?_) (bm 12 1) rfl rfl (by kernel_rfl) (fun _ _ _ h => h) (Or.inl ⟨by rfl, ?_⟩) ?_ ?_
 rotate_left
 ·intro w'
  go_simp
  with_reducible rfl
 rotate_left
 ·simp only [Act.put, List.setIfInBounds_toArray, List.set_cons_zero, List.set_cons_succ, zg, zh]
  rfl
 refine zl (i := 1) (N := some 105) (v := ?_) (a' := ?_) (bm 12 3) rfl rfl (by kernel_rfl) (fun _ _ _ h => h) (Or.inl ⟨by rfl, ?_⟩) ?_ ?_
 rotate_left
 ·intro w'
  go_simp
  with_reducible rfl
 rotate_left
 ·simp only [Act.put, List.setIfInBounds_toArray, List.set_cons_zero, List.set_cons_succ, zg, zh]
  rfl
 refine zl (i := 2) (N := some 106) (v := ?_) (a' := ?_) (bm 12 7) rfl rfl (by kernel_rfl) (fun _ _ _ h => h) (Or.inl ⟨by rfl, ?_⟩) ?_ ?_
 rotate_left
 ·intro w'
  go_simp
  with_reducible rfl
 rotate_left
 ·simp only [Act.put, List.setIfInBounds_toArray, List.set_cons_zero, List.set_cons_succ, zg, zh]
  rfl
 refine zl (i := 3) (N := some 107) (v := ?_) (a' := ?_) (bm 12 15) rfl rfl (by kernel_rfl) (fun _ _ _ h => h) (Or.inl ⟨by rfl, ?_⟩) ?_ ?_
 rotate_left
 ·intro w'
  go_simp
  with_reducible rfl
 rotate_left
 ·simp only [Act.put, List.setIfInBounds_toArray, List.set_cons_zero, List.set_cons_succ, zg, zh]
  rfl
 refine zl (i := 5) (N := some 109) (v := ?_) (a' := ?_) (bm 12 47) rfl rfl (by kernel_rfl) (fun _ _ _ h => h) (Or.inl ⟨by rfl, ?_⟩) ?_ ?_
 rotate_left
 ·intro w'
  go_simp
  with_reducible rfl
 rotate_left
 ·simp only [Act.put, List.setIfInBounds_toArray, List.set_cons_zero, List.set_cons_succ, zg, zh]
  rfl
 refine zl (i := 6) (N := some 110) (v := ?_) (a' := ?_) (bm 12 111) rfl rfl (by kernel_rfl) (fun _ _ _ h => h) (Or.inl ⟨by rfl, ?_⟩) ?_ ?_
 rotate_left
 ·intro w'
  go_simp
  with_reducible rfl
 rotate_left
 ·simp only [Act.put, List.setIfInBounds_toArray, List.set_cons_zero, List.set_cons_succ, zg, zh]
  rfl
 refine zA (i := 4) (N := some 108) (v := ?_) (a' := ?_) (bm 12 127) rfl rfl (by kernel_rfl) (fun _ _ _ h => h) (Or.inl ⟨by rfl, ?_⟩) hHeld ?_ ?_
 rotate_left
 ·rintro w' ⟨s0, s1⟩
  go_simp
  with_reducible rfl
 rotate_left
 ·simp only [Act.put, List.setIfInBounds_toArray, List.set_cons_zero, List.set_cons_succ, zg, zh]
  rfl
 refine zA (i := 7) (N := some 111) (v := ?_) (a' := ?_) (bm 12 255) rfl rfl (by kernel_rfl) (fun _ _ _ h => h) (Or.inl ⟨by rfl, ?_⟩) hHeld ?_ ?_
 rotate_left
 ·rintro w' ⟨s0, s1⟩
  go_simp
  with_reducible rfl
 rotate_left
 ·simp only [Act.put, List.setIfInBounds_toArray, List.set_cons_zero, List.set_cons_succ, zg, zh]
  rfl
 refine zl (i := 8) (N := some 112) (v := ?_) (a' := ?_) (bm 12 511) rfl rfl (by kernel_rfl) (fun _ _ _ h => h) (Or.inl ⟨by rfl, ?_⟩) ?_ ?_
 rotate_left
 ·intro w'
  go_simp
  with_reducible rfl
 rotate_left
 ·simp only [Act.put, List.setIfInBounds_toArray, List.set_cons_zero, List.set_cons_succ, zg, zh]
  rfl
 refine zl (i := 9) (N := some 113) (v := ?_) (a' := ?_) (bm 12 1023) rfl rfl (by kernel_rfl) (fun _ _ _ h => h) (Or.inl ⟨by rfl, ?_⟩) ?_ ?_
 rotate_left
 ·intro w'
  go_simp
  with_reducible rfl
 rotate_left
 ·simp only [Act.put, List.setIfInBounds_toArray, List.set_cons_zero, List.set_cons_succ, zg, zh]
  rfl
 refine zl (i := 10) (N := some 114) (v := ?_) (a' := ?_) (bm 12 2047) rfl rfl (by kernel_rfl) (fun _ _ _ h => h) (Or.inl ⟨by rfl, ?_⟩) ?_ ?_
 rotate_left
 ·intro w'
  go_simp
  with_reducible rfl
 rotate_left
 ·simp only [Act.put, List.setIfInBounds_toArray, List.set_cons_zero, List.set_cons_succ, zg, zh]
  rfl
 refine yR (i := 11) (N := none) (bm 12 4095) rfl rfl (by kernel_rfl) (by decide) (fun K hK => ?_)
 refine yQ (w1 := ?_) (by rfl) rfl ?_ ?_
 rotate_left
 ·go_simp
  rfl
 refine hK.out _ _ ?_
 clear hK K
 refine yt (by kernel_rfl) ?_
 go_wp2
 go_end0
 rw [HQ.out]
 exact ⟨rfl, (zS.next ⟨_, _, _, _, HRV.out.now, HE.out⟩ k at_ h0 H1.out).below (by first | exact ze (ze (Below.refl _ _)) | exact ze (Below.refl _ _))⟩
set_option maxHeartbeats 4000000 in
set_option maxRecDepth 100000 in
theorem deed_3 {w0 w : World} {g : Nat} {vp0 vp1 : Value} {σ : St} (k : Int) (A0 : Option Addr) (c0 : Nat) (D : List yO) (h : zS w0 w g vp0 vp1 σ) (h0 : 0 ≤ k) (h1 : k < σ.T.length) (hD : Kd.C xu w A0 D.length D) (hp : 0 ≤ (σ.t k).f1 ∧ (σ.t k).f1 ≤ 1000) (h8 : (σ.t k).f8.length ≤ 1000) (h9 : (σ.t k).f9.length ≤ 1000) (h10 : (σ.t k).f10.length ≤ 1000) (hL : σ.L.length ≤ 1000000000) (h6 : 0 ≤ (σ.t k).f6 ∧ (σ.t k).f6 ≤ 1000) (h7 : 0 ≤ (σ.t k).f7 ∧ (σ.t k).f7 ≤ 1000) (q : ¬ (D.length : Int) ≤ (σ.t k).f6) (hk : ¬ (zx D (σ.t k).f6).f0 = 1 ∧ ¬ (zx D (σ.t k).f6).f0 = 2 ∧ ¬ (zx D (σ.t k).f6).f0 = 5) (hpos : 0 < (σ.t k).f3.length) (hr : (ye.f (σ.t k).f3 (zx D (σ.t k).f6).f0 (zx D (σ.t k).f6).f1 (zx D (σ.t k).f6).f2).isSome = true) :
  Calls Try.prog 129 #[.pointer (some ⟨g, 0, none⟩), .int .i64 k, .slice A0 D.length c0] w fun e w' => e = .returned (.tuple #[]) ∧ zS w0 w' g vp0 vp1 (σ.deed k D) := by
 have H1 := zb.mk h1
 have HP := zb.mk hp
 have H6 := zb.mk h6
 have H7 := zb.mk h7
 have H8 := zb.mk h8
 have H9 := zb.mk h9
 have H10 := zb.mk h10
 have HL := zb.mk hL
 have HD0 := zb.mk hD
 have HS0 := zb.mk h
 clear h1 hp h6 h7 h8 h9 h10 hL hD
 obtain ⟨rr, hrr⟩ := Option.isSome_iff_exists.1 hr
 have HQ := zb.mk (show σ.deed k D = (σ.upd k fun t => { t with f3 := rr }).next k (σ.t k).f6 by unfold St.deed regF; rw [if_neg q, if_neg hk.1, if_neg hk.2.1, if_neg hk.2.2, hrr]; rfl)
 have QE := zb.mk (show (σ.t k).f6 < (D.length : Int) by omega)
 have HK := zb.mk hk
 have HAA := zb.mk (show (zx D (σ.t k).f6).f1 = (zx D (σ.t k).f6).f1 from rfl)
 have HBB := zb.mk (show (zx D (σ.t k).f6).f2 = (zx D (σ.t k).f6).f2 from rfl)
 have HRR := zb.mk hrr
 clear q hk hr hrr
 obtain ⟨gT, cap, T, vC, vL, A3, c3, A8, c8, A9, c9, A10, c10, HR, HE, HT, H1', a3, ⟨k0, k1, k2, k3, k4, k5, k6, k7, k8, k9, k10, k11, k12⟩, hf, HB, HC3, HC8, HC9, HC10⟩ := h.open13 k h0 H1.out
 clear h
 have r3 := (HR.out.V.rows _ (yF h0 H1'.out)).r3
 rw [HT.out] at r3
 have r3 : Kd.R (Kd.int .i64) 3 w w0.heap.size (fun _ => True) (.slice A3 (σ.t k).f3.length c3) (σ.t k).f3 := r3
 obtain ⟨b3, cap3, e3, hb3, hlt3, cells3, hcc3⟩ := Kd.xT r3 (by omega)
 injection e3 with e3 _ e3'
 subst e3 e3'
 have HR3 := zb.mk r3
 have HNE := zb.mk (show b3 ≠ gT ∧ b3 ≠ g ∧ b3 < w.heap.size from ⟨fun e => by
   subst e
   obtain ⟨cT, hcT⟩ := Kd.xb HR.out.V.rT b3 (by simp [Value.ownBlock])
   rw [hcT] at hcc3
   injection hcc3 with hcc3
   injection hcc3 with _ hcc3
   exact absurd hcc3 (by decide), fun e => by
   subst e
   have := HR.out.blk
   rw [hcc3] at this
   injection this with this
   injection this with _ this
   exact absurd this (by decide), hlt3⟩)
 clear r3 hcc3 cells3 hb3
 have hu := Try.underlying43
 have hud := Try.underlying113
 have p1 : k < (σ.T.length : Int) := H1.out
 have b1 := HB.out.1
 have bg := HB.out.2.2.2
 go_enter Try.func129, Try.ntmps129
 go_upto_region 1 with (fail)
 obtain ⟨V, hV⟩ : ∃ V, V = w.alloc (.cells #[.int .i64 (σ.t k).f0, .int .i64 (σ.t k).f1, .int .i64 (σ.t k).f2, .slice (some ⟨b3, 0, none⟩) (σ.t k).f3.length c3, .int .i64 (σ.t k).f4, .int .i64 (σ.t k).f5, .int .i64 (σ.t k).f6, .int .i64 (σ.t k).f7, .slice A8 (σ.t k).f8.length c8, .slice A9 (σ.t k).f9.length c9, .slice A10 (σ.t k).f10.length c10, .int .i64 (σ.t k).f11, .int .i64 (σ.t k).f12] 43) := ⟨_, rfl⟩
 have HBV := zb.mk (show Below w.heap.size w V by rw [hV]; exact zc (Below.refl _ _) _)
 have VSZ := zb.mk (show V.heap.size = w.heap.size + 1 by rw [hV]; simp)
 have HX := zb.mk (show V.heap[w.heap.size]? = some (.cells #[.int .i64 (σ.t k).f0, .int .i64 (σ.t k).f1, .int .i64 (σ.t k).f2, .slice (some ⟨b3, 0, none⟩) (σ.t k).f3.length c3, .int .i64 (σ.t k).f4, .int .i64 (σ.t k).f5, .int .i64 (σ.t k).f6, .int .i64 (σ.t k).f7, .slice A8 (σ.t k).f8.length c8, .slice A9 (σ.t k).f9.length c9, .slice A10 (σ.t k).f10.length c10, .int .i64 (σ.t k).f11, .int .i64 (σ.t k).f12] 43 (0, 0)) by rw [hV]; exact heap_alloc_new _ _)
 rw [← hV]
 have w6 := (zd HX.out 6).trans rfl
 have w10 := (zd HX.out 10).trans rfl
 have w7 := (zd HX.out 7).trans rfl
 clear hV k0 k1 k2 k3 k4 k5 k6 k7 k8 k9 k10 k11 k12
 have c1 : decide ((σ.t k).f6 ≥ (D.length : Int)) = false := decide_eq_false (by have := QE.out; omega)
 have c1' : decide ((D.length : Int) ≤ (σ.t k).f6) = false := decide_eq_false (by have := QE.out; omega)
 have hlt : (σ.t k).f6 < (D.length : Int) := QE.out
 have hge : 0 ≤ (σ.t k).f6 := H6.out.1
 obtain ⟨ad, rfl, x0, x1, x2⟩ := at_T113 HD0.out (σ.t k).f6 hge hlt
 have x0 := za HBV.out x0
 have x1 := za HBV.out x1
 have x2 := za HBV.out x2
 obtain ⟨dK, hdK⟩ : ∃ x, x = (zx D (σ.t k).f6).f0 := ⟨_, rfl⟩
 obtain ⟨dA, hdA⟩ : ∃ x, x = (zx D (σ.t k).f6).f1 := ⟨_, rfl⟩
 obtain ⟨dB, hdB⟩ : ∃ x, x = (zx D (σ.t k).f6).f2 := ⟨_, rfl⟩
 rw [← hdK] at x0 HK HRR
 rw [← hdA] at x1 HAA HRR
 (try rw [← hdA] at HQ)
 rw [← hdB] at x2 HBB HRR
 (try rw [← hdB] at HQ)
 clear hdK hdA hdB
 have hVS := VSZ.out
 go_upto_region 6 with (fail)
 (try rw [hVS])
 obtain ⟨V2, hV2⟩ : ∃ V2, V2 = V.alloc (.cells #[.int .i64 dK, .int .i64 dA, .int .i64 dB] 113) := ⟨_, rfl⟩
 have HBV2 := zb.mk (show Below w.heap.size w V2 by rw [hV2]; exact zi HBV.out (zc (Below.refl _ _) _))
 have HX := zb.mk ((show V2.heap[w.heap.size]? = V.heap[w.heap.size]? by rw [hV2]; exact Below.heap_alloc _ _ _ (by omega)).trans HX.out)
 have HD := zb.mk (show V2.heap[w.heap.size + 1]? = some (.cells #[.int .i64 dK, .int .i64 dA, .int .i64 dB] 113 (0, 0)) by rw [hV2, ← hVS]; exact heap_alloc_new _ _)
 rw [← hV2]
 have w6 := (zd HX.out 6).trans rfl
 have w10 := (zd HX.out 10).trans rfl
 have w7 := (zd HX.out 7).trans rfl
 have w3 := (zd HX.out 3).trans rfl
 have d0 := (zd HD.out 0).trans rfl
 have d1 := (zd HD.out 1).trans rfl
 have d2 := (zd HD.out 2).trans rfl
 have HRV := zb.mk (HR.out.below HBV2.out)
 have HS2 := zb.mk (HS0.out.below HBV2.out)
 have a3 := za HBV2.out a3
 clear hV2 x0 x1 x2 hVS
 have ck1 : (dK == 1) = false := by have := HK.out; simp; omega
 have ck2 : (dK == 2) = false := by have := HK.out; simp; omega
 have ck5 : (dK == 5) = false := by have := HK.out; simp; omega
 have HRV3 := zb.mk (Kd.zN HR3.out HBV2.out)
 have kz := HRV.out.elem k h0 H1'.out
 have k3 : V2.cell? ⟨gT, k.toNat * 13 + 3, none⟩ = some (.slice (some ⟨b3, 0, none⟩) (σ.t k).f3.length c3) := kz.1 3 _ (by rw [HT.out]; rfl)
 clear kz
 go_upto_region 7 with (fail)
 refine yc (n := 11) (S := fun w' => w'.cell? ⟨g, 3, none⟩ = some (.slice (some ⟨gT, 0, none⟩) σ.T.length cap) ∧ w'.cell? ⟨gT, k.toNat * 13 + 3, none⟩ = some (.slice (some ⟨b3, 0, none⟩) (σ.t k).f3.length c3) ∧ w'.cell? ⟨w.heap.size + 1, 0, none⟩ = some (.int .i64 dK) ∧ w'.cell? ⟨w.heap.size + 1, 1, none⟩ = some (.int .i64 dA) ∧ w'.cell? ⟨w.heap.size + 1, 2, none⟩ = some (.int .i64 dB)) (ds := [10]) (bm 11 0) (by kernel_rfl) rfl rfl ⟨(za (ze (Below.refl _ _)) a3), (za (ze (Below.refl _ _)) k3), (za (ze (Below.refl _ _)) d0), (za (ze (Below.refl _ _)) d1), (za (ze (Below.refl _ _)) d2)⟩ (fun hHeld => ?_)
 refine zl (i := 0) (N := some 41) (v := ?_) (a' := ?_) (bm 11 1) rfl rfl (by kernel_rfl) (fun _ _ _ h => h) (Or.inl ⟨by rfl, ?_⟩) ?_ ?_
 rotate_left
 ·intro w'
  go_simp
  with_reducible rfl
 rotate_left
 ·simp only [Act.put, List.setIfInBounds_toArray, List.set_cons_zero, List.set_cons_succ, zg, zh]
  rfl
 refine zl (i := 1) (N := some 42) (v := ?_) (a' := ?_) (bm 11 3) rfl rfl (by kernel_rfl) (fun _ _ _ h => h) (Or.inl ⟨by rfl, ?_⟩) ?_ ?_
 rotate_left
 ·intro w'
  go_simp
  with_reducible rfl
 rotate_left
 ·simp only [Act.put, List.setIfInBounds_toArray, List.set_cons_zero, List.set_cons_succ, zg, zh]
  rfl
 refine zl (i := 2) (N := some 43) (v := ?_) (a' := ?_) (bm 11 7) rfl rfl (by kernel_rfl) (fun _ _ _ h => h) (Or.inl ⟨by rfl, ?_⟩) ?_ ?_
 rotate_left
 ·intro w'
  go_simp
  with_reducible rfl
 rotate_left
 ·simp only [Act.put, List.setIfInBounds_toArray, List.set_cons_zero, List.set_cons_succ, zg, zh]
  rfl
 refine zl (i := 3) (N := some 44) (v := ?_) (a' := ?_) (bm 11 15) rfl rfl (by kernel_rfl) (fun _ _ _ h => h) (Or.inl ⟨by rfl, ?_⟩) ?_ ?_
 rotate_left
 ·intro w'
  go_simp
  with_reducible rfl
 rotate_left
 ·simp only [Act.put, List.setIfInBounds_toArray, List.set_cons_zero, List.set_cons_succ, zg, zh]
  rfl
 refine zl (i := 5) (N := some 46) (v := ?_) (a' := ?_) (bm 11 47) rfl rfl (by kernel_rfl) (fun _ _ _ h => h) (Or.inl ⟨by rfl, ?_⟩) ?_ ?_
 rotate_left
 ·intro w'
  go_simp
  with_reducible rfl
 rotate_left
 ·simp only [Act.put, List.setIfInBounds_toArray, List.set_cons_zero, List.set_cons_succ, zg, zh]
  rfl
 refine zA (i := 4) (N := some 45) (v := ?_) (a' := ?_) (bm 11 63) rfl rfl (by kernel_rfl) (fun _ _ _ h => h) (Or.inl ⟨by rfl, ?_⟩) hHeld ?_ ?_
 rotate_left
 ·rintro w' ⟨s0, s1, s2, s3, s4⟩
  go_simp
  with_reducible rfl
 rotate_left
 ·simp only [Act.put, List.setIfInBounds_toArray, List.set_cons_zero, List.set_cons_succ, zg, zh]
  rfl
 refine zl (i := 6) (N := some 47) (v := ?_) (a' := ?_) (bm 11 127) rfl rfl (by kernel_rfl) (fun _ _ _ h => h) (Or.inl ⟨by rfl, ?_⟩) ?_ ?_
 rotate_left
 ·intro w'
  go_simp
  with_reducible rfl
 rotate_left
 ·simp only [Act.put, List.setIfInBounds_toArray, List.set_cons_zero, List.set_cons_succ, zg, zh]
  rfl
 refine zl (i := 7) (N := some 48) (v := ?_) (a' := ?_) (bm 11 255) rfl rfl (by kernel_rfl) (fun _ _ _ h => h) (Or.inl ⟨by rfl, ?_⟩) ?_ ?_
 rotate_left
 ·intro w'
  go_simp
  with_reducible rfl
 rotate_left
 ·simp only [Act.put, List.setIfInBounds_toArray, List.set_cons_zero, List.set_cons_succ, zg, zh]
  rfl
 refine zA (i := 8) (N := some 49) (v := ?_) (a' := ?_) (bm 11 511) rfl rfl (by kernel_rfl) (fun _ _ _ h => h) (Or.inl ⟨by rfl, ?_⟩) hHeld ?_ ?_
 rotate_left
 ·rintro w' ⟨s0, s1, s2, s3, s4⟩
  go_simp
  with_reducible rfl
 rotate_left
 ·simp only [Act.put, List.setIfInBounds_toArray, List.set_cons_zero, List.set_cons_succ, zg, zh]
  rfl
 refine zA (i := 9) (N := some 50) (v := ?_) (a' := ?_) (bm 11 1023) rfl rfl (by kernel_rfl) (fun _ _ _ h => h) (Or.inl ⟨by rfl, ?_⟩) hHeld ?_ ?_
 rotate_left
 ·rintro w' ⟨s0, s1, s2, s3, s4⟩
  go_simp
  with_reducible rfl
 rotate_left
 ·simp only [Act.put, List.setIfInBounds_toArray, List.set_cons_zero, List.set_cons_succ, zg, zh]
  rfl
 refine yR (i := 10) (N := some 51) (bm 11 2047) rfl rfl (by kernel_rfl) (by decide) (fun K hK => ?_)
 refine xQ Try.func140 (by kernel_rfl) rfl #[.slice (some ⟨b3, 0, none⟩) (σ.t k).f3.length c3, .agg #[.int .i64 dK, .int .i64 dA, .int .i64 dB]] (by rfl) rfl rfl (by simp only [List.map_toArray, List.map_cons, List.map_nil]; rfl) ?_
 with_reducible refine (ye.calls (fun j => some j = (Value.slice (some ⟨b3, 0, none⟩) (σ.t k).f3.length c3).ownBlock) (.slice (some ⟨b3, 0, none⟩) (σ.t k).f3.length c3) (σ.t k).f3 dK dA dB rr w0 _ (ze HRV.out.hb) (Kd.R_tight rfl (Kd.zN HRV3.out (ze (Below.refl _ _)))) HRR.out).mono ?_
 rintro e wa ⟨rfl, hra, hba, hka⟩
 refine ⟨_, rfl, ?_⟩
 have HRa := zb.mk hra
 have HBa := zb.mk hba
 have HKa := zb.mk (show Kept V2 wa (fun j => some j = (Value.slice (some ⟨b3, 0, none⟩) (σ.t k).f3.length c3).ownBlock) from hka)
 clear hra hba hka
 refine hK.out _ _ ?_
 clear hK K
 refine zp (a' := ?_) ?_ ?_
 rotate_left
 ·show Act.put _ (some 51) _ = _
  simp only [Act.put, List.setIfInBounds_toArray, List.set_cons_zero, List.set_cons_succ, zg, zh]
  rfl
 refine yt (by kernel_rfl) ?_
 have HR5 := zb.mk (yL.regs HRV.out HE.out k h0 H1'.out rr (by rw [HT.out]; exact Kd.zT HRa.out (fun _ _ => trivial)) (by rw [HT.out]; exact HKa.out) HBa.out)
 have HX5 := zb.mk ((HKa.out.2 _ (zo HX.out) (fun e => by simp only [Value.ownBlock, Option.some.injEq] at e; have := HNE.out; omega)).trans HX.out)
 have a3 := (show wa.cell? ⟨g, 3, none⟩ = _ from (World.cell?_of_block (HKa.out.2 g (zo HRV.out.blk) (fun e => by simp only [Value.ownBlock, Option.some.injEq] at e; exact HNE.out.2.1 e.symm))).trans a3)
 obtain ⟨W2, hW2⟩ : ∃ W2, W2 = wa := ⟨_, rfl⟩
 rw [← hW2] at HR5 a3 HX5 ⊢
 have x6 := (zd HX5.out 6).trans rfl
 clear hW2 w6 w10 w7 w3 d0 d1 d2 k3 hHeld
 obtain ⟨at_, hat⟩ : ∃ at_, at_ = (σ.t k).f6 := ⟨_, rfl⟩
 rw [← hat] at HQ x6
 have HA1 := zb.mk (show at_ ≤ 1000 ∧ 0 ≤ at_ by have := H6.out; rw [hat]; omega)
 have e6 : wrap64 (at_ + 1) = at_ + 1 := yN (by have := HA1.out; omega) (by have := HA1.out; omega)
 obtain ⟨n5, vC5, vL5, T5, HR5, HE5⟩ := HR5.out
 have HR5 := zb.mk HR5
 have HE5 := zb.mk HE5
 have L5 := zb.mk (show k < ((σ.upd k fun t => { t with f3 := rr }).T.length : Int) by rw [St.len_upd]; exact H1.out)
 have h15 := zb.mk (show k < (T5.length : Int) by rw [len_of HE5.out]; exact L5.out)
 have kz := HR5.out.elem k h0 h15.out
 have k1 := kz.1 6 _ rfl
 have z1 := kz.2.1 6
 clear kz hat
 go_upto_region 17 with (fail)
 refine yc (n := 12) (S := fun w' => w'.cell? ⟨g, 3, none⟩ = some (.slice (some ⟨gT, 0, none⟩) σ.T.length cap) ∧ w'.cell? ⟨w.heap.size, 6, none⟩ = some (.int .i64 at_)) (ds := [11]) (bm 12 0) (by kernel_rfl) rfl rfl ⟨(za (ze (Below.refl _ _)) a3), (za (ze (Below.refl _ _)) x6)⟩ (fun hHeld => ?_)
 refine zl (i := 0) (N := some 104) (v := ?_) (a' := ?_) (bm 12 1) rfl rfl (by kernel_rfl) (fun _ _ _ h => h) (Or.inl ⟨by rfl, ?_⟩) ?_ ?_
 rotate_left
 ·intro w'
  go_simp
  with_reducible rfl
 rotate_left
 ·simp only [Act.put, List.setIfInBounds_toArray, List.set_cons_zero, List.set_cons_succ, zg, zh]
  rfl
 refine zl (i := 1) (N := some 105) (v := ?_) (a' := ?_) (bm 12 3) rfl rfl (by kernel_rfl) (fun _ _ _ h => h) (Or.inl ⟨by rfl, ?_⟩) ?_ ?_
 rotate_left
 ·intro w'
  go_simp
  with_reducible rfl
 rotate_left
 ·simp only [Act.put, List.setIfInBounds_toArray, List.set_cons_zero, List.set_cons_succ, zg, zh]
  rfl
 refine zl (i := 2) (N := some 106) (v := ?_) (a' := ?_) (bm 12 7) rfl rfl (by kernel_rfl) (fun _ _ _ h => h) (Or.inl ⟨by rfl, ?_⟩) ?_ ?_
 rotate_left
 ·intro w'
  go_simp
  with_reducible rfl
 rotate_left
 ·simp only [Act.put, List.setIfInBounds_toArray, List.set_cons_zero, List.set_cons_succ, zg, zh]
  rfl
 refine zl (i := 3) (N := some 107) (v := ?_) (a' := ?_) (bm 12 15) rfl rfl (by kernel_rfl) (fun _ _ _ h => h) (Or.inl ⟨by rfl, ?_⟩) ?_ ?_
 rotate_left
 ·intro w'
  go_simp
  with_reducible rfl
 rotate_left
 ·simp only [Act.put, List.setIfInBounds_toArray, List.set_cons_zero, List.set_cons_succ, zg, zh]
  rfl
 refine zl (i := 5) (N := some 109) (v := ?_) (a' := ?_) (bm 12 47) rfl rfl (by kernel_rfl) (fun _ _ _ h => h) (Or.inl ⟨by rfl, ?_⟩) ?_ ?_
 rotate_left
 ·intro w'
  go_simp
  with_reducible rfl
 rotate_left
 ·simp only [Act.put, List.setIfInBounds_toArray, List.set_cons_zero, List.set_cons_succ, zg, zh]
  rfl
 refine zl (i := 6) (N := some 110) (v := ?_) (a' := ?_) (bm 12 111) rfl rfl (by kernel_rfl) (fun _ _ _ h => h) (Or.inl ⟨by rfl, ?_⟩) ?_ ?_
 rotate_left
 ·intro w'
  go_simp
  with_reducible rfl
 rotate_left
 ·simp only [Act.put, List.setIfInBounds_toArray, List.set_cons_zero, List.set_cons_succ, zg, zh]
  rfl
 refine zA (i := 4) (N := some 108) (v := ?_) (a' := ?_) (bm 12 127) rfl rfl (by kernel_rfl) (fun _ _ _ h => h) (Or.inl ⟨by rfl, ?_⟩) hHeld ?_ ?_
 rotate_left
 ·rintro w' ⟨s0, s1⟩
  go_simp
  with_reducible rfl
 rotate_left
 ·simp only [Act.put, List.setIfInBounds_toArray, List.set_cons_zero, List.set_cons_succ, zg, zh]
  rfl
 refine zA (i := 7) (N := some 111) (v := ?_) (a' := ?_) (bm 12 255) rfl rfl (by kernel_rfl) (fun _ _ _ h => h) (Or.inl ⟨by rfl, ?_⟩) hHeld ?_ ?_
 rotate_left
 ·rintro w' ⟨s0, s1⟩
  go_simp
  with_reducible rfl
 rotate_left
 ·simp only [Act.put, List.setIfInBounds_toArray, List.set_cons_zero, List.set_cons_succ, zg, zh]
  rfl
 refine zl (i := 8) (N := some 112) (v := ?_) (a' := ?_) (bm 12 511) rfl rfl (by kernel_rfl) (fun _ _ _ h => h) (Or.inl ⟨by rfl, ?_⟩) ?_ ?_
 rotate_left
 ·intro w'
  go_simp
  with_reducible rfl
 rotate_left
 ·simp only [Act.put, List.setIfInBounds_toArray, List.set_cons_zero, List.set_cons_succ, zg, zh]
  rfl
 refine zl (i := 9) (N := some 113) (v := ?_) (a' := ?_) (bm 12 1023) rfl rfl (by kernel_rfl) (fun _ _ _ h => h) (Or.inl ⟨by rfl, ?_⟩) ?_ ?_
 rotate_left
 ·intro w'
  go_simp
  with_reducible rfl
 rotate_left
 ·simp only [Act.put, List.setIfInBounds_toArray, List.set_cons_zero, List.set_cons_succ, zg, zh]
  rfl
 refine zl (i := 10) (N := some 114) (v := ?_) (a' := ?_) (bm 12 2047) rfl rfl (by kernel_rfl) (fun _ _ _ h => h) (Or.inl ⟨by rfl, ?_⟩) ?_ ?_
 rotate_left
 ·intro w'
  go_simp
  with_reducible rfl
 rotate_left
 ·simp only [Act.put, List.setIfInBounds_toArray, List.set_cons_zero, List.set_cons_succ, zg, zh]
  rfl
 refine yR (i := 11) (N := none) (bm 12 4095) rfl rfl (by kernel_rfl) (by decide) (fun K hK => ?_)
 refine yQ (w1 := ?_) (by rfl) rfl ?_ ?_
 rotate_left
 ·go_simp
  rfl
 refine hK.out _ _ ?_
 clear hK K
 refine yt (by kernel_rfl) ?_
 go_wp2
 go_end0
 rw [HQ.out]
 exact ⟨rfl, (zS.next ⟨_, _, _, _, HR5.out.now, HE5.out⟩ k at_ h0 L5.out).below (by first | exact ze (ze (Below.refl _ _)) | exact ze (Below.refl _ _))⟩
end Go.Proofs.Ytppapibjbjmmbaa.QSY
set_option linter.unusedVariables false
set_option linter.unusedSimpArgs false
namespace Go.Proofs.Ytppapibjbjmmbaa.QSY
open Go.RowKit Go.Proofs.YtppapibjbjmmbaaW.PrintWords Go.Proofs.YtppapibjbjmmbaaW.PrintLast Go.Proofs.YtppapibjbjmmbaaW.PrintMore
def deedOk (σ : St) (k : Int) (d : yO) : Prop :=
 (d.f0 = 1 → (0 ≤ d.f1 ∧ d.f1 < (σ.t k).f3.length) ∧ (0 ≤ d.f2 ∧ d.f2 < σ.C.length)) ∧ (d.f0 = 2 → 0 ≤ d.f2 ∧ d.f2 < (σ.t k).f3.length) ∧ (d.f0 = 5 → 0 ≤ d.f1 ∧ d.f1 < (σ.t k).f3.length) ∧
 (¬ d.f0 = 1 ∧ ¬ d.f0 = 2 ∧ ¬ d.f0 = 5 → 0 < (σ.t k).f3.length ∧ (ye.f (σ.t k).f3 d.f0 d.f1 d.f2).isSome = true)
structure TB (σ : St) (k : Int) : Prop where
 p : 0 ≤ (σ.t k).f1 ∧ (σ.t k).f1 ≤ 1000
 r3 : (σ.t k).f3.length ≤ 1000
 r8 : (σ.t k).f8.length ≤ 1000
 r9 : (σ.t k).f9.length ≤ 1000
 r10 : (σ.t k).f10.length ≤ 1000
 l : σ.L.length ≤ 1000000000
 a : 0 ≤ (σ.t k).f6 ∧ (σ.t k).f6 ≤ 1000
 s : 0 ≤ (σ.t k).f7 ∧ (σ.t k).f7 ≤ 1000
 c : 0 ≤ σ.clk ∧ σ.clk ≤ 1000
def putOk (σ : St) (k : Int) (l : List S45) : Prop := (σ.t k).f6 < l.length → 0 ≤ (putAt l (σ.t k).f6).f0 ∧ (putAt l (σ.t k).f6).f0 < σ.C.length
theorem deed_calls {w0 w : World} {g : Nat} {vp0 vp1 : Value} {σ : St} (k : Int) (A0 : Option Addr) (c0 : Nat) (D : List yO) (h : zS w0 w g vp0 vp1 σ) (h0 : 0 ≤ k) (h1 : k < σ.T.length) (hD : Kd.C xu w A0 D.length D) (b : TB σ k) (hd : ¬ (D.length : Int) ≤ (σ.t k).f6 → deedOk σ k (zx D (σ.t k).f6)) :
  Calls Try.prog 129 #[.pointer (some ⟨g, 0, none⟩), .int .i64 k, .slice A0 D.length c0] w fun e w' => e = .returned (.tuple #[]) ∧ zS w0 w' g vp0 vp1 (σ.deed k D) := by
 by_cases q : (D.length : Int) ≤ (σ.t k).f6
 ·by_cases q2 : (σ.t k).f10.length = 0
  ·exact deed_e0 k A0 c0 D h h0 h1 hD b.p b.r8 b.r9 b.r10 b.l b.a b.s q q2
  ·exact deed_e1 k A0 c0 D h h0 h1 hD b.p b.r8 b.r9 b.r10 b.l b.a b.s q q2
 obtain ⟨d1, d2, d5, d3⟩ := hd q
 by_cases k1 : (zx D (σ.t k).f6).f0 = 1
 ·exact deed_1 k A0 c0 D h h0 h1 hD b.p b.r8 b.r9 b.r10 b.l b.a b.s q k1 (d1 k1).1 (d1 k1).2
 by_cases k2 : (zx D (σ.t k).f6).f0 = 2
 ·exact deed_2 k A0 c0 D h h0 h1 hD b.p b.r8 b.r9 b.r10 b.l b.a b.s q k2 (d2 k2)
 by_cases k5 : (zx D (σ.t k).f6).f0 = 5
 ·by_cases z : rd (σ.t k).f3 (zx D (σ.t k).f6).f1 = 0
  ·exact deed_5a k A0 c0 D h h0 h1 hD b.p b.r8 b.r9 b.r10 b.l b.a b.s q k5 (d5 k5) z
  ·exact deed_5b k A0 c0 D h h0 h1 hD b.p b.r8 b.r9 b.r10 b.l b.a b.s q k5 (d5 k5) z
 ·exact deed_3 k A0 c0 D h h0 h1 hD b.p b.r8 b.r9 b.r10 b.l b.a b.s q ⟨k1, k2, k5⟩ (d3 ⟨k1, k2, k5⟩).1 (d3 ⟨k1, k2, k5⟩).2
def St.tick (σ : St) (k : Int) : St := (({ σ with clk := σ.clk + 1 } : St).upd k fun t => { t with f11 := σ.clk + 1 }).stage k 4
def St.try_ (σ : St) (k : Int) (D : List yO) : St :=
 if (σ.t k).f5 = 0 then σ.begin k else if (σ.t k).f5 = 1 then σ.deed k D else if (σ.t k).f5 = 2 then σ.lock k else if (σ.t k).f5 = 3 then σ.tick k else if (σ.t k).f5 = 4 then σ.check k else σ.write k
set_option maxHeartbeats 2000000 in
set_option maxRecDepth 100000 in
theorem try_0 {w0 w : World} {g : Nat} {vp0 vp1 : Value} {σ : St} (k : Int) (A0 : Option Addr) (c0 : Nat) (D : List yO) (h : zS w0 w g vp0 vp1 σ) (h0 : 0 ≤ k) (h1 : k < σ.T.length) (hD : Kd.C xu w A0 D.length D) (b : TB σ k) (q : (σ.t k).f5 = 0) (hx : True) :
  Calls Try.prog 121 #[.pointer (some ⟨g, 0, none⟩), .int .i64 k, .slice A0 D.length c0] w fun e w' => e = .returned (.tuple #[]) ∧ zS w0 w' g vp0 vp1 (σ.try_ k D) := by
 have HQ := zb.mk (show σ.try_ k D = σ.begin k by unfold St.try_; rw [if_pos q])
 have H1 := zb.mk h1
 have HS0 := zb.mk h
 have HD0 := zb.mk hD
 have HB0 := zb.mk b
 have HX0 := zb.mk hx
 obtain ⟨gT, cap, T, vC, vL, HR, HE, HT, H1', a3, hc, hf, HB⟩ := h.open1 k h0 h1
 have k5 : w.cell? ⟨gT, k.toNat * 13 + 5, none⟩ = some (.int .i64 0) := (hc.out 5 _ rfl).trans (by rw [HT.out, q])
 have p1 : k < (σ.T.length : Int) := H1.out
 clear h h1 hD b hx q
 go_enter Try.func121, Try.ntmps121
 go_wp2_with fail
 refine (begin_calls k HS0.out h0 H1.out HB0.out.r3).mono ?_
 rintro e w3 ⟨rfl, h3⟩
 go_wp2
 go_end0
 rw [HQ.out]
 exact ⟨rfl, h3⟩
set_option maxHeartbeats 2000000 in
set_option maxRecDepth 100000 in
theorem try_1 {w0 w : World} {g : Nat} {vp0 vp1 : Value} {σ : St} (k : Int) (A0 : Option Addr) (c0 : Nat) (D : List yO) (h : zS w0 w g vp0 vp1 σ) (h0 : 0 ≤ k) (h1 : k < σ.T.length) (hD : Kd.C xu w A0 D.length D) (b : TB σ k) (q : (σ.t k).f5 = 1) (hx : ¬ (D.length : Int) ≤ (σ.t k).f6 → deedOk σ k (zx D (σ.t k).f6)) :
  Calls Try.prog 121 #[.pointer (some ⟨g, 0, none⟩), .int .i64 k, .slice A0 D.length c0] w fun e w' => e = .returned (.tuple #[]) ∧ zS w0 w' g vp0 vp1 (σ.try_ k D) := by
 have HQ := zb.mk (show σ.try_ k D = σ.deed k D by unfold St.try_; rw [if_neg (by omega)]; rw [if_pos q])
 have H1 := zb.mk h1
 have HS0 := zb.mk h
 have HD0 := zb.mk hD
 have HB0 := zb.mk b
 have HX0 := zb.mk hx
 obtain ⟨gT, cap, T, vC, vL, HR, HE, HT, H1', a3, hc, hf, HB⟩ := h.open1 k h0 h1
 have k5 : w.cell? ⟨gT, k.toNat * 13 + 5, none⟩ = some (.int .i64 1) := (hc.out 5 _ rfl).trans (by rw [HT.out, q])
 have p1 : k < (σ.T.length : Int) := H1.out
 clear h h1 hD b hx q
 go_enter Try.func121, Try.ntmps121
 go_wp2_with fail
 refine (deed_calls k A0 c0 D HS0.out h0 H1.out HD0.out HB0.out (fun z => HX0.out (by omega))).mono ?_
 rintro e w3 ⟨rfl, h3⟩
 go_wp2
 go_end0
 rw [HQ.out]
 exact ⟨rfl, h3⟩
set_option maxHeartbeats 2000000 in
set_option maxRecDepth 100000 in
theorem try_2 {w0 w : World} {g : Nat} {vp0 vp1 : Value} {σ : St} (k : Int) (A0 : Option Addr) (c0 : Nat) (D : List yO) (h : zS w0 w g vp0 vp1 σ) (h0 : 0 ≤ k) (h1 : k < σ.T.length) (hD : Kd.C xu w A0 D.length D) (b : TB σ k) (q : (σ.t k).f5 = 2) (hx : (σ.t k).f6 < (σ.t k).f10.length ∧ 0 ≤ (putAt (σ.t k).f10 (σ.t k).f6).f0 ∧ (putAt (σ.t k).f10 (σ.t k).f6).f0 < σ.C.length) :
  Calls Try.prog 121 #[.pointer (some ⟨g, 0, none⟩), .int .i64 k, .slice A0 D.length c0] w fun e w' => e = .returned (.tuple #[]) ∧ zS w0 w' g vp0 vp1 (σ.try_ k D) := by
 have HQ := zb.mk (show σ.try_ k D = σ.lock k by unfold St.try_; rw [if_neg (by omega)]; rw [if_neg (by omega)]; rw [if_pos q])
 have H1 := zb.mk h1
 have HS0 := zb.mk h
 have HD0 := zb.mk hD
 have HB0 := zb.mk b
 have HX0 := zb.mk hx
 obtain ⟨gT, cap, T, vC, vL, HR, HE, HT, H1', a3, hc, hf, HB⟩ := h.open1 k h0 h1
 have k5 : w.cell? ⟨gT, k.toNat * 13 + 5, none⟩ = some (.int .i64 2) := (hc.out 5 _ rfl).trans (by rw [HT.out, q])
 have p1 : k < (σ.T.length : Int) := H1.out
 clear h h1 hD b hx q
 go_enter Try.func121, Try.ntmps121
 go_wp2_with fail
 refine (lock_calls k HS0.out h0 H1.out HB0.out.r8 HB0.out.r10 HB0.out.a.1 HX0.out.1 HX0.out.2.1 HX0.out.2.2).mono ?_
 rintro e w3 ⟨rfl, h3⟩
 go_wp2
 go_end0
 rw [HQ.out]
 exact ⟨rfl, h3⟩
set_option maxHeartbeats 2000000 in
set_option maxRecDepth 100000 in
theorem try_3 {w0 w : World} {g : Nat} {vp0 vp1 : Value} {σ : St} (k : Int) (A0 : Option Addr) (c0 : Nat) (D : List yO) (h : zS w0 w g vp0 vp1 σ) (h0 : 0 ≤ k) (h1 : k < σ.T.length) (hD : Kd.C xu w A0 D.length D) (b : TB σ k) (q : (σ.t k).f5 = 3) (hx : True) :
  Calls Try.prog 121 #[.pointer (some ⟨g, 0, none⟩), .int .i64 k, .slice A0 D.length c0] w fun e w' => e = .returned (.tuple #[]) ∧ zS w0 w' g vp0 vp1 (σ.try_ k D) := by
 have HQ := zb.mk (show σ.try_ k D = σ.tick k by unfold St.try_; rw [if_neg (by omega)]; rw [if_neg (by omega)]; rw [if_neg (by omega)]; rw [if_pos q])
 have H1 := zb.mk h1
 have HS0 := zb.mk h
 have HD0 := zb.mk hD
 have HB0 := zb.mk b
 have HX0 := zb.mk hx
 obtain ⟨gT, cap, T, vC, vL, HR, HE, HT, H1', a3, hc, hf, HB⟩ := h.open1 k h0 h1
 have k5 : w.cell? ⟨gT, k.toNat * 13 + 5, none⟩ = some (.int .i64 3) := (hc.out 5 _ rfl).trans (by rw [HT.out, q])
 have p1 : k < (σ.T.length : Int) := H1.out
 clear h h1 hD b hx q
 have a4 := HR.out.c4
 have z4 := HR.out.fz 4
 have ec : wrap64 (σ.clk + 1) = σ.clk + 1 := yN (by have := HB0.out.c; omega) (by have := HB0.out.c; omega)
 go_enter Try.func121, Try.ntmps121
 go_upto_region 10 with (fail)
 obtain ⟨W2, hW2⟩ : ∃ W2, W2 = w.setCell ⟨g, 4, none⟩ (.int .i64 (σ.clk + 1)) := ⟨_, rfl⟩
 have HR2 := zb.mk (show Rep w0 W2 g w.heap.size vp0 vp1 vC (.slice (some ⟨gT, 0, none⟩) σ.T.length cap) vL σ.C T (σ.clk + 1) σ.L by rw [hW2]; exact HR.out.clkset (σ.clk + 1))
 rw [← hW2]
 have a3 := HR2.out.c3
 have a4 := HR2.out.c4
 have kz := HR2.out.elem k h0 H1'.out
 have k1 := kz.1 11 _ rfl
 have z1 := kz.2.1 11
 clear kz hW2 k5 z4 hc hf
 obtain ⟨cq, hcq⟩ : ∃ cq, cq = σ.clk + 1 := ⟨_, rfl⟩
 rw [← hcq] at HR2 a4 ⊢
 have HCQ := zb.mk hcq
 clear hcq ec
 refine yc (n := 14) (S := fun w' => w'.cell? ⟨g, 3, none⟩ = some (.slice (some ⟨gT, 0, none⟩) σ.T.length cap) ∧ w'.cell? ⟨g, 4, none⟩ = some (.int .i64 cq)) (ds := [13]) (bm 14 0) (by kernel_rfl) rfl rfl ⟨(za (ze (Below.refl _ _)) a3), (za (ze (Below.refl _ _)) a4)⟩ (fun hHeld => ?_)
 refine zl (i := 0) (N := some 46) (v := ?_) (a' := ?_) (bm 14 1) rfl rfl (by kernel_rfl) (fun _ _ _ h => h) (Or.inl ⟨by rfl, ?_⟩) ?_ ?_
 rotate_left
 ·intro w'
  go_simp
  with_reducible rfl
 rotate_left
 ·simp only [Act.put, List.setIfInBounds_toArray, List.set_cons_zero, List.set_cons_succ, zg, zh]
  rfl
 refine zl (i := 1) (N := some 47) (v := ?_) (a' := ?_) (bm 14 3) rfl rfl (by kernel_rfl) (fun _ _ _ h => h) (Or.inl ⟨by rfl, ?_⟩) ?_ ?_
 rotate_left
 ·intro w'
  go_simp
  with_reducible rfl
 rotate_left
 ·simp only [Act.put, List.setIfInBounds_toArray, List.set_cons_zero, List.set_cons_succ, zg, zh]
  rfl
 refine zl (i := 2) (N := some 48) (v := ?_) (a' := ?_) (bm 14 7) rfl rfl (by kernel_rfl) (fun _ _ _ h => h) (Or.inl ⟨by rfl, ?_⟩) ?_ ?_
 rotate_left
 ·intro w'
  go_simp
  with_reducible rfl
 rotate_left
 ·simp only [Act.put, List.setIfInBounds_toArray, List.set_cons_zero, List.set_cons_succ, zg, zh]
  rfl
 refine zl (i := 3) (N := some 49) (v := ?_) (a' := ?_) (bm 14 15) rfl rfl (by kernel_rfl) (fun _ _ _ h => h) (Or.inl ⟨by rfl, ?_⟩) ?_ ?_
 rotate_left
 ·intro w'
  go_simp
  with_reducible rfl
 rotate_left
 ·simp only [Act.put, List.setIfInBounds_toArray, List.set_cons_zero, List.set_cons_succ, zg, zh]
  rfl
 refine zl (i := 5) (N := some 51) (v := ?_) (a' := ?_) (bm 14 47) rfl rfl (by kernel_rfl) (fun _ _ _ h => h) (Or.inl ⟨by rfl, ?_⟩) ?_ ?_
 rotate_left
 ·intro w'
  go_simp
  with_reducible rfl
 rotate_left
 ·simp only [Act.put, List.setIfInBounds_toArray, List.set_cons_zero, List.set_cons_succ, zg, zh]
  rfl
 refine zl (i := 6) (N := some 52) (v := ?_) (a' := ?_) (bm 14 111) rfl rfl (by kernel_rfl) (fun _ _ _ h => h) (Or.inl ⟨by rfl, ?_⟩) ?_ ?_
 rotate_left
 ·intro w'
  go_simp
  with_reducible rfl
 rotate_left
 ·simp only [Act.put, List.setIfInBounds_toArray, List.set_cons_zero, List.set_cons_succ, zg, zh]
  rfl
 refine zl (i := 7) (N := some 53) (v := ?_) (a' := ?_) (bm 14 239) rfl rfl (by kernel_rfl) (fun _ _ _ h => h) (Or.inl ⟨by rfl, ?_⟩) ?_ ?_
 rotate_left
 ·intro w'
  go_simp
  with_reducible rfl
 rotate_left
 ·simp only [Act.put, List.setIfInBounds_toArray, List.set_cons_zero, List.set_cons_succ, zg, zh]
  rfl
 refine zl (i := 8) (N := some 54) (v := ?_) (a' := ?_) (bm 14 495) rfl rfl (by kernel_rfl) (fun _ _ _ h => h) (Or.inl ⟨by rfl, ?_⟩) ?_ ?_
 rotate_left
 ·intro w'
  go_simp
  with_reducible rfl
 rotate_left
 ·simp only [Act.put, List.setIfInBounds_toArray, List.set_cons_zero, List.set_cons_succ, zg, zh]
  rfl
 refine zl (i := 9) (N := some 55) (v := ?_) (a' := ?_) (bm 14 1007) rfl rfl (by kernel_rfl) (fun _ _ _ h => h) (Or.inl ⟨by rfl, ?_⟩) ?_ ?_
 rotate_left
 ·intro w'
  go_simp
  with_reducible rfl
 rotate_left
 ·simp only [Act.put, List.setIfInBounds_toArray, List.set_cons_zero, List.set_cons_succ, zg, zh]
  rfl
 refine zA (i := 4) (N := some 50) (v := ?_) (a' := ?_) (bm 14 1023) rfl rfl (by kernel_rfl) (fun _ _ _ h => h) (Or.inl ⟨by rfl, ?_⟩) hHeld ?_ ?_
 rotate_left
 ·rintro w' ⟨s0, s1⟩
  go_simp
  with_reducible rfl
 rotate_left
 ·simp only [Act.put, List.setIfInBounds_toArray, List.set_cons_zero, List.set_cons_succ, zg, zh]
  rfl
 refine zA (i := 10) (N := some 56) (v := ?_) (a' := ?_) (bm 14 2047) rfl rfl (by kernel_rfl) (fun _ _ _ h => h) (Or.inl ⟨by rfl, ?_⟩) hHeld ?_ ?_
 rotate_left
 ·rintro w' ⟨s0, s1⟩
  go_simp
  with_reducible rfl
 rotate_left
 ·simp only [Act.put, List.setIfInBounds_toArray, List.set_cons_zero, List.set_cons_succ, zg, zh]
  rfl
 refine zl (i := 11) (N := some 57) (v := ?_) (a' := ?_) (bm 14 4095) rfl rfl (by kernel_rfl) (fun _ _ _ h => h) (Or.inl ⟨by rfl, ?_⟩) ?_ ?_
 rotate_left
 ·intro w'
  go_simp
  with_reducible rfl
 rotate_left
 ·simp only [Act.put, List.setIfInBounds_toArray, List.set_cons_zero, List.set_cons_succ, zg, zh]
  rfl
 refine zl (i := 12) (N := some 58) (v := ?_) (a' := ?_) (bm 14 8191) rfl rfl (by kernel_rfl) (fun _ _ _ h => h) (Or.inl ⟨by rfl, ?_⟩) ?_ ?_
 rotate_left
 ·intro w'
  go_simp
  with_reducible rfl
 rotate_left
 ·simp only [Act.put, List.setIfInBounds_toArray, List.set_cons_zero, List.set_cons_succ, zg, zh]
  rfl
 refine yR (i := 13) (N := none) (bm 14 16383) rfl rfl (by kernel_rfl) (by decide) (fun K hK => ?_)
 refine yQ (w1 := ?_) (by rfl) rfl ?_ ?_
 rotate_left
 ·go_simp
  rfl
 refine hK.out _ _ ?_
 clear hK K
 refine yt (by kernel_rfl) ?_
 go_wp2_with fail
 refine (xw k 4 (σ := ({ σ with clk := cq } : St).upd k fun t => { t with f11 := cq }) (((show yL w0 W2 g W2.heap.size vp0 vp1 gT cap ({ σ with clk := cq } : St) from ⟨_, _, _, _, HR2.out.now, HE.out⟩).num k h0 H1.out (fun t => { t with f11 := cq }) 11 cq (by decide) (fun _ => rfl) (fun _ => rfl) (fun _ => rfl) (fun _ => rfl) (fun _ => rfl)).S.below (by first | exact ze (ze (Below.refl _ _)) | exact ze (Below.refl _ _) | exact Below.refl _ _)) h0 (by rw [St.len_upd]; exact H1.out)).mono ?_
 rintro e w3 ⟨rfl, h3⟩
 go_wp2
 go_end0
 rw [HQ.out]
 unfold St.tick
 rw [← HCQ.out]
 exact ⟨rfl, h3⟩
set_option maxHeartbeats 2000000 in
set_option maxRecDepth 100000 in
theorem try_4 {w0 w : World} {g : Nat} {vp0 vp1 : Value} {σ : St} (k : Int) (A0 : Option Addr) (c0 : Nat) (D : List yO) (h : zS w0 w g vp0 vp1 σ) (h0 : 0 ≤ k) (h1 : k < σ.T.length) (hD : Kd.C xu w A0 D.length D) (b : TB σ k) (q : (σ.t k).f5 = 4) (hx : putOk σ k (σ.t k).f9) :
  Calls Try.prog 121 #[.pointer (some ⟨g, 0, none⟩), .int .i64 k, .slice A0 D.length c0] w fun e w' => e = .returned (.tuple #[]) ∧ zS w0 w' g vp0 vp1 (σ.try_ k D) := by
 have HQ := zb.mk (show σ.try_ k D = σ.check k by unfold St.try_; rw [if_neg (by omega)]; rw [if_neg (by omega)]; rw [if_neg (by omega)]; rw [if_neg (by omega)]; rw [if_pos q])
 have H1 := zb.mk h1
 have HS0 := zb.mk h
 have HD0 := zb.mk hD
 have HB0 := zb.mk b
 have HX0 := zb.mk hx
 obtain ⟨gT, cap, T, vC, vL, HR, HE, HT, H1', a3, hc, hf, HB⟩ := h.open1 k h0 h1
 have k5 : w.cell? ⟨gT, k.toNat * 13 + 5, none⟩ = some (.int .i64 4) := (hc.out 5 _ rfl).trans (by rw [HT.out, q])
 have p1 : k < (σ.T.length : Int) := H1.out
 clear h h1 hD b hx q
 go_enter Try.func121, Try.ntmps121
 go_wp2_with fail
 refine (check_calls k HS0.out h0 H1.out HB0.out.r8 HB0.out.r9 HB0.out.a.1 HX0.out).mono ?_
 rintro e w3 ⟨rfl, h3⟩
 go_wp2
 go_end0
 rw [HQ.out]
 exact ⟨rfl, h3⟩
set_option maxHeartbeats 2000000 in
set_option maxRecDepth 100000 in
theorem try_5 {w0 w : World} {g : Nat} {vp0 vp1 : Value} {σ : St} (k : Int) (A0 : Option Addr) (c0 : Nat) (D : List yO) (h : zS w0 w g vp0 vp1 σ) (h0 : 0 ≤ k) (h1 : k < σ.T.length) (hD : Kd.C xu w A0 D.length D) (b : TB σ k) (q : (σ.t k).f5 = 5) (hx : (σ.t k).f6 < (σ.t k).f10.length ∧ 0 ≤ (putAt (σ.t k).f10 (σ.t k).f6).f0 ∧ (putAt (σ.t k).f10 (σ.t k).f6).f0 < σ.C.length) :
  Calls Try.prog 121 #[.pointer (some ⟨g, 0, none⟩), .int .i64 k, .slice A0 D.length c0] w fun e w' => e = .returned (.tuple #[]) ∧ zS w0 w' g vp0 vp1 (σ.try_ k D) := by
 have HQ := zb.mk (show σ.try_ k D = σ.write k by unfold St.try_; rw [if_neg (by omega), if_neg (by omega), if_neg (by omega), if_neg (by omega), if_neg (by omega)])
 have H1 := zb.mk h1
 have HS0 := zb.mk h
 have HD0 := zb.mk hD
 have HB0 := zb.mk b
 have HX0 := zb.mk hx
 obtain ⟨gT, cap, T, vC, vL, HR, HE, HT, H1', a3, hc, hf, HB⟩ := h.open1 k h0 h1
 have k5 : w.cell? ⟨gT, k.toNat * 13 + 5, none⟩ = some (.int .i64 5) := (hc.out 5 _ rfl).trans (by rw [HT.out, q])
 have p1 : k < (σ.T.length : Int) := H1.out
 clear h h1 hD b hx q
 go_enter Try.func121, Try.ntmps121
 go_wp2_with fail
 refine (write_calls k HS0.out h0 H1.out HB0.out.p HB0.out.r9 HB0.out.r10 HB0.out.l HB0.out.a.1 HX0.out.1 HX0.out.2.1 HX0.out.2.2).mono ?_
 rintro e w3 ⟨rfl, h3⟩
 go_wp2
 go_end0
 rw [HQ.out]
 exact ⟨rfl, h3⟩
def tryOk (σ : St) (k : Int) (D : List yO) : Prop :=
 TB σ k ∧ (0 ≤ (σ.t k).f5 ∧ (σ.t k).f5 ≤ 5) ∧ ((σ.t k).f5 = 1 → ¬ (D.length : Int) ≤ (σ.t k).f6 → deedOk σ k (zx D (σ.t k).f6)) ∧ ((σ.t k).f5 = 2 ∨ (σ.t k).f5 = 5 → (σ.t k).f6 < (σ.t k).f10.length ∧ 0 ≤ (putAt (σ.t k).f10 (σ.t k).f6).f0 ∧ (putAt (σ.t k).f10 (σ.t k).f6).f0 < σ.C.length) ∧ ((σ.t k).f5 = 4 → putOk σ k (σ.t k).f9)
theorem try_calls {w0 w : World} {g : Nat} {vp0 vp1 : Value} {σ : St} (k : Int) (A0 : Option Addr) (c0 : Nat) (D : List yO) (h : zS w0 w g vp0 vp1 σ) (h0 : 0 ≤ k) (h1 : k < σ.T.length) (hD : Kd.C xu w A0 D.length D) (b : tryOk σ k D) :
  Calls Try.prog 121 #[.pointer (some ⟨g, 0, none⟩), .int .i64 k, .slice A0 D.length c0] w fun e w' => e = .returned (.tuple #[]) ∧ zS w0 w' g vp0 vp1 (σ.try_ k D) := by
 obtain ⟨b, s, x1, x2, x4⟩ := b
 rcases (show (σ.t k).f5 = 0 ∨ (σ.t k).f5 = 1 ∨ (σ.t k).f5 = 2 ∨ (σ.t k).f5 = 3 ∨ (σ.t k).f5 = 4 ∨ (σ.t k).f5 = 5 by omega) with q | q | q | q | q | q
 ·exact try_0 k A0 c0 D h h0 h1 hD b q trivial
 ·exact try_1 k A0 c0 D h h0 h1 hD b q (x1 q)
 ·exact try_2 k A0 c0 D h h0 h1 hD b q (x2 (.inl q))
 ·exact try_3 k A0 c0 D h h0 h1 hD b q trivial
 ·exact try_4 k A0 c0 D h h0 h1 hD b q (x4 q)
 ·exact try_5 k A0 c0 D h h0 h1 hD b q (x2 (.inr q))
end Go.Proofs.Ytppapibjbjmmbaa.QSY
set_option linter.unusedVariables false
set_option linter.unusedSimpArgs false
namespace Go.Proofs.Ytppapibjbjmmbaa.QSY
open Go.RowKit Go.Proofs.YtppapibjbjmmbaaW.PrintWords Go.Proofs.YtppapibjbjmmbaaW.PrintLast Go.Proofs.YtppapibjbjmmbaaW.PrintMore
def yp (k b : Int) : S43 := ⟨b, 0, k, List.replicate 3 0, 0, 0, 0, 0, List.replicate 3 0, [], [], 0, 0⟩
def St.forked (σ : St) (k : Int) (l : List Int) : St := { σ with T := σ.T ++ l.map (yp k) }
def St.fork (σ : St) (k : Int) (l : List Int) : St := (σ.forked k l).upd k fun t => { t with f4 := 1 }
theorem xD (σ : St) (k : Int) (l : List Int) : (σ.forked k l).T.length = σ.T.length + l.length := by simp [St.forked]
theorem forked_succ (σ : St) (k : Int) (l : List Int) {i : Nat} (h : i < l.length) : (σ.forked k (l.take (i + 1))).T = (σ.forked k (l.take i)).T ++ [yp k (l.getD i 0)] := by
 unfold St.forked
 rw [List.take_succ_eq_append_getElem h, List.map_append, ← List.append_assoc, List.getD_eq_getElem?_getD, List.getElem?_eq_getElem h]; rfl
theorem at_ints {w : World} {A : Option Addr} {n : Nat} {xs : List Int} (h : Kd.C (Kd.int .i64) w A n xs) (i : Nat) (h1 : i < n) : ∃ ad, A = some ad ∧ w.cell? (ad.add i) = some (.int .i64 (xs.getD i 0)) := by
 obtain ⟨ad, c, e, _, hK, hc0⟩ := Kd.C_get h (0 : Int) (i : Int) (by omega) (by omega)
 have hc : ∀ j u, c[j]? = some u → w.cell? (ad.add ((i : Int).toNat * 1 + j)) = some u := hc0
 have hK : c = [.int .i64 (xs.getD i 0)] := hK
 subst hK
 exact ⟨ad, e, by have hq := hc 0 _ rfl; rwa [Nat.mul_one, Nat.add_zero, Int.toNat_natCast] at hq⟩
theorem new_row {w w1 : World} {B : Nat} {k b : Int} {v3 v8 v9 v10 : Value} (hB : B ≤ w.heap.size)
  (r3 : Kd.R (Kd.int .i64) 3 w1 w.heap.size (fun k => some k ≠ v8.ownBlock) v3 (List.replicate 3 0)) (r8 : Kd.R (Kd.int .i64) 3 w1 w.heap.size (fun k => some k ≠ v3.ownBlock) v8 (List.replicate 3 0))
  (r9 : Kd.R k45 45 w1 w.heap.size (fun k => some k ≠ v10.ownBlock) v9 []) (r10 : Kd.R k45 45 w1 w.heap.size (fun k => some k ≠ v9.ownBlock) v10 []) :
  TRow w1 B ⟨yp k b, v3, v8, v9, v10⟩ ∧ (TG.blocks ⟨yp k b, v3, v8, v9, v10⟩).Nodup ∧ ∀ c ∈ TG.blocks ⟨yp k b, v3, v8, v9, v10⟩, w.heap.size ≤ c ∧ c < w1.heap.size := by
 have lo : ∀ {α : Type} {d : Kd α} {e : Nat} {ok : Nat → Prop} {v : Value} {xs : List α}, d.R e w1 w.heap.size ok v xs → d.R e w1 B (fun _ => True) v xs := fun h => Kd.zT (Kd.zP h hB) (fun _ _ => trivial)
 have mem : ∀ {α : Type} {d : Kd α} {e : Nat} {ok : Nat → Prop} {v : Value} {xs : List α} {c : Nat}, d.R e w1 w.heap.size ok v xs → c ∈ v.ownBlock.toList → ok c ∧ w.heap.size ≤ c ∧ c < w1.heap.size ∧ ∃ cells, w1.heap[c]? = some (.cells cells e (0, 0)) := fun {α d e ok v xs c} h hc => by
  have hc : v.ownBlock = some c := by simpa using hc
  exact ⟨h.1 c hc, Kd.yV h c hc, Kd.R_lt h c hc, Kd.xb h c hc⟩
 refine ⟨⟨lo r3, lo r8, lo r9, lo r10⟩, ?_, fun c hc => ?_⟩
 ·have nd : ∀ o : Option Nat, o.toList.Nodup := fun o => by cases o <;> simp
  show (v3.ownBlock.toList ++ v8.ownBlock.toList ++ v9.ownBlock.toList ++ v10.ownBlock.toList).Nodup
  have ty : ∀ c : Nat, (∃ cells, w1.heap[c]? = some (.cells cells 3 (0, 0))) → (∃ cells, w1.heap[c]? = some (.cells cells 45 (0, 0))) → False := fun c ⟨_, h⟩ ⟨_, h'⟩ => by
   rw [h] at h'; injection h' with h'; injection h' with _ h'; exact absurd h' (by decide)
  rw [List.nodup_append, List.nodup_append, List.nodup_append]
  refine ⟨⟨⟨nd _, nd _, fun a ha b hb e => ?_⟩, nd _, fun a ha b hb e => ?_⟩, nd _, fun a ha b hb e => ?_⟩ <;> subst e
  ·have : v8.ownBlock = some a := by simpa using hb
   exact (mem r3 ha).1 this.symm
  ·rcases List.mem_append.1 ha with ha | ha
   ·exact ty a (mem r3 ha).2.2.2 (mem r9 hb).2.2.2
   ·exact ty a (mem r8 ha).2.2.2 (mem r9 hb).2.2.2
  ·rcases List.mem_append.1 ha with ha | ha
   ·rcases List.mem_append.1 ha with ha | ha
    ·exact ty a (mem r3 ha).2.2.2 (mem r10 hb).2.2.2
    ·exact ty a (mem r8 ha).2.2.2 (mem r10 hb).2.2.2
   ·have : v10.ownBlock = some a := by simpa using hb
    exact (mem r9 ha).1 this.symm
 ·have hc : c ∈ v3.ownBlock.toList ++ v8.ownBlock.toList ++ v9.ownBlock.toList ++ v10.ownBlock.toList := hc
  simp only [List.mem_append] at hc
  rcases hc with ((hc | hc) | hc) | hc
  ·exact ⟨(mem r3 hc).2.1, (mem r3 hc).2.2.1⟩
  ·exact ⟨(mem r8 hc).2.1, (mem r8 hc).2.2.1⟩
  ·exact ⟨(mem r9 hc).2.1, (mem r9 hc).2.2.1⟩
  ·exact ⟨(mem r10 hc).2.1, (mem r10 hc).2.2.1⟩
set_option maxHeartbeats 4000000 in
set_option maxRecDepth 100000 in
theorem fork_calls {w0 w : World} {g : Nat} {vp0 vp1 : Value} {σ : St} (k : Int) (A0 : Option Addr) (c0 : Nat) (l : List Int) (h : zS w0 w g vp0 vp1 σ) (h0 : 0 ≤ k) (h1 : k < σ.T.length) (hl : Kd.C (Kd.int .i64) w0 A0 l.length l) (hn : l.length ≤ 1000) (hT : σ.T.length ≤ 2500) :
  Calls Try.prog 122 #[.pointer (some ⟨g, 0, none⟩), .int .i64 k, .slice A0 l.length c0] w fun e w' => e = .returned (.tuple #[]) ∧ zS w0 w' g vp0 vp1 (σ.fork k l) := by
 have H1 := zb.mk h1
 have HL := zb.mk hl
 have HN := zb.mk hn
 have HT0 := zb.mk hT
 have HS := zb.mk (show zS w0 w g vp0 vp1 (σ.forked k (l.take 0)) by
  have e : σ.forked k (l.take 0) = σ := by unfold St.forked; simp
  rw [e]; exact h)
 clear h h1 hl hn hT
 go_enter Try.func122, Try.ntmps122
 go_wp2
 go_loopw [6] (fun v6 wr => ∃ (i : Nat) (V : World), V = wr ∧ v6 = .int .i64 i ∧ zb (i ≤ l.length) ∧ zb (zS w0 V g vp0 vp1 (σ.forked k (l.take i)))) (fun v6 _ => l.length - (intOf v6).toNat)
 case atStart => exact ⟨0, w, rfl, rfl, ⟨Nat.zero_le _⟩, HS⟩
 case round =>
  clear HS
  obtain ⟨i, V, rfl, rfl, hi, HS⟩ := hrel
  have HB0 := zb.mk HS.out.hb
  by_cases hlt : i < l.length
  ·have cb : decide ((i : Int) < (l.length : Int)) = true := decide_eq_true (by omega)
   have cb2 : decide (i < l.length) = true := decide_eq_true hlt
   have HF := zb.mk (forked_succ σ k l hlt)
   obtain ⟨ad, rfl, xi⟩ := at_ints HL.out i hlt
   have XI0 := zb.mk xi
   have xi := za HB0.out xi
   obtain ⟨x, hx⟩ : ∃ x, x = l.getD i 0 := ⟨_, rfl⟩
   rw [← hx] at xi HF XI0
   have p0 : (0 : Int) ≤ (i : Int) := by omega
   have p1 : (i : Int) < (l.length : Int) := by omega
   have HLT := zb.mk hlt
   have ei : wrap64 ((i : Int) + 1) = ((i + 1 : Nat) : Int) := by have := HN.out; unfold wrap64; omega
   have EI := zb.mk ei
   clear hlt ei hx
   obtain ⟨N, vC, vT, vL, T, hR, hE⟩ := HS.out
   have HR := zb.mk hR.now
   have HE := zb.mk hE
   obtain ⟨AT, cT, rfl, _⟩ := Kd.yP hR.V.rT
   have HTL := zb.mk (show T.length ≤ 4000 by
    have e : T.length = (σ.forked k (l.take i)).T.length := by rw [← hE, List.length_map]
    rw [e, xD, List.length_take]
    have h1 := HT0.out
    have h2 := HN.out
    omega)
   have a3 := HR.out.c3
   clear hR hE
   go_upto_region 3 with (fail)
   refine yc (n := 18) (S := fun w' => w'.cell? ⟨g, 3, none⟩ = some (.slice AT T.length cT) ∧ w'.cell? (ad.add i) = some (.int .i64 x)) (ds := [17]) (bm 18 0) (by kernel_rfl) rfl rfl ⟨(za (ze (Below.refl _ _)) a3), (za (ze (Below.refl _ _)) xi)⟩ (fun hHeld => ?_)
   refine zl (i := 0) (N := some 13) (v := ?_) (a' := ?_) (bm 18 1) rfl rfl (by kernel_rfl) (fun _ _ _ h => h) (Or.inl ⟨by rfl, ?_⟩) ?_ ?_
   rotate_left
   ·intro w'
    go_simp
    with_reducible rfl
   rotate_left
   ·simp only [Act.put, List.setIfInBounds_toArray, List.set_cons_zero, List.set_cons_succ, zg, zh]
    rfl
   refine zl (i := 1) (N := some 14) (v := ?_) (a' := ?_) (bm 18 3) rfl rfl (by kernel_rfl) (fun _ _ _ h => h) (Or.inl ⟨by rfl, ?_⟩) ?_ ?_
   rotate_left
   ·intro w'
    go_simp
    with_reducible rfl
   rotate_left
   ·simp only [Act.put, List.setIfInBounds_toArray, List.set_cons_zero, List.set_cons_succ, zg, zh]
    rfl
   refine zl (i := 2) (N := some 15) (v := ?_) (a' := ?_) (bm 18 7) rfl rfl (by kernel_rfl) (fun _ _ _ h => h) (Or.inl ⟨by rfl, ?_⟩) ?_ ?_
   rotate_left
   ·intro w'
    go_simp
    with_reducible rfl
   rotate_left
   ·simp only [Act.put, List.setIfInBounds_toArray, List.set_cons_zero, List.set_cons_succ, zg, zh]
    rfl
   refine zl (i := 3) (N := some 16) (v := ?_) (a' := ?_) (bm 18 15) rfl rfl (by kernel_rfl) (fun _ _ _ h => h) (Or.inl ⟨by rfl, ?_⟩) ?_ ?_
   rotate_left
   ·intro w'
    go_simp
    with_reducible rfl
   rotate_left
   ·simp only [Act.put, List.setIfInBounds_toArray, List.set_cons_zero, List.set_cons_succ, zg, zh]
    rfl
   refine zl (i := 4) (N := some 17) (v := ?_) (a' := ?_) (bm 18 31) rfl rfl (by kernel_rfl) (fun _ _ _ h => h) (Or.inl ⟨by rfl, ?_⟩) ?_ ?_
   rotate_left
   ·intro w'
    go_simp
    with_reducible rfl
   rotate_left
   ·simp only [Act.put, List.setIfInBounds_toArray, List.set_cons_zero, List.set_cons_succ, zg, zh]
    rfl
   refine zl (i := 6) (N := some 19) (v := ?_) (a' := ?_) (bm 18 95) rfl rfl (by kernel_rfl) (fun _ _ _ h => h) (Or.inl ⟨by rfl, ?_⟩) ?_ ?_
   rotate_left
   ·intro w'
    go_simp
    with_reducible rfl
   rotate_left
   ·simp only [Act.put, List.setIfInBounds_toArray, List.set_cons_zero, List.set_cons_succ, zg, zh]
    rfl
   refine zl (i := 7) (N := some 20) (v := ?_) (a' := ?_) (bm 18 223) rfl rfl (by kernel_rfl) (fun _ _ _ h => h) (Or.inl ⟨by rfl, ?_⟩) ?_ ?_
   rotate_left
   ·intro w'
    go_simp
    with_reducible rfl
   rotate_left
   ·simp only [Act.put, List.setIfInBounds_toArray, List.set_cons_zero, List.set_cons_succ, zg, zh]
    rfl
   refine zl (i := 8) (N := some 21) (v := ?_) (a' := ?_) (bm 18 479) rfl rfl (by kernel_rfl) (fun _ _ _ h => h) (Or.inl ⟨by rfl, ?_⟩) ?_ ?_
   rotate_left
   ·intro w'
    go_simp
    with_reducible rfl
   rotate_left
   ·simp only [Act.put, List.setIfInBounds_toArray, List.set_cons_zero, List.set_cons_succ, zg, zh]
    rfl
   refine zl (i := 10) (N := some 23) (v := ?_) (a' := ?_) (bm 18 1503) rfl rfl (by kernel_rfl) (fun _ _ _ h => h) (Or.inl ⟨by rfl, ?_⟩) ?_ ?_
   rotate_left
   ·intro w'
    go_simp
    with_reducible rfl
   rotate_left
   ·simp only [Act.put, List.setIfInBounds_toArray, List.set_cons_zero, List.set_cons_succ, zg, zh]
    rfl
   refine zA (i := 5) (N := some 18) (v := ?_) (a' := ?_) (bm 18 1535) rfl rfl (by kernel_rfl) (fun _ _ _ h => h) (Or.inl ⟨by rfl, ?_⟩) hHeld ?_ ?_
   rotate_left
   ·rintro w' ⟨s0, s1⟩
    go_simp
    with_reducible rfl
   rotate_left
   ·simp only [Act.put, List.setIfInBounds_toArray, List.set_cons_zero, List.set_cons_succ, zg, zh]
    rfl
   refine zA (i := 9) (N := some 22) (v := ?_) (a' := ?_) (bm 18 2047) rfl rfl (by kernel_rfl) (fun _ _ _ h => h) (Or.inl ⟨by rfl, ?_⟩) hHeld ?_ ?_
   rotate_left
   ·rintro w' ⟨s0, s1⟩
    go_simp
    with_reducible rfl
   rotate_left
   ·simp only [Act.put, List.setIfInBounds_toArray, List.set_cons_zero, List.set_cons_succ, zg, zh]
    rfl
   refine yE (i := 11) (N := some 24) (bm 18 4095) rfl rfl (by kernel_rfl) (by decide) (fun K hK => ?_)
   refine xQ Try.func118 (by kernel_rfl) rfl #[.int .i64 x, .int .i64 k] (by rfl) rfl rfl (by simp only [List.map_toArray, List.map_cons, List.map_nil]; rfl) ?_
   with_reducible refine (wh.calls x k _ _ _ _ _ _ _ _ _ _ _ _ _ _ rfl).mono ?_
   rintro e wa ⟨v3, v8, v9, v10, rfl, r3, r8, r9, r10, hba⟩
   refine ⟨_, rfl, ?_⟩
   have HBa := zb.mk (show Below V.heap.size V wa from zi (ze (Below.refl _ _)) hba)
   have HNR := zb.mk (new_row (B := w0.heap.size) (k := k) (b := x) HR.out.hb.size r3 r8 r9 r10)
   have HOne := zb.mk (show True from trivial)
   obtain ⟨A3, c3, rfl⟩ := Kd.zJ r3
   obtain ⟨A8, c8, rfl⟩ := Kd.zJ r8
   obtain ⟨A9, c9, rfl⟩ := Kd.zJ r9
   obtain ⟨A10, c10, rfl⟩ := Kd.zJ r10
   have HRa := zb.mk (HR.out.below HBa.out)
   have ga3 := HRa.out.c3
   have xia := za HBa.out xi
   clear r3 r8 r9 r10 hba
   refine hK.out _ _ ⟨ga3, xia⟩ (fun hHeld => ?_)
   clear hK K
   refine zp (a' := ?_) ?_ ?_
   rotate_left
   ·show Act.put _ (some 24) _ = _
    simp only [Act.put, List.setIfInBounds_toArray, List.set_cons_zero, List.set_cons_succ, zg, zh]
    rfl
   refine yE (i := 12) (N := some 25) (bm 18 8191) rfl rfl (by kernel_rfl) (by decide) (fun K hK => ?_)
   refine zI (w1 := ?_) (v := ?_) (by rfl) rfl ?_ ?_
   rotate_left 2
   ·go_simp
    constructor
    ·rfl
    ·rfl
   refine hK.out _ _ ⟨(za (zc (Below.refl _ _) _) ga3), (za (zc (Below.refl _ _) _) xia)⟩ (fun hHeld => ?_)
   clear hK K
   refine zp (a' := ?_) ?_ ?_
   rotate_left
   ·show Act.put _ (some 25) _ = _
    simp only [Act.put, List.setIfInBounds_toArray, List.set_cons_zero, List.set_cons_succ, zg, zh]
    rfl
   refine yE (i := 13) (N := some 26) (bm 18 16383) rfl rfl (by kernel_rfl) (by decide) (fun K hK => ?_)
   refine Kd.xn kTG (w0 := wa) w0.heap.size (by rfl) (.tmp 18) (.tmp 25) 24 43 _ _ (by rfl) Try.underlying24 info43 (by rfl) (by decide) (by decide) (.slice AT T.length cT) T ⟨yp k x, .slice A3 3 c3, .slice A8 3 c8, .slice A9 0 c9, .slice A10 0 c10⟩ [.int .i64 x, .int .i64 0, .int .i64 k, .slice A3 3 c3, .int .i64 0, .int .i64 0, .int .i64 0, .int .i64 0, .slice A8 3 c8, .slice A9 0 c9, .slice A10 0 c10, .int .i64 0, .int .i64 0] (fun _ => True) (fun _ => False) (by rfl) (by first | rfl | (go_simp; done) | (simp; done)) ⟨rfl, by intro u hu; simp only [List.mem_cons, List.not_mem_nil, or_false] at hu; rcases hu with rfl | rfl | rfl | rfl | rfl | rfl | rfl | rfl | rfl | rfl | rfl | rfl | rfl <;> rfl⟩ (fun _ hk => hk.elim) (fun _ _ => trivial) HRa.out.V.rT (Below.refl _ _) HRa.out.hb.size (by have := HTL.out; omega) ?_
   intro vc wc hrc hbc hgc hatc
   have HRc := zb.mk hrc
   have HBc := zb.mk hbc
   have HGc := zb.mk hgc
   obtain ⟨Ac, cc, rfl⟩ := Kd.zJ hrc
   have HCB := zb.mk ((zK HRa.out.V.rT hgc g _ _ (by decide) HRa.out.blk).trans HRa.out.blk)
   have gc3 := (zd HCB.out 3).trans rfl
   have fC3 := zk HCB.out 3
   have xic := za (HRa.out.hb.trans HBc.out) XI0.out
   clear hrc hbc hgc hatc
   refine hK.out _ _ ⟨gc3, xic⟩ (fun hHeld => ?_)
   clear hK K
   refine zp (a' := ?_) ?_ ?_
   rotate_left
   ·show Act.put _ (some 26) _ = _
    simp only [Act.put, List.setIfInBounds_toArray, List.set_cons_zero, List.set_cons_succ, zg, zh]
    rfl
   refine zl (i := 14) (N := some 27) (v := ?_) (a' := ?_) (bm 18 32767) rfl rfl (by kernel_rfl) (fun _ _ _ h => h) (Or.inl ⟨by rfl, ?_⟩) ?_ ?_
   rotate_left
   ·intro w'
    go_simp
    with_reducible rfl
   rotate_left
   ·simp only [Act.put, List.setIfInBounds_toArray, List.set_cons_zero, List.set_cons_succ, zg, zh]
    rfl
   refine zl (i := 15) (N := some 28) (v := ?_) (a' := ?_) (bm 18 65535) rfl rfl (by kernel_rfl) (fun _ _ _ h => h) (Or.inl ⟨by rfl, ?_⟩) ?_ ?_
   rotate_left
   ·intro w'
    go_simp
    with_reducible rfl
   rotate_left
   ·simp only [Act.put, List.setIfInBounds_toArray, List.set_cons_zero, List.set_cons_succ, zg, zh]
    rfl
   refine zl (i := 16) (N := some 29) (v := ?_) (a' := ?_) (bm 18 131071) rfl rfl (by kernel_rfl) (fun _ _ _ h => h) (Or.inl ⟨by rfl, ?_⟩) ?_ ?_
   rotate_left
   ·intro w'
    go_simp
    with_reducible rfl
   rotate_left
   ·simp only [Act.put, List.setIfInBounds_toArray, List.set_cons_zero, List.set_cons_succ, zg, zh]
    rfl
   refine yR (i := 17) (N := none) (bm 18 262143) rfl rfl (by kernel_rfl) (by decide) (fun K hK => ?_)
   refine yQ (w1 := ?_) (by rfl) rfl ?_ ?_
   rotate_left
   ·go_simp
    rfl
   refine hK.out _ _ ?_
   clear hK K
   refine yt (by kernel_rfl) ?_
   go_wp2
   go_roundw
   case rel =>
    refine ⟨i + 1, _, rfl, by rw [EI.out], ⟨HLT.out⟩, ⟨?_⟩⟩
    have r := (HR.out.below HBa.out).taskput HBa.out.size HRc.out HGc.out HBc.out HNR.out.1 HNR.out.2.1 HNR.out.2.2
    have e : (σ.forked k (l.take (i + 1))).T = (T ++ [(⟨yp k x, .slice A3 3 c3, .slice A8 3 c8, .slice A9 0 c9, .slice A10 0 c10⟩ : TG)]).map TG.s := by
     rw [HF.out, List.map_append, HE.out]; rfl
    have r2 : zS w0 (wc.setCell ⟨g, 3, none⟩ (.slice Ac (T ++ [(⟨yp k x, .slice A3 3 c3, .slice A8 3 c8, .slice A9 0 c9, .slice A10 0 c10⟩ : TG)]).length cc)) g vp0 vp1 (σ.forked k (l.take (i + 1))) := ⟨_, _, _, _, _, r, e.symm⟩
    rw [List.length_append] at r2
    first | exact r2 | exact r2.below (ze (Below.refl _ _))
   case measure => rw [EI.out]; have := HLT.out; simp [intOf]; omega
  ·have cb : decide ((i : Int) < (l.length : Int)) = false := decide_eq_false (by omega)
   have cb2 : decide (i < l.length) = false := decide_eq_false hlt
   have e : l.take i = l := List.take_of_length_le (by omega)
   rw [e] at HS
   have L2 := zb.mk (show k < ((σ.forked k l).T.length : Int) by rw [xD]; have := H1.out; omega)
   clear hlt e
   obtain ⟨σ2, hσ2⟩ : ∃ σ2, σ2 = σ.forked k l := ⟨_, rfl⟩
   have HQ := zb.mk (show σ.fork k l = σ2.upd k fun t => { t with f4 := 1 } by rw [hσ2]; rfl)
   rw [← hσ2] at HS L2
   clear hσ2
   obtain ⟨gT, cap, T, vC, vL, HR, HE, HT, H1', a3, hc, hf, HB⟩ := HS.out.open1 k h0 L2.out
   have k4 := hc.out 4 _ rfl
   have z4 := hf.out 4
   have p1 : k < (σ2.T.length : Int) := L2.out
   go_wp2
   go_end0
   rw [HQ.out]
   exact ⟨rfl, ((show yL w0 V g V.heap.size vp0 vp1 gT cap σ2 from ⟨_, _, _, _, HR.out, HE.out⟩).num k h0 L2.out (fun t => { t with f4 := 1 }) 4 1 (by decide) (fun _ => rfl) (fun _ => rfl) (fun _ => rfl) (fun _ => rfl) (fun _ => rfl)).S⟩
end Go.Proofs.Ytppapibjbjmmbaa.QSY
set_option linter.unusedVariables false
set_option linter.unusedSimpArgs false
namespace Go.Proofs.Ytppapibjbjmmbaa.QSY
open Go.RowKit Go.Proofs.YtppapibjbjmmbaaW.PrintWords Go.Proofs.YtppapibjbjmmbaaW.PrintLast Go.Proofs.YtppapibjbjmmbaaW.PrintMore
def In (n : Int) (x : Int) : Prop := 0 ≤ x ∧ x < n
structure DeedWF (nC : Nat) (d : yO) : Prop where
 k : 1 ≤ d.f0 ∧ d.f0 ≤ 5
 a : d.f0 ≠ 2 → In 3 d.f1
 l : d.f0 = 1 → In nC d.f2
 s : d.f0 = 2 → In nC d.f1 ∧ In 3 d.f2
 n : d.f0 = 3 → In 100 d.f2
 d : d.f0 = 4 → In 3 d.f2
structure ActWF (n nC : Nat) (a : zO) : Prop where
 d : a.f0 = 1 → a.f1.length ≤ 500 ∧ ∀ d ∈ a.f1, DeedWF nC d
 k : a.f0 = 2 → a.f2.length ≤ 2 ∧ ∀ x ∈ a.f2, In n x
 r : a.f0 ≠ 1 → a.f0 ≠ 2 → a.f0 ≠ 3 → In 3 a.f3
structure PWF (Bs : List (List zO)) (nC : Nat) : Prop where
 a : ∀ b : Int, 0 ≤ b → b < (Bs.length : Int) → (bd Bs b).length ≤ 500 ∧ ∀ a ∈ bd Bs b, ActWF Bs.length nC a
def xV (nC : Nat) (l : List S45) : Prop := l.length ≤ 1000 ∧ ∀ p ∈ l, In nC p.f0 ∧ In 100 p.f1
def RegsOk (l : List Int) : Prop := l.length = 3 ∧ ∀ x ∈ l, In 100 x
structure TI (Bs : List (List zO)) (nC : Nat) (clk : Int) (nL : Nat) (k : Int) (t : S43) : Prop where
 b : 0 ≤ t.f0 ∧ t.f0 < Bs.length
 pc : 0 ≤ t.f1 ∧ t.f1 ≤ (bd Bs t.f0).length
 up : -1 ≤ t.f2 ∧ t.f2 < k
 r3 : RegsOk t.f3
 r8 : RegsOk t.f8
 w : 0 ≤ t.f4 ∧ t.f4 ≤ 4
 s : 0 ≤ t.f5 ∧ t.f5 ≤ 5
 p9 : xV nC t.f9
 p10 : xV nC t.f10
 run : t.f5 ≠ 0 → t.f4 = 0 ∧ t.f1 < (bd Bs t.f0).length ∧ (yH Bs t).f0 = 1
 wait : t.f4 = 1 → t.f1 < (bd Bs t.f0).length
 a : 0 ≤ t.f6 ∧ t.f6 ≤ 1000
 s0 : t.f5 = 0 → t.f9.length = 0 ∧ t.f10.length = 0
 s1 : t.f5 = 1 → t.f6 ≤ (yH Bs t).f1.length ∧ t.f9.length ≤ t.f6 ∧ t.f10.length ≤ t.f6
 s2 : t.f5 = 2 ∨ t.f5 = 5 → t.f6 < t.f10.length
 s34 : t.f5 = 3 ∨ t.f5 = 4 → 0 < t.f10.length
 s7 : 0 ≤ t.f7 ∧ t.f7 ≤ clk
 s11 : 0 ≤ t.f11 ∧ t.f11 ≤ clk + 1
 s12 : 0 ≤ t.f12 ∧ t.f12 ≤ nL
structure EntOk (nC nT : Nat) (e : S50) : Prop where
 t : In nT e.f0
 a : 0 ≤ e.f1 ∧ e.f1 ≤ 1000
 w : 0 ≤ e.f2 ∧ e.f2 ≤ 1000
 r : xV nC e.f3
 p : xV nC e.f4
 f : 0 ≤ e.f5 ∧ e.f5 ≤ 2000000
def xP : List S43 → Int
 | [] => 0
 | t :: l => t.f1 + xP l
theorem sumPc_append (a b : List S43) : xP (a ++ b) = xP a + xP b := by
 induction a with
 | nil => simp [xP]
 | cons x a ih => simp only [List.cons_append, xP, ih]; omega
theorem sumPc_set : ∀ (T : List S43) (i : Nat) (t : S43), i < T.length → xP (T.set i t) = xP T - (T.getD i z43).f1 + t.f1
 | [], i, t, h => absurd h (by simp)
 | x :: T, 0, t, h => by simp only [List.set_cons_zero, xP, List.getD_cons_zero]; omega
 | x :: T, i + 1, t, h => by
  simp only [List.set_cons_succ, xP, List.getD_cons_succ]
  rw [sumPc_set T i t (by simpa using h)]; omega
theorem sumPc_le {m : Int} : ∀ (T : List S43), (∀ t ∈ T, t.f1 ≤ m) → xP T ≤ T.length * m
 | [], _ => by simp [xP]
 | x :: T, h => by
  have h1 := h x (List.mem_cons_self ..)
  have h2 := sumPc_le T (fun t ht => h t (List.mem_cons_of_mem _ ht))
  simp only [xP, List.length_cons, Int.natCast_add, Int.natCast_one, Int.add_mul, Int.one_mul]
  omega
structure Inv (Bs : List (List zO)) (nC : Nat) (σ : St) : Prop where
 p : PWF Bs nC
 c : 0 ≤ σ.clk ∧ σ.clk ≤ 200
 n : σ.C.length = nC
 cells : ∀ c ∈ σ.C, In 100 c.f0
 t : ∀ k : Int, 0 ≤ k → k < (σ.T.length : Int) → TI Bs nC σ.clk σ.L.length k (σ.t k)
 l : (σ.L.length : Int) ≤ xP σ.T
 ents : ∀ e ∈ σ.L, EntOk nC σ.T.length e
 len : σ.T.length ≤ 2500
 pos : 0 < σ.T.length
section
variable {Bs : List (List zO)} {nC : Nat} {σ : St} {k : Int}
theorem xV.nil (nC : Nat) : xV nC [] := ⟨Nat.zero_le _, fun _ h => absurd h (by simp)⟩
theorem TI.mono {clk clk' : Int} {nL nL' : Nat} {t : S43} (h : TI Bs nC clk nL k t) (h1 : clk ≤ clk') (h2 : nL ≤ nL') : TI Bs nC clk' nL' k t :=
 { h with s7 := by have := h.s7; omega, s11 := by have := h.s11; omega, s12 := by have := h.s12; omega }
theorem St.t_upd (σ : St) (k j : Int) (f : S43 → S43) (h0 : 0 ≤ k) (h1 : k < σ.T.length) (j0 : 0 ≤ j) : (σ.upd k f).t j = if j = k then f (σ.t k) else σ.t j := by
 unfold St.upd
 split
 ·rename_i e; subst e; exact St.t_set h0 h1
 ·rename_i e
  unfold St.t St.set
  rw [List.getD_eq_getElem?_getD, List.getElem?_set_ne (by omega), ← List.getD_eq_getElem?_getD]
theorem St.upd_upd (σ : St) (k : Int) (f g : S43 → S43) : (σ.upd k f).upd k g = σ.upd k (fun t => g (f t)) := by
 by_cases h : k.toNat < σ.T.length
 ·unfold St.upd St.set St.t
  simp only [List.getD_eq_getElem?_getD, List.getElem?_set_self h, List.set_set, Option.getD_some]
 ·unfold St.upd St.set
  simp only [List.set_eq_of_length_le (show σ.T.length ≤ k.toNat by omega)]
theorem Inv.gen (h : Inv Bs nC σ) (h0 : 0 ≤ k) (h1 : k < σ.T.length) (f : S43 → S43) (C' : List S33) (clk' : Int) (L' : List S50) (hC : C'.length = nC ∧ ∀ c ∈ C', In 100 c.f0) (hc : σ.clk ≤ clk' ∧ clk' ≤ 200)
  (hL : σ.L.length ≤ L'.length) (hp : (L'.length : Int) - σ.L.length ≤ (f (σ.t k)).f1 - (σ.t k).f1) (he : ∀ e ∈ L', EntOk nC σ.T.length e) (ht : TI Bs nC clk' L'.length k (f (σ.t k))) : Inv Bs nC (({ σ with C := C', clk := clk', L := L' } : St).upd k f) where
 p := h.p
 c := by have := h.c; exact ⟨by show 0 ≤ clk'; omega, hc.2⟩
 n := hC.1
 cells := hC.2
 t := fun j j0 j1 => by
  rw [St.t_upd ({ σ with C := C', clk := clk', L := L' } : St) k j f h0 h1 j0]
  split
  ·rename_i e; subst e; exact ht
  ·exact (h.t j j0 (by rw [St.len_upd] at j1; exact j1)).mono hc.1 hL
 l := by
  have e : xP (({ σ with C := C', clk := clk', L := L' } : St).upd k f).T = xP σ.T - (σ.t k).f1 + (f (σ.t k)).f1 := sumPc_set σ.T k.toNat _ (by omega)
  rw [e]
  have := h.l
  show (L'.length : Int) ≤ _
  omega
 ents := fun e he' => by rw [St.len_upd]; exact he e he'
 len := by rw [St.len_upd]; exact h.len
 pos := by rw [St.len_upd]; exact h.pos
theorem Inv.upd (h : Inv Bs nC σ) (h0 : 0 ≤ k) (h1 : k < σ.T.length) (f : S43 → S43) (ht : TI Bs nC σ.clk σ.L.length k (f (σ.t k))) (hp : (σ.t k).f1 ≤ (f (σ.t k)).f1) : Inv Bs nC (σ.upd k f) :=
 h.gen h0 h1 f σ.C σ.clk σ.L ⟨h.n, h.cells⟩ ⟨Int.le_refl _, h.c.2⟩ (Nat.le_refl _) (by omega) h.ents ht
theorem Inv.len_le (h : Inv Bs nC σ) : σ.L.length ≤ 1000000000 := by
 have h1 := sumPc_le (m := 500) σ.T (fun t ht => by
  obtain ⟨i, hi, e⟩ := List.getElem_of_mem ht
  have q := h.t (i : Int) (by omega) (by omega)
  have e2 : σ.t (i : Int) = t := by unfold St.t; rw [Int.toNat_natCast, List.getD_eq_getElem?_getD, List.getElem?_eq_getElem hi, e]; rfl
  rw [e2] at q
  have h2 := q.pc
  have h3 := (h.p.a t.f0 q.b.1 q.b.2).1
  omega)
 have h2 := h.l
 have h3 := h.len
 have h4 : (σ.T.length : Int) * 500 ≤ 2500 * 500 := Int.mul_le_mul_of_nonneg_right (by omega) (by decide)
 omega
theorem Inv.stage (h : Inv Bs nC σ) (h0 : 0 ≤ k) (h1 : k < σ.T.length) (x : Int) (ht : TI Bs nC σ.clk σ.L.length k { σ.t k with f5 := x, f6 := 0 }) : Inv Bs nC (σ.stage k x) := by
 unfold St.stage
 rw [St.upd_upd]
 exact h.upd h0 h1 _ ht (Int.le_refl _)
theorem xC {α : Type} {l : List α} {i : Nat} {d : α} (h : i < l.length) : l.getD i d ∈ l := by
 rw [List.getD_eq_getElem?_getD, List.getElem?_eq_getElem h]
 exact List.getElem_mem h
theorem putAt_ok {l : List S45} {i : Int} (h : xV nC l) (h0 : 0 ≤ i) (h1 : i < l.length) : In nC (putAt l i).f0 ∧ In 100 (putAt l i).f1 := h.2 _ (xC (by omega))
theorem letGo_f0 (k : Int) (c : S33) : (letGo k c).f0 = c.f0 := by unfold letGo; split <;> rfl
theorem again_eq (σ : St) (k : Int) (h0 : 0 ≤ k) (h1 : k < σ.T.length) : σ.again k = ({ σ with C := σ.C.map (letGo k), clk := σ.clk, L := σ.L } : St).upd k (fun t => { t with f3 := t.f8, f9 := [], f10 := [], f11 := 0, f5 := 0, f6 := 0 }) := by
 unfold St.again St.stage St.free
 rw [St.upd_upd, St.upd_upd, St.upd_upd, St.upd_upd, St.upd_upd]
theorem Inv.again (h : Inv Bs nC σ) (h0 : 0 ≤ k) (h1 : k < σ.T.length) : Inv Bs nC (σ.again k) := by
 rw [again_eq σ k h0 h1]
 have q := h.t k h0 h1
 have hc := h.c
 refine h.gen h0 h1 _ _ _ _ ⟨by rw [List.length_map]; exact h.n, fun c hc => ?_⟩ ⟨Int.le_refl _, h.c.2⟩ (Nat.le_refl _) (by simp) h.ents { q with r3 := q.r8, p9 := xV.nil _, p10 := xV.nil _, s := ⟨show (0 : Int) ≤ 0 by decide, show (0 : Int) ≤ 5 by decide⟩, s0 := fun _ => ⟨rfl, rfl⟩, s1 := fun e => absurd e (show ¬ ((0 : Int) = 1) by decide), s2 := fun e => absurd e (show ¬ ((0 : Int) = 2 ∨ (0 : Int) = 5) by decide), s34 := fun e => absurd e (show ¬ ((0 : Int) = 3 ∨ (0 : Int) = 4) by decide), run := fun e => absurd rfl e, a := ⟨Int.le_refl (0 : Int), show (0 : Int) ≤ 1000 by decide⟩, s11 := ⟨Int.le_refl _, by show (0 : Int) ≤ σ.clk + 1; omega⟩ }
 obtain ⟨c', hc', rfl⟩ := List.mem_map.1 hc
 rw [letGo_f0]; exact h.cells c' hc'
theorem end_eq (σ : St) (k when_ : Int) (h0 : 0 ≤ k) (h1 : k < σ.T.length) : σ.end_ k when_ = ({ σ with C := σ.C, clk := σ.clk, L := σ.L ++ [σ.entry k when_] } : St).upd k (fun t => { t with f1 := t.f1 + 1, f9 := [], f10 := [], f7 := 0, f11 := 0, f12 := 0, f5 := 0, f6 := 0 }) := by
 unfold St.end_ St.stage St.logged
 rw [St.upd_upd, St.upd_upd, St.upd_upd, St.upd_upd, St.upd_upd, St.upd_upd, St.upd_upd]
theorem Inv.end_ (h : Inv Bs nC σ) (h0 : 0 ≤ k) (h1 : k < σ.T.length) (when_ : Int) (hw : 0 ≤ when_ ∧ when_ ≤ 1000) (hpc : (σ.t k).f1 < (bd Bs (σ.t k).f0).length) (h4 : (σ.t k).f4 = 0) : Inv Bs nC (σ.end_ k when_) := by
 rw [end_eq σ k when_ h0 h1]
 have q := h.t k h0 h1
 have hc := h.c
 have hl := (h.p.a _ q.b.1 q.b.2).1
 have hL := h.len
 have hL2 := h.l
 have h500 := sumPc_le (m := 500) σ.T (fun t ht => by
  obtain ⟨i, hi, e⟩ := List.getElem_of_mem ht
  have q := h.t (i : Int) (by omega) (by omega)
  have e2 : σ.t (i : Int) = t := by unfold St.t; rw [Int.toNat_natCast, List.getD_eq_getElem?_getD, List.getElem?_eq_getElem hi, e]; rfl
  rw [e2] at q
  have h2 := q.pc
  have h3 := (h.p.a t.f0 q.b.1 q.b.2).1
  omega)
 have hL3 : σ.L.length ≤ 1250000 := by omega
 refine h.gen h0 h1 _ _ _ _ ⟨h.n, h.cells⟩ ⟨Int.le_refl _, h.c.2⟩ (by simp) (by simp; omega) (fun e he => ?_) { q with pc := ⟨show 0 ≤ (σ.t k).f1 + 1 by have := q.pc.1; omega, show (σ.t k).f1 + 1 ≤ ((bd Bs (σ.t k).f0).length : Int) by omega⟩, p9 := xV.nil _, p10 := xV.nil _, s := ⟨show (0 : Int) ≤ 0 by decide, show (0 : Int) ≤ 5 by decide⟩, s0 := fun _ => ⟨rfl, rfl⟩, s1 := fun e => absurd e (show ¬ ((0 : Int) = 1) by decide), s2 := fun e => absurd e (show ¬ ((0 : Int) = 2 ∨ (0 : Int) = 5) by decide), s34 := fun e => absurd e (show ¬ ((0 : Int) = 3 ∨ (0 : Int) = 4) by decide), run := fun e => absurd rfl e, a := ⟨Int.le_refl (0 : Int), show (0 : Int) ≤ 1000 by decide⟩, wait := fun e => absurd (h4.symm.trans e) (by decide), s7 := ⟨Int.le_refl _, hc.1⟩, s11 := ⟨Int.le_refl _, by show (0 : Int) ≤ σ.clk + 1; omega⟩, s12 := ⟨Int.le_refl _, by show (0 : Int) ≤ _; omega⟩ }
 rcases List.mem_append.1 he with he | he
 ·exact h.ents e he
 ·rw [List.mem_singleton.1 he]
  exact ⟨⟨h0, h1⟩, ⟨q.pc.1, by show (σ.t k).f1 ≤ 1000; omega⟩, hw, q.p9, q.p10, by have := q.s12; show 0 ≤ (σ.t k).f12 ∧ (σ.t k).f12 ≤ 2000000; omega⟩
theorem begin_eq (σ : St) (k : Int) (h0 : 0 ≤ k) (h1 : k < σ.T.length) : σ.begin k = σ.upd k (fun t => { t with f7 := σ.clk, f8 := t.f3, f12 := σ.L.length, f11 := 0, f5 := 1, f6 := 0 }) := by
 unfold St.begin St.stage
 rw [St.upd_upd, St.upd_upd]
theorem Inv.begin (h : Inv Bs nC σ) (h0 : 0 ≤ k) (h1 : k < σ.T.length) (hs : (σ.t k).f5 = 0) (hr : (σ.t k).f4 = 0 ∧ (σ.t k).f1 < (bd Bs (σ.t k).f0).length ∧ (yH Bs (σ.t k)).f0 = 1) : Inv Bs nC (σ.begin k) := by
 rw [begin_eq σ k h0 h1]
 have q := h.t k h0 h1
 have hc := h.c
 have h9 := q.s0 hs
 refine h.upd h0 h1 _ { q with r8 := q.r3, s := ⟨show (0 : Int) ≤ 1 by decide, show (1 : Int) ≤ 5 by decide⟩, s0 := fun e => absurd e (show ¬ ((1 : Int) = 0) by decide), s1 := fun _ => ⟨show (0 : Int) ≤ ((yH Bs (σ.t k)).f1.length : Int) by omega, show ((σ.t k).f9.length : Int) ≤ 0 by omega, show ((σ.t k).f10.length : Int) ≤ 0 by omega⟩, s2 := fun e => absurd e (show ¬ ((1 : Int) = 2 ∨ (1 : Int) = 5) by decide), s34 := fun e => absurd e (show ¬ ((1 : Int) = 3 ∨ (1 : Int) = 4) by decide), run := fun _ => hr, a := ⟨Int.le_refl (0 : Int), show (0 : Int) ≤ 1000 by decide⟩, s7 := ⟨hc.1, Int.le_refl _⟩, s11 := ⟨Int.le_refl _, by show (0 : Int) ≤ σ.clk + 1; omega⟩, s12 := ⟨by show (0 : Int) ≤ (σ.L.length : Int); omega, Int.le_refl _⟩ } (Int.le_refl _)
end
end Go.Proofs.Ytppapibjbjmmbaa.QSY
set_option linter.unusedVariables false
set_option linter.unusedSimpArgs false
namespace Go.Proofs.Ytppapibjbjmmbaa.QSY
open Go.RowKit Go.Proofs.YtppapibjbjmmbaaW.PrintWords Go.Proofs.YtppapibjbjmmbaaW.PrintLast Go.Proofs.YtppapibjbjmmbaaW.PrintMore
section
variable {Bs : List (List zO)} {nC : Nat} {σ : St} {k : Int}
theorem act_wf (h : Inv Bs nC σ) (h0 : 0 ≤ k) (h1 : k < σ.T.length) (hlt : (σ.t k).f1 < (bd Bs (σ.t k).f0).length) : ActWF Bs.length nC (yH Bs (σ.t k)) := by
 have q := h.t k h0 h1
 have h2 := q.pc.1
 exact (h.p.a _ q.b.1 q.b.2).2 _ (xC (by omega))
theorem Inv.s1 (h : Inv Bs nC σ) (h0 : 0 ≤ k) (h1 : k < σ.T.length) (hs : (σ.t k).f5 = 1) (hlt : (σ.t k).f6 < (yH Bs (σ.t k)).f1.length) (f : S43 → S43) (r : List Int) (p u : List S45)
  (hf : f (σ.t k) = { σ.t k with f3 := r, f9 := p, f10 := u, f6 := (σ.t k).f6 + 1 }) (hr : RegsOk r) (hp : ∀ x ∈ p, In nC x.f0 ∧ In 100 x.f1) (lp : p.length ≤ (σ.t k).f6 + 1) (hu : ∀ x ∈ u, In nC x.f0 ∧ In 100 x.f1) (lu : u.length ≤ (σ.t k).f6 + 1) : Inv Bs nC (σ.upd k f) := by
 have q := h.t k h0 h1
 have hw := ((act_wf h h0 h1 (q.run (by omega)).2.1).d (q.run (by omega)).2.2).1
 have ha := q.a
 refine h.upd h0 h1 f ?_ (by rw [hf]; exact Int.le_refl _)
 rw [hf]
 exact { q with r3 := hr, p9 := ⟨show p.length ≤ 1000 by omega, hp⟩, p10 := ⟨show u.length ≤ 1000 by omega, hu⟩, a := ⟨show 0 ≤ (σ.t k).f6 + 1 by omega, show (σ.t k).f6 + 1 ≤ 1000 by omega⟩, s0 := fun e => absurd (hs.symm.trans e) (by decide), s1 := fun _ => ⟨show (σ.t k).f6 + 1 ≤ ((yH Bs (σ.t k)).f1.length : Int) by omega, lp, lu⟩, s2 := fun e => absurd e (show ¬ ((σ.t k).f5 = 2 ∨ (σ.t k).f5 = 5) by omega), s34 := fun e => absurd e (show ¬ ((σ.t k).f5 = 3 ∨ (σ.t k).f5 = 4) by omega) }
theorem regs_set {l : List Int} (h : RegsOk l) (i : Nat) {x : Int} (hx : In 100 x) : RegsOk (l.set i x) := ⟨by rw [List.length_set]; exact h.1, fun y hy => (List.mem_or_eq_of_mem_set hy).elim (h.2 y) (fun e => e ▸ hx)⟩
theorem regs_rd {l : List Int} (h : RegsOk l) {i : Int} (hi : In 3 i) : In 100 (rd l i) := h.2 _ (xC (by have := h.1; have := hi.1; have := hi.2; omega))
theorem cell_ok (h : Inv Bs nC σ) {c : Int} (hc : In nC c) : In 100 (cg σ.C c).f0 := h.cells _ (xC (by have := h.n; have := hc.1; have := hc.2; omega))
theorem Inv.load (h : Inv Bs nC σ) (h0 : 0 ≤ k) (h1 : k < σ.T.length) (hs : (σ.t k).f5 = 1) (hlt : (σ.t k).f6 < (yH Bs (σ.t k)).f1.length) (dA dB : Int) (hA : In 3 dA) (hB : In nC dB) : Inv Bs nC (σ.load k dA dB) := by
 have q := h.t k h0 h1
 have s1 := q.s1 hs
 unfold St.load
 split
 ·rename_i hf
  have hx : In 100 (putAt (σ.t k).f10 (xk (σ.t k).f10 dB)).f1 := by
   rcases findF_ok (σ.t k).f10 dB with e | ⟨a, b, _⟩
   ·omega
   ·exact (putAt_ok q.p10 a b).2
  unfold St.reg St.next
  rw [St.upd_upd]
  exact h.s1 h0 h1 hs hlt _ _ (σ.t k).f9 (σ.t k).f10 rfl (regs_set q.r3 _ hx) q.p9.2 (by omega) q.p10.2 (by omega)
 ·split
  ·exact h.again h0 h1
  ·have hx := cell_ok h hB
   unfold St.reg St.next
   rw [St.upd_upd, St.upd_upd]
   refine h.s1 h0 h1 hs hlt _ _ (xG ⟨dB, (cg σ.C dB).f0⟩ (σ.t k).f9 false) (σ.t k).f10 rfl (regs_set q.r3 _ hx) (fun p hp => ?_) ?_ q.p10.2 (by omega)
   ·rcases addF_mem _ _ _ p hp with e | e
    ·rw [e]; exact ⟨hB, hx⟩
    ·exact q.p9.2 p e
   ·have := addF_len (⟨dB, (cg σ.C dB).f0⟩ : S45) (σ.t k).f9 false
    simp at this
    omega
theorem regF_ok {l : List Int} {d : yO} (h : RegsOk l) (hd : DeedWF nC d) (hk : ¬ d.f0 = 1 ∧ ¬ d.f0 = 2 ∧ ¬ d.f0 = 5) : (ye.f l d.f0 d.f1 d.f2).isSome = true ∧ RegsOk (regF l d) := by
 obtain ⟨h1, h2, h5⟩ := hk
 have ha := hd.a h2
 have hl := h.1
 have a0 := ha.1
 have a1 := ha.2
 have kk := hd.k
 rcases (show d.f0 = 3 ∨ d.f0 = 4 by omega) with e | e
 ·have hv : ye.f l d.f0 d.f1 d.f2 = some (l.set d.f1.toNat d.f2) := by
   unfold ye.f
   rw [if_pos e, if_pos ha.1, if_pos (by omega)]
  unfold regF
  rw [hv]
  exact ⟨rfl, regs_set h _ (hd.n e)⟩
 ·have hb := hd.d e
  have hb0 := hb.1
  have hb1 := hb.2
  have hv : ye.f l d.f0 d.f1 d.f2 = some (l.set d.f1.toNat (Int.tmod (wrap64 ((rd l d.f1) + (rd l d.f2))) 100)) := by
   unfold ye.f
   rw [if_neg (by omega), if_pos e, if_pos ha.1, if_pos (by omega), if_pos hb.1, if_pos (by omega)]
  unfold regF
  rw [hv]
  have x := regs_rd h ha
  have y := regs_rd h hb
  have x0 := x.1
  have x1 := x.2
  have y0 := y.1
  have y1 := y.2
  refine ⟨rfl, regs_set h _ ?_⟩
  rw [yN (by omega) (by omega)]
  exact ⟨Int.tmod_nonneg _ (by omega), Int.tmod_lt_of_pos _ (by decide)⟩
theorem Inv.deedOk (h : Inv Bs nC σ) (h0 : 0 ≤ k) (h1 : k < σ.T.length) (hs : (σ.t k).f5 = 1) (hlt : ¬ ((yH Bs (σ.t k)).f1.length : Int) ≤ (σ.t k).f6) : DeedWF nC (zx (yH Bs (σ.t k)).f1 (σ.t k).f6) ∧ deedOk σ k (zx (yH Bs (σ.t k)).f1 (σ.t k).f6) := by
 have q := h.t k h0 h1
 have hw := ((act_wf h h0 h1 (q.run (by omega)).2.1).d (q.run (by omega)).2.2).2
 have ha := q.a
 have hd : DeedWF nC (zx (yH Bs (σ.t k)).f1 (σ.t k).f6) := hw _ (xC (d := z113) (i := (σ.t k).f6.toNat) (by omega))
 have hl := q.r3.1
 have hn := h.n
 refine ⟨hd, fun e => ?_, fun e => ?_, fun e => ?_, fun e => ?_⟩
 ·have a := hd.a (by omega)
  have b := hd.l e
  exact ⟨⟨a.1, by have := a.2; omega⟩, ⟨b.1, by have := b.2; omega⟩⟩
 ·have b := (hd.s e).2
  exact ⟨b.1, by have := b.2; omega⟩
 ·have a := hd.a (by omega)
  exact ⟨a.1, by have := a.2; omega⟩
 ·exact ⟨by omega, (regF_ok q.r3 hd e).1⟩
theorem need_eq (σ : St) (k : Int) (h0 : 0 ≤ k) (h1 : k < σ.T.length) (n : Int) : ((σ.again k).upd k fun t => { t with f11 := n }) = ({ σ with C := σ.C.map (letGo k), clk := σ.clk, L := σ.L } : St).upd k (fun t => { t with f3 := t.f8, f9 := [], f10 := [], f11 := n, f5 := 0, f6 := 0 }) := by
 rw [again_eq σ k h0 h1, St.upd_upd]
theorem Inv.need (h : Inv Bs nC σ) (h0 : 0 ≤ k) (h1 : k < σ.T.length) (n : Int) (hn : 0 ≤ n ∧ n ≤ σ.clk + 1) : Inv Bs nC ((σ.again k).upd k fun t => { t with f11 := n }) := by
 rw [need_eq σ k h0 h1]
 have q := h.t k h0 h1
 have hc := h.c
 refine h.gen h0 h1 _ _ _ _ ⟨by rw [List.length_map]; exact h.n, fun c hc => ?_⟩ ⟨Int.le_refl _, h.c.2⟩ (Nat.le_refl _) (by simp) h.ents { q with r3 := q.r8, p9 := xV.nil _, p10 := xV.nil _, s := ⟨show (0 : Int) ≤ 0 by decide, show (0 : Int) ≤ 5 by decide⟩, s0 := fun _ => ⟨rfl, rfl⟩, s1 := fun e => absurd e (show ¬ ((0 : Int) = 1) by decide), s2 := fun e => absurd e (show ¬ ((0 : Int) = 2 ∨ (0 : Int) = 5) by decide), s34 := fun e => absurd e (show ¬ ((0 : Int) = 3 ∨ (0 : Int) = 4) by decide), run := fun e => absurd rfl e, a := ⟨Int.le_refl (0 : Int), show (0 : Int) ≤ 1000 by decide⟩, s11 := hn }
 obtain ⟨c', hc', rfl⟩ := List.mem_map.1 hc
 rw [letGo_f0]; exact h.cells c' hc'
theorem Inv.toStage2 (h : Inv Bs nC σ) (h0 : 0 ≤ k) (h1 : k < σ.T.length) (hs : (σ.t k).f5 = 1) (hl : ¬ (σ.t k).f10.length = 0) : Inv Bs nC (σ.stage k 2) := by
 have q := h.t k h0 h1
 exact h.stage h0 h1 2 { q with s := ⟨show (0 : Int) ≤ 2 by decide, show (2 : Int) ≤ 5 by decide⟩, s0 := fun e => absurd e (show ¬ ((2 : Int) = 0) by decide), s1 := fun e => absurd e (show ¬ ((2 : Int) = 1) by decide), s2 := fun _ => show (0 : Int) < ((σ.t k).f10.length : Int) by omega, s34 := fun e => absurd e (show ¬ ((2 : Int) = 3 ∨ (2 : Int) = 4) by decide), a := ⟨Int.le_refl (0 : Int), show (0 : Int) ≤ 1000 by decide⟩, run := fun _ => q.run (by omega) }
theorem Inv.deed (h : Inv Bs nC σ) (h0 : 0 ≤ k) (h1 : k < σ.T.length) (hs : (σ.t k).f5 = 1) : Inv Bs nC (σ.deed k (yH Bs (σ.t k)).f1) := by
 have q := h.t k h0 h1
 have s1 := q.s1 hs
 have hc := h.c
 have h7 := q.s7
 unfold St.deed
 split
 ·split
  ·exact h.end_ h0 h1 _ ⟨h7.1, by omega⟩ (q.run (by omega)).2.1 (q.run (by omega)).1
  ·rename_i e; exact h.toStage2 h0 h1 hs e
 ·rename_i hlt
  have hl : (σ.t k).f6 < (yH Bs (σ.t k)).f1.length := by omega
  obtain ⟨hd, _⟩ := h.deedOk h0 h1 hs hlt
  split
  ·rename_i e; exact h.load h0 h1 hs hl _ _ (hd.a (by omega)) (hd.l e)
  ·split
   ·rename_i e
    unfold St.next
    rw [St.upd_upd]
    refine h.s1 h0 h1 hs hl _ (σ.t k).f3 (σ.t k).f9 (xG ⟨(zx (yH Bs (σ.t k)).f1 (σ.t k).f6).f1, rd (σ.t k).f3 (zx (yH Bs (σ.t k)).f1 (σ.t k).f6).f2⟩ (σ.t k).f10 false) rfl q.r3 q.p9.2 (by omega) (fun p hp => ?_) ?_
    ·rcases addF_mem _ _ _ p hp with e' | e'
     ·rw [e']; exact ⟨(hd.s e).1, regs_rd q.r3 (hd.s e).2⟩
     ·exact q.p10.2 p e'
    ·have := addF_len (⟨(zx (yH Bs (σ.t k)).f1 (σ.t k).f6).f1, rd (σ.t k).f3 (zx (yH Bs (σ.t k)).f1 (σ.t k).f6).f2⟩ : S45) (σ.t k).f10 false
     simp at this
     omega
   ·split
    ·split
     ·exact h.need h0 h1 _ ⟨by omega, by omega⟩
     ·exact h.s1 h0 h1 hs hl _ (σ.t k).f3 (σ.t k).f9 (σ.t k).f10 rfl q.r3 q.p9.2 (by omega) q.p10.2 (by omega)
    ·rename_i e1 e2 e5
     unfold St.next
     rw [St.upd_upd]
     exact h.s1 h0 h1 hs hl _ _ (σ.t k).f9 (σ.t k).f10 rfl (regF_ok q.r3 hd ⟨e1, e2, e5⟩).2 q.p9.2 (by omega) q.p10.2 (by omega)
end
end Go.Proofs.Ytppapibjbjmmbaa.QSY
set_option linter.unusedVariables false
set_option linter.unusedSimpArgs false
namespace Go.Proofs.Ytppapibjbjmmbaa.QSY
open Go.RowKit Go.Proofs.YtppapibjbjmmbaaW.PrintWords Go.Proofs.YtppapibjbjmmbaaW.PrintLast Go.Proofs.YtppapibjbjmmbaaW.PrintMore
section
variable {Bs : List (List zO)} {nC : Nat} {σ : St} {k : Int}
theorem Inv.setC (h : Inv Bs nC σ) (i : Nat) (c : S33) (hc : In 100 c.f0) : (σ.C.set i c).length = nC ∧ ∀ x ∈ σ.C.set i c, In 100 x.f0 :=
 ⟨by rw [List.length_set]; exact h.n, fun x hx => (List.mem_or_eq_of_mem_set hx).elim (h.cells x) (fun e => by rw [e]; exact hc)⟩
theorem Inv.lock (h : Inv Bs nC σ) (h0 : 0 ≤ k) (h1 : k < σ.T.length) (hs : (σ.t k).f5 = 2) : Inv Bs nC (σ.lock k) := by
 have q := h.t k h0 h1
 have s2 := q.s2 (.inl hs)
 have ha := q.a
 have hp := (putAt_ok q.p10 ha.1 s2).1
 have hC := h.setC (putAt (σ.t k).f10 (σ.t k).f6).f0.toNat { cg σ.C (putAt (σ.t k).f10 (σ.t k).f6).f0 with f2 := k } (cell_ok h hp)
 unfold St.lock
 split
 ·exact h.again h0 h1
 ·split
  ·have e : ((σ.held k (putAt (σ.t k).f10 (σ.t k).f6).f0).next k (σ.t k).f6).stage k 3 = ({ σ with C := σ.C.set (putAt (σ.t k).f10 (σ.t k).f6).f0.toNat { cg σ.C (putAt (σ.t k).f10 (σ.t k).f6).f0 with f2 := k }, clk := σ.clk, L := σ.L } : St).upd k (fun t => { t with f5 := 3, f6 := 0 }) := by
    unfold St.stage St.next
    rw [St.upd_upd, St.upd_upd]; rfl
   rw [e]
   exact h.gen h0 h1 _ _ _ _ hC ⟨Int.le_refl _, h.c.2⟩ (Nat.le_refl _) (by simp) h.ents { q with s := ⟨show (0 : Int) ≤ 3 by decide, show (3 : Int) ≤ 5 by decide⟩, s0 := fun e => absurd e (show ¬ ((3 : Int) = 0) by decide), s1 := fun e => absurd e (show ¬ ((3 : Int) = 1) by decide), s2 := fun e => absurd e (show ¬ ((3 : Int) = 2 ∨ (3 : Int) = 5) by decide), s34 := fun _ => show 0 < (σ.t k).f10.length by omega, a := ⟨Int.le_refl (0 : Int), show (0 : Int) ≤ 1000 by decide⟩, run := fun _ => q.run (by omega) }
  ·exact h.gen h0 h1 (fun t => { t with f6 := (σ.t k).f6 + 1 }) _ _ _ hC ⟨Int.le_refl _, h.c.2⟩ (Nat.le_refl _) (by simp) h.ents { q with a := ⟨show 0 ≤ (σ.t k).f6 + 1 by omega, show (σ.t k).f6 + 1 ≤ 1000 by have := q.p10.1; omega⟩, s0 := fun e => absurd (hs.symm.trans e) (by decide), s1 := fun e => absurd (hs.symm.trans e) (by decide), s2 := fun _ => show (σ.t k).f6 + 1 < ((σ.t k).f10.length : Int) by omega, s34 := fun e => absurd e (show ¬ ((σ.t k).f5 = 3 ∨ (σ.t k).f5 = 4) by omega) }
theorem Inv.tick (h : Inv Bs nC σ) (h0 : 0 ≤ k) (h1 : k < σ.T.length) (hs : (σ.t k).f5 = 3) (hc : σ.clk < 200) : Inv Bs nC (σ.tick k) := by
 have q := h.t k h0 h1
 have s3 := q.s34 (.inl hs)
 have hc0 := h.c
 have h7 := q.s7
 have e : σ.tick k = ({ σ with C := σ.C, clk := σ.clk + 1, L := σ.L } : St).upd k (fun t => { t with f11 := σ.clk + 1, f5 := 4, f6 := 0 }) := by
  unfold St.tick St.stage
  rw [St.upd_upd, St.upd_upd]
 rw [e]
 exact h.gen h0 h1 _ _ _ _ ⟨h.n, h.cells⟩ ⟨by omega, by omega⟩ (Nat.le_refl _) (by simp) h.ents { q with s := ⟨show (0 : Int) ≤ 4 by decide, show (4 : Int) ≤ 5 by decide⟩, s0 := fun e => absurd e (show ¬ ((4 : Int) = 0) by decide), s1 := fun e => absurd e (show ¬ ((4 : Int) = 1) by decide), s2 := fun e => absurd e (show ¬ ((4 : Int) = 2 ∨ (4 : Int) = 5) by decide), s34 := fun _ => show 0 < (σ.t k).f10.length by omega, a := ⟨Int.le_refl (0 : Int), show (0 : Int) ≤ 1000 by decide⟩, run := fun _ => q.run (by omega), s7 := ⟨h7.1, show (σ.t k).f7 ≤ σ.clk + 1 by omega⟩, s11 := ⟨show 0 ≤ σ.clk + 1 by omega, show σ.clk + 1 ≤ σ.clk + 1 + 1 by omega⟩ }
theorem Inv.check (h : Inv Bs nC σ) (h0 : 0 ≤ k) (h1 : k < σ.T.length) (hs : (σ.t k).f5 = 4) : Inv Bs nC (σ.check k) := by
 have q := h.t k h0 h1
 have s4 := q.s34 (.inr hs)
 have ha := q.a
 unfold St.check
 split
 ·exact h.stage h0 h1 5 { q with s := ⟨show (0 : Int) ≤ 5 by decide, show (5 : Int) ≤ 5 by decide⟩, s0 := fun e => absurd e (show ¬ ((5 : Int) = 0) by decide), s1 := fun e => absurd e (show ¬ ((5 : Int) = 1) by decide), s2 := fun _ => show (0 : Int) < ((σ.t k).f10.length : Int) by omega, s34 := fun e => absurd e (show ¬ ((5 : Int) = 3 ∨ (5 : Int) = 4) by decide), a := ⟨Int.le_refl (0 : Int), show (0 : Int) ≤ 1000 by decide⟩, run := fun _ => q.run (by omega) }
 ·split
  ·exact h.again h0 h1
  ·exact h.upd h0 h1 (fun t => { t with f6 := (σ.t k).f6 + 1 }) { q with a := ⟨show 0 ≤ (σ.t k).f6 + 1 by omega, show (σ.t k).f6 + 1 ≤ 1000 by have := q.p9.1; omega⟩, s0 := fun e => absurd (hs.symm.trans e) (by decide), s1 := fun e => absurd (hs.symm.trans e) (by decide), s2 := fun e => absurd e (show ¬ ((σ.t k).f5 = 2 ∨ (σ.t k).f5 = 5) by omega), s34 := fun _ => s4 } (Int.le_refl _)
theorem write_eq (σ : St) (k : Int) (h0 : 0 ≤ k) (h1 : k < σ.T.length) (p : S45) (w1 w2 a : Int) : ((σ.wrote p w1).next k a).end_ k w2 = ({ σ with C := σ.C.set p.f0.toNat ⟨p.f1, w1, -1⟩, clk := σ.clk, L := σ.L ++ [σ.entry k w2] } : St).upd k (fun t => { t with f1 := t.f1 + 1, f9 := [], f10 := [], f7 := 0, f11 := 0, f12 := 0, f5 := 0, f6 := 0 }) := by
 rw [end_eq _ k w2 h0 (by unfold St.next; rw [St.len_upd]; exact h1)]
 have e : ((σ.wrote p w1).next k a).entry k w2 = σ.entry k w2 := by
  unfold St.entry St.next
  rw [St.t_upd _ k k _ h0 (show k < (σ.wrote p w1).T.length from h1) h0, if_pos rfl]; rfl
 rw [e]
 exact St.upd_upd ({ σ with C := σ.C.set p.f0.toNat ⟨p.f1, w1, -1⟩, clk := σ.clk, L := σ.L ++ [σ.entry k w2] } : St) k (fun t => { t with f6 := a + 1 }) (fun t => { t with f1 := t.f1 + 1, f9 := [], f10 := [], f7 := 0, f11 := 0, f12 := 0, f5 := 0, f6 := 0 })
theorem Inv.write (h : Inv Bs nC σ) (h0 : 0 ≤ k) (h1 : k < σ.T.length) (hs : (σ.t k).f5 = 5) : Inv Bs nC (σ.write k) := by
 have q := h.t k h0 h1
 have s5 := q.s2 (.inr hs)
 have ha := q.a
 have hc := h.c
 have h11 := q.s11
 have hp := putAt_ok q.p10 ha.1 s5
 have hr := q.run (by omega)
 have hC := h.setC (putAt (σ.t k).f10 (σ.t k).f6).f0.toNat ⟨(putAt (σ.t k).f10 (σ.t k).f6).f1, (σ.t k).f11, -1⟩ hp.2
 unfold St.write
 split
 ·have h2 := h.end_ h0 h1 (σ.t k).f11 ⟨h11.1, by omega⟩ hr.2.1 hr.1
  rw [end_eq σ k _ h0 h1] at h2
  rw [write_eq σ k h0 h1]
  exact { p := h2.p, c := h2.c, n := hC.1, cells := hC.2, t := h2.t, l := h2.l, ents := h2.ents, len := h2.len, pos := h2.pos }
 ·exact h.gen h0 h1 (fun t => { t with f6 := (σ.t k).f6 + 1 }) _ _ _ hC ⟨Int.le_refl _, h.c.2⟩ (Nat.le_refl _) (by simp) h.ents { q with a := ⟨show 0 ≤ (σ.t k).f6 + 1 by omega, show (σ.t k).f6 + 1 ≤ 1000 by have := q.p10.1; omega⟩, s0 := fun e => absurd (hs.symm.trans e) (by decide), s1 := fun e => absurd (hs.symm.trans e) (by decide), s2 := fun _ => show (σ.t k).f6 + 1 < ((σ.t k).f10.length : Int) by omega, s34 := fun e => absurd e (show ¬ ((σ.t k).f5 = 3 ∨ (σ.t k).f5 = 4) by omega) }
theorem Inv.tb (h : Inv Bs nC σ) (h0 : 0 ≤ k) (h1 : k < σ.T.length) : TB σ k := by
 have q := h.t k h0 h1
 have hl := (h.p.a _ q.b.1 q.b.2).1
 have hp := q.pc
 have hc := h.c
 have h7 := q.s7
 exact ⟨⟨hp.1, by omega⟩, by have := q.r3.1; omega, by have := q.r8.1; omega, q.p9.1, q.p10.1, h.len_le, q.a, ⟨h7.1, by omega⟩, ⟨hc.1, by omega⟩⟩
theorem Inv.put (h : Inv Bs nC σ) (h0 : 0 ≤ k) (h1 : k < σ.T.length) (hs : (σ.t k).f5 = 2 ∨ (σ.t k).f5 = 5) : (σ.t k).f6 < (σ.t k).f10.length ∧ 0 ≤ (putAt (σ.t k).f10 (σ.t k).f6).f0 ∧ (putAt (σ.t k).f10 (σ.t k).f6).f0 < σ.C.length := by
 have q := h.t k h0 h1
 have s := q.s2 hs
 have hp := (putAt_ok q.p10 q.a.1 s).1
 rw [h.n]
 exact ⟨s, hp⟩
theorem Inv.tryOk (h : Inv Bs nC σ) (h0 : 0 ≤ k) (h1 : k < σ.T.length) : tryOk σ k (yH Bs (σ.t k)).f1 := by
 have q := h.t k h0 h1
 refine ⟨h.tb h0 h1, q.s, fun hs hlt => (h.deedOk h0 h1 hs hlt).2, fun hs => h.put h0 h1 hs, fun hs hl => ?_⟩
 have hp := (putAt_ok q.p9 q.a.1 hl).1
 rw [h.n]
 exact hp
theorem Inv.try_ (h : Inv Bs nC σ) (h0 : 0 ≤ k) (h1 : k < σ.T.length) (hr : (σ.t k).f4 = 0 ∧ (σ.t k).f1 < (bd Bs (σ.t k).f0).length ∧ (yH Bs (σ.t k)).f0 = 1) (hc : σ.clk < 200) : Inv Bs nC (σ.try_ k (yH Bs (σ.t k)).f1) := by
 have q := h.t k h0 h1
 have hs := q.s
 unfold St.try_
 split
 ·rename_i e; exact h.begin h0 h1 e hr
 ·split
  ·rename_i e; exact h.deed h0 h1 e
  ·split
   ·rename_i e; exact h.lock h0 h1 e
   ·split
    ·rename_i e; exact h.tick h0 h1 e hc
    ·split
     ·rename_i e; exact h.check h0 h1 e
     ·exact h.write h0 h1 (by omega)
theorem len_begin' (σ : St) (k : Int) : (σ.begin k).T.length = σ.T.length := by unfold St.begin St.stage; rw [St.len_upd, St.len_upd, St.len_upd]
theorem len_stage' (σ : St) (k x : Int) : (σ.stage k x).T.length = σ.T.length := by unfold St.stage; rw [St.len_upd, St.len_upd]
theorem xA (σ : St) (k : Int) : (σ.again k).T.length = σ.T.length := by unfold St.again; rw [len_stage', St.len_upd, St.len_upd, St.len_upd, St.len_upd]; rfl
theorem xm (σ : St) (k x : Int) : (σ.next k x).T.length = σ.T.length := St.len_upd
theorem len_end' (σ : St) (k x : Int) : (σ.end_ k x).T.length = σ.T.length := by unfold St.end_; rw [len_stage', St.len_upd, St.len_upd, St.len_upd, St.len_upd, St.len_upd, St.len_upd]; rfl
theorem len_write' (σ : St) (k : Int) : (σ.write k).T.length = σ.T.length := by
 unfold St.write
 split
 ·rw [len_end', xm]; rfl
 ·rw [xm]; rfl
theorem len_try (σ : St) (k : Int) (D : List yO) : (σ.try_ k D).T.length = σ.T.length := by
 unfold St.try_
 repeat' split
 ·exact len_begin' σ k
 ·unfold St.deed
  repeat' split
  ·exact len_end' ..
  ·exact len_stage' ..
  ·unfold St.load
   repeat' split
   ·rw [xm]; exact St.len_upd
   ·exact xA ..
   ·rw [xm, St.len_upd]; exact St.len_upd
  ·rw [xm, St.len_upd]
  ·rw [St.len_upd, xA]
  ·exact xm ..
  ·rw [xm, St.len_upd]
 ·unfold St.lock
  repeat' split
  ·exact xA ..
  ·rw [len_stage', xm]; rfl
  ·rw [xm]; rfl
 ·unfold St.tick; rw [len_stage', St.len_upd]
 ·unfold St.check
  repeat' split
  ·exact len_stage' ..
  ·exact xA ..
  ·exact xm ..
 ·exact len_write' σ k
end
end Go.Proofs.Ytppapibjbjmmbaa.QSY
set_option linter.unusedVariables false
set_option linter.unusedSimpArgs false
namespace Go.Proofs.Ytppapibjbjmmbaa.QSY
open Go.RowKit Go.Proofs.YtppapibjbjmmbaaW.PrintWords Go.Proofs.YtppapibjbjmmbaaW.PrintLast Go.Proofs.YtppapibjbjmmbaaW.PrintMore
section
variable {Bs : List (List zO)} {nC : Nat} {σ : St} {k : Int}
theorem again_t (σ : St) (k j : Int) (h0 : 0 ≤ k) (h1 : k < σ.T.length) (j0 : 0 ≤ j) : (σ.again k).t j = if j = k then { σ.t k with f3 := (σ.t k).f8, f9 := [], f10 := [], f11 := 0, f5 := 0, f6 := 0 } else σ.t j := by
 rw [again_eq σ k h0 h1]
 exact St.t_upd ({ σ with C := σ.C.map (letGo k), clk := σ.clk, L := σ.L } : St) k j _ h0 h1 j0
def left (σ : St) (k : Int) : Nat := if (σ.t k).f5 = 5 then ((σ.t k).f10.length - (σ.t k).f6).toNat else 0
theorem write_t (σ : St) (k j : Int) (h0 : 0 ≤ k) (h1 : k < σ.T.length) (j0 : 0 ≤ j) : (σ.write k).t j = if j = k then (if (σ.t k).f6 + 1 = (σ.t k).f10.length then { σ.t k with f1 := (σ.t k).f1 + 1, f9 := [], f10 := [], f7 := 0, f11 := 0, f12 := 0, f5 := 0, f6 := 0 } else { σ.t k with f6 := (σ.t k).f6 + 1 }) else σ.t j := by
 unfold St.write
 split
 ·rw [write_eq σ k h0 h1]
  exact St.t_upd _ k j _ h0 h1 j0
 ·exact St.t_upd (σ.wrote _ _) k j _ h0 h1 j0
theorem write_left (h : Inv Bs nC σ) (h0 : 0 ≤ k) (h1 : k < σ.T.length) (hs : (σ.t k).f5 = 5) : left (σ.write k) k < left σ k ∧ ((σ.write k).t k).f4 = (σ.t k).f4 := by
 have q := h.t k h0 h1
 have s5 := q.s2 (.inr hs)
 have ha := q.a
 unfold left
 rw [write_t σ k k h0 h1 h0, if_pos rfl, if_pos hs]
 split
 ·exact ⟨by rw [if_neg (show ¬ (0 : Int) = 5 by decide)]; omega, rfl⟩
 ·refine ⟨?_, rfl⟩
  show (((σ.t k).f10.length : Int) - ((σ.t k).f6 + 1)).toNat < (((σ.t k).f10.length : Int) - (σ.t k).f6).toNat
  omega
theorem Inv.way (h : Inv Bs nC σ) (h0 : 0 ≤ k) (h1 : k < σ.T.length) (hs : (σ.t k).f5 = 0) (x : Int) (hx : 0 ≤ x ∧ x ≤ 4) (hw : x = 1 → (σ.t k).f1 < (bd Bs (σ.t k).f0).length) : Inv Bs nC (σ.upd k fun t => { t with f4 := x }) := by
 have q := h.t k h0 h1
 exact h.upd h0 h1 _ { q with w := hx, wait := hw, run := fun e => absurd hs e } (Int.le_refl _)
theorem Inv.more (h : Inv Bs nC σ) (h0 : 0 ≤ k) (h1 : k < σ.T.length) (hs : (σ.t k).f5 = 0) (hl : (σ.t k).f1 < (bd Bs (σ.t k).f0).length) (h4 : ¬ (σ.t k).f4 = 1) : Inv Bs nC (σ.upd k fun t => { t with f1 := (σ.t k).f1 + 1 }) := by
 have q := h.t k h0 h1
 have hp := q.pc
 exact h.upd h0 h1 _ { q with pc := ⟨show 0 ≤ (σ.t k).f1 + 1 by omega, show (σ.t k).f1 + 1 ≤ ((bd Bs (σ.t k).f0).length : Int) by omega⟩, wait := fun e => absurd e h4, run := fun e => absurd hs e, s1 := fun e => absurd (hs.symm.trans e) (by decide) } (show (σ.t k).f1 ≤ (σ.t k).f1 + 1 by omega)
theorem newTask_ok (clk : Int) (nL : Nat) (up i b : Int) (hc : 0 ≤ clk) (hb : 0 ≤ b ∧ b < Bs.length) (hu : -1 ≤ up ∧ up < i) : TI Bs nC clk nL i (yp up b) where
 b := hb
 pc := ⟨Int.le_refl (0 : Int), show (0 : Int) ≤ _ by omega⟩
 up := hu
 r3 := ⟨rfl, fun x hx => by have := List.eq_of_mem_replicate hx; subst this; exact ⟨by decide, by decide⟩⟩
 r8 := ⟨rfl, fun x hx => by have := List.eq_of_mem_replicate hx; subst this; exact ⟨by decide, by decide⟩⟩
 w := ⟨Int.le_refl (0 : Int), show (0 : Int) ≤ 4 by decide⟩
 p9 := xV.nil _
 p10 := xV.nil _
 s := ⟨Int.le_refl (0 : Int), show (0 : Int) ≤ 5 by decide⟩
 run := fun e => absurd rfl e
 wait := fun e => absurd e (show ¬ (0 : Int) = 1 by decide)
 a := ⟨Int.le_refl (0 : Int), show (0 : Int) ≤ 1000 by decide⟩
 s0 := fun _ => ⟨rfl, rfl⟩
 s1 := fun e => absurd e (show ¬ (0 : Int) = 1 by decide)
 s2 := fun e => absurd e (show ¬ ((0 : Int) = 2 ∨ (0 : Int) = 5) by decide)
 s34 := fun e => absurd e (show ¬ ((0 : Int) = 3 ∨ (0 : Int) = 4) by decide)
 s7 := ⟨Int.le_refl (0 : Int), hc⟩
 s11 := ⟨Int.le_refl (0 : Int), show (0 : Int) ≤ clk + 1 by omega⟩
 s12 := ⟨Int.le_refl (0 : Int), show (0 : Int) ≤ (nL : Int) by omega⟩
theorem sumPc_new (up : Int) : ∀ l : List Int, xP (l.map (yp up)) = 0
 | [] => rfl
 | x :: l => by simp only [List.map_cons, xP, sumPc_new up l]; rfl
theorem Inv.forked (h : Inv Bs nC σ) (h0 : 0 ≤ k) (h1 : k < σ.T.length) (l : List Int) (hl : ∀ x ∈ l, 0 ≤ x ∧ x < Bs.length) (hn : σ.T.length + l.length ≤ 2500) : Inv Bs nC (σ.forked k l) where
 p := h.p
 c := h.c
 n := h.n
 cells := h.cells
 t := fun j j0 j1 => by
  rw [xD] at j1
  have hc := h.c
  by_cases hj : j < (σ.T.length : Int)
  ·have e : (σ.forked k l).t j = σ.t j := by
    unfold St.forked St.t
    rw [List.getD_eq_getElem?_getD, List.getElem?_append_left (by omega), ← List.getD_eq_getElem?_getD]
   rw [e]
   exact h.t j j0 hj
  ·have e : (σ.forked k l).t j = yp k (l.getD (j.toNat - σ.T.length) 0) := by
    have h3 : j.toNat - σ.T.length < l.length := by omega
    unfold St.forked St.t
    rw [List.getD_eq_getElem?_getD, List.getElem?_append_right (by omega), List.getElem?_map, List.getD_eq_getElem?_getD, List.getElem?_eq_getElem h3]; rfl
   rw [e]
   exact newTask_ok _ _ k j _ hc.1 (hl _ (xC (by omega))) ⟨by omega, by omega⟩
 l := by
  have e : xP (σ.forked k l).T = xP σ.T := by
   show xP (σ.T ++ l.map (yp k)) = _
   rw [sumPc_append, sumPc_new]; omega
  rw [e]; exact h.l
 ents := fun e he => by
  have q := h.ents e he
  exact { q with t := ⟨q.t.1, by rw [xD]; have := q.t.2; omega⟩ }
 len := by rw [xD]; exact hn
 pos := by rw [xD]; have := h.pos; omega
theorem forked_t (σ : St) (k j : Int) (l : List Int) (j0 : 0 ≤ j) (j1 : j < σ.T.length) : (σ.forked k l).t j = σ.t j := by
 unfold St.forked St.t
 rw [List.getD_eq_getElem?_getD, List.getElem?_append_left (by omega), ← List.getD_eq_getElem?_getD]
theorem Inv.fork (h : Inv Bs nC σ) (h0 : 0 ≤ k) (h1 : k < σ.T.length) (hs : (σ.t k).f5 = 0) (l : List Int) (hl : ∀ x ∈ l, 0 ≤ x ∧ x < Bs.length) (hn : σ.T.length + l.length ≤ 2500) (hp : (σ.t k).f1 < (bd Bs (σ.t k).f0).length) : Inv Bs nC (σ.fork k l) :=
 (h.forked h0 h1 l hl hn).way h0 (by rw [xD]; omega) (by rw [forked_t σ k k l h0 h1]; exact hs) 1 ⟨by decide, by decide⟩ (fun _ => by rw [forked_t σ k k l h0 h1]; exact hp)
end
end Go.Proofs.Ytppapibjbjmmbaa.QSY
set_option linter.unusedVariables false
set_option linter.unusedSimpArgs false
namespace Go.Proofs.Ytppapibjbjmmbaa.QSY
open Go.RowKit Go.Proofs.YtppapibjbjmmbaaW.PrintWords Go.Proofs.YtppapibjbjmmbaaW.PrintLast Go.Proofs.YtppapibjbjmmbaaW.PrintMore
structure At (w0 w : World) (g : Nat) (vp0 vp1 : Value) (Bs : List (List zO)) (nC n : Nat) (σ : St) : Prop where
 r : zS w0 w g vp0 vp1 σ
 i : Inv Bs nC σ
 n : σ.T.length = n
theorem At.fact {w0 w : World} {g : Nat} {vp0 vp1 : Value} {Bs : List (List zO)} {nC n : Nat} {σ : St} (h : At w0 w g vp0 vp1 Bs nC n σ) (k : Int) (h0 : 0 ≤ k) (h1 : k < n) :
  ∃ gT cap, w.cell? ⟨g, 3, none⟩ = some (.slice (some ⟨gT, 0, none⟩) n cap) ∧ w.cell? ⟨gT, k.toNat * 13 + 2, none⟩ = some (.int .i64 (σ.t k).f2) ∧ w.cell? ⟨gT, k.toNat * 13 + 4, none⟩ = some (.int .i64 (σ.t k).f4) ∧ w.cell? ⟨gT, k.toNat * 13 + 5, none⟩ = some (.int .i64 (σ.t k).f5) := by
 have hn := h.n
 obtain ⟨gT, cap, T, vC, vL, HR, HE, HT, H1', a3, hc, hf, HB⟩ := h.r.open1 k h0 (by omega)
 rw [hn] at a3
 exact ⟨gT, cap, a3, (hc.out 2 _ rfl).trans (by rw [HT.out]), (hc.out 4 _ rfl).trans (by rw [HT.out]), (hc.out 5 _ rfl).trans (by rw [HT.out])⟩
theorem At.len {w0 w : World} {g : Nat} {vp0 vp1 : Value} {Bs : List (List zO)} {nC n : Nat} {σ : St} (h : At w0 w g vp0 vp1 Bs nC n σ) : ∃ A c, w.cell? ⟨g, 3, none⟩ = some (.slice A n c) := by
 have hn := h.n
 obtain ⟨N, vC, vT, vL, T, R, e⟩ := h.r
 obtain ⟨A, c, rfl, _⟩ := Kd.yP R.V.rT
 have := R.c3
 have e2 : T.length = n := by rw [← hn, ← e, List.length_map]
 rw [e2] at this
 exact ⟨A, c, this⟩
def OffPost (w0 : World) (g : Nat) (vp0 vp1 : Value) (Bs : List (List zO)) (nC : Nat) (σ : St) (k : Int) (e : Ending) (w' : World) : Prop :=
 e = .returned (.tuple #[]) ∧ ∃ σ', At w0 w' g vp0 vp1 Bs nC σ.T.length σ' ∧ ∀ j : Int, 0 ≤ j → j < k → σ'.t j = σ.t j
set_option maxHeartbeats 4000000 in
set_option maxRecDepth 100000 in
theorem off_calls {w0 : World} {g : Nat} {vp0 vp1 : Value} {Bs : List (List zO)} {nC : Nat} : ∀ (m : Nat) (w : World) (σ : St) (k : Int), zS w0 w g vp0 vp1 σ → Inv Bs nC σ → 0 ≤ k → k < σ.T.length → σ.T.length - k.toNat ≤ m →
  Calls Try.prog 127 #[.pointer (some ⟨g, 0, none⟩), .int .i64 k] w (OffPost w0 g vp0 vp1 Bs nC σ k)
 | 0, w, σ, k, h, hI, h0, h1, hm => by exact absurd hm (by omega)
 | m + 1, w, σ, k, h, hI, h0, h1, hm => by
  have IH := zb.mk (off_calls (w0 := w0) (g := g) (vp0 := vp0) (vp1 := vp1) (Bs := Bs) (nC := nC) m)
  have H1 := zb.mk h1
  have HM := zb.mk hm
  have HN := zb.mk (show σ.T.length ≤ 2500 from hI.len)
  have HA := zb.mk (show At w0 w g vp0 vp1 Bs nC σ.T.length σ ∧ (∀ j : Int, 0 ≤ j → j ≤ k → σ.t j = σ.t j) from ⟨⟨h, hI, rfl⟩, fun _ _ _ => rfl⟩)
  have HP := zb.mk (show ∀ e w', OffPost w0 g vp0 vp1 Bs nC σ k e w' ↔ (e = .returned (.tuple #[]) ∧ ∃ σ', At w0 w' g vp0 vp1 Bs nC σ.T.length σ' ∧ ∀ j : Int, 0 ≤ j → j < k → σ'.t j = σ.t j) from fun _ _ => Iff.rfl)
  obtain ⟨Post, hPost⟩ : ∃ P, P = OffPost w0 g vp0 vp1 Bs nC σ k := ⟨_, rfl⟩
  rw [← hPost] at HP ⊢
  clear h hI h1 hm hPost
  obtain ⟨n, hn⟩ : ∃ n, n = σ.T.length := ⟨_, rfl⟩
  rw [← hn] at HA HP H1 HM HN
  clear hn
  go_enter Try.func127, Try.ntmps127
  go_wp2
  go_loopw [4] (fun v4 wr => ∃ (i : Nat) (V : World) (σ1 : St), V = wr ∧ v4 = .int .i64 i ∧ zb (i ≤ n) ∧ zb (At w0 V g vp0 vp1 Bs nC n σ1 ∧ (∀ j : Int, 0 ≤ j → j ≤ k → σ1.t j = σ.t j))) (fun v4 _ => n - (intOf v4).toNat)
  case atStart => exact ⟨0, w, σ, rfl, rfl, ⟨Nat.zero_le _⟩, ⟨HA.out.1, fun _ _ _ => rfl⟩⟩
  case round =>
   clear HA
   obtain ⟨i, V, σ1, rfl, rfl, hi, HA⟩ := hrel
   by_cases hlt : i < n
   ·have cb : decide ((i : Int) < (n : Int)) = true := decide_eq_true (by omega)
    have cb2 : decide (i < n) = true := decide_eq_true hlt
    have HLT := zb.mk hlt
    have ei : wrap64 ((i : Int) + 1) = ((i + 1 : Nat) : Int) := by have := HN.out; unfold wrap64; omega
    have EI := zb.mk ei
    have p0 : (0 : Int) ≤ (i : Int) := by omega
    have p1 : (i : Int) < (n : Int) := by omega
    obtain ⟨gT, cap, a3, u2, u4, u5⟩ := HA.out.1.fact (i : Int) p0 p1
    rw [Int.toNat_natCast] at u2 u4 u5
    have TU := zb.mk ((HA.out.1.i.t (i : Int) p0 (by rw [HA.out.1.n]; exact p1)).up)
    obtain ⟨up, hup⟩ : ∃ x, x = (σ1.t i).f2 := ⟨_, rfl⟩
    rw [← hup] at u2 TU
    clear hlt ei hup u4 u5
    by_cases hk : up = k
    ·have ck : (up == k) = true := by simp [hk]
     have HK := zb.mk hk
     clear hk
     go_wp2_with fail
     refine (IH.out V σ1 (i : Int) HA.out.1.r HA.out.1.i (by omega) (by rw [HA.out.1.n]; omega) (by rw [HA.out.1.n]; have h1 := HM.out; have h2 := TU.out; have h3 := HK.out; have h4 := HLT.out; omega)).mono ?_
     rintro e W ⟨rfl, σ2, h2, h3⟩
     have HA2 := zb.mk (show At w0 W g vp0 vp1 Bs nC n σ2 ∧ (∀ j : Int, 0 ≤ j → j ≤ k → σ2.t j = σ.t j) from ⟨⟨h2.r, h2.i, h2.n.trans HA.out.1.n⟩, fun j j0 j1 => (h3 j j0 (by have h2 := TU.out; have h3 := HK.out; omega)).trans (HA.out.2 j j0 j1)⟩)
     clear h2 h3 a3 u2
     go_wp2
     go_roundw
     case rel => exact ⟨i + 1, W, σ2, rfl, by rw [EI.out], ⟨HLT.out⟩, HA2⟩
     case measure => rw [EI.out]; have := HLT.out; simp [intOf]; omega
    ·have ck : (up == k) = false := by simp [hk]
     clear hk
     go_wp2
     go_roundw
     case rel => exact ⟨i + 1, V, σ1, rfl, by rw [EI.out], ⟨HLT.out⟩, HA⟩
     case measure => rw [EI.out]; have := HLT.out; simp [intOf]; omega
   ·have cb : decide ((i : Int) < (n : Int)) = false := decide_eq_false (by omega)
    have cb2 : decide (i < n) = false := decide_eq_false hlt
    clear hlt hi
    obtain ⟨gT, cap, a3, u2, u4, u5⟩ := HA.out.1.fact k h0 H1.out
    have p1 : k < (n : Int) := H1.out
    clear u2 u5
    obtain ⟨way, hway⟩ : ∃ x, x = (σ1.t k).f4 := ⟨_, rfl⟩
    rw [← hway] at u4
    have HW := zb.mk hway
    clear hway
    by_cases w0' : way = 0
    ·subst w0'
     have d0 : True := trivial
     go_wp2
     clear a3 u4
     go_loopg [] (left σ1 k) (fun mm wr => ∃ (V : World) (σ2 : St), V = wr ∧ mm = left σ2 k ∧ zb (At w0 V g vp0 vp1 Bs nC n σ2 ∧ (∀ j : Int, 0 ≤ j → j < k → σ2.t j = σ.t j)))
     case atStart => exact ⟨V, σ1, rfl, rfl, ⟨HA.out.1, fun j j0 j1 => HA.out.2 j j0 (by omega)⟩⟩
     case round =>
      clear HA HW
      obtain ⟨V, σ2, rfl, rfl, HA⟩ := hrel
      obtain ⟨gT, cap, a3, u2, u4, u5⟩ := HA.out.1.fact k h0 H1.out
      clear u2 u4
      have p1 : k < (n : Int) := H1.out
      have HSB := zb.mk ((HA.out.1.i.t k h0 (by rw [HA.out.1.n]; exact p1)).s)
      obtain ⟨st, hst⟩ : ∃ x, x = (σ2.t k).f5 := ⟨_, rfl⟩
      rw [← hst] at u5 HSB
      by_cases h5 : st = 5
      ·have c5 : (st == 5) = true := by simp [h5]
       have HS5 := zb.mk (show (σ2.t k).f5 = 5 by omega)
       clear h5 hst
       have H1n := zb.mk (show k < (σ2.T.length : Int) by rw [HA.out.1.n]; exact p1)
       have HTB := zb.mk (HA.out.1.i.tb h0 H1n.out)
       have HPT := zb.mk (HA.out.1.i.put h0 H1n.out (.inr HS5.out))
       go_wp2_with fail
       refine (write_calls k HA.out.1.r h0 H1n.out HTB.out.p HTB.out.r9 HTB.out.r10 HTB.out.l HTB.out.a.1 HPT.out.1 HPT.out.2.1 HPT.out.2.2).mono ?_
       rintro e W ⟨rfl, h3⟩
       have HA2 := zb.mk (show At w0 W g vp0 vp1 Bs nC n (σ2.write k) ∧ (∀ j : Int, 0 ≤ j → j < k → (σ2.write k).t j = σ.t j) from ⟨⟨h3, HA.out.1.i.write h0 H1n.out HS5.out, (len_write' σ2 k).trans HA.out.1.n⟩, fun j j0 j1 => by
        rw [write_t σ2 k j h0 H1n.out j0, if_neg (by omega)]; exact HA.out.2 j j0 j1⟩)
       have HLF := zb.mk (write_left HA.out.1.i h0 H1n.out HS5.out).1
       clear h3 a3 u5 c5
       go_wp2
       go_roundg (left (σ2.write k) k)
       case rel => exact ⟨W, σ2.write k, rfl, rfl, HA2⟩
       case measure => exact HLF.out
      ·have c5 : (st == 5) = false := by simp [h5]
       have H1n := zb.mk (show k < (σ2.T.length : Int) by rw [HA.out.1.n]; exact p1)
       have HST := zb.mk hst
       clear hst
       by_cases h00 : st = 0
       ·have c0 : (st != 0) = false := by simp [h00]
        have c0' : (st == 0) = true := by simp [h00]
        have HS0 := zb.mk (show (σ2.t k).f5 = 0 by rw [← HST.out]; exact h00)
        clear h5 h00
        obtain ⟨gT2, cap2, T2, vC2, vL2, HR2, HE2, HT2, H12, a32, hc2, hf2, HB2⟩ := HA.out.1.r.open1 k h0 H1n.out
        have e3 := a3.symm.trans a32
        injection e3 with e3
        injection e3 with e3 e4 e5
        injection e3 with e3
        injection e3 with e3
        subst e3 e5
        have k4 := hc2.out 4 _ rfl
        have z4 := hf2.out 4
        clear a32 hc2 hf2 e4
        go_wp2
        go_end0
        rw [HP.out]
        exact ⟨rfl, _, ⟨((show yL w0 V g V.heap.size vp0 vp1 gT cap σ2 from ⟨_, _, _, _, HR2.out, HE2.out⟩).num k h0 H1n.out (fun t => { t with f4 := 4 }) 4 4 (by decide) (fun _ => rfl) (fun _ => rfl) (fun _ => rfl) (fun _ => rfl) (fun _ => rfl)).S, HA.out.1.i.way h0 H1n.out HS0.out 4 ⟨by decide, by decide⟩ (fun e => absurd e (by decide)), St.len_upd.trans HA.out.1.n⟩, fun j j0 j1 => by
         rw [St.t_upd σ2 k j _ h0 H1n.out j0, if_neg (by omega)]; exact HA.out.2 j j0 j1⟩
       ·have c0 : (st != 0) = true := by simp [h00]
        have c0' : (st == 0) = false := by simp [h00]
        clear h5 h00
        have HTB := zb.mk (HA.out.1.i.tb h0 H1n.out)
        go_wp2_with fail
        refine (wg k HA.out.1.r h0 H1n.out HTB.out.r8).mono ?_
        rintro e W ⟨rfl, h3⟩
        have L3 := zb.mk (show k < ((σ2.again k).T.length : Int) by rw [xA]; exact H1n.out)
        have I3 := zb.mk (HA.out.1.i.again h0 H1n.out)
        have S3 := zb.mk (show ((σ2.again k).t k).f5 = 0 by rw [again_t σ2 k k h0 H1n.out h0, if_pos rfl])
        have O3 := zb.mk (show ∀ j : Int, 0 ≤ j → j < k → (σ2.again k).t j = σ.t j from fun j j0 j1 => by rw [again_t σ2 k j h0 H1n.out j0, if_neg (by omega)]; exact HA.out.2 j j0 j1)
        have N3 := zb.mk ((xA σ2 k).trans HA.out.1.n)
        obtain ⟨σ3, hσ3⟩ : ∃ s, s = σ2.again k := ⟨_, rfl⟩
        rw [← hσ3] at h3 L3 I3 S3 O3 N3
        clear hσ3 a3 u5 c5 c0 c0'
        obtain ⟨gT2, cap2, T2, vC2, vL2, HR2, HE2, HT2, H12, a3, hc2, hf2, HB2⟩ := h3.open1 k h0 L3.out
        have k4 := hc2.out 4 _ rfl
        have z4 := hf2.out 4
        have p3 : k < (σ3.T.length : Int) := L3.out
        clear h3 hc2 hf2
        go_wp2
        go_end0
        rw [HP.out]
        exact ⟨rfl, _, ⟨((show yL w0 W g W.heap.size vp0 vp1 gT2 cap2 σ3 from ⟨_, _, _, _, HR2.out, HE2.out⟩).num k h0 L3.out (fun t => { t with f4 := 4 }) 4 4 (by decide) (fun _ => rfl) (fun _ => rfl) (fun _ => rfl) (fun _ => rfl) (fun _ => rfl)).S, I3.out.way h0 L3.out S3.out 4 ⟨by decide, by decide⟩ (fun e => absurd e (by decide)), St.len_upd.trans N3.out⟩, fun j j0 j1 => by
         rw [St.t_upd σ3 k j _ h0 L3.out j0, if_neg (by omega)]; exact O3.out j j0 j1⟩
    by_cases w1' : way = 1
    ·subst w1'
     have d0 : True := trivial
     go_wp2
     clear a3 u4
     go_loopg [] (left σ1 k) (fun mm wr => ∃ (V : World) (σ2 : St), V = wr ∧ mm = left σ2 k ∧ zb (At w0 V g vp0 vp1 Bs nC n σ2 ∧ (∀ j : Int, 0 ≤ j → j < k → σ2.t j = σ.t j)))
     case atStart => exact ⟨V, σ1, rfl, rfl, ⟨HA.out.1, fun j j0 j1 => HA.out.2 j j0 (by omega)⟩⟩
     case round =>
      clear HA HW
      obtain ⟨V, σ2, rfl, rfl, HA⟩ := hrel
      obtain ⟨gT, cap, a3, u2, u4, u5⟩ := HA.out.1.fact k h0 H1.out
      clear u2 u4
      have p1 : k < (n : Int) := H1.out
      have HSB := zb.mk ((HA.out.1.i.t k h0 (by rw [HA.out.1.n]; exact p1)).s)
      obtain ⟨st, hst⟩ : ∃ x, x = (σ2.t k).f5 := ⟨_, rfl⟩
      rw [← hst] at u5 HSB
      by_cases h5 : st = 5
      ·have c5 : (st == 5) = true := by simp [h5]
       have HS5 := zb.mk (show (σ2.t k).f5 = 5 by omega)
       clear h5 hst
       have H1n := zb.mk (show k < (σ2.T.length : Int) by rw [HA.out.1.n]; exact p1)
       have HTB := zb.mk (HA.out.1.i.tb h0 H1n.out)
       have HPT := zb.mk (HA.out.1.i.put h0 H1n.out (.inr HS5.out))
       go_wp2_with fail
       refine (write_calls k HA.out.1.r h0 H1n.out HTB.out.p HTB.out.r9 HTB.out.r10 HTB.out.l HTB.out.a.1 HPT.out.1 HPT.out.2.1 HPT.out.2.2).mono ?_
       rintro e W ⟨rfl, h3⟩
       have HA2 := zb.mk (show At w0 W g vp0 vp1 Bs nC n (σ2.write k) ∧ (∀ j : Int, 0 ≤ j → j < k → (σ2.write k).t j = σ.t j) from ⟨⟨h3, HA.out.1.i.write h0 H1n.out HS5.out, (len_write' σ2 k).trans HA.out.1.n⟩, fun j j0 j1 => by
        rw [write_t σ2 k j h0 H1n.out j0, if_neg (by omega)]; exact HA.out.2 j j0 j1⟩)
       have HLF := zb.mk (write_left HA.out.1.i h0 H1n.out HS5.out).1
       clear h3 a3 u5 c5
       go_wp2
       go_roundg (left (σ2.write k) k)
       case rel => exact ⟨W, σ2.write k, rfl, rfl, HA2⟩
       case measure => exact HLF.out
      ·have c5 : (st == 5) = false := by simp [h5]
       have H1n := zb.mk (show k < (σ2.T.length : Int) by rw [HA.out.1.n]; exact p1)
       have HST := zb.mk hst
       clear hst
       by_cases h00 : st = 0
       ·have c0 : (st != 0) = false := by simp [h00]
        have c0' : (st == 0) = true := by simp [h00]
        have HS0 := zb.mk (show (σ2.t k).f5 = 0 by rw [← HST.out]; exact h00)
        clear h5 h00
        obtain ⟨gT2, cap2, T2, vC2, vL2, HR2, HE2, HT2, H12, a32, hc2, hf2, HB2⟩ := HA.out.1.r.open1 k h0 H1n.out
        have e3 := a3.symm.trans a32
        injection e3 with e3
        injection e3 with e3 e4 e5
        injection e3 with e3
        injection e3 with e3
        subst e3 e5
        have k4 := hc2.out 4 _ rfl
        have z4 := hf2.out 4
        clear a32 hc2 hf2 e4
        go_wp2
        go_end0
        rw [HP.out]
        exact ⟨rfl, _, ⟨((show yL w0 V g V.heap.size vp0 vp1 gT cap σ2 from ⟨_, _, _, _, HR2.out, HE2.out⟩).num k h0 H1n.out (fun t => { t with f4 := 4 }) 4 4 (by decide) (fun _ => rfl) (fun _ => rfl) (fun _ => rfl) (fun _ => rfl) (fun _ => rfl)).S, HA.out.1.i.way h0 H1n.out HS0.out 4 ⟨by decide, by decide⟩ (fun e => absurd e (by decide)), St.len_upd.trans HA.out.1.n⟩, fun j j0 j1 => by
         rw [St.t_upd σ2 k j _ h0 H1n.out j0, if_neg (by omega)]; exact HA.out.2 j j0 j1⟩
       ·have c0 : (st != 0) = true := by simp [h00]
        have c0' : (st == 0) = false := by simp [h00]
        clear h5 h00
        have HTB := zb.mk (HA.out.1.i.tb h0 H1n.out)
        go_wp2_with fail
        refine (wg k HA.out.1.r h0 H1n.out HTB.out.r8).mono ?_
        rintro e W ⟨rfl, h3⟩
        have L3 := zb.mk (show k < ((σ2.again k).T.length : Int) by rw [xA]; exact H1n.out)
        have I3 := zb.mk (HA.out.1.i.again h0 H1n.out)
        have S3 := zb.mk (show ((σ2.again k).t k).f5 = 0 by rw [again_t σ2 k k h0 H1n.out h0, if_pos rfl])
        have O3 := zb.mk (show ∀ j : Int, 0 ≤ j → j < k → (σ2.again k).t j = σ.t j from fun j j0 j1 => by rw [again_t σ2 k j h0 H1n.out j0, if_neg (by omega)]; exact HA.out.2 j j0 j1)
        have N3 := zb.mk ((xA σ2 k).trans HA.out.1.n)
        obtain ⟨σ3, hσ3⟩ : ∃ s, s = σ2.again k := ⟨_, rfl⟩
        rw [← hσ3] at h3 L3 I3 S3 O3 N3
        clear hσ3 a3 u5 c5 c0 c0'
        obtain ⟨gT2, cap2, T2, vC2, vL2, HR2, HE2, HT2, H12, a3, hc2, hf2, HB2⟩ := h3.open1 k h0 L3.out
        have k4 := hc2.out 4 _ rfl
        have z4 := hf2.out 4
        have p3 : k < (σ3.T.length : Int) := L3.out
        clear h3 hc2 hf2
        go_wp2
        go_end0
        rw [HP.out]
        exact ⟨rfl, _, ⟨((show yL w0 W g W.heap.size vp0 vp1 gT2 cap2 σ3 from ⟨_, _, _, _, HR2.out, HE2.out⟩).num k h0 L3.out (fun t => { t with f4 := 4 }) 4 4 (by decide) (fun _ => rfl) (fun _ => rfl) (fun _ => rfl) (fun _ => rfl) (fun _ => rfl)).S, I3.out.way h0 L3.out S3.out 4 ⟨by decide, by decide⟩ (fun e => absurd e (by decide)), St.len_upd.trans N3.out⟩, fun j j0 j1 => by
         rw [St.t_upd σ3 k j _ h0 L3.out j0, if_neg (by omega)]; exact O3.out j j0 j1⟩
    ·have d0 : (way != 0) = true := by simp [w0']
     have d1 : (way != 1) = true := by simp [w1']
     clear w0' w1'
     go_wp2
     refine bodyPost_ret (results_none rfl _ _ _) rfl ?_
     rw [HP.out]
     exact ⟨rfl, σ1, HA.out.1, fun j j0 j1 => HA.out.2 j j0 (by omega)⟩
end Go.Proofs.Ytppapibjbjmmbaa.QSY
