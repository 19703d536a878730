import Derived.Test.YtppapibjbjmmbaaRR0
import Derived.Test.YtppapibjbjmmbaaRR1
import Derived.Test.YtppapibjbjmmbaaRR2
import Derived.Test.YtppapibjbjmmbaaRR3
import Derived.Test.YtppapibjbjmmbaaRR4
import Derived.Test.YtppapibjbjmmbaaRR5
set_option linter.unusedVariables false
set_option linter.unusedSimpArgs false
namespace Go.Proofs.Ytppapibjbjmmbaa.QSY
open Go.RowKit Go.Proofs.YtppapibjbjmmbaaW.PrintWords Go.Proofs.YtppapibjbjmmbaaW.PrintLast Go.Proofs.YtppapibjbjmmbaaW.PrintMore
theorem heapEntry : Kd.Heap k50 := by unfold k50; exact Kd.heap_iso _ (Kd.heap_pair (Kd.heap_int _) (Kd.heap_pair (Kd.heap_int _) (Kd.heap_pair (Kd.heap_int _) (Kd.heap_pair (Kd.heap_slice _ heapPut) (Kd.heap_pair (Kd.heap_slice _ heapPut) (Kd.heap_int _))))))
def chg (a b : Int) : S50 := ⟨0, 0, 0, [⟨0, a⟩], [⟨0, b⟩], 0⟩
theorem hasF_one {c : List Int} (a : Int) (h : 0 < c.length) : hasF c [⟨0, a⟩] = decide (c.getD 0 0 = a) := by
 have e : hasF c [⟨0, a⟩] = hasP c ⟨0, a⟩ := Bool.and_true _
 rw [e]
 unfold hasP
 have h1 : (0 : Int) < (c.length : Int) := by omega
 rw [decide_eq_true (show (0 : Int) ≤ (⟨0, a⟩ : S45).f0 from Int.le_refl 0), decide_eq_true (show (⟨0, a⟩ : S45).f0 < (c.length : Int) from h1), Bool.true_and, Bool.true_and]
 rfl
theorem putsF_one {c : List Int} (b : Int) (h : 0 < c.length) : (xp c [⟨0, b⟩]).getD 0 0 = b := by
 have e : xp c [⟨0, b⟩] = c.set 0 b := by
  show putL c ⟨0, b⟩ = _
  unfold putL
  exact if_pos ⟨Int.le_refl 0, by show (0 : Int) < (c.length : Int); omega⟩
 rw [e, List.getD_eq_getElem?_getD, List.getElem?_set_self h]
 rfl
theorem replay_chg {Cs r0 : List Int} {L : List S50} (h : yg Cs L = some r0) (hr : 0 < r0.length) (a b : Int) : yg Cs (L ++ [chg a b]) = if r0.getD 0 0 = a then some (xp r0 [⟨0, b⟩]) else none := by
 rw [replay_append, h]
 show yg r0 [chg a b] = _
 have e : yg r0 [chg a b] = if hasF r0 [⟨0, a⟩] = true then some (xp r0 [⟨0, b⟩]) else none := rfl
 rw [e, hasF_one a hr]
 by_cases q : r0.getD 0 0 = a
 ·rw [if_pos q, if_pos (decide_eq_true q)]
 ·rw [if_neg q, if_neg (by rw [decide_eq_false q]; exact Bool.false_ne_true)]
theorem other_cell (x : Int) : ¬ x = Int.tmod (wrap64 (x + 1)) 100 := by
 intro h
 have b1 : Int.tmod (wrap64 (x + 1)) 100 < 100 := Int.tmod_lt_of_pos _ (by omega)
 have b2 : -100 < Int.tmod (wrap64 (x + 1)) 100 := Int.lt_tmod_of_pos _ (by omega)
 have e1 : wrap64 (x + 1) = x + 1 := by unfold wrap64; omega
 rw [e1] at h
 by_cases p : 0 ≤ x + 1
 ·rw [Int.tmod_eq_emod_of_nonneg p] at h; omega
 ·have e2 : x + 1 = -(-(x + 1)) := by omega
  rw [e2, Int.neg_tmod, Int.tmod_eq_emod_of_nonneg (by omega)] at h; omega
theorem new_at (w : World) (o : Obj) {n : Nat} (h : n = w.heap.size) : (w.alloc o).heap[n]? = some o := h ▸ heap_alloc_new _ _
structure Rx (w1 V : World) (b3 b4 bx : Nat) (a : Int) : Prop where
 hb : Below w1.heap.size w1 V
 l3 : w1.heap.size ≤ b3
 l4 : w1.heap.size ≤ b4
 q3 : V.heap[b3]? = some (.cells #[.int .i64 0, .int .i64 a] 45 (0, 0))
 q4 : V.heap[b4]? = some (.cells #[.int .i64 0, .int .i64 42] 45 (0, 0))
 n34 : b4 ≠ b3
 box : V.heap[bx]? = some (.cells #[.int .i64 0, .int .i64 0, .int .i64 0, .slice (some ⟨b3, 0, none⟩) 1 1, .slice (some ⟨b4, 0, none⟩) 1 1, .int .i64 0] 50 (0, 0))
theorem Rx.below {w1 V W : World} {b3 b4 bx : Nat} {a : Int} (h : Rx w1 V b3 b4 bx a) (hW : Below V.heap.size V W) : Rx w1 W b3 b4 bx a :=
 ⟨zi h.hb hW, h.l3, h.l4, (hW.block _ (zo h.q3)).trans h.q3, (hW.block _ (zo h.q4)).trans h.q4, h.n34, (hW.block _ (zo h.box)).trans h.box⟩
theorem Rx.put {w1 V : World} {b3 b4 bx : Nat} {a : Int} (h : Rx w1 V b3 b4 bx a) (z : Int) : Rx w1 (V.setCell ⟨b3, 1, none⟩ (.int .i64 z)) b3 b4 bx z :=
 ⟨zv h.hb h.l3, h.l3, h.l4, zu h.q3 1 _, blk_far h.q4 h.n34 _, h.n34, blk_far h.box (blk_ne h.box h.q3 (by decide)) _⟩
theorem rowE {w1 V W : World} {b3 b4 bx n : Nat} {a : Int} (h : Rx w1 V b3 b4 bx a) (hW : Below V.heap.size V W) (hn : n = W.heap.size) :
  Kd.F k50 (W.alloc (.cells #[.int .i64 0, .int .i64 0, .int .i64 0, .slice (some ⟨b3, 0, none⟩) 1 1, .slice (some ⟨b4, 0, none⟩) 1 1, .int .i64 0] 50)) (fun k => k < V.heap.size ∨ k = n) (some ⟨n, 0, none⟩) 1 [chg a 42] := by
 subst hn
 have hb := zc hW (.cells #[.int .i64 0, .int .i64 0, .int .i64 0, .slice (some ⟨b3, 0, none⟩) 1 1, .slice (some ⟨b4, 0, none⟩) 1 1, .int .i64 0] 50)
 have n3 := zo h.q3
 have n4 := zo h.q4
 have hs := hW.size
 have r3 : Kd.R k45 45 (W.alloc (.cells #[.int .i64 0, .int .i64 0, .int .i64 0, .slice (some ⟨b3, 0, none⟩) 1 1, .slice (some ⟨b4, 0, none⟩) 1 1, .int .i64 0] 50)) 0 (fun k => (k < V.heap.size ∨ k = W.heap.size) ∧ k ≠ W.heap.size) (.slice (some ⟨b3, 0, none⟩) 1 1) [⟨0, a⟩] :=
  R_of (xs := ([⟨0, a⟩] : List S45)) ((hb.block _ n3).trans h.q3) (Nat.zero_le _) ⟨.inl n3, by omega⟩ (by simp [maxLen]) ((yh.none _ _).snoc (p := (⟨0, a⟩ : S45)) (c := [.int .i64 0, .int .i64 a]) (yZ _ _ _ ⟨0, a⟩) rfl)
 have r4 : Kd.R k45 45 (W.alloc (.cells #[.int .i64 0, .int .i64 0, .int .i64 0, .slice (some ⟨b3, 0, none⟩) 1 1, .slice (some ⟨b4, 0, none⟩) 1 1, .int .i64 0] 50)) 0 (fun k => (k < V.heap.size ∨ k = W.heap.size) ∧ k ≠ W.heap.size) (.slice (some ⟨b4, 0, none⟩) 1 1) [⟨0, 42⟩] :=
  R_of (xs := ([⟨0, 42⟩] : List S45)) ((hb.block _ n4).trans h.q4) (Nat.zero_le _) ⟨.inl n4, by omega⟩ (by simp [maxLen]) ((yh.none _ _).snoc (p := (⟨0, 42⟩ : S45)) (c := [.int .i64 0, .int .i64 42]) (yZ _ _ _ ⟨0, 42⟩) rfl)
 exact Kd.R_F (R_ofI (base := 0) (xs := ([chg a 42] : List S50)) (heap_alloc_new _ _) (Nat.zero_le _) (.inr rfl) (by simp [maxLen]) ((yh.none _ _).snoc (p := chg a 42) (k50_mkM _ _ _ (chg a 42) r3 r4) rfl))
set_option maxHeartbeats 8000000 in
set_option maxRecDepth 100000 in
theorem replayRead_law (A : Option Addr) (c : Nat) (b : List Int) (w : World) (h : Kd.C (Kd.int .u8) w A b.length b) (hc : b.length ≤ c) (hb : ∀ x ∈ b, (0 : Int) ≤ x ∧ x ≤ 255) :
  Calls Try.prog 11 #[.slice A b.length c] w fun e w' => e = .returned (.bool true) ∧ Below w.heap.size w w' := by
 have HD := zb.mk (fun hl => drawReplay_calls A c b h hc hb hl)
 obtain ⟨nb, hnb⟩ : ∃ n, n = b.length := ⟨_, rfl⟩
 rw [← hnb] at HD ⊢
 obtain ⟨Post, hPost⟩ : ∃ P, P = fun (e : Ending) (w' : World) => e = .returned (.bool true) ∧ Below w.heap.size w w' := ⟨_, rfl⟩
 have HP := zb.mk (show ∀ e w', Post e w' ↔ (e = .returned (.bool true) ∧ Below w.heap.size w w') from fun _ _ => by rw [hPost])
 rw [← hPost]
 clear h hc hb hnb hPost
 go_enter Try.func11, Try.ntmps11
 by_cases hbig : (nb : Int) > 1048576
 ·go_wp2
  (try refine bodyPost_ret (results_tmp rfl _ _ _) rfl ?_)
  rw [HP.out]
  exact ⟨rfl, Below.refl _ _⟩
 have HD2 := zb.mk (HD.out (by omega))
 clear HD
 go_upto_region 4 with (go_at_call 32; refine HD2.out.mono ?_; rintro e w1 ⟨A0, c0, Cs, AL, cL, L, rfl, hb, h1, h2⟩; have HB1 := zb.mk hb; have HR1 := zb.mk (show Rp w1 w1 A0 Cs AL cL L from ⟨Below.refl _ _, h1.1, h1.2.2, h2.1, h2.2.1, h2.2.2.1, h2.2.2.2⟩); clear hb h1 h2)
 have KS := zb.mk (fun (W : World) (hW : Below w1.heap.size w1 W) => specReplay_calls A0 Cs c0 AL L cL W (Kd.zt HR1.out.c hW) (by have := HR1.out.n; omega) (Kd.zt HR1.out.l hW))
 have KI := zb.mk (fun (W : World) (hW : Below w1.heap.size w1 W) => implReplay_calls A0 Cs c0 AL L cL W (Kd.zt HR1.out.c hW) (by have := HR1.out.n; omega) (Kd.zt HR1.out.l hW))
 obtain ⟨nL, hnL⟩ : ∃ n, n = L.length := ⟨_, rfl⟩
 obtain ⟨n0, hn0⟩ : ∃ n, n = Cs.length := ⟨_, rfl⟩
 rw [← hn0] at KS KI ⊢
 rw [← hnL] at KS KI ⊢
 have HN0 := zb.mk hn0
 have HNL := zb.mk hnL
 clear hn0 hnL hbig
 rcases hR : yg Cs L with _ | r0
 ·have HR := zb.mk hR
  clear hR
  have KS2 := zb.mk (fun (W : World) (hW : Below w1.heap.size w1 W) => show Calls Try.prog 33 #[.slice A0 n0 c0, .slice AL nL cL] W (RepP W false 0 []) from (KS.out W hW).mono (fun e w' h => h.none_ HR.out))
  have KI2 := zb.mk (fun (W : World) (hW : Below w1.heap.size w1 W) => show Calls Try.prog 34 #[.slice A0 n0 c0, .slice AL nL cL] W (RepP W false 0 []) from (KI.out W hW).mono (fun e w' h => h.none_ HR.out))
  clear KS KI
  go_wp2_with (fail)
  with_reducible refine (KS2.out _ (Below.refl _ _)).mono ?_
  rintro e w2 ⟨A5, c5, rfl, h5, hr5, hb⟩
  have HB2 := zb.mk hb
  have H5 := zb.mk hr5
  have L5 := zb.mk h5
  clear hb hr5 h5
  go_wp2_with (fail)
  with_reducible refine (KI2.out _ HB2.out).mono ?_
  rintro e w3 ⟨A6, c6, rfl, h6, hr6, hb⟩
  have HB3 := zb.mk (zi HB2.out hb)
  have H5b := zb.mk (Kd.zN H5.out hb)
  have H6 := zb.mk hr6
  clear hb hr6 h6 HB2
  have KQ := zb.mk (fun (W : World) (hW : Below w3.heap.size w3 W) => lqints_calls A6 [] 0 c6 A5 0 c5 W (Kd.zt (Kd.zH H6.out).2.2 hW) (Kd.zt (Kd.zH H5b.out).2.2 hW) L5.out L5.out)
  go_wp2_with (fail)
  with_reducible refine (KQ.out _ (Below.refl _ _)).mono ?_
  rintro e w4 ⟨rfl, hb⟩
  have HB4 := zb.mk hb
  clear hb
  go_wp2_with (fail)
  with_reducible refine (KQ.out _ HB4.out).mono ?_
  rintro e w5 ⟨rfl, hb⟩
  have HB5 := zb.mk (zi HB4.out hb)
  clear hb
  go_wp2
  (try refine bodyPost_ret (results_tmp rfl _ _ _) rfl ?_)
  rw [HP.out]
  exact ⟨rfl, zi HB1.out (zi HB3.out HB5.out)⟩
 ·have HR := zb.mk hR
  clear hR
  have KS2 := zb.mk (fun (W : World) (hW : Below w1.heap.size w1 W) => show Calls Try.prog 33 #[.slice A0 n0 c0, .slice AL nL cL] W (RepP W true n0 r0) from (KS.out W hW).mono (fun e w' h => h.some_ HR.out HN0.out))
  have KI2 := zb.mk (fun (W : World) (hW : Below w1.heap.size w1 W) => show Calls Try.prog 34 #[.slice A0 n0 c0, .slice AL nL cL] W (RepP W true n0 r0) from (KI.out W hW).mono (fun e w' h => h.some_ HR.out HN0.out))
  clear KS KI
  go_wp2_with (fail)
  with_reducible refine (KS2.out _ (Below.refl _ _)).mono ?_
  rintro e w2 ⟨A5, c5, rfl, h5, hr5, hb⟩
  have HB2 := zb.mk hb
  have H5 := zb.mk hr5
  have L5 := zb.mk h5
  clear hb hr5 h5
  go_wp2_with (fail)
  with_reducible refine (KI2.out _ HB2.out).mono ?_
  rintro e w3 ⟨A6, c6, rfl, h6, hr6, hb⟩
  have HB3 := zb.mk (zi HB2.out hb)
  have H5b := zb.mk (Kd.zN H5.out hb)
  have H6 := zb.mk hr6
  clear hb hr6 h6 HB2
  have KQ := zb.mk (fun (W : World) (hW : Below w3.heap.size w3 W) => lqints_calls A6 r0 n0 c6 A5 n0 c5 W (Kd.zt (Kd.zH H6.out).2.2 hW) (Kd.zt (Kd.zH H5b.out).2.2 hW) L5.out L5.out)
  go_wp2_with (fail)
  with_reducible refine (KQ.out _ (Below.refl _ _)).mono ?_
  rintro e w4 ⟨rfl, hb⟩
  have HB4 := zb.mk hb
  clear hb
  by_cases hz : n0 = 0
  ·have hz2 : ((n0 : Int) == 0) = true := by simp [hz]
   clear hz
   go_wp2_with (fail)
   with_reducible refine (KQ.out _ HB4.out).mono ?_
   rintro e w5 ⟨rfl, hb⟩
   have HB5 := zb.mk (zi HB4.out hb)
   clear hb
   go_wp2
   (try refine bodyPost_ret (results_tmp rfl _ _ _) rfl ?_)
   rw [HP.out]
   exact ⟨rfl, zi HB1.out (zi HB3.out HB5.out)⟩
  ·have hz2 : ((n0 : Int) == 0) = false := by simp; omega
   have HZ := zb.mk (show 0 < n0 by omega)
   have hz3 : (0 : Int) < (n0 : Int) := by omega
   have HX := zb.mk (Kd.zt (Kd.zH H6.out).2.2 HB4.out)
   obtain ⟨adX, rfl, z0⟩ := at_ints HX.out 0 (by have := HZ.out; have := L5.out; omega)
   obtain ⟨x0, hx0⟩ : ∃ x, x = r0.getD 0 0 := ⟨_, rfl⟩
   rw [← hx0] at z0
   have HX0 := zb.mk hx0
   have z00 : w4.cell? adX = some (.int .i64 x0) := (by simpa [Addr.add] using z0)
   clear hx0 hz
   go_upto_region 9 with (fail)
   obtain ⟨b3, hb3⟩ : ∃ b, b = w4.heap.size := ⟨_, rfl⟩
   obtain ⟨b4, hb4⟩ : ∃ b, b = w4.heap.size + 1 := ⟨_, rfl⟩
   obtain ⟨bx, hbx⟩ : ∃ b, b = w4.heap.size + 1 + 1 := ⟨_, rfl⟩
   rw [← hbx, ← hb4, ← hb3]
   obtain ⟨V, hV⟩ : ∃ V, V = (((w4.alloc (.cells #[.int .i64 0, .int .i64 x0] 45)).alloc (.cells #[.int .i64 0, .int .i64 42] 45)).alloc (.cells #[.int .i64 0, .int .i64 0, .int .i64 0, .slice (some ⟨b3, 0, none⟩) 1 1, .slice (some ⟨b4, 0, none⟩) 1 1, .int .i64 0] 50)) := ⟨_, rfl⟩
   have HBV := zb.mk (show Below w4.heap.size w4 V by rw [hV]; exact zc (zc (zc (Below.refl _ _) _) _) _)
   have HRX := zb.mk (show Rx w1 V b3 b4 bx x0 from ⟨zi (zi HB3.out HB4.out) HBV.out, by have h1 := HB3.out.size; have h2 := HB4.out.size; omega, by have h1 := HB3.out.size; have h2 := HB4.out.size; omega,
    by rw [hV, hb3]; exact zm (zm (heap_alloc_new _ _) _) _, by rw [hV, hb4]; exact zm (new_at _ _ (by simp)) _, by omega, by rw [hV]; exact new_at _ _ (by rw [hbx]; simp)⟩)
   have xx := za HBV.out z00
   rw [← hV]
   clear hV z0 z00 hb3 hb4 hbx
   have HLL := zb.mk (show nL ≤ 1000000000 by rw [HNL.out]; exact HR1.out.ll)
   have HLN := zb.mk (show Kd.C k50 w1 AL nL L by rw [HNL.out]; exact HR1.out.l)
   have HRP := zb.mk (show 0 < r0.length by have h1 := HZ.out; have h2 := L5.out; omega)
   obtain ⟨zz, hzz⟩ : ∃ z, z = Int.tmod (wrap64 (x0 + 1)) 100 := ⟨_, rfl⟩
   have HZZ := zb.mk hzz
   have KY1 := zb.mk (show ∀ W, Below w1.heap.size w1 W → ∀ A c, Kd.C k50 W A (nL + 1) (L ++ [chg x0 42]) → Calls Try.prog 34 #[.slice A0 n0 c0, .slice A (nL + 1) c] W (RepP W true n0 (xp r0 [⟨0, 42⟩])) from fun W hW A c hC => by
    have hl : (L ++ [chg x0 42]).length = nL + 1 := by rw [List.length_append, ← HNL.out]; rfl
    have k := implReplay_calls A0 Cs c0 A (L ++ [chg x0 42]) c W (Kd.zt HR1.out.c hW) (by have := HR1.out.n; omega) (by rw [hl]; exact hC)
    rw [hl, ← HN0.out] at k
    exact k.mono (fun e w' h => h.some_ ((replay_chg HR.out HRP.out x0 42).trans (if_pos HX0.out.symm)) HN0.out))
   have KY2 := zb.mk (show ∀ W, Below w1.heap.size w1 W → ∀ A c, Kd.C k50 W A (nL + 1) (L ++ [chg zz 42]) → Calls Try.prog 34 #[.slice A0 n0 c0, .slice A (nL + 1) c] W (RepP W false 0 []) from fun W hW A c hC => by
    have hl : (L ++ [chg zz 42]).length = nL + 1 := by rw [List.length_append, ← HNL.out]; rfl
    have k := implReplay_calls A0 Cs c0 A (L ++ [chg zz 42]) c W (Kd.zt HR1.out.c hW) (by have := HR1.out.n; omega) (by rw [hl]; exact hC)
    rw [hl, ← HN0.out] at k
    exact k.mono (fun e w' h => h.none_ ((replay_chg HR.out HRP.out zz 42).trans (if_neg (by rw [← HX0.out, HZZ.out]; exact other_cell x0)))))
   have kb0 := (zd HRX.out.box 0).trans rfl
   have kb1 := (zd HRX.out.box 1).trans rfl
   have kb2 := (zd HRX.out.box 2).trans rfl
   have kb3 := (zd HRX.out.box 3).trans rfl
   have kb4 := (zd HRX.out.box 4).trans rfl
   have kb5 := (zd HRX.out.box 5).trans rfl
   clear hzz
   refine yc (n := 13) (S := fun w' => w'.cell? ⟨bx, 0, none⟩ = some (.int .i64 0) ∧ w'.cell? ⟨bx, 1, none⟩ = some (.int .i64 0) ∧ w'.cell? ⟨bx, 2, none⟩ = some (.int .i64 0) ∧ w'.cell? ⟨bx, 3, none⟩ = some (.slice (some ⟨b3, 0, none⟩) 1 1) ∧ w'.cell? ⟨bx, 4, none⟩ = some (.slice (some ⟨b4, 0, none⟩) 1 1) ∧ w'.cell? ⟨bx, 5, none⟩ = some (.int .i64 0)) (ds := []) (bm 13 0) (by kernel_rfl) rfl rfl ⟨(za (ze (Below.refl _ _)) kb0), (za (ze (Below.refl _ _)) kb1), (za (ze (Below.refl _ _)) kb2), (za (ze (Below.refl _ _)) kb3), (za (ze (Below.refl _ _)) kb4), (za (ze (Below.refl _ _)) kb5)⟩ (fun hHeld => ?_)
   refine zl (i := 0) (N := some 69) (v := ?_) (a' := ?_) (bm 13 1) rfl rfl (by kernel_rfl) (fun _ _ _ h => h) (Or.inl ⟨by rfl, ?_⟩) ?_ ?_
   rotate_left
   ·intro w'
    go_simp
    with_reducible rfl
   rotate_left
   ·simp only [Act.put, List.setIfInBounds_toArray, List.set_cons_zero, List.set_cons_succ, zg, zh]
    rfl
   refine zl (i := 2) (N := some 71) (v := ?_) (a' := ?_) (bm 13 5) rfl rfl (by kernel_rfl) (fun _ _ _ h => h) (Or.inl ⟨by rfl, ?_⟩) ?_ ?_
   rotate_left
   ·intro w'
    go_simp
    with_reducible rfl
   rotate_left
   ·simp only [Act.put, List.setIfInBounds_toArray, List.set_cons_zero, List.set_cons_succ, zg, zh]
    rfl
   refine zA (i := 4) (N := some 73) (v := ?_) (a' := ?_) (bm 13 21) rfl rfl (by kernel_rfl) (fun _ _ _ h => h) (Or.inl ⟨by rfl, ?_⟩) hHeld ?_ ?_
   rotate_left
   ·rintro w' ⟨s0, s1, s2, s3, s4, s5⟩
    go_simp
    with_reducible rfl
   rotate_left
   ·simp only [Act.put, List.setIfInBounds_toArray, List.set_cons_zero, List.set_cons_succ, zg, zh]
    rfl
   refine xc (σ := Option Addr × Nat × Nat × Nat) 7 (bm 13 63) (fun s => [(70, .slice (some ⟨s.2.2.2, 0, none⟩) 0 0), (72, .slice s.1 nL s.2.1), (74, .slice (some ⟨s.2.2.1, 0, none⟩) 1 1)]) (fun s w' => (w'.cell? ⟨bx, 0, none⟩ = some (.int .i64 0) ∧ w'.cell? ⟨bx, 1, none⟩ = some (.int .i64 0) ∧ w'.cell? ⟨bx, 2, none⟩ = some (.int .i64 0) ∧ w'.cell? ⟨bx, 3, none⟩ = some (.slice (some ⟨b3, 0, none⟩) 1 1) ∧ w'.cell? ⟨bx, 4, none⟩ = some (.slice (some ⟨b4, 0, none⟩) 1 1) ∧ w'.cell? ⟨bx, 5, none⟩ = some (.int .i64 0)) ∧ zb (Below V.heap.size V w') ∧ zb (Kd.N k50 50 w' V.heap.size (fun _ => True) (.slice s.1 nL s.2.1) L) ∧ zb (Kd.F k50 w' (fun k => k < V.heap.size ∨ k = s.2.2.1) (some ⟨s.2.2.1, 0, none⟩) 1 [chg x0 42]) ∧ zb (∀ k, (Value.slice s.1 nL s.2.1).ownBlock = some k → k ≠ s.2.2.1)) ?_ ?_
   rotate_left
   ·intro hCont
    refine two_ (i := 1) (j := 5) (Ni := some 70) (Nj := some 74) (bm 13 23) (bm 13 53) rfl rfl rfl rfl (by kernel_rfl) (by decide) (by decide) (fun K hK => ?_) (fun K hK => ?_)
    ·skip
     refine zI (w1 := ?_) (v := ?_) (by rfl) rfl ?_ ?_
     rotate_left 2
     ·go_simp
      constructor
      ·rfl
      ·rfl
     have HE := zb.mk (show Kd.N k50 50 (V.drew.alloc (.cells #[] 50)) V.heap.size (fun _ => True) (.slice (some ⟨V.heap.size, 0, none⟩) 0 0) ([] : List S50) from Kd.R_N (xI (heap_alloc_new _ _) (by simp) trivial))
     refine hK.out _ _ ⟨(za (zc (ze (Below.refl V.heap.size V)) (.cells #[] 50)) kb0), (za (zc (ze (Below.refl V.heap.size V)) (.cells #[] 50)) kb1), (za (zc (ze (Below.refl V.heap.size V)) (.cells #[] 50)) kb2), (za (zc (ze (Below.refl V.heap.size V)) (.cells #[] 50)) kb3), (za (zc (ze (Below.refl V.heap.size V)) (.cells #[] 50)) kb4), (za (zc (ze (Below.refl V.heap.size V)) (.cells #[] 50)) kb5)⟩ (fun hHeld => ?_)
     clear hK K
     refine zp (a' := ?_) ?_ ?_
     rotate_left
     ·show Act.put _ (some 70) _ = _
      simp only [Act.put, List.setIfInBounds_toArray, List.set_cons_zero, List.set_cons_succ, zg, zh]
      rfl
     refine two_ (i := 3) (j := 5) (Ni := some 72) (Nj := some 74) (bm 13 31) (bm 13 55) rfl rfl rfl rfl (by kernel_rfl) (by decide) (by decide) (fun K hK => ?_) (fun K hK => ?_)
     ·skip
      refine Kd.zZ k50 (w0 := V) V.heap.size ?hwa (.tmp 70) (.tmp 71) 25 50 _ _ ?hoa Try.underlying25 xL (by rfl) (by decide) (by decide) (.slice (some ⟨V.heap.size, 0, none⟩) 0 0) [] L AL nL cL (fun _ => True) (fun k => k < w1.heap.size) ?hsa ?hxa HE.out (Kd.F_below (Kd.C_F heapEntry HLN.out) (zi HRX.out.hb (zc (ze (Below.refl V.heap.size V)) (.cells #[] 50)))) (fun k hk => ⟨trivial, fun e => by have h1 := HRX.out.hb.size; have h2 : k = V.heap.size := (by simpa [Value.ownBlock] using e); omega⟩) (fun _ _ => trivial) (zc (ze (Below.refl V.heap.size V)) (.cells #[] 50)) ((zc (ze (Below.refl V.heap.size V)) (.cells #[] 50))).size (by have h1 := HLL.out; simp; omega) ?_
      case hwa => rfl
      case hoa => rfl
      case hsa => rfl
      case hxa => first | rfl | (go_simp; done) | (simp; done)
      intro va wa hra hba hga hata
      obtain ⟨Aa, ca, he⟩ := Kd.xt hra
      rw [show (([] : List S50) ++ L).length = nL from HNL.out.symm] at he
      subst he
      have HNa := zb.mk (show Kd.N k50 50 wa V.heap.size (fun _ => True) (.slice Aa nL ca) L from hra)
      have HBa := zb.mk hba
      have HGa := zb.mk hga
      have HOa := zb.mk (show ∀ k, (Value.slice Aa nL ca).ownBlock = some k → k = V.heap.size ∨ (V.drew.alloc (.cells #[] 50)).heap.size ≤ k from fun k hk => hata.elim (fun h => by rw [h] at hk; exact .inl (by have e2 : V.heap.size = k := (by simpa [Value.ownBlock] using hk); exact e2.symm)) (fun ⟨b, h, h2⟩ => by rw [h] at hk; injection hk with hk; exact .inr (hk ▸ h2)))
      clear hra hba hga hata
      refine hK.out _ _ ⟨(za HBa.out kb0), (za HBa.out kb1), (za HBa.out kb2), (za HBa.out kb3), (za HBa.out kb4), (za HBa.out kb5)⟩ (fun hHeld => ?_)
      clear hK K
      refine zp (a' := ?_) ?_ ?_
      rotate_left
      ·show Act.put _ (some 72) _ = _
       simp only [Act.put, List.setIfInBounds_toArray, List.set_cons_zero, List.set_cons_succ, zg, zh]
       rfl
      refine yE (i := 5) (N := some 74) (bm 13 63) rfl rfl (by kernel_rfl) (by decide) (fun K hK => ?_)
      refine zI (w1 := ?_) (v := ?_) (by rfl) rfl ?_ ?_
      rotate_left 2
      ·go_simp
       constructor
       ·rfl
       ·rfl
      have HFE := zb.mk (rowE (n := wa.heap.size) HRX.out (W := wa) HBa.out (by first | rfl | simp))
      refine hK.out _ _ ⟨(za (zc HBa.out (.cells #[.int .i64 0, .int .i64 0, .int .i64 0, .slice (some ⟨b3, 0, none⟩) 1 1, .slice (some ⟨b4, 0, none⟩) 1 1, .int .i64 0] 50)) kb0), (za (zc HBa.out (.cells #[.int .i64 0, .int .i64 0, .int .i64 0, .slice (some ⟨b3, 0, none⟩) 1 1, .slice (some ⟨b4, 0, none⟩) 1 1, .int .i64 0] 50)) kb1), (za (zc HBa.out (.cells #[.int .i64 0, .int .i64 0, .int .i64 0, .slice (some ⟨b3, 0, none⟩) 1 1, .slice (some ⟨b4, 0, none⟩) 1 1, .int .i64 0] 50)) kb2), (za (zc HBa.out (.cells #[.int .i64 0, .int .i64 0, .int .i64 0, .slice (some ⟨b3, 0, none⟩) 1 1, .slice (some ⟨b4, 0, none⟩) 1 1, .int .i64 0] 50)) kb3), (za (zc HBa.out (.cells #[.int .i64 0, .int .i64 0, .int .i64 0, .slice (some ⟨b3, 0, none⟩) 1 1, .slice (some ⟨b4, 0, none⟩) 1 1, .int .i64 0] 50)) kb4), (za (zc HBa.out (.cells #[.int .i64 0, .int .i64 0, .int .i64 0, .slice (some ⟨b3, 0, none⟩) 1 1, .slice (some ⟨b4, 0, none⟩) 1 1, .int .i64 0] 50)) kb5)⟩ (fun hHeld => ?_)
      clear hK K
      refine zp (a' := ?_) ?_ ?_
      rotate_left
      ·show Act.put _ (some 74) _ = _
       simp only [Act.put, List.setIfInBounds_toArray, List.set_cons_zero, List.set_cons_succ, zg, zh]
       rfl
      exact zp (by simp only [zq, Act.put, List.setIfInBounds_toArray, List.set_cons_zero, List.set_cons_succ]) (hCont (Aa, ca, wa.heap.size, V.heap.size) _ ⟨⟨(za (zc HBa.out (.cells #[.int .i64 0, .int .i64 0, .int .i64 0, .slice (some ⟨b3, 0, none⟩) 1 1, .slice (some ⟨b4, 0, none⟩) 1 1, .int .i64 0] 50)) kb0), (za (zc HBa.out (.cells #[.int .i64 0, .int .i64 0, .int .i64 0, .slice (some ⟨b3, 0, none⟩) 1 1, .slice (some ⟨b4, 0, none⟩) 1 1, .int .i64 0] 50)) kb1), (za (zc HBa.out (.cells #[.int .i64 0, .int .i64 0, .int .i64 0, .slice (some ⟨b3, 0, none⟩) 1 1, .slice (some ⟨b4, 0, none⟩) 1 1, .int .i64 0] 50)) kb2), (za (zc HBa.out (.cells #[.int .i64 0, .int .i64 0, .int .i64 0, .slice (some ⟨b3, 0, none⟩) 1 1, .slice (some ⟨b4, 0, none⟩) 1 1, .int .i64 0] 50)) kb3), (za (zc HBa.out (.cells #[.int .i64 0, .int .i64 0, .int .i64 0, .slice (some ⟨b3, 0, none⟩) 1 1, .slice (some ⟨b4, 0, none⟩) 1 1, .int .i64 0] 50)) kb4), (za (zc HBa.out (.cells #[.int .i64 0, .int .i64 0, .int .i64 0, .slice (some ⟨b3, 0, none⟩) 1 1, .slice (some ⟨b4, 0, none⟩) 1 1, .int .i64 0] 50)) kb5)⟩, ⟨(zc HBa.out (.cells #[.int .i64 0, .int .i64 0, .int .i64 0, .slice (some ⟨b3, 0, none⟩) 1 1, .slice (some ⟨b4, 0, none⟩) 1 1, .int .i64 0] 50))⟩, ⟨Kd.xJ HNa.out (zc (Below.refl _ _) _)⟩, ⟨HFE.out⟩, ⟨fun k hk => by have h1 := Kd.N_lt HNa.out k hk; exact Nat.ne_of_lt h1⟩⟩)
     ·skip
      refine zI (w1 := ?_) (v := ?_) (by rfl) rfl ?_ ?_
      rotate_left 2
      ·go_simp
       constructor
       ·rfl
       ·rfl
      have HFE := zb.mk (rowE (n := V.heap.size + 1) HRX.out (W := V.drew.alloc (.cells #[] 50)) (zc (ze (Below.refl V.heap.size V)) (.cells #[] 50)) (by first | rfl | simp))
      have HE2 := zb.mk (Kd.xJ HE.out (zc (Below.refl _ _) (.cells #[.int .i64 0, .int .i64 0, .int .i64 0, .slice (some ⟨b3, 0, none⟩) 1 1, .slice (some ⟨b4, 0, none⟩) 1 1, .int .i64 0] 50)))
      refine hK.out _ _ ⟨(za (zc (zc (ze (Below.refl V.heap.size V)) (.cells #[] 50)) (.cells #[.int .i64 0, .int .i64 0, .int .i64 0, .slice (some ⟨b3, 0, none⟩) 1 1, .slice (some ⟨b4, 0, none⟩) 1 1, .int .i64 0] 50)) kb0), (za (zc (zc (ze (Below.refl V.heap.size V)) (.cells #[] 50)) (.cells #[.int .i64 0, .int .i64 0, .int .i64 0, .slice (some ⟨b3, 0, none⟩) 1 1, .slice (some ⟨b4, 0, none⟩) 1 1, .int .i64 0] 50)) kb1), (za (zc (zc (ze (Below.refl V.heap.size V)) (.cells #[] 50)) (.cells #[.int .i64 0, .int .i64 0, .int .i64 0, .slice (some ⟨b3, 0, none⟩) 1 1, .slice (some ⟨b4, 0, none⟩) 1 1, .int .i64 0] 50)) kb2), (za (zc (zc (ze (Below.refl V.heap.size V)) (.cells #[] 50)) (.cells #[.int .i64 0, .int .i64 0, .int .i64 0, .slice (some ⟨b3, 0, none⟩) 1 1, .slice (some ⟨b4, 0, none⟩) 1 1, .int .i64 0] 50)) kb3), (za (zc (zc (ze (Below.refl V.heap.size V)) (.cells #[] 50)) (.cells #[.int .i64 0, .int .i64 0, .int .i64 0, .slice (some ⟨b3, 0, none⟩) 1 1, .slice (some ⟨b4, 0, none⟩) 1 1, .int .i64 0] 50)) kb4), (za (zc (zc (ze (Below.refl V.heap.size V)) (.cells #[] 50)) (.cells #[.int .i64 0, .int .i64 0, .int .i64 0, .slice (some ⟨b3, 0, none⟩) 1 1, .slice (some ⟨b4, 0, none⟩) 1 1, .int .i64 0] 50)) kb5)⟩ (fun hHeld => ?_)
      clear hK K
      refine zp (a' := ?_) ?_ ?_
      rotate_left
      ·show Act.put _ (some 74) _ = _
       simp only [Act.put, List.setIfInBounds_toArray, List.set_cons_zero, List.set_cons_succ, zg, zh]
       rfl
      refine yE (i := 3) (N := some 72) (bm 13 63) rfl rfl (by kernel_rfl) (by decide) (fun K hK => ?_)
      refine Kd.zZ k50 (w0 := V) V.heap.size ?hwb (.tmp 70) (.tmp 71) 25 50 _ _ ?hob Try.underlying25 xL (by rfl) (by decide) (by decide) (.slice (some ⟨V.heap.size, 0, none⟩) 0 0) [] L AL nL cL (fun _ => True) (fun k => k < w1.heap.size) ?hsb ?hxb HE2.out (Kd.F_below (Kd.C_F heapEntry HLN.out) (zi HRX.out.hb (zc (zc (ze (Below.refl V.heap.size V)) (.cells #[] 50)) (.cells #[.int .i64 0, .int .i64 0, .int .i64 0, .slice (some ⟨b3, 0, none⟩) 1 1, .slice (some ⟨b4, 0, none⟩) 1 1, .int .i64 0] 50)))) (fun k hk => ⟨trivial, fun e => by have h1 := HRX.out.hb.size; have h2 : k = V.heap.size := (by simpa [Value.ownBlock] using e); omega⟩) (fun _ _ => trivial) (zc (zc (ze (Below.refl V.heap.size V)) (.cells #[] 50)) (.cells #[.int .i64 0, .int .i64 0, .int .i64 0, .slice (some ⟨b3, 0, none⟩) 1 1, .slice (some ⟨b4, 0, none⟩) 1 1, .int .i64 0] 50)) ((zc (zc (ze (Below.refl V.heap.size V)) (.cells #[] 50)) (.cells #[.int .i64 0, .int .i64 0, .int .i64 0, .slice (some ⟨b3, 0, none⟩) 1 1, .slice (some ⟨b4, 0, none⟩) 1 1, .int .i64 0] 50))).size (by have h1 := HLL.out; simp; omega) ?_
      case hwb => rfl
      case hob => rfl
      case hsb => rfl
      case hxb => first | rfl | (go_simp; done) | (simp; done)
      intro va wa hra hba hga hata
      obtain ⟨Aa, ca, he⟩ := Kd.xt hra
      rw [show (([] : List S50) ++ L).length = nL from HNL.out.symm] at he
      subst he
      have HNa := zb.mk (show Kd.N k50 50 wa V.heap.size (fun _ => True) (.slice Aa nL ca) L from hra)
      have HBa := zb.mk hba
      have HGa := zb.mk hga
      have HOa := zb.mk (show ∀ k, (Value.slice Aa nL ca).ownBlock = some k → k = V.heap.size ∨ ((V.drew.alloc (.cells #[] 50)).alloc (.cells #[.int .i64 0, .int .i64 0, .int .i64 0, .slice (some ⟨b3, 0, none⟩) 1 1, .slice (some ⟨b4, 0, none⟩) 1 1, .int .i64 0] 50)).heap.size ≤ k from fun k hk => hata.elim (fun h => by rw [h] at hk; exact .inl (by have e2 : V.heap.size = k := (by simpa [Value.ownBlock] using hk); exact e2.symm)) (fun ⟨b, h, h2⟩ => by rw [h] at hk; injection hk with hk; exact .inr (hk ▸ h2)))
      clear hra hba hga hata
      refine hK.out _ _ ⟨(za HBa.out kb0), (za HBa.out kb1), (za HBa.out kb2), (za HBa.out kb3), (za HBa.out kb4), (za HBa.out kb5)⟩ (fun hHeld => ?_)
      clear hK K
      refine zp (a' := ?_) ?_ ?_
      rotate_left
      ·show Act.put _ (some 72) _ = _
       simp only [Act.put, List.setIfInBounds_toArray, List.set_cons_zero, List.set_cons_succ, zg, zh]
       rfl
      exact zp (by simp only [zq, Act.put, List.setIfInBounds_toArray, List.set_cons_zero, List.set_cons_succ]) (hCont (Aa, ca, V.heap.size + 1, V.heap.size) _ ⟨⟨(za HBa.out kb0), (za HBa.out kb1), (za HBa.out kb2), (za HBa.out kb3), (za HBa.out kb4), (za HBa.out kb5)⟩, ⟨HBa.out⟩, ⟨HNa.out⟩, ⟨Kd.F_step (HFE.out) (fun k ho hk => HGa.out.block k hk (fun e => by have e1 : k < V.heap.size ∨ k = V.heap.size + 1 := ho; have e2 : k = V.heap.size := (by simpa [Value.ownBlock] using e); omega))⟩, ⟨fun k hk => by have h1 := HOa.out k hk; simp at h1; show k ≠ V.heap.size + 1; omega⟩⟩)
    ·skip
     refine zI (w1 := ?_) (v := ?_) (by rfl) rfl ?_ ?_
     rotate_left 2
     ·go_simp
      constructor
      ·rfl
      ·rfl
     have HFE := zb.mk (rowE (n := V.heap.size) HRX.out (W := V.drew) (ze (Below.refl V.heap.size V)) (by first | rfl | simp))
     refine hK.out _ _ ⟨(za (zc (ze (Below.refl V.heap.size V)) (.cells #[.int .i64 0, .int .i64 0, .int .i64 0, .slice (some ⟨b3, 0, none⟩) 1 1, .slice (some ⟨b4, 0, none⟩) 1 1, .int .i64 0] 50)) kb0), (za (zc (ze (Below.refl V.heap.size V)) (.cells #[.int .i64 0, .int .i64 0, .int .i64 0, .slice (some ⟨b3, 0, none⟩) 1 1, .slice (some ⟨b4, 0, none⟩) 1 1, .int .i64 0] 50)) kb1), (za (zc (ze (Below.refl V.heap.size V)) (.cells #[.int .i64 0, .int .i64 0, .int .i64 0, .slice (some ⟨b3, 0, none⟩) 1 1, .slice (some ⟨b4, 0, none⟩) 1 1, .int .i64 0] 50)) kb2), (za (zc (ze (Below.refl V.heap.size V)) (.cells #[.int .i64 0, .int .i64 0, .int .i64 0, .slice (some ⟨b3, 0, none⟩) 1 1, .slice (some ⟨b4, 0, none⟩) 1 1, .int .i64 0] 50)) kb3), (za (zc (ze (Below.refl V.heap.size V)) (.cells #[.int .i64 0, .int .i64 0, .int .i64 0, .slice (some ⟨b3, 0, none⟩) 1 1, .slice (some ⟨b4, 0, none⟩) 1 1, .int .i64 0] 50)) kb4), (za (zc (ze (Below.refl V.heap.size V)) (.cells #[.int .i64 0, .int .i64 0, .int .i64 0, .slice (some ⟨b3, 0, none⟩) 1 1, .slice (some ⟨b4, 0, none⟩) 1 1, .int .i64 0] 50)) kb5)⟩ (fun hHeld => ?_)
     clear hK K
     refine zp (a' := ?_) ?_ ?_
     rotate_left
     ·show Act.put _ (some 74) _ = _
      simp only [Act.put, List.setIfInBounds_toArray, List.set_cons_zero, List.set_cons_succ, zg, zh]
      rfl
     refine yE (i := 1) (N := some 70) (bm 13 55) rfl rfl (by kernel_rfl) (by decide) (fun K hK => ?_)
     refine zI (w1 := ?_) (v := ?_) (by rfl) rfl ?_ ?_
     rotate_left 2
     ·go_simp
      constructor
      ·rfl
      ·rfl
     have HE := zb.mk (show Kd.N k50 50 ((V.drew.alloc (.cells #[.int .i64 0, .int .i64 0, .int .i64 0, .slice (some ⟨b3, 0, none⟩) 1 1, .slice (some ⟨b4, 0, none⟩) 1 1, .int .i64 0] 50)).alloc (.cells #[] 50)) V.heap.size (fun _ => True) (.slice (some ⟨V.heap.size + 1, 0, none⟩) 0 0) ([] : List S50) from Kd.R_N (xI (new_at _ _ (by simp)) (by simp) trivial))
     refine hK.out _ _ ⟨(za (zc (zc (ze (Below.refl V.heap.size V)) (.cells #[.int .i64 0, .int .i64 0, .int .i64 0, .slice (some ⟨b3, 0, none⟩) 1 1, .slice (some ⟨b4, 0, none⟩) 1 1, .int .i64 0] 50)) (.cells #[] 50)) kb0), (za (zc (zc (ze (Below.refl V.heap.size V)) (.cells #[.int .i64 0, .int .i64 0, .int .i64 0, .slice (some ⟨b3, 0, none⟩) 1 1, .slice (some ⟨b4, 0, none⟩) 1 1, .int .i64 0] 50)) (.cells #[] 50)) kb1), (za (zc (zc (ze (Below.refl V.heap.size V)) (.cells #[.int .i64 0, .int .i64 0, .int .i64 0, .slice (some ⟨b3, 0, none⟩) 1 1, .slice (some ⟨b4, 0, none⟩) 1 1, .int .i64 0] 50)) (.cells #[] 50)) kb2), (za (zc (zc (ze (Below.refl V.heap.size V)) (.cells #[.int .i64 0, .int .i64 0, .int .i64 0, .slice (some ⟨b3, 0, none⟩) 1 1, .slice (some ⟨b4, 0, none⟩) 1 1, .int .i64 0] 50)) (.cells #[] 50)) kb3), (za (zc (zc (ze (Below.refl V.heap.size V)) (.cells #[.int .i64 0, .int .i64 0, .int .i64 0, .slice (some ⟨b3, 0, none⟩) 1 1, .slice (some ⟨b4, 0, none⟩) 1 1, .int .i64 0] 50)) (.cells #[] 50)) kb4), (za (zc (zc (ze (Below.refl V.heap.size V)) (.cells #[.int .i64 0, .int .i64 0, .int .i64 0, .slice (some ⟨b3, 0, none⟩) 1 1, .slice (some ⟨b4, 0, none⟩) 1 1, .int .i64 0] 50)) (.cells #[] 50)) kb5)⟩ (fun hHeld => ?_)
     clear hK K
     refine zp (a' := ?_) ?_ ?_
     rotate_left
     ·show Act.put _ (some 70) _ = _
      simp only [Act.put, List.setIfInBounds_toArray, List.set_cons_zero, List.set_cons_succ, zg, zh]
      rfl
     refine yE (i := 3) (N := some 72) (bm 13 63) rfl rfl (by kernel_rfl) (by decide) (fun K hK => ?_)
     refine Kd.zZ k50 (w0 := V) V.heap.size ?hwc (.tmp 70) (.tmp 71) 25 50 _ _ ?hoc Try.underlying25 xL (by rfl) (by decide) (by decide) (.slice (some ⟨V.heap.size + 1, 0, none⟩) 0 0) [] L AL nL cL (fun _ => True) (fun k => k < w1.heap.size) ?hsc ?hxc HE.out (Kd.F_below (Kd.C_F heapEntry HLN.out) (zi HRX.out.hb (zc (zc (ze (Below.refl V.heap.size V)) (.cells #[.int .i64 0, .int .i64 0, .int .i64 0, .slice (some ⟨b3, 0, none⟩) 1 1, .slice (some ⟨b4, 0, none⟩) 1 1, .int .i64 0] 50)) (.cells #[] 50)))) (fun k hk => ⟨trivial, fun e => by have h1 := HRX.out.hb.size; have h2 : k = V.heap.size + 1 := (by simpa [Value.ownBlock] using e); omega⟩) (fun _ _ => trivial) (zc (zc (ze (Below.refl V.heap.size V)) (.cells #[.int .i64 0, .int .i64 0, .int .i64 0, .slice (some ⟨b3, 0, none⟩) 1 1, .slice (some ⟨b4, 0, none⟩) 1 1, .int .i64 0] 50)) (.cells #[] 50)) ((zc (zc (ze (Below.refl V.heap.size V)) (.cells #[.int .i64 0, .int .i64 0, .int .i64 0, .slice (some ⟨b3, 0, none⟩) 1 1, .slice (some ⟨b4, 0, none⟩) 1 1, .int .i64 0] 50)) (.cells #[] 50))).size (by have h1 := HLL.out; simp; omega) ?_
     case hwc => rfl
     case hoc => rfl
     case hsc => rfl
     case hxc => first | rfl | (go_simp; done) | (simp; done)
     intro va wa hra hba hga hata
     obtain ⟨Aa, ca, he⟩ := Kd.xt hra
     rw [show (([] : List S50) ++ L).length = nL from HNL.out.symm] at he
     subst he
     have HNa := zb.mk (show Kd.N k50 50 wa V.heap.size (fun _ => True) (.slice Aa nL ca) L from hra)
     have HBa := zb.mk hba
     have HGa := zb.mk hga
     have HOa := zb.mk (show ∀ k, (Value.slice Aa nL ca).ownBlock = some k → k = V.heap.size + 1 ∨ ((V.drew.alloc (.cells #[.int .i64 0, .int .i64 0, .int .i64 0, .slice (some ⟨b3, 0, none⟩) 1 1, .slice (some ⟨b4, 0, none⟩) 1 1, .int .i64 0] 50)).alloc (.cells #[] 50)).heap.size ≤ k from fun k hk => hata.elim (fun h => by rw [h] at hk; exact .inl (by have e2 : V.heap.size + 1 = k := (by simpa [Value.ownBlock] using hk); exact e2.symm)) (fun ⟨b, h, h2⟩ => by rw [h] at hk; injection hk with hk; exact .inr (hk ▸ h2)))
     clear hra hba hga hata
     refine hK.out _ _ ⟨(za HBa.out kb0), (za HBa.out kb1), (za HBa.out kb2), (za HBa.out kb3), (za HBa.out kb4), (za HBa.out kb5)⟩ (fun hHeld => ?_)
     clear hK K
     refine zp (a' := ?_) ?_ ?_
     rotate_left
     ·show Act.put _ (some 72) _ = _
      simp only [Act.put, List.setIfInBounds_toArray, List.set_cons_zero, List.set_cons_succ, zg, zh]
      rfl
     exact zp (by simp only [zq, Act.put, List.setIfInBounds_toArray, List.set_cons_zero, List.set_cons_succ]) (hCont (Aa, ca, V.heap.size, V.heap.size + 1) _ ⟨⟨(za HBa.out kb0), (za HBa.out kb1), (za HBa.out kb2), (za HBa.out kb3), (za HBa.out kb4), (za HBa.out kb5)⟩, ⟨HBa.out⟩, ⟨HNa.out⟩, ⟨Kd.F_step (Kd.F_below HFE.out (zc (Below.refl _ _) _)) (fun k ho hk => HGa.out.block k hk (fun e => by have e1 : k < V.heap.size ∨ k = V.heap.size := ho; have e2 : k = V.heap.size + 1 := (by simpa [Value.ownBlock] using e); omega))⟩, ⟨fun k hk => by have h1 := HOa.out k hk; simp at h1; show k ≠ V.heap.size; omega⟩⟩)
   rintro ⟨A2, c2, bE, bO⟩ wj ⟨hHeld, HBj, HNj, HFj, HOj⟩
   refine zp (a' := ?_) ?_ ?_
   rotate_left
   ·simp only [zq, Act.put, List.setIfInBounds_toArray, List.set_cons_zero, List.set_cons_succ]
    rfl
   refine yE (i := 6) (N := some 75) (bm 13 127) rfl rfl (by kernel_rfl) (by decide) (fun K hK => ?_)
   refine Kd.zZ k50 (w0 := V) V.heap.size ?hwd (.tmp 72) (.tmp 74) 25 50 _ _ ?hod Try.underlying25 xL (by rfl) (by decide) (by decide) (.slice A2 nL c2) L [chg x0 42] (some ⟨bE, 0, none⟩) 1 1 (fun _ => True) (fun k => k < V.heap.size ∨ k = bE) ?hsd ?hxd HNj.out HFj.out (fun k hk => ⟨trivial, fun e => hk.elim (fun h1 => by have h2 := Kd.N_base HNj.out k e.symm; omega) (fun h1 => HOj.out k e.symm h1)⟩) (fun _ _ => trivial) HBj.out HBj.out.size (by have h1 := HLL.out; have h2 := HNL.out; omega) ?_
   case hwd => rfl
   case hod => rfl
   case hsd => first | rfl | (go_simp; done) | (simp; done)
   case hxd => first | rfl | (go_simp; done) | (simp; done)
   intro vb wb hrb hbb hgb hatb
   obtain ⟨Ab, cb, he⟩ := Kd.xt hrb
   rw [show (L ++ [chg x0 42]).length = nL + 1 by rw [List.length_append, ← HNL.out]; rfl] at he
   subst he
   have HBb := zb.mk hbb
   have HCb := zb.mk (show Kd.C k50 wb Ab (nL + 1) (L ++ [chg x0 42]) by have q := (Kd.xE hrb).2.2; have hl : (L ++ [chg x0 42]).length = nL + 1 := (by rw [List.length_append, ← HNL.out]; rfl); rwa [hl] at q)
   clear hrb hbb hgb hatb
   refine hK.out _ _ ⟨(za HBb.out kb0), (za HBb.out kb1), (za HBb.out kb2), (za HBb.out kb3), (za HBb.out kb4), (za HBb.out kb5)⟩ (fun hHeld => ?_)
   clear hK K
   refine zp (a' := ?_) ?_ ?_
   rotate_left
   ·show Act.put _ (some 75) _ = _
    simp only [Act.put, List.setIfInBounds_toArray, List.set_cons_zero, List.set_cons_succ, zg, zh]
    rfl
   refine yE (i := 7) (N := some 76) (bm 13 255) rfl rfl (by kernel_rfl) (by decide) (fun K hK => ?_)
   refine xQ Try.func34 (by kernel_rfl) rfl #[.slice A0 n0 c0, .slice Ab (nL + 1) cb] (by rfl) rfl rfl (by simp only [List.map_toArray, List.map_cons, List.map_nil]; rfl) ?_
   with_reducible refine (KY1.out wb (zi HRX.out.hb HBb.out) Ab cb HCb.out).mono ?_
   rintro e wc ⟨Ac, cc, rfl, hn, hr, hb⟩
   refine ⟨_, rfl, ?_⟩
   have HBc := zb.mk (show Below V.heap.size V wc from zi HBb.out hb)
   have HRc := zb.mk hr
   have HNc := zb.mk hn
   have HSb := zb.mk (show V.heap.size ≤ wb.heap.size from HBb.out.size)
   clear hn hr hb
   refine hK.out _ _ ⟨(za HBc.out kb0), (za HBc.out kb1), (za HBc.out kb2), (za HBc.out kb3), (za HBc.out kb4), (za HBc.out kb5)⟩ (fun hHeld => ?_)
   clear hK K
   refine zp (a' := ?_) ?_ ?_
   rotate_left
   ·show Act.put _ (some 76) _ = _
    simp only [Act.put, List.setIfInBounds_toArray, List.set_cons_zero, List.set_cons_succ, zg, zh]
    rfl
   refine zl (i := 8) (N := some 68) (v := ?_) (a' := ?_) (bm 13 511) rfl rfl (by kernel_rfl) (fun _ _ _ h => h) (Or.inl ⟨by rfl, ?_⟩) ?_ ?_
   rotate_left
   ·intro w'
    go_simp
    with_reducible rfl
   rotate_left
   ·simp only [Act.put, List.setIfInBounds_toArray, List.set_cons_zero, List.set_cons_succ, zg, zh]
    rfl
   refine zl (i := 9) (N := some 77) (v := ?_) (a' := ?_) (bm 13 1023) rfl rfl (by kernel_rfl) (fun _ _ _ h => h) (Or.inl ⟨by rfl, ?_⟩) ?_ ?_
   rotate_left
   ·intro w'
    go_simp
    with_reducible rfl
   rotate_left
   ·simp only [Act.put, List.setIfInBounds_toArray, List.set_cons_zero, List.set_cons_succ, zg, zh]
    rfl
   refine zl (i := 10) (N := some 78) (v := ?_) (a' := ?_) (bm 13 2047) rfl rfl (by kernel_rfl) (fun _ _ _ h => h) (Or.inl ⟨by rfl, ?_⟩) ?_ ?_
   rotate_left
   ·intro w'
    go_simp
    with_reducible rfl
   rotate_left
   ·simp only [Act.put, List.setIfInBounds_toArray, List.set_cons_zero, List.set_cons_succ, zg, zh]
    rfl
   refine zl (i := 11) (N := some 10) (v := ?_) (a' := ?_) (bm 13 4095) rfl rfl (by kernel_rfl) (fun _ _ _ h => h) (Or.inl ⟨by rfl, ?_⟩) ?_ ?_
   rotate_left
   ·intro w'
    go_simp
    with_reducible rfl
   rotate_left
   ·simp only [Act.put, List.setIfInBounds_toArray, List.set_cons_zero, List.set_cons_succ, zg, zh]
    rfl
   refine zl (i := 12) (N := some 11) (v := ?_) (a' := ?_) (bm 13 8191) rfl rfl (by kernel_rfl) (fun _ _ _ h => h) (Or.inl ⟨by rfl, ?_⟩) ?_ ?_
   rotate_left
   ·intro w'
    go_simp
    with_reducible rfl
   rotate_left
   ·simp only [Act.put, List.setIfInBounds_toArray, List.set_cons_zero, List.set_cons_succ, zg, zh]
    rfl
   refine yt (by kernel_rfl) ?_
   clear HBj HNj HFj HOj HBb HCb kb0 kb1 kb2 kb3 kb4 kb5 KY1
   obtain ⟨adY, rfl, y0⟩ := at_ints (Kd.zH HRc.out).2.2 0 (by rw [putsF_len]; exact HRP.out)
   rw [putsF_one 42 HRP.out] at y0
   have HYB := zb.mk (show V.heap.size ≤ adY.block from Nat.le_trans HSb.out (Kd.yV HRc.out adY.block rfl))
   have HRX2 := zb.mk (HRX.out.below HBc.out)
   have HB3V := zb.mk (show b3 < V.heap.size from zo HRX.out.q3)
   have kb3 := (zd HRX2.out.box 3).trans rfl
   have xx := za HBc.out xx
   have xf := zk (zD HRX2.out.q3) 1
   have xf2 := zk HRX2.out.q3 1
   have hz4 : 0 < n0 := HZ.out
   have kq := (zd HRX2.out.q3 1).trans rfl
   go_upto_region 10 with (fail)
   refine yc (n := 10) (S := fun w' => w'.cell? ⟨bx, 3, none⟩ = some (.slice (some ⟨b3, 0, none⟩) 1 1) ∧ w'.cell? adX = some (.int .i64 x0)) (ds := [9]) (bm 10 0) (by kernel_rfl) rfl rfl ⟨(za (ze (Below.refl _ _)) kb3), (za (ze (Below.refl _ _)) xx)⟩ (fun hHeld => ?_)
   refine zl (i := 0) (N := some 79) (v := ?_) (a' := ?_) (bm 10 1) rfl rfl (by kernel_rfl) (fun _ _ _ h => h) (Or.inl ⟨by rfl, ?_⟩) ?_ ?_
   rotate_left
   ·intro w'
    go_simp
    with_reducible rfl
   rotate_left
   ·simp only [Act.put, List.setIfInBounds_toArray, List.set_cons_zero, List.set_cons_succ, zg, zh]
    rfl
   refine zl (i := 2) (N := some 81) (v := ?_) (a' := ?_) (bm 10 5) rfl rfl (by kernel_rfl) (fun _ _ _ h => h) (Or.inl ⟨by rfl, ?_⟩) ?_ ?_
   rotate_left
   ·intro w'
    go_simp
    with_reducible rfl
   rotate_left
   ·simp only [Act.put, List.setIfInBounds_toArray, List.set_cons_zero, List.set_cons_succ, zg, zh]
    rfl
   refine zl (i := 3) (N := some 82) (v := ?_) (a' := ?_) (bm 10 13) rfl rfl (by kernel_rfl) (fun _ _ _ h => h) (Or.inl ⟨by rfl, ?_⟩) ?_ ?_
   rotate_left
   ·intro w'
    go_simp
    with_reducible rfl
   rotate_left
   ·simp only [Act.put, List.setIfInBounds_toArray, List.set_cons_zero, List.set_cons_succ, zg, zh]
    rfl
   refine zA (i := 1) (N := some 80) (v := ?_) (a' := ?_) (bm 10 15) rfl rfl (by kernel_rfl) (fun _ _ _ h => h) (Or.inl ⟨by rfl, ?_⟩) hHeld ?_ ?_
   rotate_left
   ·rintro w' ⟨s0, s1⟩
    go_simp
    with_reducible rfl
   rotate_left
   ·simp only [Act.put, List.setIfInBounds_toArray, List.set_cons_zero, List.set_cons_succ, zg, zh]
    rfl
   refine zA (i := 4) (N := some 83) (v := ?_) (a' := ?_) (bm 10 31) rfl rfl (by kernel_rfl) (fun _ _ _ h => h) (Or.inl ⟨by rfl, ?_⟩) hHeld ?_ ?_
   rotate_left
   ·rintro w' ⟨s0, s1⟩
    go_simp
    with_reducible rfl
   rotate_left
   ·simp only [Act.put, List.setIfInBounds_toArray, List.set_cons_zero, List.set_cons_succ, zg, zh]
    rfl
   refine zl (i := 5) (N := some 84) (v := ?_) (a' := ?_) (bm 10 63) rfl rfl (by kernel_rfl) (fun _ _ _ h => h) (Or.inl ⟨by rfl, ?_⟩) ?_ ?_
   rotate_left
   ·intro w'
    go_simp
    with_reducible rfl
   rotate_left
   ·simp only [Act.put, List.setIfInBounds_toArray, List.set_cons_zero, List.set_cons_succ, zg, zh]
    rfl
   refine zl (i := 6) (N := some 85) (v := ?_) (a' := ?_) (bm 10 127) rfl rfl (by kernel_rfl) (fun _ _ _ h => h) (Or.inl ⟨by rfl, ?_⟩) ?_ ?_
   rotate_left
   ·intro w'
    go_simp
    with_reducible rfl
   rotate_left
   ·simp only [Act.put, List.setIfInBounds_toArray, List.set_cons_zero, List.set_cons_succ, zg, zh]
    rfl
   refine zl (i := 7) (N := some 86) (v := ?_) (a' := ?_) (bm 10 255) rfl rfl (by kernel_rfl) (fun _ _ _ h => h) (Or.inl ⟨by rfl, ?_⟩) ?_ ?_
   rotate_left
   ·intro w'
    go_simp
    with_reducible rfl
   rotate_left
   ·simp only [Act.put, List.setIfInBounds_toArray, List.set_cons_zero, List.set_cons_succ, zg, zh]
    rfl
   refine zl (i := 8) (N := some 87) (v := ?_) (a' := ?_) (bm 10 511) rfl rfl (by kernel_rfl) (fun _ _ _ h => h) (Or.inl ⟨by rfl, ?_⟩) ?_ ?_
   rotate_left
   ·intro w'
    go_simp
    with_reducible rfl
   rotate_left
   ·simp only [Act.put, List.setIfInBounds_toArray, List.set_cons_zero, List.set_cons_succ, zg, zh]
    rfl
   refine yR (i := 9) (N := none) (bm 10 1023) rfl rfl (by kernel_rfl) (by decide) (fun K hK => ?_)
   refine yQ (w1 := ?_) (by rfl) rfl ?_ ?_
   rotate_left
   ·go_simp
    rfl
   refine hK.out _ _ ?_
   clear hK K
   refine yt (by kernel_rfl) ?_
   rw [← HZZ.out]
   have HRX3 := zb.mk ((HRX2.out.put zz).below (ze (Below.refl _ _)))
   have y1 : (wc.setCell ⟨b3, 1, none⟩ (.int .i64 zz)).drew.cell? (adY.add 0) = some (.int .i64 42) := yo (b := ⟨b3, 1, none⟩) (u := .int .i64 zz) y0 (fun e => by have e1 : adY.block = b3 := congrArg Addr.block e; have h1 := HYB.out; have h2 := HB3V.out; omega)
   have HRX4 := HRX3
   clear HRX HBc HRc HNc HSb HYB HB3V HRX2 HRX3 kb3 xx xf xf2 hz4 kq y0 hHeld
   obtain ⟨V, hV⟩ : ∃ V, V = (wc.setCell ⟨b3, 1, none⟩ (.int .i64 zz)).drew := ⟨_, rfl⟩
   rw [← hV] at HRX4 y1 ⊢
   have HRX := HRX4
   clear hV HRX4
   have kb0 := (zd HRX.out.box 0).trans rfl
   have kb1 := (zd HRX.out.box 1).trans rfl
   have kb2 := (zd HRX.out.box 2).trans rfl
   have kb3 := (zd HRX.out.box 3).trans rfl
   have kb4 := (zd HRX.out.box 4).trans rfl
   have kb5 := (zd HRX.out.box 5).trans rfl
   go_upto_region 11 with (fail)
   refine yc (n := 13) (S := fun w' => w'.cell? ⟨bx, 0, none⟩ = some (.int .i64 0) ∧ w'.cell? ⟨bx, 1, none⟩ = some (.int .i64 0) ∧ w'.cell? ⟨bx, 2, none⟩ = some (.int .i64 0) ∧ w'.cell? ⟨bx, 3, none⟩ = some (.slice (some ⟨b3, 0, none⟩) 1 1) ∧ w'.cell? ⟨bx, 4, none⟩ = some (.slice (some ⟨b4, 0, none⟩) 1 1) ∧ w'.cell? ⟨bx, 5, none⟩ = some (.int .i64 0)) (ds := []) (bm 13 0) (by kernel_rfl) rfl rfl ⟨(za (ze (Below.refl _ _)) kb0), (za (ze (Below.refl _ _)) kb1), (za (ze (Below.refl _ _)) kb2), (za (ze (Below.refl _ _)) kb3), (za (ze (Below.refl _ _)) kb4), (za (ze (Below.refl _ _)) kb5)⟩ (fun hHeld => ?_)
   refine zl (i := 0) (N := some 89) (v := ?_) (a' := ?_) (bm 13 1) rfl rfl (by kernel_rfl) (fun _ _ _ h => h) (Or.inl ⟨by rfl, ?_⟩) ?_ ?_
   rotate_left
   ·intro w'
    go_simp
    with_reducible rfl
   rotate_left
   ·simp only [Act.put, List.setIfInBounds_toArray, List.set_cons_zero, List.set_cons_succ, zg, zh]
    rfl
   refine zl (i := 2) (N := some 91) (v := ?_) (a' := ?_) (bm 13 5) rfl rfl (by kernel_rfl) (fun _ _ _ h => h) (Or.inl ⟨by rfl, ?_⟩) ?_ ?_
   rotate_left
   ·intro w'
    go_simp
    with_reducible rfl
   rotate_left
   ·simp only [Act.put, List.setIfInBounds_toArray, List.set_cons_zero, List.set_cons_succ, zg, zh]
    rfl
   refine zA (i := 4) (N := some 93) (v := ?_) (a' := ?_) (bm 13 21) rfl rfl (by kernel_rfl) (fun _ _ _ h => h) (Or.inl ⟨by rfl, ?_⟩) hHeld ?_ ?_
   rotate_left
   ·rintro w' ⟨s0, s1, s2, s3, s4, s5⟩
    go_simp
    with_reducible rfl
   rotate_left
   ·simp only [Act.put, List.setIfInBounds_toArray, List.set_cons_zero, List.set_cons_succ, zg, zh]
    rfl
   refine xc (σ := Option Addr × Nat × Nat × Nat) 7 (bm 13 63) (fun s => [(90, .slice (some ⟨s.2.2.2, 0, none⟩) 0 0), (92, .slice s.1 nL s.2.1), (94, .slice (some ⟨s.2.2.1, 0, none⟩) 1 1)]) (fun s w' => (w'.cell? ⟨bx, 0, none⟩ = some (.int .i64 0) ∧ w'.cell? ⟨bx, 1, none⟩ = some (.int .i64 0) ∧ w'.cell? ⟨bx, 2, none⟩ = some (.int .i64 0) ∧ w'.cell? ⟨bx, 3, none⟩ = some (.slice (some ⟨b3, 0, none⟩) 1 1) ∧ w'.cell? ⟨bx, 4, none⟩ = some (.slice (some ⟨b4, 0, none⟩) 1 1) ∧ w'.cell? ⟨bx, 5, none⟩ = some (.int .i64 0)) ∧ zb (Below V.heap.size V w') ∧ zb (Kd.N k50 50 w' V.heap.size (fun _ => True) (.slice s.1 nL s.2.1) L) ∧ zb (Kd.F k50 w' (fun k => k < V.heap.size ∨ k = s.2.2.1) (some ⟨s.2.2.1, 0, none⟩) 1 [chg zz 42]) ∧ zb (∀ k, (Value.slice s.1 nL s.2.1).ownBlock = some k → k ≠ s.2.2.1)) ?_ ?_
   rotate_left
   ·intro hCont
    refine two_ (i := 1) (j := 5) (Ni := some 90) (Nj := some 94) (bm 13 23) (bm 13 53) rfl rfl rfl rfl (by kernel_rfl) (by decide) (by decide) (fun K hK => ?_) (fun K hK => ?_)
    ·skip
     refine zI (w1 := ?_) (v := ?_) (by rfl) rfl ?_ ?_
     rotate_left 2
     ·go_simp
      constructor
      ·rfl
      ·rfl
     have HE := zb.mk (show Kd.N k50 50 (V.drew.alloc (.cells #[] 50)) V.heap.size (fun _ => True) (.slice (some ⟨V.heap.size, 0, none⟩) 0 0) ([] : List S50) from Kd.R_N (xI (heap_alloc_new _ _) (by simp) trivial))
     refine hK.out _ _ ⟨(za (zc (ze (Below.refl V.heap.size V)) (.cells #[] 50)) kb0), (za (zc (ze (Below.refl V.heap.size V)) (.cells #[] 50)) kb1), (za (zc (ze (Below.refl V.heap.size V)) (.cells #[] 50)) kb2), (za (zc (ze (Below.refl V.heap.size V)) (.cells #[] 50)) kb3), (za (zc (ze (Below.refl V.heap.size V)) (.cells #[] 50)) kb4), (za (zc (ze (Below.refl V.heap.size V)) (.cells #[] 50)) kb5)⟩ (fun hHeld => ?_)
     clear hK K
     refine zp (a' := ?_) ?_ ?_
     rotate_left
     ·show Act.put _ (some 90) _ = _
      simp only [Act.put, List.setIfInBounds_toArray, List.set_cons_zero, List.set_cons_succ, zg, zh]
      rfl
     refine two_ (i := 3) (j := 5) (Ni := some 92) (Nj := some 94) (bm 13 31) (bm 13 55) rfl rfl rfl rfl (by kernel_rfl) (by decide) (by decide) (fun K hK => ?_) (fun K hK => ?_)
     ·skip
      refine Kd.zZ k50 (w0 := V) V.heap.size ?hwa (.tmp 90) (.tmp 91) 25 50 _ _ ?hoa Try.underlying25 xL (by rfl) (by decide) (by decide) (.slice (some ⟨V.heap.size, 0, none⟩) 0 0) [] L AL nL cL (fun _ => True) (fun k => k < w1.heap.size) ?hsa ?hxa HE.out (Kd.F_below (Kd.C_F heapEntry HLN.out) (zi HRX.out.hb (zc (ze (Below.refl V.heap.size V)) (.cells #[] 50)))) (fun k hk => ⟨trivial, fun e => by have h1 := HRX.out.hb.size; have h2 : k = V.heap.size := (by simpa [Value.ownBlock] using e); omega⟩) (fun _ _ => trivial) (zc (ze (Below.refl V.heap.size V)) (.cells #[] 50)) ((zc (ze (Below.refl V.heap.size V)) (.cells #[] 50))).size (by have h1 := HLL.out; simp; omega) ?_
      case hwa => rfl
      case hoa => rfl
      case hsa => rfl
      case hxa => first | rfl | (go_simp; done) | (simp; done)
      intro va wa hra hba hga hata
      obtain ⟨Aa, ca, he⟩ := Kd.xt hra
      rw [show (([] : List S50) ++ L).length = nL from HNL.out.symm] at he
      subst he
      have HNa := zb.mk (show Kd.N k50 50 wa V.heap.size (fun _ => True) (.slice Aa nL ca) L from hra)
      have HBa := zb.mk hba
      have HGa := zb.mk hga
      have HOa := zb.mk (show ∀ k, (Value.slice Aa nL ca).ownBlock = some k → k = V.heap.size ∨ (V.drew.alloc (.cells #[] 50)).heap.size ≤ k from fun k hk => hata.elim (fun h => by rw [h] at hk; exact .inl (by have e2 : V.heap.size = k := (by simpa [Value.ownBlock] using hk); exact e2.symm)) (fun ⟨b, h, h2⟩ => by rw [h] at hk; injection hk with hk; exact .inr (hk ▸ h2)))
      clear hra hba hga hata
      refine hK.out _ _ ⟨(za HBa.out kb0), (za HBa.out kb1), (za HBa.out kb2), (za HBa.out kb3), (za HBa.out kb4), (za HBa.out kb5)⟩ (fun hHeld => ?_)
      clear hK K
      refine zp (a' := ?_) ?_ ?_
      rotate_left
      ·show Act.put _ (some 92) _ = _
       simp only [Act.put, List.setIfInBounds_toArray, List.set_cons_zero, List.set_cons_succ, zg, zh]
       rfl
      refine yE (i := 5) (N := some 94) (bm 13 63) rfl rfl (by kernel_rfl) (by decide) (fun K hK => ?_)
      refine zI (w1 := ?_) (v := ?_) (by rfl) rfl ?_ ?_
      rotate_left 2
      ·go_simp
       constructor
       ·rfl
       ·rfl
      have HFE := zb.mk (rowE (n := wa.heap.size) HRX.out (W := wa) HBa.out (by first | rfl | simp))
      refine hK.out _ _ ⟨(za (zc HBa.out (.cells #[.int .i64 0, .int .i64 0, .int .i64 0, .slice (some ⟨b3, 0, none⟩) 1 1, .slice (some ⟨b4, 0, none⟩) 1 1, .int .i64 0] 50)) kb0), (za (zc HBa.out (.cells #[.int .i64 0, .int .i64 0, .int .i64 0, .slice (some ⟨b3, 0, none⟩) 1 1, .slice (some ⟨b4, 0, none⟩) 1 1, .int .i64 0] 50)) kb1), (za (zc HBa.out (.cells #[.int .i64 0, .int .i64 0, .int .i64 0, .slice (some ⟨b3, 0, none⟩) 1 1, .slice (some ⟨b4, 0, none⟩) 1 1, .int .i64 0] 50)) kb2), (za (zc HBa.out (.cells #[.int .i64 0, .int .i64 0, .int .i64 0, .slice (some ⟨b3, 0, none⟩) 1 1, .slice (some ⟨b4, 0, none⟩) 1 1, .int .i64 0] 50)) kb3), (za (zc HBa.out (.cells #[.int .i64 0, .int .i64 0, .int .i64 0, .slice (some ⟨b3, 0, none⟩) 1 1, .slice (some ⟨b4, 0, none⟩) 1 1, .int .i64 0] 50)) kb4), (za (zc HBa.out (.cells #[.int .i64 0, .int .i64 0, .int .i64 0, .slice (some ⟨b3, 0, none⟩) 1 1, .slice (some ⟨b4, 0, none⟩) 1 1, .int .i64 0] 50)) kb5)⟩ (fun hHeld => ?_)
      clear hK K
      refine zp (a' := ?_) ?_ ?_
      rotate_left
      ·show Act.put _ (some 94) _ = _
       simp only [Act.put, List.setIfInBounds_toArray, List.set_cons_zero, List.set_cons_succ, zg, zh]
       rfl
      exact zp (by simp only [zq, Act.put, List.setIfInBounds_toArray, List.set_cons_zero, List.set_cons_succ]) (hCont (Aa, ca, wa.heap.size, V.heap.size) _ ⟨⟨(za (zc HBa.out (.cells #[.int .i64 0, .int .i64 0, .int .i64 0, .slice (some ⟨b3, 0, none⟩) 1 1, .slice (some ⟨b4, 0, none⟩) 1 1, .int .i64 0] 50)) kb0), (za (zc HBa.out (.cells #[.int .i64 0, .int .i64 0, .int .i64 0, .slice (some ⟨b3, 0, none⟩) 1 1, .slice (some ⟨b4, 0, none⟩) 1 1, .int .i64 0] 50)) kb1), (za (zc HBa.out (.cells #[.int .i64 0, .int .i64 0, .int .i64 0, .slice (some ⟨b3, 0, none⟩) 1 1, .slice (some ⟨b4, 0, none⟩) 1 1, .int .i64 0] 50)) kb2), (za (zc HBa.out (.cells #[.int .i64 0, .int .i64 0, .int .i64 0, .slice (some ⟨b3, 0, none⟩) 1 1, .slice (some ⟨b4, 0, none⟩) 1 1, .int .i64 0] 50)) kb3), (za (zc HBa.out (.cells #[.int .i64 0, .int .i64 0, .int .i64 0, .slice (some ⟨b3, 0, none⟩) 1 1, .slice (some ⟨b4, 0, none⟩) 1 1, .int .i64 0] 50)) kb4), (za (zc HBa.out (.cells #[.int .i64 0, .int .i64 0, .int .i64 0, .slice (some ⟨b3, 0, none⟩) 1 1, .slice (some ⟨b4, 0, none⟩) 1 1, .int .i64 0] 50)) kb5)⟩, ⟨(zc HBa.out (.cells #[.int .i64 0, .int .i64 0, .int .i64 0, .slice (some ⟨b3, 0, none⟩) 1 1, .slice (some ⟨b4, 0, none⟩) 1 1, .int .i64 0] 50))⟩, ⟨Kd.xJ HNa.out (zc (Below.refl _ _) _)⟩, ⟨HFE.out⟩, ⟨fun k hk => by have h1 := Kd.N_lt HNa.out k hk; exact Nat.ne_of_lt h1⟩⟩)
     ·skip
      refine zI (w1 := ?_) (v := ?_) (by rfl) rfl ?_ ?_
      rotate_left 2
      ·go_simp
       constructor
       ·rfl
       ·rfl
      have HFE := zb.mk (rowE (n := V.heap.size + 1) HRX.out (W := V.drew.alloc (.cells #[] 50)) (zc (ze (Below.refl V.heap.size V)) (.cells #[] 50)) (by first | rfl | simp))
      have HE2 := zb.mk (Kd.xJ HE.out (zc (Below.refl _ _) (.cells #[.int .i64 0, .int .i64 0, .int .i64 0, .slice (some ⟨b3, 0, none⟩) 1 1, .slice (some ⟨b4, 0, none⟩) 1 1, .int .i64 0] 50)))
      refine hK.out _ _ ⟨(za (zc (zc (ze (Below.refl V.heap.size V)) (.cells #[] 50)) (.cells #[.int .i64 0, .int .i64 0, .int .i64 0, .slice (some ⟨b3, 0, none⟩) 1 1, .slice (some ⟨b4, 0, none⟩) 1 1, .int .i64 0] 50)) kb0), (za (zc (zc (ze (Below.refl V.heap.size V)) (.cells #[] 50)) (.cells #[.int .i64 0, .int .i64 0, .int .i64 0, .slice (some ⟨b3, 0, none⟩) 1 1, .slice (some ⟨b4, 0, none⟩) 1 1, .int .i64 0] 50)) kb1), (za (zc (zc (ze (Below.refl V.heap.size V)) (.cells #[] 50)) (.cells #[.int .i64 0, .int .i64 0, .int .i64 0, .slice (some ⟨b3, 0, none⟩) 1 1, .slice (some ⟨b4, 0, none⟩) 1 1, .int .i64 0] 50)) kb2), (za (zc (zc (ze (Below.refl V.heap.size V)) (.cells #[] 50)) (.cells #[.int .i64 0, .int .i64 0, .int .i64 0, .slice (some ⟨b3, 0, none⟩) 1 1, .slice (some ⟨b4, 0, none⟩) 1 1, .int .i64 0] 50)) kb3), (za (zc (zc (ze (Below.refl V.heap.size V)) (.cells #[] 50)) (.cells #[.int .i64 0, .int .i64 0, .int .i64 0, .slice (some ⟨b3, 0, none⟩) 1 1, .slice (some ⟨b4, 0, none⟩) 1 1, .int .i64 0] 50)) kb4), (za (zc (zc (ze (Below.refl V.heap.size V)) (.cells #[] 50)) (.cells #[.int .i64 0, .int .i64 0, .int .i64 0, .slice (some ⟨b3, 0, none⟩) 1 1, .slice (some ⟨b4, 0, none⟩) 1 1, .int .i64 0] 50)) kb5)⟩ (fun hHeld => ?_)
      clear hK K
      refine zp (a' := ?_) ?_ ?_
      rotate_left
      ·show Act.put _ (some 94) _ = _
       simp only [Act.put, List.setIfInBounds_toArray, List.set_cons_zero, List.set_cons_succ, zg, zh]
       rfl
      refine yE (i := 3) (N := some 92) (bm 13 63) rfl rfl (by kernel_rfl) (by decide) (fun K hK => ?_)
      refine Kd.zZ k50 (w0 := V) V.heap.size ?hwb (.tmp 90) (.tmp 91) 25 50 _ _ ?hob Try.underlying25 xL (by rfl) (by decide) (by decide) (.slice (some ⟨V.heap.size, 0, none⟩) 0 0) [] L AL nL cL (fun _ => True) (fun k => k < w1.heap.size) ?hsb ?hxb HE2.out (Kd.F_below (Kd.C_F heapEntry HLN.out) (zi HRX.out.hb (zc (zc (ze (Below.refl V.heap.size V)) (.cells #[] 50)) (.cells #[.int .i64 0, .int .i64 0, .int .i64 0, .slice (some ⟨b3, 0, none⟩) 1 1, .slice (some ⟨b4, 0, none⟩) 1 1, .int .i64 0] 50)))) (fun k hk => ⟨trivial, fun e => by have h1 := HRX.out.hb.size; have h2 : k = V.heap.size := (by simpa [Value.ownBlock] using e); omega⟩) (fun _ _ => trivial) (zc (zc (ze (Below.refl V.heap.size V)) (.cells #[] 50)) (.cells #[.int .i64 0, .int .i64 0, .int .i64 0, .slice (some ⟨b3, 0, none⟩) 1 1, .slice (some ⟨b4, 0, none⟩) 1 1, .int .i64 0] 50)) ((zc (zc (ze (Below.refl V.heap.size V)) (.cells #[] 50)) (.cells #[.int .i64 0, .int .i64 0, .int .i64 0, .slice (some ⟨b3, 0, none⟩) 1 1, .slice (some ⟨b4, 0, none⟩) 1 1, .int .i64 0] 50))).size (by have h1 := HLL.out; simp; omega) ?_
      case hwb => rfl
      case hob => rfl
      case hsb => rfl
      case hxb => first | rfl | (go_simp; done) | (simp; done)
      intro va wa hra hba hga hata
      obtain ⟨Aa, ca, he⟩ := Kd.xt hra
      rw [show (([] : List S50) ++ L).length = nL from HNL.out.symm] at he
      subst he
      have HNa := zb.mk (show Kd.N k50 50 wa V.heap.size (fun _ => True) (.slice Aa nL ca) L from hra)
      have HBa := zb.mk hba
      have HGa := zb.mk hga
      have HOa := zb.mk (show ∀ k, (Value.slice Aa nL ca).ownBlock = some k → k = V.heap.size ∨ ((V.drew.alloc (.cells #[] 50)).alloc (.cells #[.int .i64 0, .int .i64 0, .int .i64 0, .slice (some ⟨b3, 0, none⟩) 1 1, .slice (some ⟨b4, 0, none⟩) 1 1, .int .i64 0] 50)).heap.size ≤ k from fun k hk => hata.elim (fun h => by rw [h] at hk; exact .inl (by have e2 : V.heap.size = k := (by simpa [Value.ownBlock] using hk); exact e2.symm)) (fun ⟨b, h, h2⟩ => by rw [h] at hk; injection hk with hk; exact .inr (hk ▸ h2)))
      clear hra hba hga hata
      refine hK.out _ _ ⟨(za HBa.out kb0), (za HBa.out kb1), (za HBa.out kb2), (za HBa.out kb3), (za HBa.out kb4), (za HBa.out kb5)⟩ (fun hHeld => ?_)
      clear hK K
      refine zp (a' := ?_) ?_ ?_
      rotate_left
      ·show Act.put _ (some 92) _ = _
       simp only [Act.put, List.setIfInBounds_toArray, List.set_cons_zero, List.set_cons_succ, zg, zh]
       rfl
      exact zp (by simp only [zq, Act.put, List.setIfInBounds_toArray, List.set_cons_zero, List.set_cons_succ]) (hCont (Aa, ca, V.heap.size + 1, V.heap.size) _ ⟨⟨(za HBa.out kb0), (za HBa.out kb1), (za HBa.out kb2), (za HBa.out kb3), (za HBa.out kb4), (za HBa.out kb5)⟩, ⟨HBa.out⟩, ⟨HNa.out⟩, ⟨Kd.F_step (HFE.out) (fun k ho hk => HGa.out.block k hk (fun e => by have e1 : k < V.heap.size ∨ k = V.heap.size + 1 := ho; have e2 : k = V.heap.size := (by simpa [Value.ownBlock] using e); omega))⟩, ⟨fun k hk => by have h1 := HOa.out k hk; simp at h1; show k ≠ V.heap.size + 1; omega⟩⟩)
    ·skip
     refine zI (w1 := ?_) (v := ?_) (by rfl) rfl ?_ ?_
     rotate_left 2
     ·go_simp
      constructor
      ·rfl
      ·rfl
     have HFE := zb.mk (rowE (n := V.heap.size) HRX.out (W := V.drew) (ze (Below.refl V.heap.size V)) (by first | rfl | simp))
     refine hK.out _ _ ⟨(za (zc (ze (Below.refl V.heap.size V)) (.cells #[.int .i64 0, .int .i64 0, .int .i64 0, .slice (some ⟨b3, 0, none⟩) 1 1, .slice (some ⟨b4, 0, none⟩) 1 1, .int .i64 0] 50)) kb0), (za (zc (ze (Below.refl V.heap.size V)) (.cells #[.int .i64 0, .int .i64 0, .int .i64 0, .slice (some ⟨b3, 0, none⟩) 1 1, .slice (some ⟨b4, 0, none⟩) 1 1, .int .i64 0] 50)) kb1), (za (zc (ze (Below.refl V.heap.size V)) (.cells #[.int .i64 0, .int .i64 0, .int .i64 0, .slice (some ⟨b3, 0, none⟩) 1 1, .slice (some ⟨b4, 0, none⟩) 1 1, .int .i64 0] 50)) kb2), (za (zc (ze (Below.refl V.heap.size V)) (.cells #[.int .i64 0, .int .i64 0, .int .i64 0, .slice (some ⟨b3, 0, none⟩) 1 1, .slice (some ⟨b4, 0, none⟩) 1 1, .int .i64 0] 50)) kb3), (za (zc (ze (Below.refl V.heap.size V)) (.cells #[.int .i64 0, .int .i64 0, .int .i64 0, .slice (some ⟨b3, 0, none⟩) 1 1, .slice (some ⟨b4, 0, none⟩) 1 1, .int .i64 0] 50)) kb4), (za (zc (ze (Below.refl V.heap.size V)) (.cells #[.int .i64 0, .int .i64 0, .int .i64 0, .slice (some ⟨b3, 0, none⟩) 1 1, .slice (some ⟨b4, 0, none⟩) 1 1, .int .i64 0] 50)) kb5)⟩ (fun hHeld => ?_)
     clear hK K
     refine zp (a' := ?_) ?_ ?_
     rotate_left
     ·show Act.put _ (some 94) _ = _
      simp only [Act.put, List.setIfInBounds_toArray, List.set_cons_zero, List.set_cons_succ, zg, zh]
      rfl
     refine yE (i := 1) (N := some 90) (bm 13 55) rfl rfl (by kernel_rfl) (by decide) (fun K hK => ?_)
     refine zI (w1 := ?_) (v := ?_) (by rfl) rfl ?_ ?_
     rotate_left 2
     ·go_simp
      constructor
      ·rfl
      ·rfl
     have HE := zb.mk (show Kd.N k50 50 ((V.drew.alloc (.cells #[.int .i64 0, .int .i64 0, .int .i64 0, .slice (some ⟨b3, 0, none⟩) 1 1, .slice (some ⟨b4, 0, none⟩) 1 1, .int .i64 0] 50)).alloc (.cells #[] 50)) V.heap.size (fun _ => True) (.slice (some ⟨V.heap.size + 1, 0, none⟩) 0 0) ([] : List S50) from Kd.R_N (xI (new_at _ _ (by simp)) (by simp) trivial))
     refine hK.out _ _ ⟨(za (zc (zc (ze (Below.refl V.heap.size V)) (.cells #[.int .i64 0, .int .i64 0, .int .i64 0, .slice (some ⟨b3, 0, none⟩) 1 1, .slice (some ⟨b4, 0, none⟩) 1 1, .int .i64 0] 50)) (.cells #[] 50)) kb0), (za (zc (zc (ze (Below.refl V.heap.size V)) (.cells #[.int .i64 0, .int .i64 0, .int .i64 0, .slice (some ⟨b3, 0, none⟩) 1 1, .slice (some ⟨b4, 0, none⟩) 1 1, .int .i64 0] 50)) (.cells #[] 50)) kb1), (za (zc (zc (ze (Below.refl V.heap.size V)) (.cells #[.int .i64 0, .int .i64 0, .int .i64 0, .slice (some ⟨b3, 0, none⟩) 1 1, .slice (some ⟨b4, 0, none⟩) 1 1, .int .i64 0] 50)) (.cells #[] 50)) kb2), (za (zc (zc (ze (Below.refl V.heap.size V)) (.cells #[.int .i64 0, .int .i64 0, .int .i64 0, .slice (some ⟨b3, 0, none⟩) 1 1, .slice (some ⟨b4, 0, none⟩) 1 1, .int .i64 0] 50)) (.cells #[] 50)) kb3), (za (zc (zc (ze (Below.refl V.heap.size V)) (.cells #[.int .i64 0, .int .i64 0, .int .i64 0, .slice (some ⟨b3, 0, none⟩) 1 1, .slice (some ⟨b4, 0, none⟩) 1 1, .int .i64 0] 50)) (.cells #[] 50)) kb4), (za (zc (zc (ze (Below.refl V.heap.size V)) (.cells #[.int .i64 0, .int .i64 0, .int .i64 0, .slice (some ⟨b3, 0, none⟩) 1 1, .slice (some ⟨b4, 0, none⟩) 1 1, .int .i64 0] 50)) (.cells #[] 50)) kb5)⟩ (fun hHeld => ?_)
     clear hK K
     refine zp (a' := ?_) ?_ ?_
     rotate_left
     ·show Act.put _ (some 90) _ = _
      simp only [Act.put, List.setIfInBounds_toArray, List.set_cons_zero, List.set_cons_succ, zg, zh]
      rfl
     refine yE (i := 3) (N := some 92) (bm 13 63) rfl rfl (by kernel_rfl) (by decide) (fun K hK => ?_)
     refine Kd.zZ k50 (w0 := V) V.heap.size ?hwc (.tmp 90) (.tmp 91) 25 50 _ _ ?hoc Try.underlying25 xL (by rfl) (by decide) (by decide) (.slice (some ⟨V.heap.size + 1, 0, none⟩) 0 0) [] L AL nL cL (fun _ => True) (fun k => k < w1.heap.size) ?hsc ?hxc HE.out (Kd.F_below (Kd.C_F heapEntry HLN.out) (zi HRX.out.hb (zc (zc (ze (Below.refl V.heap.size V)) (.cells #[.int .i64 0, .int .i64 0, .int .i64 0, .slice (some ⟨b3, 0, none⟩) 1 1, .slice (some ⟨b4, 0, none⟩) 1 1, .int .i64 0] 50)) (.cells #[] 50)))) (fun k hk => ⟨trivial, fun e => by have h1 := HRX.out.hb.size; have h2 : k = V.heap.size + 1 := (by simpa [Value.ownBlock] using e); omega⟩) (fun _ _ => trivial) (zc (zc (ze (Below.refl V.heap.size V)) (.cells #[.int .i64 0, .int .i64 0, .int .i64 0, .slice (some ⟨b3, 0, none⟩) 1 1, .slice (some ⟨b4, 0, none⟩) 1 1, .int .i64 0] 50)) (.cells #[] 50)) ((zc (zc (ze (Below.refl V.heap.size V)) (.cells #[.int .i64 0, .int .i64 0, .int .i64 0, .slice (some ⟨b3, 0, none⟩) 1 1, .slice (some ⟨b4, 0, none⟩) 1 1, .int .i64 0] 50)) (.cells #[] 50))).size (by have h1 := HLL.out; simp; omega) ?_
     case hwc => rfl
     case hoc => rfl
     case hsc => rfl
     case hxc => first | rfl | (go_simp; done) | (simp; done)
     intro va wa hra hba hga hata
     obtain ⟨Aa, ca, he⟩ := Kd.xt hra
     rw [show (([] : List S50) ++ L).length = nL from HNL.out.symm] at he
     subst he
     have HNa := zb.mk (show Kd.N k50 50 wa V.heap.size (fun _ => True) (.slice Aa nL ca) L from hra)
     have HBa := zb.mk hba
     have HGa := zb.mk hga
     have HOa := zb.mk (show ∀ k, (Value.slice Aa nL ca).ownBlock = some k → k = V.heap.size + 1 ∨ ((V.drew.alloc (.cells #[.int .i64 0, .int .i64 0, .int .i64 0, .slice (some ⟨b3, 0, none⟩) 1 1, .slice (some ⟨b4, 0, none⟩) 1 1, .int .i64 0] 50)).alloc (.cells #[] 50)).heap.size ≤ k from fun k hk => hata.elim (fun h => by rw [h] at hk; exact .inl (by have e2 : V.heap.size + 1 = k := (by simpa [Value.ownBlock] using hk); exact e2.symm)) (fun ⟨b, h, h2⟩ => by rw [h] at hk; injection hk with hk; exact .inr (hk ▸ h2)))
     clear hra hba hga hata
     refine hK.out _ _ ⟨(za HBa.out kb0), (za HBa.out kb1), (za HBa.out kb2), (za HBa.out kb3), (za HBa.out kb4), (za HBa.out kb5)⟩ (fun hHeld => ?_)
     clear hK K
     refine zp (a' := ?_) ?_ ?_
     rotate_left
     ·show Act.put _ (some 92) _ = _
      simp only [Act.put, List.setIfInBounds_toArray, List.set_cons_zero, List.set_cons_succ, zg, zh]
      rfl
     exact zp (by simp only [zq, Act.put, List.setIfInBounds_toArray, List.set_cons_zero, List.set_cons_succ]) (hCont (Aa, ca, V.heap.size, V.heap.size + 1) _ ⟨⟨(za HBa.out kb0), (za HBa.out kb1), (za HBa.out kb2), (za HBa.out kb3), (za HBa.out kb4), (za HBa.out kb5)⟩, ⟨HBa.out⟩, ⟨HNa.out⟩, ⟨Kd.F_step (Kd.F_below HFE.out (zc (Below.refl _ _) _)) (fun k ho hk => HGa.out.block k hk (fun e => by have e1 : k < V.heap.size ∨ k = V.heap.size := ho; have e2 : k = V.heap.size + 1 := (by simpa [Value.ownBlock] using e); omega))⟩, ⟨fun k hk => by have h1 := HOa.out k hk; simp at h1; show k ≠ V.heap.size; omega⟩⟩)
   rintro ⟨A2, c2, bE, bO⟩ wj ⟨hHeld, HBj, HNj, HFj, HOj⟩
   refine zp (a' := ?_) ?_ ?_
   rotate_left
   ·simp only [zq, Act.put, List.setIfInBounds_toArray, List.set_cons_zero, List.set_cons_succ]
    rfl
   refine yE (i := 6) (N := some 95) (bm 13 127) rfl rfl (by kernel_rfl) (by decide) (fun K hK => ?_)
   refine Kd.zZ k50 (w0 := V) V.heap.size ?hwd (.tmp 92) (.tmp 94) 25 50 _ _ ?hod Try.underlying25 xL (by rfl) (by decide) (by decide) (.slice A2 nL c2) L [chg zz 42] (some ⟨bE, 0, none⟩) 1 1 (fun _ => True) (fun k => k < V.heap.size ∨ k = bE) ?hsd ?hxd HNj.out HFj.out (fun k hk => ⟨trivial, fun e => hk.elim (fun h1 => by have h2 := Kd.N_base HNj.out k e.symm; omega) (fun h1 => HOj.out k e.symm h1)⟩) (fun _ _ => trivial) HBj.out HBj.out.size (by have h1 := HLL.out; have h2 := HNL.out; omega) ?_
   case hwd => rfl
   case hod => rfl
   case hsd => first | rfl | (go_simp; done) | (simp; done)
   case hxd => first | rfl | (go_simp; done) | (simp; done)
   intro vb wb hrb hbb hgb hatb
   obtain ⟨Ab, cb, he⟩ := Kd.xt hrb
   rw [show (L ++ [chg zz 42]).length = nL + 1 by rw [List.length_append, ← HNL.out]; rfl] at he
   subst he
   have HBb := zb.mk hbb
   have HCb := zb.mk (show Kd.C k50 wb Ab (nL + 1) (L ++ [chg zz 42]) by have q := (Kd.xE hrb).2.2; have hl : (L ++ [chg zz 42]).length = nL + 1 := (by rw [List.length_append, ← HNL.out]; rfl); rwa [hl] at q)
   clear hrb hbb hgb hatb
   refine hK.out _ _ ⟨(za HBb.out kb0), (za HBb.out kb1), (za HBb.out kb2), (za HBb.out kb3), (za HBb.out kb4), (za HBb.out kb5)⟩ (fun hHeld => ?_)
   clear hK K
   refine zp (a' := ?_) ?_ ?_
   rotate_left
   ·show Act.put _ (some 95) _ = _
    simp only [Act.put, List.setIfInBounds_toArray, List.set_cons_zero, List.set_cons_succ, zg, zh]
    rfl
   refine yE (i := 7) (N := some 96) (bm 13 255) rfl rfl (by kernel_rfl) (by decide) (fun K hK => ?_)
   refine xQ Try.func34 (by kernel_rfl) rfl #[.slice A0 n0 c0, .slice Ab (nL + 1) cb] (by rfl) rfl rfl (by simp only [List.map_toArray, List.map_cons, List.map_nil]; rfl) ?_
   with_reducible refine (KY2.out wb (zi HRX.out.hb HBb.out) Ab cb HCb.out).mono ?_
   rintro e wc ⟨Ac, cc, rfl, hn, hr, hb⟩
   refine ⟨_, rfl, ?_⟩
   have HBc := zb.mk (show Below V.heap.size V wc from zi HBb.out hb)
   have HRc := zb.mk hr
   have HNc := zb.mk hn
   have HSb := zb.mk (show V.heap.size ≤ wb.heap.size from HBb.out.size)
   clear hn hr hb
   refine hK.out _ _ ⟨(za HBc.out kb0), (za HBc.out kb1), (za HBc.out kb2), (za HBc.out kb3), (za HBc.out kb4), (za HBc.out kb5)⟩ (fun hHeld => ?_)
   clear hK K
   refine zp (a' := ?_) ?_ ?_
   rotate_left
   ·show Act.put _ (some 96) _ = _
    simp only [Act.put, List.setIfInBounds_toArray, List.set_cons_zero, List.set_cons_succ, zg, zh]
    rfl
   refine zl (i := 8) (N := some 88) (v := ?_) (a' := ?_) (bm 13 511) rfl rfl (by kernel_rfl) (fun _ _ _ h => h) (Or.inl ⟨by rfl, ?_⟩) ?_ ?_
   rotate_left
   ·intro w'
    go_simp
    with_reducible rfl
   rotate_left
   ·simp only [Act.put, List.setIfInBounds_toArray, List.set_cons_zero, List.set_cons_succ, zg, zh]
    rfl
   refine zl (i := 9) (N := some 97) (v := ?_) (a' := ?_) (bm 13 1023) rfl rfl (by kernel_rfl) (fun _ _ _ h => h) (Or.inl ⟨by rfl, ?_⟩) ?_ ?_
   rotate_left
   ·intro w'
    go_simp
    with_reducible rfl
   rotate_left
   ·simp only [Act.put, List.setIfInBounds_toArray, List.set_cons_zero, List.set_cons_succ, zg, zh]
    rfl
   refine zl (i := 10) (N := some 98) (v := ?_) (a' := ?_) (bm 13 2047) rfl rfl (by kernel_rfl) (fun _ _ _ h => h) (Or.inl ⟨by rfl, ?_⟩) ?_ ?_
   rotate_left
   ·intro w'
    go_simp
    with_reducible rfl
   rotate_left
   ·simp only [Act.put, List.setIfInBounds_toArray, List.set_cons_zero, List.set_cons_succ, zg, zh]
    rfl
   refine zl (i := 11) (N := some 12) (v := ?_) (a' := ?_) (bm 13 4095) rfl rfl (by kernel_rfl) (fun _ _ _ h => h) (Or.inl ⟨by rfl, ?_⟩) ?_ ?_
   rotate_left
   ·intro w'
    go_simp
    with_reducible rfl
   rotate_left
   ·simp only [Act.put, List.setIfInBounds_toArray, List.set_cons_zero, List.set_cons_succ, zg, zh]
    rfl
   refine zl (i := 12) (N := some 13) (v := ?_) (a' := ?_) (bm 13 8191) rfl rfl (by kernel_rfl) (fun _ _ _ h => h) (Or.inl ⟨by rfl, ?_⟩) ?_ ?_
   rotate_left
   ·intro w'
    go_simp
    with_reducible rfl
   rotate_left
   ·simp only [Act.put, List.setIfInBounds_toArray, List.set_cons_zero, List.set_cons_succ, zg, zh]
    rfl
   refine yt (by kernel_rfl) ?_
   have y2 := za HBc.out y1
   have y3 : wc.cell? adY = some (.int .i64 42) := (by simpa [Addr.add] using y2)
   have hz4 : 0 < n0 := HZ.out
   go_wp2
   (try refine bodyPost_ret (results_tmp rfl _ _ _) rfl ?_)
   rw [HP.out]
   exact ⟨rfl, zi HB1.out (zi HRX.out.hb HBc.out)⟩
theorem laws_FnLogReplayRead.walk (a0 : Option Addr) (len0 cap0 : Nat) (z0 : List Int) (w : World) (w0 : (a0 = none ∧ len0 = 0 ∧ cap0 = 0 ∧ z0 = []) ∨ ∃ x, a0 = some x ∧ len0 ≤ cap0 ∧ cap0 ≤ maxLen ∧ z0.length = cap0 ∧ (∀ i, i < z0.length → w.cell? (x.add i) = some (.int .u8 (z0.getD i 0))) ∧ ∀ n ∈ z0, (Lit.int .u8 n).wf = true) :
  Calls Try.prog 11 #[.slice a0 len0 cap0] w fun e w' => e = .returned (.bool true) ∧ Below w.heap.size w w' := by
 obtain ⟨l0, rfl, hr0, hm0, hw0, hc0⟩ := yw.ofRowC w0
 exact replayRead_law _ _ l0 w (Kd.C_of_reads (d := (0 : Int)) (h1 := fun _ => rfl) hr0) hc0 (fun x hx => byte_ok (hw0 x hx))
end Go.Proofs.Ytppapibjbjmmbaa.QSY
