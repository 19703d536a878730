import Derived.Test.YtppapibjbjmmbaaLR0
import Derived.Test.YtppapibjbjmmbaaLR1
import Derived.Test.YtppapibjbjmmbaaLR2
import Derived.Test.YtppapibjbjmmbaaLR3
import Derived.Test.YtppapibjbjmmbaaLR4
set_option linter.unusedVariables false
set_option linter.unusedSimpArgs false
namespace Go.Proofs.Ytppapibjbjmmbaa.QSY
open Go.RowKit Go.Proofs.YtppapibjbjmmbaaW.PrintWords Go.Proofs.YtppapibjbjmmbaaW.PrintLast Go.Proofs.YtppapibjbjmmbaaW.PrintMore
theorem xg.cellput {w w1 : World} {B N : Nat} {vC vT vL v1 : Value} {C C' : List S33} {T : List TG} {L : List S50} (h : xg w B N vC vT vL C T L) (hr : Kd.R k33 33 w1 B (fun _ => True) v1 C') (hg : w.grownBy w1 vC.ownBlock) : xg w1 B N v1 vT vL C' T L := by
  have hbl := zG h.rC hg
  have hE : ∀ q, q ∈ 50 :: k50.E → q ≠ 33 := by decide
  exact ⟨hr, zQ h.rT (fun k q cells _ _ hq hc' => hbl k q cells (by rw [List.mem_singleton.1 hq]; decide) hc'), fun t ht => (h.rows t ht).keep (fun k q cells _ _ hq hc' => hbl k q cells (by rcases hq with rfl | rfl <;> decide) hc'), h.ap, h.lt, zQ h.rL (fun k q cells _ _ hq hc' => hbl k q cells (hE q hq) hc')⟩
def zSys : Array Value := #[.slice none 0 0, .slice none 0 0, .int .i64 0, .slice none 0 0]
structure Mk (w0 w : World) (D : Nat) (vC vT vL : Value) (C : List S33) (T : List TG) (P : Array Value) : Prop where
  hb : Below w0.heap.size w0 w
  gB : w0.heap.size + 2 ≤ D
  blk : w.heap[D]? = some (.cells #[vC, vT, .int .i64 0, vL] 27 (0, 0))
  V : xg w w0.heap.size w.heap.size vC vT vL C T []
  p : w.heap[w0.heap.size]? = some (.cells P 37 (0, 0))
  r : w.heap[w0.heap.size + 1]? = some (.cells zSys 27 (0, 0))
section
variable {w0 w w1 : World} {D : Nat} {vC vT vL v1 : Value} {C C' : List S33} {T : List TG} {P : Array Value}
theorem Mk.below (h : Mk w0 w D vC vT vL C T P) (hb : Below w.heap.size w w1) : Mk w0 w1 D vC vT vL C T P :=
  ⟨h.hb.trans (zq hb h.hb.size), h.gB, (hb.block _ (zo h.blk)).trans h.blk, (h.V.below hb).now, (hb.block _ (zo h.p)).trans h.p, (hb.block _ (zo h.r)).trans h.r⟩
theorem Mk.push (h : Mk w0 w D vC vT vL C T P) (hr : Kd.R k33 33 w1 w0.heap.size (fun _ => True) v1 C') (hg : w.grownBy w1 vC.ownBlock) (hb : Below w0.heap.size w w1) : Mk w0 (w1.setCell ⟨D, 0, none⟩ v1) D v1 vT vL C' T P := by
  have hbl := zG h.V.rC hg
  have hD := h.gB
  have hblk := (hbl D _ _ (by decide) h.blk).trans h.blk
  have V1 := (h.V.cellput hr hg).far hblk (by decide) 0 v1
  refine ⟨(h.hb.trans hb).setCell (p := ⟨D, 0, none⟩) (by show w0.heap.size ≤ D; omega) _, h.gB, zu hblk 0 v1, V1.now, ?_, ?_⟩
  · exact (Below.heap_setCell w1 ⟨D, 0, none⟩ v1 w0.heap.size (by show w0.heap.size ≠ D; omega)).trans ((hbl _ _ _ (by decide) h.p).trans h.p)
  · exact (Below.heap_setCell w1 ⟨D, 0, none⟩ v1 (w0.heap.size + 1) (by show w0.heap.size + 1 ≠ D; omega)).trans ((hbl _ _ _ (by decide) h.r).trans h.r)
theorem Mk.c0 (h : Mk w0 w D vC vT vL C T P) : w.cell? ⟨D, 0, none⟩ = some vC := (zd h.blk 0).trans rfl
theorem Mk.f0 (h : Mk w0 w D vC vT vL C T P) : w.frozen? ⟨D, 0, none⟩ = false := zk h.blk 0
end
def Newed (w : World) (Cs : List Int) (Bs : List (List zJ)) (e : Ending) (w' : World) : Prop := ∃ AC cC AT cT AL cL, e = .returned (.tuple #[sysA AC cC AT cT AL cL (St.new Cs), .bool true]) ∧ Below w.heap.size w w' ∧ xx w' w.heap.size Bs Cs.length 1 AC cC AT cT AL cL (St.new Cs)
set_option maxHeartbeats 4000000 in
set_option maxRecDepth 100000 in
theorem new_calls (A0 : Option Addr) (c0 : Nat) (A1 : Option Addr) (c1 : Nat) (Cs : List Int) (Bs : List (List zJ)) (w : World) (h0 : Kd.C (Kd.int .i64) w A0 Cs.length Cs) (h1 : Kd.C (Kd.slice 110 xt) w A1 Bs.length Bs) (ho : okF Cs Bs = true) :
    Calls Try.prog 106 #[.agg #[.slice A0 Cs.length c0, .slice A1 Bs.length c1]] w (Newed w Cs Bs) := by
  have hus := Try.underlying27
  have H0 := za.mk h0
  have HO := za.mk ho
  have HN := za.mk (new_ok ho)
  obtain ⟨Post, hPost⟩ : ∃ P, P = Newed w Cs Bs := ⟨_, rfl⟩
  have HP := za.mk hPost
  rw [← hPost]
  obtain ⟨nc, hnc⟩ : ∃ n, n = Cs.length := ⟨_, rfl⟩
  have HNC := za.mk hnc
  rw [← hnc]
  obtain ⟨P, hPP⟩ : ∃ P : Array Value, P = #[.slice A0 nc c0, .slice A1 Bs.length c1] := ⟨_, rfl⟩
  have HPP := za.mk hPP
  obtain ⟨W, hW⟩ : ∃ W, W = (w.alloc (.cells #[.slice A0 nc c0, .slice A1 Bs.length c1] 37)).alloc (.cells #[.slice none 0 0, .slice none 0 0, .int .i64 0, .slice none 0 0] 27) := ⟨_, rfl⟩
  have HB := za.mk (show Below w.heap.size w W by rw [hW]; exact zc (zc (Below.refl _ _) _) _)
  have HWS := za.mk (show W.heap.size = w.heap.size + 2 by rw [hW]; simp)
  have EP := za.mk (show W.heap[w.heap.size]? = some (.cells #[.slice A0 nc c0, .slice A1 Bs.length c1] 37 (0, 0)) by rw [hW]; exact zl (heap_alloc_new _ _) _)
  have ER := za.mk (show W.heap[w.heap.size + 1]? = some (.cells zSys 27 (0, 0)) by rw [hW]; exact zT (by simp))
  have KO := za.mk (ok_calls A0 Cs c0 A1 Bs c1 true W (Kd.zw h0 HB.out) (Kd.zw h1 HB.out) ho)
  rw [← hnc] at KO
  clear h0 h1 ho hPost hnc hPP
  go_enter Try.func106, Try.ntmps106
  go_upto_region 1 with (fail)
  rw [← hW]
  clear hW
  have x0 := (zd EP.out 0).trans rfl
  have x1 := (zd EP.out 1).trans rfl
  go_upto_region 4 with (first | (go_at_call 58; refine KO.out.mono ?_; rintro e w1 ⟨rfl, hb⟩; have HB1 := za.mk hb; clear hb) | (go_at_call 118; refine (xI.calls 0 (-1) _ _ _ _ _ _ _ _ _ _ _ _ _ _ rfl).mono ?_; rintro e wa ⟨v3, v8, v9, v10, rfl, r3, r8, r9, r10, hba⟩; obtain ⟨A3, c3, rfl⟩ := Kd.zK r3; obtain ⟨A8, c8, rfl⟩ := Kd.zK r8; obtain ⟨A9, c9, rfl⟩ := Kd.zK r9; obtain ⟨A10, c10, rfl⟩ := Kd.zK r10; have HBA := za.mk hba; have HNR := za.mk (new_row (B := w.heap.size) (k := -1) (b := 0) (w := w1.alloc (.cells #[] 33)) (by have h1 := HB.out.size; have h2 := HB1.out.size; simp; omega) r3 r8 r9 r10); clear r3 r8 r9 r10 hba))
  obtain ⟨t0, ht0⟩ : ∃ t : TG, t = ⟨yh (-1) 0, .slice A3 3 c3, .slice A8 3 c8, .slice A9 0 c9, .slice A10 0 c10⟩ := ⟨_, rfl⟩
  have HTS := za.mk (show t0.s = yh (-1) 0 by rw [ht0])
  have HTC := za.mk (show t0.cells = [.int .i64 0, .int .i64 0, .int .i64 (-1), .slice A3 3 c3, .int .i64 0, .int .i64 0, .int .i64 0, .int .i64 0, .slice A8 3 c8, .slice A9 0 c9, .slice A10 0 c10, .int .i64 0, .int .i64 0] by rw [ht0]; rfl)
  have HR := za.mk (show TRow wa w.heap.size t0 ∧ t0.blocks.Nodup ∧ ∀ c ∈ t0.blocks, c < wa.heap.size from by rw [ht0]; exact ⟨HNR.out.1, HNR.out.2.1, fun c hc => (HNR.out.2.2 c hc).2⟩)
  obtain ⟨W2, hW2⟩ : ∃ x, x = ((wa.alloc (.cells #[.int .i64 0, .int .i64 0, .int .i64 (-1), .slice A3 3 c3, .int .i64 0, .int .i64 0, .int .i64 0, .int .i64 0, .slice A8 3 c8, .slice A9 0 c9, .slice A10 0 c10, .int .i64 0, .int .i64 0] 43)).alloc (.cells #[] 50)).alloc (.cells #[.slice (some ⟨w1.heap.size, 0, none⟩) 0 0, .slice (some ⟨wa.heap.size, 0, none⟩) 1 1, .int .i64 0, .slice (some ⟨wa.heap.size + 1, 0, none⟩) 0 0] 27) := ⟨_, rfl⟩
  have HM := za.mk (show Mk w W2 (wa.heap.size + 1 + 1) (.slice (some ⟨w1.heap.size, 0, none⟩) 0 0) (.slice (some ⟨wa.heap.size, 0, none⟩) 1 1) (.slice (some ⟨wa.heap.size + 1, 0, none⟩) 0 0) [] [t0] P by
    have b1 : Below w.heap.size w w1 := zj HB.out HB1.out
    have s1 : w.heap.size + 2 ≤ w1.heap.size := by have h1 := HWS.out; have h2 := HB1.out.size; omega
    have s2 : w1.heap.size + 1 ≤ wa.heap.size := by have h := HBA.out.size; simpa using h
    have b2 : Below w.heap.size w wa := zj (zc b1 _) HBA.out
    have b3 : Below wa.heap.size wa W2 := by rw [hW2]; exact zc (zc (zc (Below.refl _ _) _) _) _
    have s3 : W2.heap.size = wa.heap.size + 3 := by rw [hW2]; simp
    have q0 : wa.heap[w1.heap.size]? = some (.cells #[] 33 (0, 0)) := (HBA.out.block _ (by simp)).trans (heap_alloc_new _ _)
    have q1 : W2.heap[wa.heap.size]? = some (.cells t0.cells.toArray 43 (0, 0)) := by rw [hW2, HTC.out]; exact zl (zl (heap_alloc_new _ _) _) _
    have q2 : W2.heap[wa.heap.size + 1]? = some (.cells #[] 50 (0, 0)) := by rw [hW2]; exact zl (zT (by simp)) _
    refine ⟨zj b2 b3, by omega, by rw [hW2]; exact zT (by simp), ⟨yz ((b3.block _ (zo q0)).trans q0) (by omega) trivial, R_of (d := kTG) (xs := [t0]) q1 (by omega) trivial (by show 1 ≤ maxLen; decide) (yd.front ⟨rfl, ?_⟩ rfl (yd.none _ _) (List.append_nil _)), fun t ht => by rw [List.mem_singleton.1 ht]; exact HR.out.1.keep (fun k q cells _ _ _ hc => b3.block k (zo hc)), by simpa using HR.out.2.1, fun b hb => ?_, yz q2 (by omega) ⟨fun hm => ?_, by omega⟩⟩, ?_, ?_⟩
    · rw [HTC.out]
      intro u hu
      simp only [List.mem_cons, List.not_mem_nil, or_false] at hu
      rcases hu with rfl | rfl | rfl | rfl | rfl | rfl | rfl | rfl | rfl | rfl | rfl | rfl | rfl <;> rfl
    · have := HR.out.2.2 b (by simpa using hb); omega
    · have := HR.out.2.2 _ (by simpa using hm); omega
    · have e := EP.out
      rw [HPP.out]
      have b4 : Below W.heap.size W W2 := zj (zj (zc HB1.out _) HBA.out) b3
      exact (b4.block _ (zo e)).trans e
    · have e := ER.out
      have b4 : Below W.heap.size W W2 := zj (zj (zc HB1.out _) HBA.out) b3
      exact (b4.block _ (zo e)).trans e)
  rw [← hW2]
  obtain ⟨D, hD⟩ : ∃ D, D = wa.heap.size + 1 + 1 := ⟨_, rfl⟩
  obtain ⟨vC, hvC⟩ : ∃ v, v = Value.slice (some ⟨w1.heap.size, 0, none⟩) 0 0 := ⟨_, rfl⟩
  obtain ⟨vT, hvT⟩ : ∃ v, v = Value.slice (some ⟨wa.heap.size, 0, none⟩) 1 1 := ⟨_, rfl⟩
  obtain ⟨vL, hvL⟩ : ∃ v, v = Value.slice (some ⟨wa.heap.size + 1, 0, none⟩) 0 0 := ⟨_, rfl⟩
  rw [← hD, ← hvC, ← hvT, ← hvL] at HM
  rw [← hD]
  clear hD hvC hvT hvL hW2 ht0 HTC HR x0 x1
  go_wp2
  go_loopw [5] (fun v5 wr => ∃ (V : World) (i : Nat) (vC : Value), V = wr ∧ v5 = .int .i64 i ∧ za (i ≤ nc) ∧ za (Mk w V D vC vT vL ((Cs.take i).map newC) [t0] P)) (fun v5 _ => nc - (intOf v5).toNat)
  case atStart => exact ⟨W2, 0, vC, rfl, rfl, ⟨Nat.zero_le _⟩, HM⟩
  case round =>
    clear HM
    obtain ⟨V, i, vC, hV, rfl, hi, HM⟩ := hrel
    rw [← hV]
    clear hV
    have HPV := za.mk (show V.heap[w.heap.size]? = some (.cells #[.slice A0 nc c0, .slice A1 Bs.length c1] 37 (0, 0)) by have h := HM.out.p; rw [HPP.out] at h; exact h)
    have p0 := (zd HPV.out 0).trans rfl
    by_cases hlt : (i : Int) < (nc : Int)
    · have HLI := za.mk (show i < nc by omega)
      have ei : wrap64 ((i : Int) + 1) = ((i + 1 : Nat) : Int) := by have h1 := HN.out; have h2 := HNC.out; unfold wrap64; omega
      obtain ⟨ad, rfl, xi⟩ := at_ints H0.out i (by have := HLI.out; have := HNC.out; omega)
      have XI0 := za.mk xi
      have xi := zb HM.out.hb xi
      have HTK := za.mk (show (Cs.take (i + 1)).map newC = (Cs.take i).map newC ++ [newC (Cs.getD i 0)] by
        have h : i < Cs.length := by have := HLI.out; have := HNC.out; omega
        rw [List.take_succ_eq_append_getElem h, List.map_append, List.getD_eq_getElem?_getD, List.getElem?_eq_getElem h]; rfl)
      obtain ⟨x, hx⟩ : ∃ x, x = Cs.getD i 0 := ⟨_, rfl⟩
      rw [← hx] at xi XI0 HTK
      have y0 := HM.out.c0
      have y1 := HM.out.f0
      have i0 : (0 : Int) ≤ (i : Int) := by omega
      clear hx
      go_upto_region 7 with (fail)
      refine ye (n := 12) (S := fun w' => w'.cell? ⟨D, 0, none⟩ = some vC ∧ w'.cell? ⟨w.heap.size, 0, none⟩ = some (.slice (some ad) nc c0) ∧ w'.cell? (ad.add i) = some (.int .i64 x)) (ds := [11]) (bm 12 0) (by kernel_rfl) rfl rfl ⟨(zb (ze (Below.refl _ _)) y0), (zb (ze (Below.refl _ _)) p0), (zb (ze (Below.refl _ _)) xi)⟩ (fun hHeld => ?_)
      refine zm (i := 0) (N := some 22) (v := ?_) (a' := ?_) (bm 12 1) rfl rfl (by kernel_rfl) (fun _ _ _ h => h) (Or.inl ⟨by rfl, ?_⟩) ?_ ?_
      rotate_left
      · intro w'
        go_simp
        with_reducible rfl
      rotate_left
      · simp only [Act.put, List.setIfInBounds_toArray, List.set_cons_zero, List.set_cons_succ, zh, zi]
        rfl
      refine zm (i := 2) (N := some 24) (v := ?_) (a' := ?_) (bm 12 5) rfl rfl (by kernel_rfl) (fun _ _ _ h => h) (Or.inl ⟨by rfl, ?_⟩) ?_ ?_
      rotate_left
      · intro w'
        go_simp
        with_reducible rfl
      rotate_left
      · simp only [Act.put, List.setIfInBounds_toArray, List.set_cons_zero, List.set_cons_succ, zh, zi]
        rfl
      refine zm (i := 4) (N := some 26) (v := ?_) (a' := ?_) (bm 12 21) rfl rfl (by kernel_rfl) (fun _ _ _ h => h) (Or.inl ⟨by rfl, ?_⟩) ?_ ?_
      rotate_left
      · intro w'
        go_simp
        with_reducible rfl
      rotate_left
      · simp only [Act.put, List.setIfInBounds_toArray, List.set_cons_zero, List.set_cons_succ, zh, zi]
        rfl
      refine zE (i := 1) (N := some 23) (v := ?_) (a' := ?_) (bm 12 23) rfl rfl (by kernel_rfl) (fun _ _ _ h => h) (Or.inl ⟨by rfl, ?_⟩) hHeld ?_ ?_
      rotate_left
      · rintro w' ⟨s0, s1, s2⟩
        go_simp
        with_reducible rfl
      rotate_left
      · simp only [Act.put, List.setIfInBounds_toArray, List.set_cons_zero, List.set_cons_succ, zh, zi]
        rfl
      refine zE (i := 3) (N := some 25) (v := ?_) (a' := ?_) (bm 12 31) rfl rfl (by kernel_rfl) (fun _ _ _ h => h) (Or.inl ⟨by rfl, ?_⟩) hHeld ?_ ?_
      rotate_left
      · rintro w' ⟨s0, s1, s2⟩
        go_simp
        with_reducible rfl
      rotate_left
      · simp only [Act.put, List.setIfInBounds_toArray, List.set_cons_zero, List.set_cons_succ, zh, zi]
        rfl
      refine zm (i := 5) (N := some 27) (v := ?_) (a' := ?_) (bm 12 63) rfl rfl (by kernel_rfl) (fun _ _ _ h => h) (Or.inl ⟨by rfl, ?_⟩) ?_ ?_
      rotate_left
      · intro w'
        go_simp
        with_reducible rfl
      rotate_left
      · simp only [Act.put, List.setIfInBounds_toArray, List.set_cons_zero, List.set_cons_succ, zh, zi]
        rfl
      refine zE (i := 6) (N := some 28) (v := ?_) (a' := ?_) (bm 12 127) rfl rfl (by kernel_rfl) (fun _ _ _ h => h) (Or.inl ⟨by rfl, ?_⟩) hHeld ?_ ?_
      rotate_left
      · rintro w' ⟨s0, s1, s2⟩
        go_simp
        with_reducible rfl
      rotate_left
      · simp only [Act.put, List.setIfInBounds_toArray, List.set_cons_zero, List.set_cons_succ, zh, zi]
        rfl
      refine zm (i := 7) (N := some 29) (v := ?_) (a' := ?_) (bm 12 255) rfl rfl (by kernel_rfl) (fun _ _ _ h => h) (Or.inl ⟨by rfl, ?_⟩) ?_ ?_
      rotate_left
      · intro w'
        go_simp
        with_reducible rfl
      rotate_left
      · simp only [Act.put, List.setIfInBounds_toArray, List.set_cons_zero, List.set_cons_succ, zh, zi]
        rfl
      refine xq (i := 8) (N := some 30) (bm 12 511) rfl rfl (by kernel_rfl) (by decide) (fun K hK => ?_)
      refine zL (w1 := ?_) (v := ?_) (by rfl) rfl ?_ ?_
      rotate_left 2
      · go_simp
        constructor
        · rfl
        · rfl
      refine hK.out _ _ ⟨(zb (zc (ze (Below.refl _ _)) _) y0), (zb (zc (ze (Below.refl _ _)) _) p0), (zb (zc (ze (Below.refl _ _)) _) xi)⟩ (fun hHeld => ?_)
      clear hK K
      refine zt (a' := ?_) ?_ ?_
      rotate_left
      · show Act.put _ (some 30) _ = _
        simp only [Act.put, List.setIfInBounds_toArray, List.set_cons_zero, List.set_cons_succ, zh, zi]
        rfl
      refine xq (i := 9) (N := some 31) (bm 12 1023) rfl rfl (by kernel_rfl) (by decide) (fun K hK => ?_)
      refine Kd.xB k33 w.heap.size ?hw (.tmp 23) (.tmp 30) 23 33 _ _ ?ho Try.underlying23 info33 (by rfl) (by decide) (by decide) vC ((Cs.take i).map newC) (newC x) [.int .i64 x, .int .i64 0, .int .i64 (-1)] (fun _ => True) (fun _ => False) ?hs ?hx (k33_mkM _ _ _ (newC x)) (fun _ hk => hk.elim) (fun _ _ => trivial) (by exact (HM.out.below (ze (Below.refl _ _))).V.rC) (Below.refl _ _) (by exact (HM.out.below (ze (Below.refl _ _))).hb.size) (by have h1 := hi.out; have h2 := HN.out; have h3 := HNC.out; simp; omega) ?_
      case hw => rfl
      case ho => rfl
      case hs => rfl
      case hx => first | rfl | (go_simp; done) | (simp; done)
      intro va wq hra hba hga hata
      obtain ⟨Aa, na, ca, rfl⟩ := xp hra
      have HM2 := za.mk (Mk.push (HM.out.below (ze (Below.refl _ _))) hra hga hba)
      have hbl := zG (HM.out.below (ze (Below.refl _ _))).V.rC hga
      have hbA := (hbl _ _ _ (by decide) (HM.out.below (ze (Below.refl _ _))).blk).trans (HM.out.below (ze (Below.refl _ _))).blk
      have hpA := (hbl _ _ _ (by decide) (HM.out.below (ze (Below.refl _ _))).p).trans (HM.out.below (ze (Below.refl _ _))).p
      rw [HPP.out] at hpA
      have hcA : wq.cell? ⟨D, 0, none⟩ = some vC := (zd hbA 0).trans rfl
      have hfA : wq.frozen? ⟨D, 0, none⟩ = false := zk hbA 0
      have hqA : wq.cell? ⟨w.heap.size, 0, none⟩ = some (.slice (some ad) nc c0) := (zd hpA 0).trans rfl
      have hxA := zb ((HM.out.below (ze (Below.refl _ _))).hb.trans hba) XI0.out
      refine hK.out _ _ ⟨hcA, hqA, hxA⟩ (fun hHeld => ?_)
      clear hK K
      refine zt (a' := ?_) ?_ ?_
      rotate_left
      · show Act.put _ (some 31) _ = _
        simp only [Act.put, List.setIfInBounds_toArray, List.set_cons_zero, List.set_cons_succ, zh, zi]
        rfl
      refine zm (i := 10) (N := some 32) (v := ?_) (a' := ?_) (bm 12 2047) rfl rfl (by kernel_rfl) (fun _ _ _ h => h) (Or.inl ⟨by rfl, ?_⟩) ?_ ?_
      rotate_left
      · intro w'
        go_simp
        with_reducible rfl
      rotate_left
      · simp only [Act.put, List.setIfInBounds_toArray, List.set_cons_zero, List.set_cons_succ, zh, zi]
        rfl
      refine yL (i := 11) (N := none) (bm 12 4095) rfl rfl (by kernel_rfl) (by decide) (fun K hK => ?_)
      refine yK (w1 := ?_) (by rfl) rfl ?_ ?_
      rotate_left
      · go_simp
        rfl
      refine hK.out _ _ ?_
      clear hK K
      refine yx (by kernel_rfl) ?_
      go_wp2
      go_roundw
      case rel => exact ⟨_, i + 1, _, rfl, by first | rw [ei] | rfl | simp, ⟨HLI.out⟩, ⟨by rw [HTK.out]; first | exact HM2.out | exact HM2.out.below (ze (Below.refl _ _))⟩⟩
      case measure => (try rw [ei]); have := HLI.out; simp [intOf]; omega
    · have hil : i = nc := by have := hi.out; omega
      have e : Cs.take i = Cs := List.take_of_length_le (by have := HNC.out; omega)
      have HM2 := za.mk (show Mk w V D vC vT vL (St.new Cs).C [t0] P by have h := HM.out; rw [e] at h; exact h)
      clear HM e hil
      obtain ⟨aC, nC, eC, rfl⟩ := xp HM2.out.V.rC
      obtain ⟨aT, nT, eT, rfl⟩ := xp HM2.out.V.rT
      obtain ⟨aL, nL, eL, rfl⟩ := xp HM2.out.V.rL
      have y0 := (zd HM2.out.blk 0).trans rfl
      have y1 := (zd HM2.out.blk 1).trans rfl
      have y2 := (zd HM2.out.blk 2).trans rfl
      have y3 := (zd HM2.out.blk 3).trans rfl
      have KZ := za.mk (show V.heap[w.heap.size + 1]? = some (.cells #[.slice none 0 0, .slice none 0 0, .int .i64 0, .slice none 0 0] 27 (0, 0)) from HM2.out.r)
      have r0 := (zd KZ.out 0).trans rfl
      have r1 := (zd KZ.out 1).trans rfl
      have r2 := (zd KZ.out 2).trans rfl
      have r3 := (zd KZ.out 3).trans rfl
      have rf0 := zk KZ.out 0
      have rf1 := zk KZ.out 1
      have rf2 := zk KZ.out 2
      have rf3 := zk KZ.out 3
      go_wp2
      have k0 := KZ.out
      have k1 := zu k0 0 (.slice aC nC eC)
      have k2 := zu k1 1 (.slice aT nT eT)
      have k3 := zu k2 2 (.int .i64 0)
      have k4 := zu k3 3 (.slice aL nL eL)
      refine bodyPost_ret (yr rfl _ _ (w.heap.size + 1) 27 #[.slice aC nC eC, .slice aT nT eT, .int .i64 0, .slice aL nL eL] (0, 0) _ rfl k4 hus rfl (by kernel_rfl)) rfl ?_
      rw [HP.out]
      have hV := (((HM2.out.V.far k0 (by decide) 0 (.slice aC nC eC)).far k1 (by decide) 1 (.slice aT nT eT)).far k2 (by decide) 2 (.int .i64 0)).far k3 (by decide) 3 (.slice aL nL eL)
      have hg : w.heap.size ≤ w.heap.size + 1 := by omega
      have hB := (((HM2.out.hb.setCell (p := ⟨w.heap.size + 1, 0, none⟩) hg (.slice aC nC eC)).setCell (p := ⟨w.heap.size + 1, 1, none⟩) hg (.slice aT nT eT)).setCell (p := ⟨w.heap.size + 1, 2, none⟩) hg (.int .i64 0)).setCell (p := ⟨w.heap.size + 1, 3, none⟩) hg (.slice aL nL eL)
      have e1 : nC = (St.new Cs).C.length := (Kd.zW HM2.out.V.rC).1
      have e2 : nT = 1 := (Kd.zW HM2.out.V.rT).1
      have e3 : nL = 0 := (Kd.zW HM2.out.V.rL).1
      subst e1 e2 e3
      exact ⟨aC, eC, aT, eT, aL, eL, rfl, hB, ⟨_, [t0], hV, by show [t0.s] = [yh (-1) 0]; rw [HTS.out]⟩, new_inv HO.out, Nat.le_refl _⟩
end Go.Proofs.Ytppapibjbjmmbaa.QSY
set_option linter.unusedVariables false
set_option linter.unusedSimpArgs false
namespace Go.Proofs.Ytppapibjbjmmbaa.QSY
open Go.RowKit Go.Proofs.YtppapibjbjmmbaaW.PrintWords Go.Proofs.YtppapibjbjmmbaaW.PrintLast Go.Proofs.YtppapibjbjmmbaaW.PrintMore
section
variable {w w1 : World} {B nC n : Nat} {Bs : List (List zJ)} {AC AT AL : Option Addr} {cC cT cL : Nat} {σ : St}
theorem xx.sees (h : xx w B Bs nC n AC cC AT cT AL cL σ) : Sees w AC cC AT cT AL cL σ := by
  obtain ⟨⟨N, T, hV, e⟩, _, _⟩ := h
  exact hV.sees e
theorem xx.inv (h : xx w B Bs nC n AC cC AT cT AL cL σ) : Inv Bs nC σ := h.2.1
theorem xx.len (h : xx w B Bs nC n AC cC AT cT AL cL σ) : σ.T.length ≤ n := h.2.2
theorem xx.below (h : xx w B Bs nC n AC cC AT cT AL cL σ) (hb : Below w.heap.size w w1) : xx w1 B Bs nC n AC cC AT cT AL cL σ := by
  obtain ⟨⟨N, T, hV, e⟩, h1, h2⟩ := h
  exact ⟨⟨N, T, hV.below hb, e⟩, h1, h2⟩
theorem xx.mono {B' n' : Nat} (h : xx w B Bs nC n AC cC AT cT AL cL σ) (hB : B' ≤ B) (hn : n ≤ n') : xx w B' Bs nC n' AC cC AT cT AL cL σ := by
  obtain ⟨⟨N, T, hV, e⟩, h1, h2⟩ := h
  exact ⟨⟨N, T, hV.lower hB, e⟩, h1, Nat.le_trans h2 hn⟩
theorem Done.owns {e : Ending} (h : Done w Bs nC AC cC AT cT AL cL σ e w1) (ho : xx w B Bs nC n AC cC AT cT AL cL σ) (hB : B ≤ w.heap.size) :
    ∃ BC dC BT dT BL dL σ' b, e = .returned (.tuple #[sysA BC dC BT dT BL dL σ', .bool b]) ∧ Below w.heap.size w w1 ∧ xx w1 B Bs nC (n + 2) BC dC BT dT BL dL σ' ∧ (b = false → xx w1 B Bs nC n BC dC BT dT BL dL σ') := by
  obtain ⟨hb, he⟩ := h
  rcases he with rfl | ⟨BC, dC, BT, dT, BL, dL, σ', rfl, ho'⟩
  · exact ⟨AC, cC, AT, cT, AL, cL, σ, false, rfl, hb, (ho.below hb).mono (Nat.le_refl _) (by omega), fun _ => ho.below hb⟩
  · exact ⟨BC, dC, BT, dT, BL, dL, σ', true, rfl, hb, ho'.mono hB (by have := ho.2.2; omega), fun h => absurd h (by simp)⟩
end
def sysB (AC : Option Addr) (cC : Nat) (AT : Option Addr) (cT : Nat) (AL : Option Addr) (cL : Nat) (σ : St) : Array Value := #[.slice AC σ.C.length cC, .slice AT σ.T.length cT, .int .i64 σ.clk, .slice AL σ.L.length cL]
structure Rn (w0 w : World) (P : Array Value) (Bs : List (List zJ)) (nC n : Nat) (AC : Option Addr) (cC : Nat) (AT : Option Addr) (cT : Nat) (AL : Option Addr) (cL : Nat) (σ : St) : Prop where
  hb : Below w0.heap.size w0 w
  p : w.heap[w0.heap.size]? = some (.cells P 37 (0, 0))
  s : w.heap[w0.heap.size + 1]? = some (.cells (sysB AC cC AT cT AL cL σ) 27 (0, 0))
  r : w.heap[w0.heap.size + 2]? = some (.cells zSys 27 (0, 0))
  o : xx w w0.heap.size Bs nC n AC cC AT cT AL cL σ
def set4 (w : World) (b : Nat) (v0 v1 v2 v3 : Value) : World := (((w.setCell ⟨b, 0, none⟩ v0).setCell ⟨b, 1, none⟩ v1).setCell ⟨b, 2, none⟩ v2).setCell ⟨b, 3, none⟩ v3
theorem set4_blk {w : World} {b : Nat} {u0 u1 u2 u3 v0 v1 v2 v3 : Value} (h : w.heap[b]? = some (.cells #[u0, u1, u2, u3] 27 (0, 0))) : (set4 w b v0 v1 v2 v3).heap[b]? = some (.cells #[v0, v1, v2, v3] 27 (0, 0)) :=
  zu (zu (zu (zu h 0 v0) 1 v1) 2 v2) 3 v3
theorem set4_far {w : World} {b k : Nat} {v0 v1 v2 v3 : Value} (h : k ≠ b) : (set4 w b v0 v1 v2 v3).heap[k]? = w.heap[k]? :=
  (((Below.heap_setCell _ ⟨b, 3, none⟩ v3 k h).trans (Below.heap_setCell _ ⟨b, 2, none⟩ v2 k h)).trans (Below.heap_setCell _ ⟨b, 1, none⟩ v1 k h)).trans (Below.heap_setCell _ ⟨b, 0, none⟩ v0 k h)
theorem set4_below {w0 w : World} {b n : Nat} {v0 v1 v2 v3 : Value} (h : Below n w0 w) (hb : n ≤ b) : Below n w0 (set4 w b v0 v1 v2 v3) :=
  (((h.setCell (p := ⟨b, 0, none⟩) hb v0).setCell (p := ⟨b, 1, none⟩) hb v1).setCell (p := ⟨b, 2, none⟩) hb v2).setCell (p := ⟨b, 3, none⟩) hb v3
theorem xx.set4 {w : World} {B nC n : Nat} {Bs : List (List zJ)} {AC AT AL : Option Addr} {cC cT cL : Nat} {σ : St} (h : xx w B Bs nC n AC cC AT cT AL cL σ) {b : Nat} {u0 u1 u2 u3 : Value} (hb : w.heap[b]? = some (.cells #[u0, u1, u2, u3] 27 (0, 0))) (v0 v1 v2 v3 : Value) : xx (set4 w b v0 v1 v2 v3) B Bs nC n AC cC AT cT AL cL σ := by
  obtain ⟨⟨N, T, hV, e⟩, h1, h2⟩ := h
  exact ⟨⟨N, T, (((hV.far hb (by decide) 0 v0).far (zu hb 0 v0) (by decide) 1 v1).far (zu (zu hb 0 v0) 1 v1) (by decide) 2 v2).far (zu (zu (zu hb 0 v0) 1 v1) 2 v2) (by decide) 3 v3, e⟩, h1, h2⟩
section
variable {w0 w w1 : World} {P : Array Value} {Bs : List (List zJ)} {nC n m : Nat} {AC AT AL BC BT BL : Option Addr} {cC cT cL dC dT dL : Nat} {σ σ' : St}
theorem Rn.below (h : Rn w0 w P Bs nC n AC cC AT cT AL cL σ) (hb : Below w.heap.size w w1) : Rn w0 w1 P Bs nC n AC cC AT cT AL cL σ :=
  ⟨h.hb.trans (zq hb h.hb.size), (hb.block _ (zo h.p)).trans h.p, (hb.block _ (zo h.s)).trans h.s, (hb.block _ (zo h.r)).trans h.r, h.o.below hb⟩
theorem Rn.mono (h : Rn w0 w P Bs nC n AC cC AT cT AL cL σ) (hn : n ≤ m) : Rn w0 w P Bs nC m AC cC AT cT AL cL σ := ⟨h.hb, h.p, h.s, h.r, h.o.mono (Nat.le_refl _) hn⟩
theorem Rn.put {u0 u1 u2 u3 : Value} (hb : Below w0.heap.size w0 w) (hp : w.heap[w0.heap.size]? = some (.cells P 37 (0, 0))) (hs : w.heap[w0.heap.size + 1]? = some (.cells #[u0, u1, u2, u3] 27 (0, 0))) (hr : w.heap[w0.heap.size + 2]? = some (.cells zSys 27 (0, 0))) (ho : xx w w0.heap.size Bs nC n AC cC AT cT AL cL σ) :
    Rn w0 (set4 w (w0.heap.size + 1) (.slice AC σ.C.length cC) (.slice AT σ.T.length cT) (.int .i64 σ.clk) (.slice AL σ.L.length cL)) P Bs nC n AC cC AT cT AL cL σ :=
  ⟨set4_below hb (by omega), (set4_far (by omega)).trans hp, set4_blk hs, (set4_far (by omega)).trans hr, ho.set4 hs _ _ _ _⟩
theorem Rn.cells (h : Rn w0 w P Bs nC n AC cC AT cT AL cL σ) : w.cell? ⟨w0.heap.size + 1, 0, none⟩ = some (.slice AC σ.C.length cC) ∧ w.cell? ⟨w0.heap.size + 1, 1, none⟩ = some (.slice AT σ.T.length cT) ∧ w.cell? ⟨w0.heap.size + 1, 2, none⟩ = some (.int .i64 σ.clk) ∧ w.cell? ⟨w0.heap.size + 1, 3, none⟩ = some (.slice AL σ.L.length cL) :=
  ⟨(zd h.s 0).trans rfl, (zd h.s 1).trans rfl, (zd h.s 2).trans rfl, (zd h.s 3).trans rfl⟩
end
def Ran (w : World) (Cs : List Int) (Bs : List (List zJ)) (m : Nat) (σ : St) (e : Ending) (w' : World) : Prop := Below w.heap.size w w' ∧
  ((sysF Cs Bs σ.C σ.T σ.clk σ.L = false ∧ e = .returned (.tuple #[.agg zSys, .bool false])) ∨ (sysF Cs Bs σ.C σ.T σ.clk σ.L = true ∧ ∃ BC dC BT dT BL dL σ', e = .returned (.tuple #[sysA BC dC BT dT BL dL σ', .bool true]) ∧ xx w' w.heap.size Bs Cs.length m BC dC BT dT BL dL σ'))
theorem sysF_ok {Cs : List Int} {Bs : List (List zJ)} {C : List S33} {T : List S43} {clk : Int} {L : List S50} (h : sysF Cs Bs C T clk L = true) : okF Cs Bs = true ∧ C.length = Cs.length ∧ 1 ≤ T.length ∧ T.length ≤ 7 := by
  unfold sysF at h
  simp only [Bool.and_eq_true] at h
  obtain ⟨h0, h1, h2, _⟩ := h
  have := xv.1 h2
  exact ⟨h0, by simpa using h1, by omega, by omega⟩
set_option maxHeartbeats 4000000 in
set_option maxRecDepth 100000 in
theorem run_calls {w : World} {Cs : List Int} {Bs : List (List zJ)} {σ : St} (A0 : Option Addr) (c0 : Nat) (A1 : Option Addr) (c1 : Nat) (AC : Option Addr) (cC : Nat) (AT : Option Addr) (cT : Nat) (AL : Option Addr) (cL : Nat) (AX : Option Addr) (cX : Nat) (tu : List Int)
    (h0 : Kd.C (Kd.int .i64) w A0 Cs.length Cs) (h1 : Kd.C (Kd.slice 110 xt) w A1 Bs.length Bs) (h : Sees w AC cC AT cT AL cL σ) (hp : ∀ t ∈ σ.T, t.f9.length ≤ 1000 ∧ t.f10.length ≤ 1000) (hI : sysF Cs Bs σ.C σ.T σ.clk σ.L = true → Inv Bs Cs.length σ) (hx : Kd.C (Kd.int .i64) w AX tu.length tu) (hl : tu.length ≤ 300) :
    Calls Try.prog 57 #[.agg #[.slice A0 Cs.length c0, .slice A1 Bs.length c1], sysA AC cC AT cT AL cL σ, .slice AX tu.length cX] w (Ran w Cs Bs 700 σ) := by
  have hus := Try.underlying27
  have hup := Try.underlying37
  have HS := za.mk h
  have H1 := za.mk h1
  have HX := za.mk hx
  have HL := za.mk hl
  have HI := za.mk hI
  obtain ⟨Post, hPost⟩ : ∃ P, P = Ran w Cs Bs 700 σ := ⟨_, rfl⟩
  have HP := za.mk hPost
  rw [← hPost]
  obtain ⟨bo, hbo⟩ : ∃ b, sysF Cs Bs σ.C σ.T σ.clk σ.L = b := ⟨_, rfl⟩
  have HBO := za.mk hbo
  obtain ⟨nc, hnc⟩ : ∃ n, n = Cs.length := ⟨_, rfl⟩
  have HNC := za.mk hnc
  obtain ⟨nx, hnx⟩ : ∃ n, n = tu.length := ⟨_, rfl⟩
  have HNX := za.mk hnx
  unfold sysA
  obtain ⟨W, hW⟩ : ∃ W, W = ((w.alloc (.cells #[.slice A0 nc c0, .slice A1 Bs.length c1] 37)).alloc (.cells #[.slice AC σ.C.length cC, .slice AT σ.T.length cT, .int .i64 σ.clk, .slice AL σ.L.length cL] 27)).alloc (.cells #[.slice none 0 0, .slice none 0 0, .int .i64 0, .slice none 0 0] 27) := ⟨_, rfl⟩
  have HB := za.mk (show Below w.heap.size w W by rw [hW]; exact zc (zc (zc (Below.refl _ _) _) _) _)
  have HWS := za.mk (show W.heap.size = w.heap.size + 3 by rw [hW]; simp)
  have EP := za.mk (show W.heap[w.heap.size]? = some (.cells #[.slice A0 nc c0, .slice A1 Bs.length c1] 37 (0, 0)) by rw [hW]; exact zl (zl (heap_alloc_new _ _) _) _)
  have ES := za.mk (show W.heap[w.heap.size + 1]? = some (.cells #[.slice AC σ.C.length cC, .slice AT σ.T.length cT, .int .i64 σ.clk, .slice AL σ.L.length cL] 27 (0, 0)) by rw [hW]; exact zl (zT (by simp)) _)
  have ER := za.mk (show W.heap[w.heap.size + 1 + 1]? = some (.cells #[.slice none 0 0, .slice none 0 0, .int .i64 0, .slice none 0 0] 27 (0, 0)) by rw [hW]; exact zT (by simp))
  have KO := za.mk (sys_calls A0 Cs c0 A1 Bs c1 AC σ.C cC AT σ.T cT σ.clk AL σ.L cL bo W (Kd.zw h0 HB.out) (Kd.zw h1 HB.out) (Kd.zw h.C HB.out) (Kd.zw h.T HB.out) h.hT (Kd.zw h.L HB.out) hp hbo)
  rw [← hnc] at KO ⊢
  rw [← hnx]
  clear h0 h1 h hp hI hx hl hPost hbo hnc hnx
  go_enter Try.func57, Try.ntmps57
  go_upto_region 1 with (fail)
  rw [← hW]
  clear hW
  have p0 := (zd EP.out 0).trans rfl
  have p1 := (zd EP.out 1).trans rfl
  have s0 := (zd ES.out 0).trans rfl
  have s1 := (zd ES.out 1).trans rfl
  have s2 := (zd ES.out 2).trans rfl
  have s3 := (zd ES.out 3).trans rfl
  have HNX3 : nx ≤ 300 := by have := HL.out; have := HNX.out; omega
  cases bo
  · go_wp2_with (go_at_call 22; refine KO.out.mono ?_; rintro e w1 ⟨rfl, hb⟩; have HB1 := za.mk hb; clear hb; have r0 := (zd ((HB1.out.block _ (zo ER.out)).trans ER.out) 0).trans rfl; have rf0 := zk ((HB1.out.block _ (zo ER.out)).trans ER.out) 0; have r1 := (zd ((HB1.out.block _ (zo ER.out)).trans ER.out) 1).trans rfl; have rf1 := zk ((HB1.out.block _ (zo ER.out)).trans ER.out) 1; have r2 := (zd ((HB1.out.block _ (zo ER.out)).trans ER.out) 2).trans rfl; have rf2 := zk ((HB1.out.block _ (zo ER.out)).trans ER.out) 2; have r3 := (zd ((HB1.out.block _ (zo ER.out)).trans ER.out) 3).trans rfl; have rf3 := zk ((HB1.out.block _ (zo ER.out)).trans ER.out) 3)
    have k4 := set4_blk (v0 := .slice none 0 0) (v1 := .slice none 0 0) (v2 := .int .i64 0) (v3 := .slice none 0 0) ((HB1.out.block _ (zo ER.out)).trans ER.out)
    refine bodyPost_ret (yr rfl _ _ (w.heap.size + 1 + 1) 27 #[.slice none 0 0, .slice none 0 0, .int .i64 0, .slice none 0 0] (0, 0) _ rfl k4 hus rfl (by kernel_rfl)) rfl ?_
    rw [HP.out]
    exact ⟨set4_below (zj HB.out HB1.out) (by omega), .inl ⟨HBO.out, rfl⟩⟩
  · have HSF := za.mk (sysF_ok HBO.out)
    have HII := za.mk (HI.out HBO.out)
    have HN3 := za.mk (new_ok HSF.out.1)
    obtain ⟨P, hPP⟩ : ∃ P : Array Value, P = #[.slice A0 nc c0, .slice A1 Bs.length c1] := ⟨_, rfl⟩
    have HPP := za.mk hPP
    clear hPP
    go_upto_region 4 with (first
      | (go_at_call 22; refine KO.out.mono ?_; rintro e w1 ⟨rfl, hb⟩; have HB1 := za.mk hb; clear hb s0 s1 s2 s3; have s0 := (zd ((HB1.out.block _ (zo ES.out)).trans ES.out) 0).trans rfl; have s1 := (zd ((HB1.out.block _ (zo ES.out)).trans ES.out) 1).trans rfl; have s2 := (zd ((HB1.out.block _ (zo ES.out)).trans ES.out) 2).trans rfl; have s3 := (zd ((HB1.out.block _ (zo ES.out)).trans ES.out) 3).trans rfl)
      | (go_at_call 86; refine (copy_calls AC cC AT cT AL cL (HS.out.below (zj HB.out HB1.out)) (HII.out.small (by have := HN3.out; omega))).mono ?_; rintro e w2 ⟨BC, dC, BT, dT, BL, dL, N, T, rfl, hb, hV, hE⟩; have HB2 := za.mk (zj HB1.out hb); have HB12 := za.mk hb; have HV := za.mk hV; have HE := za.mk hE; clear hb hV hE s0 s1 s2 s3; have s0 := (zd ((HB2.out.block _ (zo ES.out)).trans ES.out) 0).trans rfl; have s1 := (zd ((HB2.out.block _ (zo ES.out)).trans ES.out) 1).trans rfl; have s2 := (zd ((HB2.out.block _ (zo ES.out)).trans ES.out) 2).trans rfl; have s3 := (zd ((HB2.out.block _ (zo ES.out)).trans ES.out) 3).trans rfl; have sf0 := zk ((HB2.out.block _ (zo ES.out)).trans ES.out) 0; have sf1 := zk ((HB2.out.block _ (zo ES.out)).trans ES.out) 1; have sf2 := zk ((HB2.out.block _ (zo ES.out)).trans ES.out) 2; have sf3 := zk ((HB2.out.block _ (zo ES.out)).trans ES.out) 3))
    obtain ⟨W3, hW3⟩ : ∃ x, x = set4 w2 (w.heap.size + 1) (.slice BC σ.C.length dC) (.slice BT σ.T.length dT) (.int .i64 σ.clk) (.slice BL σ.L.length dL) := ⟨_, rfl⟩
    have HR := za.mk (show Rn w W3 P Bs Cs.length 7 BC dC BT dT BL dL σ by
      rw [hW3]
      refine Rn.put (zj HB.out HB2.out) ?_ ((HB2.out.block _ (zo ES.out)).trans ES.out) ((HB2.out.block _ (zo ER.out)).trans ER.out) ⟨⟨N, T, HV.out.lower (by have h1 := HB.out.size; have h2 := HB1.out.size; omega), HE.out⟩, HII.out, HSF.out.2.2.2⟩
      rw [HPP.out]
      exact (HB2.out.block _ (zo EP.out)).trans EP.out)
    unfold set4 at hW3
    rw [← hW3]
    clear hW3 s0 s1 s2 s3 sf0 sf1 sf2 sf3 p0 p1 HS HI HII KO
    go_wp2
    go_loopw [8] (fun v8 wr => ∃ (V : World) (i : Nat) (AC : Option Addr) (cC : Nat) (AT : Option Addr) (cT : Nat) (AL : Option Addr) (cL : Nat) (σ' : St), V = wr ∧ v8 = .int .i64 i ∧ za (i ≤ nx) ∧ za (Rn w V P Bs Cs.length (7 + 2 * i) AC cC AT cT AL cL σ')) (fun v8 _ => nx - (intOf v8).toNat)
    case atStart => exact ⟨W3, 0, _, _, _, _, _, _, σ, rfl, rfl, ⟨Nat.zero_le _⟩, HR⟩
    case round =>
      clear HR
      obtain ⟨V, i, AC, cC, AT, cT, AL, cL, σ', hV, rfl, hi, HR⟩ := hrel
      rw [← hV]
      clear hV
      have HPV := za.mk (show V.heap[w.heap.size]? = some (.cells #[.slice A0 nc c0, .slice A1 Bs.length c1] 37 (0, 0)) by have h := HR.out.p; rw [HPP.out] at h; exact h)
      have p0 := (zd HPV.out 0).trans rfl
      have p1 := (zd HPV.out 1).trans rfl
      obtain ⟨s0, s1, s2, s3⟩ := HR.out.cells
      by_cases hlt : (i : Int) < (nx : Int)
      · have HLI := za.mk (show i < nx by omega)
        have ei : wrap64 ((i : Int) + 1) = ((i + 1 : Nat) : Int) := yq (n := nx) (by omega) (by omega)
        obtain ⟨ad, rfl, xi⟩ := at_ints HX.out i (by have := HLI.out; have := HNX.out; omega)
        have xi := zb HR.out.hb xi
        obtain ⟨x, hx⟩ : ∃ x, x = tu.getD i 0 := ⟨_, rfl⟩
        rw [← hx] at xi
        clear hx
        go_upto_region 7 with (fail)
        refine ye (n := 11) (S := fun w' => w'.cell? ⟨w.heap.size, 0, none⟩ = some (.slice A0 nc c0) ∧ w'.cell? ⟨w.heap.size, 1, none⟩ = some (.slice A1 Bs.length c1) ∧ w'.cell? ⟨w.heap.size + 1, 0, none⟩ = some (.slice AC σ'.C.length cC) ∧ w'.cell? ⟨w.heap.size + 1, 1, none⟩ = some (.slice AT σ'.T.length cT) ∧ w'.cell? ⟨w.heap.size + 1, 2, none⟩ = some (.int .i64 σ'.clk) ∧ w'.cell? ⟨w.heap.size + 1, 3, none⟩ = some (.slice AL σ'.L.length cL) ∧ w'.cell? (ad.add i) = some (.int .i64 x)) (ds := [10]) (bm 11 0) (by kernel_rfl) rfl rfl ⟨(zb (ze (Below.refl _ _)) p0), (zb (ze (Below.refl _ _)) p1), (zb (ze (Below.refl _ _)) s0), (zb (ze (Below.refl _ _)) s1), (zb (ze (Below.refl _ _)) s2), (zb (ze (Below.refl _ _)) s3), (zb (ze (Below.refl _ _)) xi)⟩ (fun hHeld => ?_)
        refine zm (i := 2) (N := some 30) (v := ?_) (a' := ?_) (bm 11 4) rfl rfl (by kernel_rfl) (fun _ _ _ h => h) (Or.inl ⟨by rfl, ?_⟩) ?_ ?_
        rotate_left
        · intro w'
          go_simp
          with_reducible rfl
        rotate_left
        · simp only [Act.put, List.setIfInBounds_toArray, List.set_cons_zero, List.set_cons_succ, zh, zi]
          rfl
        refine zm (i := 3) (N := some 31) (v := ?_) (a' := ?_) (bm 11 12) rfl rfl (by kernel_rfl) (fun _ _ _ h => h) (Or.inl ⟨by rfl, ?_⟩) ?_ ?_
        rotate_left
        · intro w'
          go_simp
          with_reducible rfl
        rotate_left
        · simp only [Act.put, List.setIfInBounds_toArray, List.set_cons_zero, List.set_cons_succ, zh, zi]
          rfl
        refine zm (i := 4) (N := some 32) (v := ?_) (a' := ?_) (bm 11 28) rfl rfl (by kernel_rfl) (fun _ _ _ h => h) (Or.inl ⟨by rfl, ?_⟩) ?_ ?_
        rotate_left
        · intro w'
          go_simp
          with_reducible rfl
        rotate_left
        · simp only [Act.put, List.setIfInBounds_toArray, List.set_cons_zero, List.set_cons_succ, zh, zi]
          rfl
        refine zE (i := 0) (N := some 28) (v := ?_) (a' := ?_) (bm 11 29) rfl rfl (by kernel_rfl) (fun _ _ _ h => h) (Or.inl ⟨by rfl, ?_⟩) hHeld ?_ ?_
        rotate_left
        · rintro w' ⟨s0, s1, s2, s3, s4, s5, s6⟩
          go_simp
          with_reducible rfl
        rotate_left
        · simp only [Act.put, List.setIfInBounds_toArray, List.set_cons_zero, List.set_cons_succ, zh, zi]
          rfl
        refine zE (i := 1) (N := some 29) (v := ?_) (a' := ?_) (bm 11 31) rfl rfl (by kernel_rfl) (fun _ _ _ h => h) (Or.inl ⟨by rfl, ?_⟩) hHeld ?_ ?_
        rotate_left
        · rintro w' ⟨s0, s1, s2, s3, s4, s5, s6⟩
          go_simp
          with_reducible rfl
        rotate_left
        · simp only [Act.put, List.setIfInBounds_toArray, List.set_cons_zero, List.set_cons_succ, zh, zi]
          rfl
        refine zE (i := 5) (N := some 33) (v := ?_) (a' := ?_) (bm 11 63) rfl rfl (by kernel_rfl) (fun _ _ _ h => h) (Or.inl ⟨by rfl, ?_⟩) hHeld ?_ ?_
        rotate_left
        · rintro w' ⟨s0, s1, s2, s3, s4, s5, s6⟩
          go_simp
          with_reducible rfl
        rotate_left
        · simp only [Act.put, List.setIfInBounds_toArray, List.set_cons_zero, List.set_cons_succ, zh, zi]
          rfl
        refine xq (i := 6) (N := some 34) (bm 11 127) rfl rfl (by kernel_rfl) (by decide) (fun K hK => ?_)
        refine goes_ Try.func87 (by kernel_rfl) rfl #[.agg #[.slice A0 nc c0, .slice A1 Bs.length c1], sysA AC cC AT cT AL cL σ', .int .i64 x] (by rfl) rfl rfl (by simp only [List.map_toArray, List.map_cons, List.map_nil]; rfl) ?_
        with_reducible refine ((do_calls A0 nc c0 A1 c1 AC cC AT cT AL cL x (HR.out.below (ze (Below.refl _ _))).o.sees HR.out.o.inv (by have := HN3.out; omega) (Kd.zw H1.out (HR.out.below (ze (Below.refl _ _))).hb) (by have h1 := HR.out.o.len; have h2 := hi.out; omega)).mono (fun e w' hd => hd.owns (HR.out.below (ze (Below.refl _ _))).o (HR.out.below (ze (Below.refl _ _))).hb.size)).mono ?_
        rintro e wc ⟨BC, dC, BT, dT, BL, dL, σ2, b2, rfl, hb, ho, _⟩
        refine ⟨_, rfl, ?_⟩
        have HBd := za.mk (show Below V.heap.size V wc from zj (ze (Below.refl _ _)) hb)
        have HRd := za.mk (HR.out.below HBd.out)
        have HO2 := za.mk ho
        have HPd := za.mk ((HBd.out.block _ (zo HPV.out)).trans HPV.out)
        have HR2 := za.mk (Rn.put HRd.out.hb HRd.out.p HRd.out.s HRd.out.r (HO2.out.mono (n' := 7 + 2 * (i + 1)) (Nat.le_refl _) (by omega)))
        unfold set4 at HR2
        unfold sysA
        have xid := zb HBd.out xi
        obtain ⟨t0, t1, t2, t3⟩ := HRd.out.cells
        have u0 := zk HRd.out.s 0
        have u1 := zk HRd.out.s 1
        have u2 := zk HRd.out.s 2
        have u3 := zk HRd.out.s 3
        have q0 := (zd HPd.out 0).trans rfl
        have q1 := (zd HPd.out 1).trans rfl
        clear hb ho
        refine hK.out _ _ ⟨q0, q1, t0, t1, t2, t3, xid⟩ (fun hHeld => ?_)
        clear hK K
        refine zt (a' := ?_) ?_ ?_
        rotate_left
        · show Act.put _ (some 34) _ = _
          simp only [Act.put, List.setIfInBounds_toArray, List.set_cons_zero, List.set_cons_succ, zh, zi]
          rfl
        refine zm (i := 7) (N := some 27) (v := ?_) (a' := ?_) (bm 11 255) rfl rfl (by kernel_rfl) (fun _ _ _ h => h) (Or.inl ⟨by rfl, ?_⟩) ?_ ?_
        rotate_left
        · intro w'
          go_simp
          with_reducible rfl
        rotate_left
        · simp only [Act.put, List.setIfInBounds_toArray, List.set_cons_zero, List.set_cons_succ, zh, zi]
          rfl
        refine zm (i := 8) (N := some 35) (v := ?_) (a' := ?_) (bm 11 511) rfl rfl (by kernel_rfl) (fun _ _ _ h => h) (Or.inl ⟨by rfl, ?_⟩) ?_ ?_
        rotate_left
        · intro w'
          go_simp
          with_reducible rfl
        rotate_left
        · simp only [Act.put, List.setIfInBounds_toArray, List.set_cons_zero, List.set_cons_succ, zh, zi]
          rfl
        refine zm (i := 9) (N := some 36) (v := ?_) (a' := ?_) (bm 11 1023) rfl rfl (by kernel_rfl) (fun _ _ _ h => h) (Or.inl ⟨by rfl, ?_⟩) ?_ ?_
        rotate_left
        · intro w'
          go_simp
          with_reducible rfl
        rotate_left
        · simp only [Act.put, List.setIfInBounds_toArray, List.set_cons_zero, List.set_cons_succ, zh, zi]
          rfl
        refine yL (i := 10) (N := none) (bm 11 2047) rfl rfl (by kernel_rfl) (by decide) (fun K hK => ?_)
        refine yK (w1 := ?_) (by rfl) rfl ?_ ?_
        rotate_left
        · go_simp
          rfl
        refine hK.out _ _ ?_
        clear hK K
        refine yx (by kernel_rfl) ?_
        go_wp2
        go_roundw
        case rel => exact ⟨_, i + 1, BC, dC, BT, dT, BL, dL, σ2, rfl, by first | rw [ei] | rfl | simp, ⟨HLI.out⟩, ⟨by first | exact HR2.out | exact HR2.out.below (ze (Below.refl _ _))⟩⟩
        case measure => (try rw [ei]); have := HLI.out; simp [intOf]; omega
      · have y0 := s0
        have KZ := za.mk (show V.heap[w.heap.size + 1 + 1]? = some (.cells #[.slice none 0 0, .slice none 0 0, .int .i64 0, .slice none 0 0] 27 (0, 0)) from HR.out.r)
        have r0 := (zd KZ.out 0).trans rfl
        have r1 := (zd KZ.out 1).trans rfl
        have r2 := (zd KZ.out 2).trans rfl
        have r3 := (zd KZ.out 3).trans rfl
        have rf0 := zk KZ.out 0
        have rf1 := zk KZ.out 1
        have rf2 := zk KZ.out 2
        have rf3 := zk KZ.out 3
        go_wp2
        have k4 := set4_blk (v0 := .slice AC σ'.C.length cC) (v1 := .slice AT σ'.T.length cT) (v2 := .int .i64 σ'.clk) (v3 := .slice AL σ'.L.length cL) KZ.out
        refine bodyPost_ret (yr rfl _ _ (w.heap.size + 1 + 1) 27 #[.slice AC σ'.C.length cC, .slice AT σ'.T.length cT, .int .i64 σ'.clk, .slice AL σ'.L.length cL] (0, 0) _ rfl k4 hus rfl (by kernel_rfl)) rfl ?_
        rw [HP.out]
        exact ⟨set4_below HR.out.hb (by omega), .inr ⟨HBO.out, AC, cC, AT, cT, AL, cL, σ', rfl, (HR.out.o.mono (Nat.le_refl _) (by have := hi.out; omega)).set4 KZ.out _ _ _ _⟩⟩
end Go.Proofs.Ytppapibjbjmmbaa.QSY
set_option linter.unusedVariables false
set_option linter.unusedSimpArgs false
namespace Go.Proofs.Ytppapibjbjmmbaa.QSY
open Go.RowKit Go.Proofs.YtppapibjbjmmbaaW.PrintWords Go.Proofs.YtppapibjbjmmbaaW.PrintLast Go.Proofs.YtppapibjbjmmbaaW.PrintMore
def bN : Value → Nat
  | .bool true => 1
  | _ => 0
set_option maxHeartbeats 4000000 in
set_option maxRecDepth 100000 in
theorem rest_calls {w : World} {Cs : List Int} {Bs : List (List zJ)} {σ : St} (A0 : Option Addr) (c0 : Nat) (A1 : Option Addr) (c1 : Nat) (AC : Option Addr) (cC : Nat) (AT : Option Addr) (cT : Nat) (AL : Option Addr) (cL : Nat) (most : Int)
    (h0 : Kd.C (Kd.int .i64) w A0 Cs.length Cs) (h1 : Kd.C (Kd.slice 110 xt) w A1 Bs.length Bs) (h : Sees w AC cC AT cT AL cL σ) (hp : ∀ t ∈ σ.T, t.f9.length ≤ 1000 ∧ t.f10.length ≤ 1000) (hI : sysF Cs Bs σ.C σ.T σ.clk σ.L = true → Inv Bs Cs.length σ) (hl : 0 ≤ most ∧ most ≤ 1000) :
    Calls Try.prog 96 #[.agg #[.slice A0 Cs.length c0, .slice A1 Bs.length c1], sysA AC cC AT cT AL cL σ, .int .i64 most] w (Ran w Cs Bs 2100 σ) := by
  have hus := Try.underlying27
  have hup := Try.underlying37
  have HS := za.mk h
  have H1 := za.mk h1
  have HL := za.mk hl
  have HI := za.mk hI
  obtain ⟨Post, hPost⟩ : ∃ P, P = Ran w Cs Bs 2100 σ := ⟨_, rfl⟩
  have HP := za.mk hPost
  rw [← hPost]
  obtain ⟨bo, hbo⟩ : ∃ b, sysF Cs Bs σ.C σ.T σ.clk σ.L = b := ⟨_, rfl⟩
  have HBO := za.mk hbo
  obtain ⟨nc, hnc⟩ : ∃ n, n = Cs.length := ⟨_, rfl⟩
  have HNC := za.mk hnc
  unfold sysA
  obtain ⟨W, hW⟩ : ∃ W, W = ((w.alloc (.cells #[.slice A0 nc c0, .slice A1 Bs.length c1] 37)).alloc (.cells #[.slice AC σ.C.length cC, .slice AT σ.T.length cT, .int .i64 σ.clk, .slice AL σ.L.length cL] 27)).alloc (.cells #[.slice none 0 0, .slice none 0 0, .int .i64 0, .slice none 0 0] 27) := ⟨_, rfl⟩
  have HB := za.mk (show Below w.heap.size w W by rw [hW]; exact zc (zc (zc (Below.refl _ _) _) _) _)
  have HWS := za.mk (show W.heap.size = w.heap.size + 3 by rw [hW]; simp)
  have EP := za.mk (show W.heap[w.heap.size]? = some (.cells #[.slice A0 nc c0, .slice A1 Bs.length c1] 37 (0, 0)) by rw [hW]; exact zl (zl (heap_alloc_new _ _) _) _)
  have ES := za.mk (show W.heap[w.heap.size + 1]? = some (.cells #[.slice AC σ.C.length cC, .slice AT σ.T.length cT, .int .i64 σ.clk, .slice AL σ.L.length cL] 27 (0, 0)) by rw [hW]; exact zl (zT (by simp)) _)
  have ER := za.mk (show W.heap[w.heap.size + 1 + 1]? = some (.cells #[.slice none 0 0, .slice none 0 0, .int .i64 0, .slice none 0 0] 27 (0, 0)) by rw [hW]; exact zT (by simp))
  have KO := za.mk (sys_calls A0 Cs c0 A1 Bs c1 AC σ.C cC AT σ.T cT σ.clk AL σ.L cL bo W (Kd.zw h0 HB.out) (Kd.zw h1 HB.out) (Kd.zw h.C HB.out) (Kd.zw h.T HB.out) h.hT (Kd.zw h.L HB.out) hp hbo)
  rw [← hnc] at KO ⊢
  clear h0 h1 h hp hI hl hPost hbo hnc
  go_enter Try.func96, Try.ntmps96
  go_upto_region 1 with (fail)
  rw [← hW]
  clear hW
  have p0 := (zd EP.out 0).trans rfl
  have p1 := (zd EP.out 1).trans rfl
  have s0 := (zd ES.out 0).trans rfl
  have s1 := (zd ES.out 1).trans rfl
  have s2 := (zd ES.out 2).trans rfl
  have s3 := (zd ES.out 3).trans rfl
  have HQ := za.mk (show inB most 0 2000 = true from inB_1 HL.out.1 (by have := HL.out; omega))
  cases bo
  · go_wp2_with (go_at_call 22; refine KO.out.mono ?_; rintro e w1 ⟨rfl, hb⟩; have HB1 := za.mk hb; clear hb; have r0 := (zd ((HB1.out.block _ (zo ER.out)).trans ER.out) 0).trans rfl; have rf0 := zk ((HB1.out.block _ (zo ER.out)).trans ER.out) 0; have r1 := (zd ((HB1.out.block _ (zo ER.out)).trans ER.out) 1).trans rfl; have rf1 := zk ((HB1.out.block _ (zo ER.out)).trans ER.out) 1; have r2 := (zd ((HB1.out.block _ (zo ER.out)).trans ER.out) 2).trans rfl; have rf2 := zk ((HB1.out.block _ (zo ER.out)).trans ER.out) 2; have r3 := (zd ((HB1.out.block _ (zo ER.out)).trans ER.out) 3).trans rfl; have rf3 := zk ((HB1.out.block _ (zo ER.out)).trans ER.out) 3)
    have k4 := set4_blk (v0 := .slice none 0 0) (v1 := .slice none 0 0) (v2 := .int .i64 0) (v3 := .slice none 0 0) ((HB1.out.block _ (zo ER.out)).trans ER.out)
    refine bodyPost_ret (yr rfl _ _ (w.heap.size + 1 + 1) 27 #[.slice none 0 0, .slice none 0 0, .int .i64 0, .slice none 0 0] (0, 0) _ rfl k4 hus rfl (by kernel_rfl)) rfl ?_
    rw [HP.out]
    exact ⟨set4_below (zj HB.out HB1.out) (by omega), .inl ⟨HBO.out, rfl⟩⟩
  · have HSF := za.mk (sysF_ok HBO.out)
    have HII := za.mk (HI.out HBO.out)
    have HN3 := za.mk (new_ok HSF.out.1)
    obtain ⟨P, hPP⟩ : ∃ P : Array Value, P = #[.slice A0 nc c0, .slice A1 Bs.length c1] := ⟨_, rfl⟩
    have HPP := za.mk hPP
    clear hPP
    go_upto_region 4 with (first
      | (go_at_call 22; refine KO.out.mono ?_; rintro e w1 ⟨rfl, hb⟩; have HB1 := za.mk hb; clear hb s0 s1 s2 s3; have s0 := (zd ((HB1.out.block _ (zo ES.out)).trans ES.out) 0).trans rfl; have s1 := (zd ((HB1.out.block _ (zo ES.out)).trans ES.out) 1).trans rfl; have s2 := (zd ((HB1.out.block _ (zo ES.out)).trans ES.out) 2).trans rfl; have s3 := (zd ((HB1.out.block _ (zo ES.out)).trans ES.out) 3).trans rfl)
      | (go_at_call 59; with_reducible refine (yR _ _ _ _ _ HQ.out).mono ?_; rintro e w' ⟨rfl, rfl⟩)
      | (go_at_call 86; refine (copy_calls AC cC AT cT AL cL (HS.out.below (zj HB.out HB1.out)) (HII.out.small (by have := HN3.out; omega))).mono ?_; rintro e w2 ⟨BC, dC, BT, dT, BL, dL, N, T, rfl, hb, hV, hE⟩; have HB2 := za.mk (zj HB1.out hb); have HB12 := za.mk hb; have HV := za.mk hV; have HE := za.mk hE; clear hb hV hE s0 s1 s2 s3; have s0 := (zd ((HB2.out.block _ (zo ES.out)).trans ES.out) 0).trans rfl; have s1 := (zd ((HB2.out.block _ (zo ES.out)).trans ES.out) 1).trans rfl; have s2 := (zd ((HB2.out.block _ (zo ES.out)).trans ES.out) 2).trans rfl; have s3 := (zd ((HB2.out.block _ (zo ES.out)).trans ES.out) 3).trans rfl; have sf0 := zk ((HB2.out.block _ (zo ES.out)).trans ES.out) 0; have sf1 := zk ((HB2.out.block _ (zo ES.out)).trans ES.out) 1; have sf2 := zk ((HB2.out.block _ (zo ES.out)).trans ES.out) 2; have sf3 := zk ((HB2.out.block _ (zo ES.out)).trans ES.out) 3))
    obtain ⟨W3, hW3⟩ : ∃ x, x = set4 w2 (w.heap.size + 1) (.slice BC σ.C.length dC) (.slice BT σ.T.length dT) (.int .i64 σ.clk) (.slice BL σ.L.length dL) := ⟨_, rfl⟩
    have HR := za.mk (show Rn w W3 P Bs Cs.length 7 BC dC BT dT BL dL σ by
      rw [hW3]
      refine Rn.put (zj HB.out HB2.out) ?_ ((HB2.out.block _ (zo ES.out)).trans ES.out) ((HB2.out.block _ (zo ER.out)).trans ER.out) ⟨⟨N, T, HV.out.lower (by have h1 := HB.out.size; have h2 := HB1.out.size; omega), HE.out⟩, HII.out, HSF.out.2.2.2⟩
      rw [HPP.out]
      exact (HB2.out.block _ (zo EP.out)).trans EP.out)
    unfold set4 at hW3
    rw [← hW3]
    clear hW3 s0 s1 s2 s3 sf0 sf1 sf2 sf3 p0 p1 HS HI HII KO
    go_wp2
    go_loopw [2, 8] (fun v2 v8 wr => ∃ (V : World) (m : Int) (sm : Bool) (AC : Option Addr) (cC : Nat) (AT : Option Addr) (cT : Nat) (AL : Option Addr) (cL : Nat) (σ' : St), V = wr ∧ v2 = .int .i64 m ∧ v8 = .bool sm ∧ za (0 ≤ m ∧ m ≤ 1000) ∧ za (Rn w V P Bs Cs.length (7 + 2 * (1000 - m).toNat) AC cC AT cT AL cL σ')) (fun v2 v8 _ => 2 * (intOf v2).toNat + bN v8)
    case atStart => exact ⟨W3, most, true, _, _, _, _, _, _, σ, rfl, rfl, rfl, HL, ⟨HR.out.mono (by omega)⟩⟩
    case round =>
      clear HR
      obtain ⟨V, m, sm, AC, cC, AT, cT, AL, cL, σ', hV, rfl, rfl, hi, HR⟩ := hrel
      rw [← hV]
      clear hV
      obtain ⟨s0, s1, s2, s3⟩ := HR.out.cells
      by_cases hm : 0 < m
      rotate_left
      · cases sm
        all_goals
          have KZ := za.mk (show V.heap[w.heap.size + 1 + 1]? = some (.cells #[.slice none 0 0, .slice none 0 0, .int .i64 0, .slice none 0 0] 27 (0, 0)) from HR.out.r)
          have r0 := (zd KZ.out 0).trans rfl
          have r1 := (zd KZ.out 1).trans rfl
          have r2 := (zd KZ.out 2).trans rfl
          have r3 := (zd KZ.out 3).trans rfl
          have rf0 := zk KZ.out 0
          have rf1 := zk KZ.out 1
          have rf2 := zk KZ.out 2
          have rf3 := zk KZ.out 3
          go_wp2
          have k4 := set4_blk (v0 := .slice AC σ'.C.length cC) (v1 := .slice AT σ'.T.length cT) (v2 := .int .i64 σ'.clk) (v3 := .slice AL σ'.L.length cL) KZ.out
          refine bodyPost_ret (yr rfl _ _ (w.heap.size + 1 + 1) 27 #[.slice AC σ'.C.length cC, .slice AT σ'.T.length cT, .int .i64 σ'.clk, .slice AL σ'.L.length cL] (0, 0) _ rfl k4 hus rfl (by kernel_rfl)) rfl ?_
          rw [HP.out]
          exact ⟨set4_below HR.out.hb (by omega), .inr ⟨HBO.out, AC, cC, AT, cT, AL, cL, σ', rfl, (HR.out.o.mono (Nat.le_refl _) (by have := hi.out; omega)).set4 KZ.out _ _ _ _⟩⟩
      · cases sm
        · skip
          have KZ := za.mk (show V.heap[w.heap.size + 1 + 1]? = some (.cells #[.slice none 0 0, .slice none 0 0, .int .i64 0, .slice none 0 0] 27 (0, 0)) from HR.out.r)
          have r0 := (zd KZ.out 0).trans rfl
          have r1 := (zd KZ.out 1).trans rfl
          have r2 := (zd KZ.out 2).trans rfl
          have r3 := (zd KZ.out 3).trans rfl
          have rf0 := zk KZ.out 0
          have rf1 := zk KZ.out 1
          have rf2 := zk KZ.out 2
          have rf3 := zk KZ.out 3
          go_wp2
          have k4 := set4_blk (v0 := .slice AC σ'.C.length cC) (v1 := .slice AT σ'.T.length cT) (v2 := .int .i64 σ'.clk) (v3 := .slice AL σ'.L.length cL) KZ.out
          refine bodyPost_ret (yr rfl _ _ (w.heap.size + 1 + 1) 27 #[.slice AC σ'.C.length cC, .slice AT σ'.T.length cT, .int .i64 σ'.clk, .slice AL σ'.L.length cL] (0, 0) _ rfl k4 hus rfl (by kernel_rfl)) rfl ?_
          rw [HP.out]
          exact ⟨set4_below HR.out.hb (by omega), .inr ⟨HBO.out, AC, cC, AT, cT, AL, cL, σ', rfl, (HR.out.o.mono (Nat.le_refl _) (by have := hi.out; omega)).set4 KZ.out _ _ _ _⟩⟩
        · go_wp2
          have HM0 := za.mk (And.intro hm hi.out)
          obtain ⟨m0, hm0⟩ : ∃ x, x = m := ⟨_, rfl⟩
          have HE0 := za.mk hm0
          go_loopw [2, 8, 9] (fun v2 v8 v9 wr => ∃ (V : World) (m : Int) (sm : Bool) (i : Nat) (AC : Option Addr) (cC : Nat) (AT : Option Addr) (cT : Nat) (AL : Option Addr) (cL : Nat) (σ' : St), V = wr ∧ v2 = .int .i64 m ∧ v8 = .bool sm ∧ v9 = .int .i64 i ∧ za (i ≤ 2500 ∧ 0 ≤ m ∧ m ≤ m0 ∧ (sm = true → m < m0)) ∧ za (Rn w V P Bs Cs.length (7 + 2 * (1000 - m).toNat) AC cC AT cT AL cL σ')) (fun _ _ v9 _ => 3000 - (intOf v9).toNat)
          case atStart => exact ⟨V, m, false, 0, _, _, _, _, _, _, σ', rfl, rfl, rfl, rfl, ⟨by omega, by have := hi.out; omega, by have := HE0.out; omega, fun h => absurd h (by simp)⟩, HR⟩
          case round =>
            clear HR hm hm0 s0 s1 s2 s3
            obtain ⟨V, m2, sm, i, AC, cC, AT, cT, AL, cL, σ', hV, rfl, rfl, rfl, hi2, HR⟩ := hrel
            rw [← hV]
            clear hV
            have HPV := za.mk (show V.heap[w.heap.size]? = some (.cells #[.slice A0 nc c0, .slice A1 Bs.length c1] 37 (0, 0)) by have h := HR.out.p; rw [HPP.out] at h; exact h)
            obtain ⟨s0, s1, s2, s3⟩ := HR.out.cells
            by_cases hg : (i : Int) < (σ'.T.length : Int) ∧ 0 < m2
            · obtain ⟨hlt, hm2⟩ := hg
              have HLI := za.mk (And.intro hlt hm2)
              have HLN := za.mk (show σ'.T.length ≤ 7 + 2 * (1000 - m2).toNat from HR.out.o.len)
              have ei : wrap64 ((i : Int) + 1) = ((i + 1 : Nat) : Int) := by have := hi2.out; unfold wrap64; omega
              have em : wrap64 (m2 - 1) = m2 - 1 := by have h1 := hi2.out; have h2 := HM0.out; have h3 := HE0.out; unfold wrap64; omega
              have p0 := (zd HPV.out 0).trans rfl
              have p1 := (zd HPV.out 1).trans rfl
              go_upto_if 47 with (go_at_call 87; refine ((do_calls A0 nc c0 A1 c1 AC cC AT cT AL cL (i : Int) HR.out.o.sees HR.out.o.inv (by have := HN3.out; omega) (Kd.zw H1.out HR.out.hb) (by have h1 := HLN.out; have h2 := HLI.out; omega)).mono (fun e w' hd => hd.owns HR.out.o HR.out.hb.size)).mono ?_; rintro e wc ⟨BC, dC, BT, dT, BL, dL, σ2, b2, rfl, hb, ho, hob⟩; have HBd := za.mk hb; have HO2 := za.mk ho; have HO3 := za.mk hob; unfold sysA; clear hb ho hob)
              obtain ⟨Z, hZ⟩ : ∃ Z, Z = wc.alloc (.cells #[.slice BC σ2.C.length dC, .slice BT σ2.T.length dT, .int .i64 σ2.clk, .slice BL σ2.L.length dL] 27) := ⟨_, rfl⟩
              have HBZ := za.mk (show Below V.heap.size V Z by rw [hZ]; exact zc HBd.out _)
              have HXZ := za.mk (show Z.heap[wc.heap.size]? = some (.cells #[.slice BC σ2.C.length dC, .slice BT σ2.T.length dT, .int .i64 σ2.clk, .slice BL σ2.L.length dL] 27 (0, 0)) by rw [hZ]; exact heap_alloc_new _ _)
              have HOZ := za.mk (show xx Z w.heap.size Bs Cs.length (7 + 2 * (1000 - m2).toNat + 2) BC dC BT dT BL dL σ2 by rw [hZ]; exact HO2.out.below (zc (Below.refl _ _) _))
              have HRZ := za.mk (HR.out.below HBZ.out)
              rw [← hZ]
              clear hZ hlt hm2 s0 s1 s2 s3 p0 p1
              cases b2
              · go_wp2
                go_roundw
                case rel => exact ⟨_, m2, sm, i + 1, AC, cC, AT, cT, AL, cL, σ', rfl, rfl, rfl, by first | rw [ei] | rfl | simp, ⟨by have h2 := HLI.out; have h3 := HLN.out; omega, hi2.out.2⟩, HRZ⟩
                case measure => (try rw [ei]); have h1 := hi2.out; have h2 := HLI.out; have h3 := HLN.out; simp [intOf]; omega
              · have x0 := (zd HXZ.out 0).trans rfl
                have x1 := (zd HXZ.out 1).trans rfl
                have x2 := (zd HXZ.out 2).trans rfl
                have x3 := (zd HXZ.out 3).trans rfl
                obtain ⟨s0, s1, s2, s3⟩ := HRZ.out.cells
                have sf0 := zk HRZ.out.s 0
                have sf1 := zk HRZ.out.s 1
                have sf2 := zk HRZ.out.s 2
                have sf3 := zk HRZ.out.s 3
                have HR2 := za.mk (Rn.put HRZ.out.hb HRZ.out.p HRZ.out.s HRZ.out.r (HOZ.out.mono (n' := 7 + 2 * (1000 - (m2 - 1)).toNat) (Nat.le_refl _) (by have h1 := hi2.out; have h2 := HLI.out; have h3 := HM0.out; have h4 := HE0.out; omega)))
                unfold set4 at HR2
                go_wp2
                go_roundw
                case rel => exact ⟨_, m2 - 1, true, i + 1, BC, dC, BT, dT, BL, dL, σ2, rfl, by first | rw [em] | rfl, rfl, by first | rw [ei] | rfl | simp, ⟨by have h1 := hi2.out; have h2 := HLI.out; have h3 := HLN.out; omega, by have h2 := HLI.out; omega, by have h1 := hi2.out; omega, fun _ => by have h1 := hi2.out; omega⟩, HR2⟩
                case measure => (try rw [ei]); have h1 := hi2.out; have h2 := HLI.out; have h3 := HLN.out; simp [intOf]; omega
            · have HEX := za.mk hg
              by_cases hlt : (i : Int) < (σ'.T.length : Int)
              · have hm2 : ¬ 0 < m2 := fun h => hg ⟨hlt, h⟩
                clear hg
                go_wp2
                go_roundw
                case rel => exact ⟨_, m2, sm, AC, cC, AT, cT, AL, cL, σ', rfl, rfl, rfl, ⟨by have h1 := hi2.out; have h2 := HM0.out; have h3 := HE0.out; omega⟩, HR⟩
                case measure => have h1 := hi2.out; have h2 := HM0.out; have h3 := HE0.out; cases sm <;> simp [intOf, bN] at h1 ⊢ <;> omega
              · clear hg
                go_wp2
                go_roundw
                case rel => exact ⟨_, m2, sm, AC, cC, AT, cT, AL, cL, σ', rfl, rfl, rfl, ⟨by have h1 := hi2.out; have h2 := HM0.out; have h3 := HE0.out; omega⟩, HR⟩
                case measure => have h1 := hi2.out; have h2 := HM0.out; have h3 := HE0.out; cases sm <;> simp [intOf, bN] at h1 ⊢ <;> omega
end Go.Proofs.Ytppapibjbjmmbaa.QSY
set_option linter.unusedVariables false
set_option linter.unusedSimpArgs false
namespace Go.Proofs.Ytppapibjbjmmbaa.QSY
open Go.RowKit Go.Proofs.YtppapibjbjmmbaaW.PrintWords Go.Proofs.YtppapibjbjmmbaaW.PrintLast Go.Proofs.YtppapibjbjmmbaaW.PrintMore
structure Tn (w0 wS w : World) (g : Nat) (m : Int) (v : Value) (l : List Int) : Prop where
  rd : Rdr w0 w g m
  K : Kept wS w (fun j => j = g)
  o : Kd.R (Kd.int .i64) 3 w wS.heap.size (fun _ => True) v l
  z : w0.heap.size ≤ wS.heap.size
section
variable {w0 wS w w1 : World} {g : Nat} {m m' : Int} {v va : Value} {l l' : List Int}
theorem Tn.pick (h : Tn w0 wS w g m v l) (hr : Rdr w0 w1 g m') (hk : Kept w w1 (fun j => j = g)) : Tn w0 wS w1 g m' v l := ⟨hr, yu h.K hk, h.rd.R hk h.o (by decide), h.z⟩
theorem Tn.push (h : Tn w0 wS w g m v l) (hra : Kd.R (Kd.int .i64) 3 w1 wS.heap.size (fun _ => True) va l') (hg : w.grownBy w1 v.ownBlock) : Tn w0 wS w1 g m va l' :=
  ⟨h.rd.grown h.o (by decide) h.z hg, h.K.of_grown hg (fun k hk => .inr (Kd.yQ h.o k hk)), hra, h.z⟩
theorem Tn.below (h : Tn w0 wS w g m v l) (hb : Below w.heap.size w w1) : Tn w0 wS w1 g m v l := h.pick (h.rd.below hb) (Kept.of_below hb _)
theorem Tn.mono (h : Tn w0 wS w g m v l) (hm : m ≤ m') : Tn w0 wS w g m' v l := { h with rd := h.rd.mono hm }
end
def sN : Value → Nat
  | .slice _ n _ => n
  | _ => 0
def DrawsTurns (w0 w : World) (g : Nat) (m : Int) (e : Ending) (w' : World) : Prop := ∃ A c l, e = .returned (.slice A (List.length l) c) ∧ Kd.R (Kd.int .i64) 3 w' w.heap.size (fun _ => True) (.slice A (List.length l) c) l ∧ l.length ≤ 300 ∧ Rdr w0 w' g (m + 1000) ∧ Kept w w' (fun j => j = g)
set_option maxHeartbeats 8000000 in
set_option maxRecDepth 100000 in
theorem turns_draws {w0 w : World} {g : Nat} {m : Int} (most : Int) (h : Rdr w0 w g m) (hm : m ≤ 700000) (h0 : 0 ≤ most) (h1 : most ≤ 200) : Calls Try.prog 107 #[.pointer (some ⟨g, 0, none⟩), .int .i64 most] w (DrawsTurns w0 w g m) := by
  obtain ⟨Post, hPost⟩ : ∃ P, P = DrawsTurns w0 w g m := ⟨_, rfl⟩
  have HP := za.mk hPost
  rw [← hPost]
  have HT := za.mk (show Tn w0 w (w.alloc (.cells #[] 3)) g m (.slice (some ⟨w.heap.size, 0, none⟩) 0 0) [] from ⟨h.below (zc (Below.refl _ _) _), Kept.of_below (zc (Below.refl _ _) _) _, R_of (xs := []) (cs := []) (heap_alloc_new _ _) (Nat.le_refl _) trivial (Nat.zero_le _) (yd.none _ _), h.hb.size⟩)
  have HM := za.mk (And.intro h0 h1)
  obtain ⟨U, hU⟩ : ∃ U, U = w.alloc (.cells #[] 3) := ⟨_, rfl⟩
  rw [← hU] at HT
  clear h hPost h0 h1
  go_enter Try.func107, Try.ntmps107
  go_upto_region 2 with (fail)
  rw [← hU]
  clear hU
  go_loopw [5] (fun v5 wr => ∃ (V : World) (A : Option Addr) (c : Nat) (l : List Int) (n : Nat), V = wr ∧ v5 = .slice A n c ∧ za (n = l.length ∧ (n : Int) ≤ most + 5) ∧ za (Tn w0 w V g (m + 3 * (n : Int)) (.slice A n c) l)) (fun v5 _ => most.toNat - sN v5)
  case atStart => exact ⟨U, _, _, [], 0, rfl, rfl, ⟨rfl, by have := HM.out; simp; omega⟩, ⟨by simpa using HT.out⟩⟩
  case round =>
    clear HT
    obtain ⟨V, A, c, l, n0, hV, rfl, hi, HT⟩ := hrel
    rw [← hV]
    clear hV
    by_cases hlt : (n0 : Int) < most
    · have HLT := za.mk hlt
      have HMM := za.mk (show m + 3 * (n0 : Int) ≤ 900000 by have := HM.out; omega)
      go_upto_region 4 with (go_at_call 55; refine (zM _ HT.out.rd (by have := HMM.out; omega) (by omega)).mono ?_; rintro e w1 ⟨kk, rfl, h0, h1, h2, hr, hk⟩; have n0 := za.mk (HT.out.pick hr hk); clear HT hr hk h2; have HT := n0; clear n0)
      clear h0 h1
      go_upto_region 5 with (go_at_call 55; refine (zM _ HT.out.rd (by have := HMM.out; omega) (by omega)).mono ?_; rintro e w1 ⟨y, rfl, h0, h1, h2, hr, hk⟩; have n0 := za.mk (HT.out.pick hr hk); clear HT hr hk h2; have HT := n0; clear n0)
      have hy := h1 (by decide)
      obtain ⟨i0, hi0⟩ : ∃ i : Nat, (1 + y) = (i : Int) := ⟨(1 + y).toNat, by omega⟩
      have HI0 := za.mk (show 1 ≤ i0 ∧ i0 ≤ 5 by omega)
      rw [hi0]
      clear h0 h1 hy hi0
      have HMM2 := za.mk (show m + 3 * (n0 : Int) + 2 ≤ 900000 by have := HM.out; have := HLT.out; have := hm; omega)
      go_loopw [5, 7] (fun v5 v7 wr => ∃ (V : World) (A : Option Addr) (c : Nat) (l : List Int) (n i : Nat), V = wr ∧ v5 = .slice A n c ∧ v7 = .int .i64 i ∧ za (n = l.length ∧ n + i = n0 + i0) ∧ za (Tn w0 w V g (m + 3 * (n0 : Int) + 2) (.slice A n c) l)) (fun _ v7 _ => (intOf v7).toNat)
      case atStart => exact ⟨_, A, c, l, n0, i0, rfl, rfl, rfl, ⟨hi.out.1, rfl⟩, ⟨HT.out.mono (by omega)⟩⟩
      case round =>
        clear HT
        obtain ⟨V, A, c, l, n, i, hV, rfl, rfl, hj, HT⟩ := hrel
        rw [← hV]
        clear hV
        by_cases hip : 0 < i
        · have HIP := za.mk hip
          have cb : decide ((i : Int) > 0) = true := decide_eq_true (by omega)
          have ei : wrap64 ((i : Int) - 1) = ((i - 1 : Nat) : Int) := by have := hj.out; have := HI0.out; have := hi.out; have := HM.out; unfold wrap64; omega
          clear hlt
          go_wp2_with ((with_reducible refine zH (b := .append) (xs := #[.tmp 22, .tmp 24]) rfl ?_); at_builtin; refine Kd.yc (Kd.int .i64) w.heap.size rfl (.tmp 22) (.tmp 24) 29 3 (.int .i64 0) 8 rfl Try.underlying29 info3 rfl (by decide) (by omega) _ l kk [.int .i64 kk] (fun _ => True) (fun _ => False) rfl rfl rfl (fun _ hk => hk.elim) (fun _ _ => trivial) HT.out.o (Below.refl _ _) HT.out.K.1 (by have h1 := hj.out; have h2 := HI0.out; have h3 := hi.out; have h4 := HM.out; omega) ?_; intro v2 wy ho hb hg hat; obtain ⟨A2, n2, c2, rfl⟩ := xp ho; have HT2 := za.mk (HT.out.push ho hg); have HN2 := za.mk (Kd.zW ho).1; clear ho hb hg hat)
          go_roundw
          case rel => exact ⟨_, A2, c2, l ++ [kk], n2, i - 1, rfl, rfl, by first | rw [ei] | rfl | simp, ⟨HN2.out, by have h1 := hj.out; have h2 := HN2.out; have h3 := HIP.out; simp at h2; omega⟩, HT2⟩
          case measure => (try rw [ei]); have := HIP.out; simp [intOf]; omega
        · have cb := True.intro
          have HNI := za.mk (show n = n0 + i0 by have := hj.out; omega)
          have hi0 : i = 0 := by omega
          subst hi0
          clear hip hlt cb
          go_upto_if 28 with (go_at_call 55; refine (zM _ HT.out.rd (by have := HMM2.out; omega) (by omega)).mono ?_; rintro e w1 ⟨y, rfl, h0, h1, h2, hr, hk⟩; have n0 := za.mk (HT.out.pick hr hk); clear HT hr hk h2; have HT := n0; clear n0)
          clear h0 h1
          by_cases hy0 : y = 0
          · go_wp2
            rw [HP.out]
            have e := hj.out.1
            subst e
            exact ⟨A, c, l, rfl, HT.out.o, by have h1 := HNI.out; have h2 := HI0.out; have h3 := HLT.out; have h4 := HM.out; omega, HT.out.rd.mono (by have h1 := HNI.out; have h2 := HI0.out; have h3 := HLT.out; have h4 := HM.out; omega), HT.out.K⟩
          · go_wp2
            go_roundw
            case rel => exact ⟨_, A, c, l, n, rfl, rfl, ⟨hj.out.1, by have h1 := HNI.out; have h2 := HI0.out; have h3 := HLT.out; omega⟩, ⟨HT.out.mono (by have h1 := HNI.out; have h2 := HI0.out; omega)⟩⟩
            case measure => have h1 := HNI.out; have h2 := HI0.out; have h3 := HLT.out; simp [sN]; omega
    · have hc := (Kd.zW HT.out.o).2.1
      obtain ⟨k, rfl⟩ : ∃ k : Nat, most = (k : Int) := ⟨most.toNat, by have := HM.out; omega⟩
      have hk1 : k ≤ c := by have := hi.out; omega
      have HK1 := za.mk (show k ≤ n0 by omega)
      clear hc
      go_wp2
      rw [HP.out]
      have e := hi.out.1
      have hT := Kd.R_take HT.out.o (m := k) (by have := HK1.out; omega)
      have el : (l.take k).length = k := by rw [List.length_take]; have := HK1.out; omega
      refine ⟨A, c, l.take k, by rw [el], by rw [el]; exact hT, by rw [el]; have := HM.out; omega, HT.out.rd.mono (by have h3 := hi.out; have h4 := HM.out; omega), HT.out.K⟩
end Go.Proofs.Ytppapibjbjmmbaa.QSY
set_option linter.unusedVariables false
set_option linter.unusedSimpArgs false
namespace Go.Proofs.Ytppapibjbjmmbaa.QSY
open Go.RowKit Go.Proofs.YtppapibjbjmmbaaW.PrintWords Go.Proofs.YtppapibjbjmmbaaW.PrintLast Go.Proofs.YtppapibjbjmmbaaW.PrintMore
theorem xC {w : World} {b b' i j : Nat} {u v : Value} (h : b ≠ b') (hc : w.cell? ⟨b, i, none⟩ = some v) : (w.setCell ⟨b', j, none⟩ u).cell? ⟨b, i, none⟩ = some v := yn hc (fun e => h (by injection e))
section
variable {w w1 w0 : World} {B nC n g : Nat} {m : Int} {Bs : List (List zJ)} {AC AT AL : Option Addr} {cC cT cL : Nat} {σ : St}
theorem xx.pick (h : xx w B Bs nC n AC cC AT cT AL cL σ) (hr : Rdr w0 w g m) (hk : Kept w w1 (fun j => j = g)) : xx w1 B Bs nC n AC cC AT cT AL cL σ := by
  obtain ⟨⟨N, T, hV, e⟩, h1, h2⟩ := h
  exact ⟨⟨N, T, hV.same (fun k q cells _ hq hc => hk.2 k (zo hc) (hr.typ hc (fun e => by subst e; revert hq; decide))), e⟩, h1, h2⟩
theorem xx.rows (h : xx w B Bs nC n AC cC AT cT AL cL σ) : ∀ t ∈ σ.T, t.f9.length ≤ 1000 ∧ t.f10.length ≤ 1000 := fun t ht => by
  obtain ⟨i, hi, e⟩ := List.getElem_of_mem ht
  have q := h.inv.t (i : Int) (by omega) (by omega)
  have e2 : σ.t (i : Int) = t := by unfold St.t; rw [Int.toNat_natCast, List.getD_eq_getElem?_getD, List.getElem?_eq_getElem hi, e]; rfl
  rw [e2] at q
  exact ⟨q.p9.1, q.p10.1⟩
theorem Ran.fine {Cs : List Int} {e : Ending} (h : Ran w Cs Bs n σ e w1) (hs : sysF Cs Bs σ.C σ.T σ.clk σ.L = true) : ∃ BC dC BT dT BL dL σ', e = .returned (.tuple #[sysA BC dC BT dT BL dL σ', .bool true]) ∧ Below w.heap.size w w1 ∧ xx w1 w.heap.size Bs Cs.length n BC dC BT dT BL dL σ' := by
  obtain ⟨hb, h⟩ := h
  rcases h with ⟨h, _⟩ | ⟨_, BC, dC, BT, dT, BL, dL, σ', he, ho⟩
  · rw [hs] at h; cases h
  · exact ⟨BC, dC, BT, dT, BL, dL, σ', he, hb, ho⟩
end
structure Dz (w0 wS w : World) (g : Nat) (m : Int) (A0 : Option Addr) (c0 : Nat) (Cs : List Int) (A1 : Option Addr) (c1 : Nat) (Bs : List (List zJ)) (n : Nat) (AC : Option Addr) (cC : Nat) (AT : Option Addr) (cT : Nat) (AL : Option Addr) (cL : Nat) (σ : St) : Prop where
  rd : Rdr w0 w g m
  K : Kept wS w (fun j => j = g)
  z : w0.heap.size ≤ wS.heap.size
  g : g < wS.heap.size
  P0 : Kd.R (Kd.int .i64) 3 w wS.heap.size (fun _ => True) (.slice A0 Cs.length c0) Cs
  P1 : Kd.R kBs 106 w wS.heap.size (fun _ => True) (.slice A1 Bs.length c1) Bs
  ok : okF Cs Bs = true
  pos : 0 < Cs.length
  o : xx w wS.heap.size Bs Cs.length n AC cC AT cT AL cL σ
section
variable {w0 wS w w1 : World} {g b4 b5 n n' : Nat} {m m' : Int} {A0 A1 AC AT AL BC BT BL : Option Addr} {c0 c1 cC cT cL dC dT dL : Nat} {Cs : List Int} {Bs : List (List zJ)} {σ σ' : St}
theorem Dz.pick (h : Dz w0 wS w g m A0 c0 Cs A1 c1 Bs n AC cC AT cT AL cL σ) (hr : Rdr w0 w1 g m') (hk : Kept w w1 (fun j => j = g)) : Dz w0 wS w1 g m' A0 c0 Cs A1 c1 Bs n AC cC AT cT AL cL σ :=
  ⟨hr, yu h.K hk, h.z, h.g, h.rd.R hk h.P0 (by decide), h.rd.R hk h.P1 (by decide), h.ok, h.pos, h.o.pick h.rd hk⟩
theorem Dz.below (h : Dz w0 wS w g m A0 c0 Cs A1 c1 Bs n AC cC AT cT AL cL σ) (hb : Below w.heap.size w w1) : Dz w0 wS w1 g m A0 c0 Cs A1 c1 Bs n AC cC AT cT AL cL σ := h.pick (h.rd.below hb) (Kept.of_below hb _)
theorem Dz.drew (h : Dz w0 wS w g m A0 c0 Cs A1 c1 Bs n AC cC AT cT AL cL σ) : Dz w0 wS w.drew g m A0 c0 Cs A1 c1 Bs n AC cC AT cT AL cL σ := h.below (ze (Below.refl _ _))
theorem Dz.mono (h : Dz w0 wS w g m A0 c0 Cs A1 c1 Bs n AC cC AT cT AL cL σ) (hm : m ≤ m') : Dz w0 wS w g m' A0 c0 Cs A1 c1 Bs n AC cC AT cT AL cL σ := { h with rd := h.rd.mono hm }
theorem Dz.set (h : Dz w0 wS w g m A0 c0 Cs A1 c1 Bs n AC cC AT cT AL cL σ) {b q : Nat} {cells : Array Value} (hb : w.heap[b]? = some (.cells cells q (0, 0))) (hq : q = 37 ∨ q = 27) (hz : wS.heap.size ≤ b) (j : Nat) (u : Value) : Dz w0 wS (w.setCell ⟨b, j, none⟩ u) g m A0 c0 Cs A1 c1 Bs n AC cC AT cT AL cL σ := by
  have hbg : b ≠ g := by have := h.g; omega
  have far : ∀ (k q' : Nat) (cells' : Array Value), q' ≠ q → w.heap[k]? = some (.cells cells' q' (0, 0)) → (w.setCell ⟨b, j, none⟩ u).heap[k]? = w.heap[k]? := fun k q' cells' hq' hc => Below.heap_setCell w ⟨b, j, none⟩ u k (fun e => by
    have e : k = b := e
    subst e
    rw [hb] at hc
    injection hc with hc
    injection hc with _ hc
    exact hq' hc.symm)
  have q0 : ∀ q', q' ∈ 3 :: (Kd.int .i64).E → q' ≠ q := by rcases hq with rfl | rfl <;> decide
  have q1 : ∀ q', q' ∈ 106 :: kBs.E → q' ≠ q := by rcases hq with rfl | rfl <;> decide
  refine ⟨h.rd.set hbg (by have := h.z; omega) j u, h.K.setCell (p := ⟨b, j, none⟩) (.inr hz) u, h.z, h.g, zQ h.P0 (fun k q' cells' _ _ hq' hc => far k q' cells' (q0 _ hq') hc), zQ h.P1 (fun k q' cells' _ _ hq' hc => far k q' cells' (q1 _ hq') hc), h.ok, h.pos, ?_⟩
  obtain ⟨⟨N, T, hV, e⟩, h1, h2⟩ := h.o
  exact ⟨⟨N, T, hV.far hb (by rcases hq with rfl | rfl <;> decide) j u, e⟩, h1, h2⟩
theorem Dz.sys (h : Dz w0 wS w g m A0 c0 Cs A1 c1 Bs n AC cC AT cT AL cL σ) (ho : xx w wS.heap.size Bs Cs.length n' BC dC BT dT BL dL σ') : Dz w0 wS w g m A0 c0 Cs A1 c1 Bs n' BC dC BT dT BL dL σ' :=
  { rd := h.rd, K := h.K, z := h.z, g := h.g, P0 := h.P0, P1 := h.P1, ok := h.ok, pos := h.pos, o := ho }
theorem Dz.C0 (h : Dz w0 wS w g m A0 c0 Cs A1 c1 Bs n AC cC AT cT AL cL σ) : Kd.C (Kd.int .i64) w A0 Cs.length Cs := (Kd.zW h.P0).2.2
theorem Dz.C1 (h : Dz w0 wS w g m A0 c0 Cs A1 c1 Bs n AC cC AT cT AL cL σ) : Kd.C (Kd.slice 110 xt) w A1 Bs.length Bs := (Kd.zW h.P1).2.2
theorem Dz.set4 (h : Dz w0 wS w g m A0 c0 Cs A1 c1 Bs n AC cC AT cT AL cL σ) {b : Nat} {u0 u1 u2 u3 : Value} (hb : w.heap[b]? = some (.cells #[u0, u1, u2, u3] 27 (0, 0))) (hz : wS.heap.size ≤ b) (v0 v1 v2 v3 : Value) : Dz w0 wS (set4 w b v0 v1 v2 v3) g m A0 c0 Cs A1 c1 Bs n AC cC AT cT AL cL σ :=
  (((h.set hb (.inr rfl) hz 0 v0).set (zu hb 0 v0) (.inr rfl) hz 1 v1).set (zu (zu hb 0 v0) 1 v1) (.inr rfl) hz 2 v2).set (zu (zu (zu hb 0 v0) 1 v1) 2 v2) (.inr rfl) hz 3 v3
end
theorem new_sysF' {Cs : List Int} {Bs : List (List zJ)} (h : okF Cs Bs = true) : sysF Cs Bs (St.new Cs).C (St.new Cs).T (St.new Cs).clk (St.new Cs).L = true := new_sysF h
structure Dw (w0 wS w : World) (g : Nat) (m : Int) (b4 b5 : Nat) (A0 : Option Addr) (c0 : Nat) (Cs : List Int) (A1 : Option Addr) (c1 : Nat) (Bs : List (List zJ)) (n : Nat) (AC : Option Addr) (cC : Nat) (AT : Option Addr) (cT : Nat) (AL : Option Addr) (cL : Nat) (σ : St) : Prop where
  d : Dz w0 wS w g m A0 c0 Cs A1 c1 Bs n AC cC AT cT AL cL σ
  b : wS.heap.size + 2 ≤ b4 ∧ wS.heap.size + 2 ≤ b5 ∧ b4 ≠ b5
  p : w.heap[b4]? = some (.cells #[.slice A0 Cs.length c0, .slice A1 Bs.length c1] 37 (0, 0))
  s : w.heap[b5]? = some (.cells (sysB AC cC AT cT AL cL σ) 27 (0, 0))
  r0 : w.heap[wS.heap.size]? = some (.cells #[.slice none 0 0, .slice none 0 0] 37 (0, 0))
  r1 : w.heap[wS.heap.size + 1]? = some (.cells zSys 27 (0, 0))
section
variable {w0 wS w w1 : World} {g b4 b5 n n' : Nat} {m m' : Int} {A0 A1 AC AT AL BC BT BL : Option Addr} {c0 c1 cC cT cL dC dT dL : Nat} {Cs : List Int} {Bs : List (List zJ)} {σ σ' : St}
theorem Dw.pick (h : Dw w0 wS w g m b4 b5 A0 c0 Cs A1 c1 Bs n AC cC AT cT AL cL σ) (hr : Rdr w0 w1 g m') (hk : Kept w w1 (fun j => j = g)) : Dw w0 wS w1 g m' b4 b5 A0 c0 Cs A1 c1 Bs n AC cC AT cT AL cL σ :=
  ⟨h.d.pick hr hk, h.b, h.d.rd.kept hk h.p (by decide), h.d.rd.kept hk h.s (by decide), h.d.rd.kept hk h.r0 (by decide), h.d.rd.kept hk h.r1 (by decide)⟩
theorem Dw.below (h : Dw w0 wS w g m b4 b5 A0 c0 Cs A1 c1 Bs n AC cC AT cT AL cL σ) (hb : Below w.heap.size w w1) : Dw w0 wS w1 g m b4 b5 A0 c0 Cs A1 c1 Bs n AC cC AT cT AL cL σ := h.pick (h.d.rd.below hb) (Kept.of_below hb _)
theorem Dw.drew (h : Dw w0 wS w g m b4 b5 A0 c0 Cs A1 c1 Bs n AC cC AT cT AL cL σ) : Dw w0 wS w.drew g m b4 b5 A0 c0 Cs A1 c1 Bs n AC cC AT cT AL cL σ := h.below (ze (Below.refl _ _))
theorem Dw.c40 (h : Dw w0 wS w g m b4 b5 A0 c0 Cs A1 c1 Bs n AC cC AT cT AL cL σ) : w.cell? ⟨b4, 0, none⟩ = some (.slice A0 Cs.length c0) := (zd h.p 0).trans rfl
theorem Dw.c41 (h : Dw w0 wS w g m b4 b5 A0 c0 Cs A1 c1 Bs n AC cC AT cT AL cL σ) : w.cell? ⟨b4, 1, none⟩ = some (.slice A1 Bs.length c1) := (zd h.p 1).trans rfl
theorem Dw.c50 (h : Dw w0 wS w g m b4 b5 A0 c0 Cs A1 c1 Bs n AC cC AT cT AL cL σ) : w.cell? ⟨b5, 0, none⟩ = some (.slice AC σ.C.length cC) := (zd h.s 0).trans rfl
theorem Dw.c51 (h : Dw w0 wS w g m b4 b5 A0 c0 Cs A1 c1 Bs n AC cC AT cT AL cL σ) : w.cell? ⟨b5, 1, none⟩ = some (.slice AT σ.T.length cT) := (zd h.s 1).trans rfl
theorem Dw.c52 (h : Dw w0 wS w g m b4 b5 A0 c0 Cs A1 c1 Bs n AC cC AT cT AL cL σ) : w.cell? ⟨b5, 2, none⟩ = some (.int .i64 σ.clk) := (zd h.s 2).trans rfl
theorem Dw.c53 (h : Dw w0 wS w g m b4 b5 A0 c0 Cs A1 c1 Bs n AC cC AT cT AL cL σ) : w.cell? ⟨b5, 3, none⟩ = some (.slice AL σ.L.length cL) := (zd h.s 3).trans rfl
theorem Dw.put (h : Dw w0 wS w g m b4 b5 A0 c0 Cs A1 c1 Bs n AC cC AT cT AL cL σ) (ho : xx w wS.heap.size Bs Cs.length n' BC dC BT dT BL dL σ') :
    Dw w0 wS (set4 w b5 (.slice BC σ'.C.length dC) (.slice BT σ'.T.length dT) (.int .i64 σ'.clk) (.slice BL σ'.L.length dL)) g m b4 b5 A0 c0 Cs A1 c1 Bs n' BC dC BT dT BL dL σ' := by
  have hb := h.b
  exact ⟨(h.d.sys ho).set4 h.s (by omega) _ _ _ _, h.b, (set4_far (by omega)).trans h.p, set4_blk h.s, (set4_far (by omega)).trans h.r0, (set4_far (by omega)).trans h.r1⟩
def fin6 (w : World) (b : Nat) (p0 p1 s0 s1 s2 s3 : Value) : World := set4 ((w.setCell ⟨b, 0, none⟩ p0).setCell ⟨b, 1, none⟩ p1) (b + 1) s0 s1 s2 s3
theorem Dw.final (h : Dw w0 wS w g m b4 b5 A0 c0 Cs A1 c1 Bs n AC cC AT cT AL cL σ) {W : World} (hW : W = fin6 w wS.heap.size (.slice A0 Cs.length c0) (.slice A1 Bs.length c1) (.slice AC σ.C.length cC) (.slice AT σ.T.length cT) (.int .i64 σ.clk) (.slice AL σ.L.length cL)) :
    W.heap[wS.heap.size]? = some (.cells #[.slice A0 Cs.length c0, .slice A1 Bs.length c1] 37 (0, 0)) ∧ W.heap[wS.heap.size + 1]? = some (.cells #[.slice AC σ.C.length cC, .slice AT σ.T.length cT, .int .i64 σ.clk, .slice AL σ.L.length cL] 27 (0, 0)) ∧ Dz w0 wS W g m A0 c0 Cs A1 c1 Bs n AC cC AT cT AL cL σ := by
  subst hW
  have k0 := zu (zu h.r0 0 (.slice A0 Cs.length c0)) 1 (.slice A1 Bs.length c1)
  have d2 := (h.d.set h.r0 (.inl rfl) (Nat.le_refl _) 0 (.slice A0 Cs.length c0)).set (zu h.r0 0 (.slice A0 Cs.length c0)) (.inl rfl) (Nat.le_refl _) 1 (.slice A1 Bs.length c1)
  have k1 : ((w.setCell ⟨wS.heap.size, 0, none⟩ (.slice A0 Cs.length c0)).setCell ⟨wS.heap.size, 1, none⟩ (.slice A1 Bs.length c1)).heap[wS.heap.size + 1]? = some (.cells #[.slice none 0 0, .slice none 0 0, .int .i64 0, .slice none 0 0] 27 (0, 0)) :=
    ((Below.heap_setCell _ ⟨wS.heap.size, 1, none⟩ _ _ (by show wS.heap.size + 1 ≠ wS.heap.size; omega)).trans (Below.heap_setCell _ ⟨wS.heap.size, 0, none⟩ _ _ (by show wS.heap.size + 1 ≠ wS.heap.size; omega))).trans h.r1
  exact ⟨(set4_far (by omega)).trans k0, set4_blk k1, d2.set4 k1 (by omega) _ _ _ _⟩
end
def DrawsSys (w0 w : World) (g : Nat) (m : Int) (n : Nat) (e : Ending) (w' : World) : Prop := ∃ A0 c0 Cs A1 c1 Bs AC cC AT cT AL cL σ, e = .returned (.tuple #[.agg #[.slice A0 (List.length Cs) c0, .slice A1 (List.length Bs) c1], sysA AC cC AT cT AL cL σ]) ∧ Dz w0 w w' g m A0 c0 Cs A1 c1 Bs n AC cC AT cT AL cL σ
set_option maxHeartbeats 8000000 in
set_option maxRecDepth 100000 in
theorem sys_draws {w0 w : World} {g : Nat} {m : Int} (h : Rdr w0 w g m) (hm : m ≤ 500000) : Calls Try.prog 83 #[.pointer (some ⟨g, 0, none⟩)] w (DrawsSys w0 w g (m + 5000) 700) := by
  have hus := Try.underlying27
  have hup := Try.underlying37
  obtain ⟨Post, hPost⟩ : ∃ P, P = DrawsSys w0 w g (m + 5000) 700 := ⟨_, rfl⟩
  have HP := za.mk hPost
  rw [← hPost]
  have HG := za.mk (show g < w.heap.size by
    obtain ⟨A, c, b, p, h1, _⟩ := h
    exact zo h1)
  have HZ := za.mk h.hb.size
  obtain ⟨W, hW⟩ : ∃ W, W = (w.alloc (.cells #[.slice none 0 0, .slice none 0 0] 37)).alloc (.cells #[.slice none 0 0, .slice none 0 0, .int .i64 0, .slice none 0 0] 27) := ⟨_, rfl⟩
  have HB := za.mk (show Below w.heap.size w W by rw [hW]; exact zc (zc (Below.refl _ _) _) _)
  have HWS := za.mk (show W.heap.size = w.heap.size + 2 by rw [hW]; simp)
  have E0 := za.mk (show W.heap[w.heap.size]? = some (.cells #[.slice none 0 0, .slice none 0 0] 37 (0, 0)) by rw [hW]; exact zl (heap_alloc_new _ _) _)
  have E1 := za.mk (show W.heap[w.heap.size + 1]? = some (.cells zSys 27 (0, 0)) by rw [hW]; exact zT (by simp))
  have HR := za.mk (h.below HB.out)
  clear h hPost
  go_enter Try.func83, Try.ntmps83
  go_upto_region 1 with (fail)
  rw [← hW]
  clear hW
  go_upto_region 3 with (first
    | (go_at_call 56; refine (prog_draws HR.out (by omega)).mono ?_; rintro e w1 ⟨v0, v1, Cs, Bs, rfl, p0, p1, hok, hpos, hr, hk⟩; obtain ⟨A0, c0, rfl⟩ := Kd.zK p0; obtain ⟨A1, c1, rfl⟩ := Kd.zK p1; have HP0 := za.mk p0; have HP1 := za.mk p1; have HOK := za.mk hok; have HPOS := za.mk hpos; have HR1 := za.mk hr; have HK1 := za.mk hk; clear p0 p1 hok hpos hr hk)
    | (go_at_call 106; refine (new_calls A0 c0 A1 c1 Cs Bs _ (Kd.zw (Kd.zW HP0.out).2.2 (zc (Below.refl _ _) _)) (Kd.zw (Kd.zW HP1.out).2.2 (zc (Below.refl _ _) _)) HOK.out).mono ?_; rintro e w2 ⟨AC, cC, AT, cT, AL, cL, rfl, hb, ho⟩; have HB2 := za.mk hb; have HO2 := za.mk ho; unfold sysA; clear hb ho))
  obtain ⟨Z, hZ⟩ : ∃ Z, Z = w2.alloc (.cells #[.slice AC (St.new Cs).C.length cC, .slice AT (St.new Cs).T.length cT, .int .i64 (St.new Cs).clk, .slice AL (St.new Cs).L.length cL] 27) := ⟨_, rfl⟩
  obtain ⟨b4, hb4⟩ : ∃ b, b = w1.heap.size := ⟨_, rfl⟩
  obtain ⟨b5, hb5⟩ : ∃ b, b = w2.heap.size := ⟨_, rfl⟩
  have HD := za.mk (show Dw w0 w Z g (m + 3000) b4 b5 A0 c0 Cs A1 c1 Bs 1 AC cC AT cT AL cL (St.new Cs) by
    obtain ⟨V, hV⟩ : ∃ V, V = w1.alloc (.cells #[.slice A0 Cs.length c0, .slice A1 Bs.length c1] 37) := ⟨_, rfl⟩
    have hb2 := HB2.out
    have ho2 := HO2.out
    rw [← hV] at hb2 ho2
    have sV : V.heap.size = w1.heap.size + 1 := by rw [hV]; simp
    have s1 : w.heap.size + 2 ≤ w1.heap.size := by have h1 := HWS.out; have h2 := HK1.out.1; omega
    have s2 := hb2.size
    have b1 : Below w1.heap.size w1 V := by rw [hV]; exact zc (Below.refl _ _) _
    have b3 : Below w2.heap.size w2 Z := by rw [hZ]; exact zc (Below.refl _ _) _
    have bz : Below w1.heap.size w1 Z := zj (zj b1 hb2) b3
    have kz : Kept W Z (fun j => j = g) := HK1.out.below bz
    have q4 : V.heap[w1.heap.size]? = some (.cells #[.slice A0 Cs.length c0, .slice A1 Bs.length c1] 37 (0, 0)) := by rw [hV]; exact heap_alloc_new _ _
    have q5 : Z.heap[w2.heap.size]? = some (.cells (sysB AC cC AT cT AL cL (St.new Cs)) 27 (0, 0)) := by rw [hZ]; exact heap_alloc_new _ _
    have bVZ : Below V.heap.size V Z := zj hb2 b3
    refine ⟨⟨HR1.out.below bz, yu (Kept.of_below HB.out _) kz, HZ.out, HG.out, Kd.zN (Kd.zO HP0.out HB.out.size) bz, Kd.zN (Kd.zO HP1.out HB.out.size) bz, HOK.out, HPOS.out, (ho2.below b3).mono (by omega) (Nat.le_refl _)⟩, ⟨by omega, by omega, by omega⟩, by rw [hb4]; exact (bVZ.block _ (zo q4)).trans q4, by rw [hb5]; exact q5, ?_, ?_⟩
    · have e := HR.out.kept HK1.out E0.out (by decide)
      exact (bz.block _ (zo e)).trans e
    · have e := HR.out.kept HK1.out E1.out (by decide)
      exact (bz.block _ (zo e)).trans e)
  rw [← hZ, ← hb4, ← hb5]
  clear hZ hb4 hb5 HR HB HWS E0 E1 HP0 HP1 HOK HPOS HR1 HK1 HB2 HO2
  refine ye (n := 12) (S := fun w' => w'.cell? ⟨b4, 0, none⟩ = some (.slice A0 Cs.length c0) ∧ w'.cell? ⟨b4, 1, none⟩ = some (.slice A1 Bs.length c1) ∧ w'.cell? ⟨b5, 0, none⟩ = some (.slice AC (St.new Cs).C.length cC) ∧ w'.cell? ⟨b5, 1, none⟩ = some (.slice AT (St.new Cs).T.length cT) ∧ w'.cell? ⟨b5, 2, none⟩ = some (.int .i64 (St.new Cs).clk) ∧ w'.cell? ⟨b5, 3, none⟩ = some (.slice AL (St.new Cs).L.length cL)) (ds := [11]) (bm 12 0) (by kernel_rfl) rfl rfl ⟨HD.out.drew.c40, HD.out.drew.c41, HD.out.drew.c50, HD.out.drew.c51, HD.out.drew.c52, HD.out.drew.c53⟩ (fun hHeld => ?_)
  refine zm (i := 2) (N := some 17) (v := ?_) (a' := ?_) (bm 12 4) rfl rfl (by kernel_rfl) (fun _ _ _ h => h) (Or.inl ⟨by rfl, ?_⟩) ?_ ?_
  rotate_left
  · intro w'
    go_simp
    with_reducible rfl
  rotate_left
  · simp only [Act.put, List.setIfInBounds_toArray, List.set_cons_zero, List.set_cons_succ, zh, zi]
    rfl
  refine zm (i := 3) (N := some 18) (v := ?_) (a' := ?_) (bm 12 12) rfl rfl (by kernel_rfl) (fun _ _ _ h => h) (Or.inl ⟨by rfl, ?_⟩) ?_ ?_
  rotate_left
  · intro w'
    go_simp
    with_reducible rfl
  rotate_left
  · simp only [Act.put, List.setIfInBounds_toArray, List.set_cons_zero, List.set_cons_succ, zh, zi]
    rfl
  refine zE (i := 0) (N := some 15) (v := ?_) (a' := ?_) (bm 12 13) rfl rfl (by kernel_rfl) (fun _ _ _ h => h) (Or.inl ⟨by rfl, ?_⟩) hHeld ?_ ?_
  rotate_left
  · rintro w' ⟨s0, s1, s2, s3, s4, s5⟩
    go_simp
    with_reducible rfl
  rotate_left
  · simp only [Act.put, List.setIfInBounds_toArray, List.set_cons_zero, List.set_cons_succ, zh, zi]
    rfl
  refine zE (i := 1) (N := some 16) (v := ?_) (a' := ?_) (bm 12 15) rfl rfl (by kernel_rfl) (fun _ _ _ h => h) (Or.inl ⟨by rfl, ?_⟩) hHeld ?_ ?_
  rotate_left
  · rintro w' ⟨s0, s1, s2, s3, s4, s5⟩
    go_simp
    with_reducible rfl
  rotate_left
  · simp only [Act.put, List.setIfInBounds_toArray, List.set_cons_zero, List.set_cons_succ, zh, zi]
    rfl
  refine xq (i := 4) (N := some 19) (bm 12 31) rfl rfl (by kernel_rfl) (by decide) (fun K hK => ?_)
  refine goes_ Try.func55 (by kernel_rfl) rfl #[.pointer (some ⟨g, 0, none⟩), .int .i64 120] (by rfl) rfl rfl (by simp only [List.map_toArray, List.map_cons, List.map_nil]; rfl) ?_
  with_reducible refine (zM 120 HD.out.drew.d.rd (by omega) (by omega)).mono ?_
  rintro e wa ⟨y, rfl, y0, y1, _, hr, hk⟩
  refine ⟨_, rfl, ?_⟩
  have HDa := za.mk (HD.out.drew.pick hr hk)
  have hy := y1 (by decide)
  have EY := za.mk (show wrap64 (10 + y) = 10 + y ∧ 0 ≤ y ∧ y < 120 by refine ⟨?_, y0, hy⟩; unfold wrap64; omega)
  clear hr hk y0 y1 hy
  refine hK.out _ _ ⟨HDa.out.c40, HDa.out.c41, HDa.out.c50, HDa.out.c51, HDa.out.c52, HDa.out.c53⟩ (fun hHeld => ?_)
  clear hK K
  refine zt (a' := ?_) ?_ ?_
  rotate_left
  · show Act.put _ (some 19) _ = _
    simp only [Act.put, List.setIfInBounds_toArray, List.set_cons_zero, List.set_cons_succ, zh, zi]
    rfl
  refine zm (i := 5) (N := some 20) (v := ?_) (a' := ?_) (bm 12 63) rfl rfl (by kernel_rfl) (fun _ _ _ h => h) (Or.inl ⟨by rfl, ?_⟩) ?_ ?_
  rotate_left
  · intro w'
    go_simp
    with_reducible rfl
  rotate_left
  · simp only [Act.put, List.setIfInBounds_toArray, List.set_cons_zero, List.set_cons_succ, zh, zi]
    rfl
  refine xq (i := 6) (N := some 21) (bm 12 127) rfl rfl (by kernel_rfl) (by decide) (fun K hK => ?_)
  refine goes_ Try.func107 (by kernel_rfl) rfl #[.pointer (some ⟨g, 0, none⟩), .int .i64 (wrap64 (10 + y))] (by rfl) rfl rfl (by simp only [List.map_toArray, List.map_cons, List.map_nil]; rfl) ?_
  with_reducible refine (turns_draws (wrap64 (10 + y)) HDa.out.d.rd (by omega) (by have h := EY.out; rw [h.1]; omega) (by have h := EY.out; rw [h.1]; omega)).mono ?_
  rintro e wb ⟨AX, cX, tu, rfl, hx, hxl, hr, hk⟩
  refine ⟨_, rfl, ?_⟩
  have HDb := za.mk (HDa.out.pick hr hk)
  have HX := za.mk (Kd.zW hx).2.2
  have HXL := za.mk hxl
  clear hr hk hx hxl
  refine hK.out _ _ ⟨HDb.out.c40, HDb.out.c41, HDb.out.c50, HDb.out.c51, HDb.out.c52, HDb.out.c53⟩ (fun hHeld => ?_)
  clear hK K
  refine zt (a' := ?_) ?_ ?_
  rotate_left
  · show Act.put _ (some 21) _ = _
    simp only [Act.put, List.setIfInBounds_toArray, List.set_cons_zero, List.set_cons_succ, zh, zi]
    rfl
  refine xq (i := 7) (N := some 22) (bm 12 255) rfl rfl (by kernel_rfl) (by decide) (fun K hK => ?_)
  refine goes_ Try.func57 (by kernel_rfl) rfl #[.agg #[.slice A0 Cs.length c0, .slice A1 Bs.length c1], sysA AC cC AT cT AL cL (St.new Cs), .slice AX tu.length cX] (by rfl) rfl rfl (by simp only [List.map_toArray, List.map_cons, List.map_nil]; rfl) ?_
  with_reducible refine ((run_calls A0 c0 A1 c1 AC cC AT cT AL cL AX cX tu HDb.out.d.C0 HDb.out.d.C1 HDb.out.d.o.sees HDb.out.d.o.rows (fun _ => HDb.out.d.o.inv) HX.out HXL.out).mono (fun e w' h => h.fine (new_sysF' HDb.out.d.ok))).mono ?_
  rintro e wc ⟨BC, dC, BT, dT, BL, dL, σ2, rfl, hb, ho⟩
  refine ⟨_, rfl, ?_⟩
  have HDc := za.mk (HDb.out.below hb)
  have HO2 := za.mk (ho.mono (n' := 700) HDb.out.d.K.1 (Nat.le_refl _))
  have HF := za.mk (HDc.out.put HO2.out)
  unfold set4 at HF
  unfold sysA
  have u0 := zk HDc.out.s 0
  have u1 := zk HDc.out.s 1
  have u2 := zk HDc.out.s 2
  have u3 := zk HDc.out.s 3
  have v0 := HDc.out.c50
  have v1 := HDc.out.c51
  have v2 := HDc.out.c52
  have v3 := HDc.out.c53
  clear hb ho
  refine hK.out _ _ ⟨HDc.out.c40, HDc.out.c41, HDc.out.c50, HDc.out.c51, HDc.out.c52, HDc.out.c53⟩ (fun hHeld => ?_)
  clear hK K
  refine zt (a' := ?_) ?_ ?_
  rotate_left
  · show Act.put _ (some 22) _ = _
    simp only [Act.put, List.setIfInBounds_toArray, List.set_cons_zero, List.set_cons_succ, zh, zi]
    rfl
  refine zm (i := 8) (N := some 14) (v := ?_) (a' := ?_) (bm 12 511) rfl rfl (by kernel_rfl) (fun _ _ _ h => h) (Or.inl ⟨by rfl, ?_⟩) ?_ ?_
  rotate_left
  · intro w'
    go_simp
    with_reducible rfl
  rotate_left
  · simp only [Act.put, List.setIfInBounds_toArray, List.set_cons_zero, List.set_cons_succ, zh, zi]
    rfl
  refine zm (i := 9) (N := some 23) (v := ?_) (a' := ?_) (bm 12 1023) rfl rfl (by kernel_rfl) (fun _ _ _ h => h) (Or.inl ⟨by rfl, ?_⟩) ?_ ?_
  rotate_left
  · intro w'
    go_simp
    with_reducible rfl
  rotate_left
  · simp only [Act.put, List.setIfInBounds_toArray, List.set_cons_zero, List.set_cons_succ, zh, zi]
    rfl
  refine zm (i := 10) (N := some 24) (v := ?_) (a' := ?_) (bm 12 2047) rfl rfl (by kernel_rfl) (fun _ _ _ h => h) (Or.inl ⟨by rfl, ?_⟩) ?_ ?_
  rotate_left
  · intro w'
    go_simp
    with_reducible rfl
  rotate_left
  · simp only [Act.put, List.setIfInBounds_toArray, List.set_cons_zero, List.set_cons_succ, zh, zi]
    rfl
  refine yL (i := 11) (N := none) (bm 12 4095) rfl rfl (by kernel_rfl) (by decide) (fun K hK => ?_)
  refine yK (w1 := ?_) (by rfl) rfl ?_ ?_
  rotate_left
  · go_simp
    rfl
  refine hK.out _ _ ?_
  clear hK K
  refine yx (by kernel_rfl) ?_
  obtain ⟨Z3, hZ3⟩ : ∃ Z, Z = (((wc.setCell ⟨b5, 0, none⟩ (.slice BC σ2.C.length dC)).setCell ⟨b5, 1, none⟩ (.slice BT σ2.T.length dT)).setCell ⟨b5, 2, none⟩ (.int .i64 σ2.clk)).setCell ⟨b5, 3, none⟩ (.slice BL σ2.L.length dL) := ⟨_, rfl⟩
  rw [← hZ3] at HF ⊢
  clear hZ3
  have HD := HF
  have HNE := za.mk (show b4 ≠ w.heap.size ∧ b5 ≠ w.heap.size ∧ b4 ≠ w.heap.size + 1 ∧ b5 ≠ w.heap.size + 1 by have := HD.out.b; omega)
  have r00 := (zd HD.out.r0 0).trans rfl
  have r01 := (zd HD.out.r0 1).trans rfl
  have KZ := za.mk (show Z3.heap[w.heap.size + 1]? = some (.cells #[.slice none 0 0, .slice none 0 0, .int .i64 0, .slice none 0 0] 27 (0, 0)) from HD.out.r1)
  have r10 := (zd KZ.out 0).trans rfl
  have r11 := (zd KZ.out 1).trans rfl
  have r12 := (zd KZ.out 2).trans rfl
  have r13 := (zd KZ.out 3).trans rfl
  have rf00 := zk HD.out.r0 0
  have rf01 := zk HD.out.r0 1
  have rf10 := zk KZ.out 0
  have rf11 := zk KZ.out 1
  have rf12 := zk KZ.out 2
  have rf13 := zk KZ.out 3
  clear HF
  go_upto_region 4 with (fail)
  refine ye (n := 4) (S := fun w' => w'.cell? ⟨b4, 0, none⟩ = some (.slice A0 Cs.length c0) ∧ w'.cell? ⟨b4, 1, none⟩ = some (.slice A1 Bs.length c1) ∧ w'.cell? ⟨b5, 0, none⟩ = some (.slice BC σ2.C.length dC) ∧ w'.cell? ⟨b5, 1, none⟩ = some (.slice BT σ2.T.length dT) ∧ w'.cell? ⟨b5, 2, none⟩ = some (.int .i64 σ2.clk) ∧ w'.cell? ⟨b5, 3, none⟩ = some (.slice BL σ2.L.length dL)) (ds := [3]) (bm 4 0) (by kernel_rfl) rfl rfl ⟨HD.out.drew.c40, HD.out.drew.c41, HD.out.drew.c50, HD.out.drew.c51, HD.out.drew.c52, HD.out.drew.c53⟩ (fun hHeld => ?_)
  refine zE (i := 0) (N := some 25) (v := ?_) (a' := ?_) (bm 4 1) rfl rfl (by kernel_rfl) (fun _ _ _ h => h) (Or.inl ⟨by rfl, ?_⟩) hHeld ?_ ?_
  rotate_left
  · rintro w' ⟨s0, s1, s2, s3, s4, s5⟩
    go_simp
    with_reducible rfl
  rotate_left
  · simp only [Act.put, List.setIfInBounds_toArray, List.set_cons_zero, List.set_cons_succ, zh, zi]
    rfl
  refine zE (i := 1) (N := some 26) (v := ?_) (a' := ?_) (bm 4 3) rfl rfl (by kernel_rfl) (fun _ _ _ h => h) (Or.inl ⟨by rfl, ?_⟩) hHeld ?_ ?_
  rotate_left
  · rintro w' ⟨s0, s1, s2, s3, s4, s5⟩
    go_simp
    with_reducible rfl
  rotate_left
  · simp only [Act.put, List.setIfInBounds_toArray, List.set_cons_zero, List.set_cons_succ, zh, zi]
    rfl
  refine xq (i := 2) (N := none) (bm 4 7) rfl rfl (by kernel_rfl) (by decide) (fun K hK => ?_)
  refine yK (w1 := ?_) (by rfl) rfl ?_ ?_
  rotate_left
  · go_simp
    rfl
  refine hK.out _ _ ⟨(xC HNE.out.1 (xC HNE.out.1 HD.out.drew.c40)), (xC HNE.out.1 (xC HNE.out.1 HD.out.drew.c41)), (xC HNE.out.2.1 (xC HNE.out.2.1 HD.out.drew.c50)), (xC HNE.out.2.1 (xC HNE.out.2.1 HD.out.drew.c51)), (xC HNE.out.2.1 (xC HNE.out.2.1 HD.out.drew.c52)), (xC HNE.out.2.1 (xC HNE.out.2.1 HD.out.drew.c53))⟩ (fun hHeld => ?_)
  clear hK K
  refine yL (i := 3) (N := none) (bm 4 15) rfl rfl (by kernel_rfl) (by decide) (fun K hK => ?_)
  refine yK (w1 := ?_) (by rfl) rfl ?_ ?_
  rotate_left
  · go_simp
    rfl
  refine hK.out _ _ ?_
  clear hK K
  refine yx (by kernel_rfl) ?_
  obtain ⟨W6, hW6⟩ : ∃ x, x = (((((Z3.setCell ⟨w.heap.size, 0, none⟩ (.slice A0 Cs.length c0)).setCell ⟨w.heap.size, 1, none⟩ (.slice A1 Bs.length c1)).setCell ⟨w.heap.size + 1, 0, none⟩ (.slice BC σ2.C.length dC)).setCell ⟨w.heap.size + 1, 1, none⟩ (.slice BT σ2.T.length dT)).setCell ⟨w.heap.size + 1, 2, none⟩ (.int .i64 σ2.clk)).setCell ⟨w.heap.size + 1, 3, none⟩ (.slice BL σ2.L.length dL) := ⟨_, rfl⟩
  rw [← hW6]
  obtain ⟨f0, f1, fd⟩ := HD.out.final (W := W6) hW6
  have F0 := za.mk f0
  have F1 := za.mk f1
  have FD := za.mk fd
  clear hW6 f0 f1 fd r00 r01 r10 r11 r12 r13 rf00 rf01 rf10 rf11 rf12 rf13 hHeld
  go_wp2
  refine bodyPost_ret (results_cc rfl _ _ w.heap.size (w.heap.size + 1) 37 27 #[.slice A0 Cs.length c0, .slice A1 Bs.length c1] #[.slice BC σ2.C.length dC, .slice BT σ2.T.length dT, .int .i64 σ2.clk, .slice BL σ2.L.length dL] (0, 0) (0, 0) _ _ rfl F0.out hup rfl (by kernel_rfl) rfl F1.out hus rfl (by kernel_rfl)) rfl ?_
  rw [HP.out]
  exact ⟨A0, c0, Cs, A1, c1, Bs, BC, dC, BT, dT, BL, dL, σ2, rfl, FD.out.drew.mono (by omega)⟩
end Go.Proofs.Ytppapibjbjmmbaa.QSY
set_option linter.unusedVariables false
set_option linter.unusedSimpArgs false
namespace Go.Proofs.Ytppapibjbjmmbaa.QSY
open Go.RowKit Go.Proofs.YtppapibjbjmmbaaW.PrintWords Go.Proofs.YtppapibjbjmmbaaW.PrintLast Go.Proofs.YtppapibjbjmmbaaW.PrintMore
def LogOf (K L : List S50) : Prop := L = [] ∨ L = K ∨ (1 < K.length ∧ L = K.set 0 { K.getD 0 z50 with f2 := (K.getD (K.length - 1) z50).f2 + 1 })
structure Dl (w0 wS w : World) (g : Nat) (m : Int) (b4 : Nat) (A0 : Option Addr) (c0 : Nat) (Cs : List Int) (A1 : Option Addr) (n1 c1 : Nat) (vL : Value) (L : List S50) : Prop where
  rd : Rdr w0 w g m
  K : Kept wS w (fun j => j = g)
  z : w0.heap.size ≤ wS.heap.size
  g : g < wS.heap.size
  b : wS.heap.size + 1 ≤ b4
  p : w.heap[b4]? = some (.cells #[.slice A0 Cs.length c0, .slice A1 n1 c1] 37 (0, 0))
  r0 : w.heap[wS.heap.size]? = some (.cells #[.slice none 0 0, .slice none 0 0] 37 (0, 0))
  P0 : Kd.R (Kd.int .i64) 3 w wS.heap.size (fun _ => True) (.slice A0 Cs.length c0) Cs
  RL : Kd.R k50 50 w wS.heap.size (fun _ => True) vL L
section
variable {w0 wS w w1 : World} {g b4 n1 : Nat} {m m' : Int} {A0 A1 : Option Addr} {c0 c1 : Nat} {Cs : List Int} {L L' : List S50} {vL v' : Value}
theorem Dl.pick (h : Dl w0 wS w g m b4 A0 c0 Cs A1 n1 c1 vL L) (hr : Rdr w0 w1 g m') (hk : Kept w w1 (fun j => j = g)) : Dl w0 wS w1 g m' b4 A0 c0 Cs A1 n1 c1 vL L :=
  ⟨hr, yu h.K hk, h.z, h.g, h.b, h.rd.kept hk h.p (by decide), h.rd.kept hk h.r0 (by decide), h.rd.R hk h.P0 (by decide), h.rd.R hk h.RL (by decide)⟩
theorem Dl.below (h : Dl w0 wS w g m b4 A0 c0 Cs A1 n1 c1 vL L) (hb : Below w.heap.size w w1) : Dl w0 wS w1 g m b4 A0 c0 Cs A1 n1 c1 vL L := h.pick (h.rd.below hb) (Kept.of_below hb _)
theorem Dl.drew (h : Dl w0 wS w g m b4 A0 c0 Cs A1 n1 c1 vL L) : Dl w0 wS w.drew g m b4 A0 c0 Cs A1 n1 c1 vL L := h.below (ze (Below.refl _ _))
theorem Dl.p0 (h : Dl w0 wS w g m b4 A0 c0 Cs A1 n1 c1 vL L) : w.cell? ⟨b4, 0, none⟩ = some (.slice A0 Cs.length c0) := (zd h.p 0).trans rfl
theorem Dl.p1 (h : Dl w0 wS w g m b4 A0 c0 Cs A1 n1 c1 vL L) : w.cell? ⟨b4, 1, none⟩ = some (.slice A1 n1 c1) := (zd h.p 1).trans rfl
theorem Dl.row (h : Dl w0 wS w g m b4 A0 c0 Cs A1 n1 c1 vL L) (hr : Kd.R k50 50 w1 wS.heap.size (fun _ => True) v' L') (hg : w.grownBy w1 vL.ownBlock) : Dl w0 wS w1 g m b4 A0 c0 Cs A1 n1 c1 v' L' := by
  have hbl := zG h.RL hg
  exact ⟨h.rd.grown h.RL (by decide) h.z hg, h.K.of_grown hg (fun k hk => .inr (Kd.yQ h.RL k hk)), h.z, h.g, h.b, (hbl _ _ _ (by decide) h.p).trans h.p, (hbl _ _ _ (by decide) h.r0).trans h.r0, zQ h.P0 (fun k q cells _ _ hq hc => hbl k q cells (by rw [List.mem_singleton.1 hq]; decide) hc), hr⟩
theorem Dl.when {gL cL : Nat} {n : Nat} (h : Dl w0 wS w g m b4 A0 c0 Cs A1 n1 c1 (.slice (some ⟨gL, 0, none⟩) n cL) L) (hn : 0 < n) (x : Int) : Dl w0 wS (w.setCell ⟨gL, 2, none⟩ (.int .i64 x)) g m b4 A0 c0 Cs A1 n1 c1 (.slice (some ⟨gL, 0, none⟩) n cL) (L.set 0 { L.getD 0 z50 with f2 := x }) := by
  obtain ⟨c, hcl, hM, hcc, hfr⟩ := Kd.R_elem h.RL z50 0 (Int.le_refl _) (by omega)
  obtain ⟨v3, v4, rfl, g3, g4⟩ := k50_openM hM
  obtain ⟨r1, r2⟩ := Kd.R_seg h.RL 0 (Int.le_refl _) (by omega) (seg := [.int .i64 x]) (j := 2) hcl hcc (by show 2 + 1 ≤ 6; omega) (x' := { L.getD 0 z50 with f2 := x }) (k50_mkM w wS.heap.size _ { L.getD 0 z50 with f2 := x } g3 g4) (fun _ hk => hk)
  exact h.row r1 r2
theorem Dl.at (h : Dl w0 wS w g m b4 A0 c0 Cs A1 n1 c1 vL L) (i : Nat) (hi : i < L.length) : ∃ gL cL, vL = .slice (some ⟨gL, 0, none⟩) L.length cL ∧ w.cell? ⟨gL, i * 6 + 2, none⟩ = some (.int .i64 (L.getD i z50).f2) ∧ ∀ j, w.frozen? ⟨gL, j, none⟩ = false := by
  obtain ⟨gL, cL, rfl, b0, b1, cells, hc⟩ := Kd.R_form h.RL (show 0 < L.length by omega)
  obtain ⟨c, hcl, hM, hcc, hfr⟩ := Kd.R_elem h.RL z50 (i : Int) (by omega) (by omega)
  obtain ⟨v3, v4, rfl, g3, g4⟩ := k50_openM hM
  have e := hcc 2 _ rfl
  rw [Int.toNat_natCast] at e
  exact ⟨gL, cL, rfl, e, fun j => zk hc j⟩
end
theorem Dl.fin {w0 wS w : World} {g b4 n1 : Nat} {m : Int} {A0 A1 : Option Addr} {c0 c1 : Nat} {Cs : List Int} {L : List S50} {vL : Value} (h : Dl w0 wS w g m b4 A0 c0 Cs A1 n1 c1 vL L) :
    ((w.setCell ⟨wS.heap.size, 0, none⟩ (.slice A0 Cs.length c0)).setCell ⟨wS.heap.size, 1, none⟩ (.slice A1 n1 c1)).heap[wS.heap.size]? = some (.cells #[.slice A0 Cs.length c0, .slice A1 n1 c1] 37 (0, 0)) ∧
    Rdr w0 ((w.setCell ⟨wS.heap.size, 0, none⟩ (.slice A0 Cs.length c0)).setCell ⟨wS.heap.size, 1, none⟩ (.slice A1 n1 c1)) g m ∧ Kept wS ((w.setCell ⟨wS.heap.size, 0, none⟩ (.slice A0 Cs.length c0)).setCell ⟨wS.heap.size, 1, none⟩ (.slice A1 n1 c1)) (fun j => j = g) ∧
    Kd.R (Kd.int .i64) 3 ((w.setCell ⟨wS.heap.size, 0, none⟩ (.slice A0 Cs.length c0)).setCell ⟨wS.heap.size, 1, none⟩ (.slice A1 n1 c1)) wS.heap.size (fun _ => True) (.slice A0 Cs.length c0) Cs ∧ Kd.R k50 50 ((w.setCell ⟨wS.heap.size, 0, none⟩ (.slice A0 Cs.length c0)).setCell ⟨wS.heap.size, 1, none⟩ (.slice A1 n1 c1)) wS.heap.size (fun _ => True) vL L := by
  have hg : wS.heap.size ≠ g := by have := h.g; omega
  have k0 := zu (zu h.r0 0 (.slice A0 Cs.length c0)) 1 (.slice A1 n1 c1)
  exact ⟨k0, (h.rd.set hg h.z 0 _).set hg h.z 1 _, (h.K.setCell (p := ⟨wS.heap.size, 0, none⟩) (.inr (Nat.le_refl _)) _).setCell (p := ⟨wS.heap.size, 1, none⟩) (.inr (Nat.le_refl _)) _, R_box h.P0 h.r0 (by decide) _ _, R_box h.RL h.r0 (by decide) _ _⟩
theorem Ran.log {w w1 : World} {Cs : List Int} {Bs : List (List zJ)} {n : Nat} {σ : St} {e : Ending} (h : Ran w Cs Bs n σ e w1) (hi : Inv Bs Cs.length σ) :
    ∃ X0 n0 d0 X1 n2 d1 clk AL cL L b, e = .returned (.tuple #[.agg #[.slice X0 n0 d0, .slice X1 n2 d1, .int .i64 clk, .slice AL (List.length L) cL], .bool b]) ∧ Below w.heap.size w w1 ∧ Kd.R k50 50 w1 w.heap.size (fun _ => True) (.slice AL (List.length L) cL) L ∧ ∃ σ', Inv Bs Cs.length σ' ∧ (L = [] ∨ L = σ'.L) := by
  obtain ⟨hb, h⟩ := h
  rcases h with ⟨_, rfl⟩ | ⟨_, BC, dC, BT, dT, BL, dL, σ', rfl, ⟨N, T, hV, hT⟩, hI, hn⟩
  · exact ⟨none, 0, 0, none, 0, 0, 0, none, 0, [], false, rfl, hb, Kd.R_nil _ _ _ _ _, σ, hi, .inl rfl⟩
  · exact ⟨BC, _, dC, BT, _, dT, σ'.clk, BL, dL, σ'.L, true, rfl, hb, Kd.zU hV.rL (fun _ _ => trivial), σ', hI, .inr rfl⟩
def DrawsLog (w0 w : World) (g : Nat) (m : Int) (e : Ending) (w' : World) : Prop := ∃ A0 c0 Cs A1 n1 c1 AL cL L, e = .returned (.tuple #[.agg #[.slice A0 (List.length Cs) c0, .slice A1 n1 c1], .slice AL (List.length L) cL]) ∧ (Rdr w0 w' g m ∧ Kept w w' (fun j => j = g) ∧ Kd.R (Kd.int .i64) 3 w' w.heap.size (fun _ => True) (.slice A0 (List.length Cs) c0) Cs ∧ Kd.R k50 50 w' w.heap.size (fun _ => True) (.slice AL (List.length L) cL) L) ∧ ∃ Bs σ, okF Cs Bs = true ∧ Inv Bs (List.length Cs) σ ∧ LogOf σ.L L
set_option maxHeartbeats 8000000 in
set_option maxRecDepth 100000 in
theorem log_draws {w0 w : World} {g : Nat} {m : Int} (h : Rdr w0 w g m) (hm : m ≤ 500000) : Calls Try.prog 66 #[.pointer (some ⟨g, 0, none⟩)] w (DrawsLog w0 w g (m + 6000)) := by
  have hus := Try.underlying27
  have hup := Try.underlying37
  obtain ⟨Post, hPost⟩ : ∃ P, P = DrawsLog w0 w g (m + 6000) := ⟨_, rfl⟩
  have HP := za.mk hPost
  rw [← hPost]
  have HG := za.mk (show g < w.heap.size by
    obtain ⟨A, c, b, p, h1, _⟩ := h
    exact zo h1)
  have HZ := za.mk h.hb.size
  obtain ⟨W, hW⟩ : ∃ W, W = w.alloc (.cells #[.slice none 0 0, .slice none 0 0] 37) := ⟨_, rfl⟩
  have HB := za.mk (show Below w.heap.size w W by rw [hW]; exact zc (Below.refl _ _) _)
  have HWS := za.mk (show W.heap.size = w.heap.size + 1 by rw [hW]; simp)
  have E0 := za.mk (show W.heap[w.heap.size]? = some (.cells #[.slice none 0 0, .slice none 0 0] 37 (0, 0)) by rw [hW]; exact heap_alloc_new _ _)
  have HR := za.mk (h.below HB.out)
  clear h hPost
  go_enter Try.func66, Try.ntmps66
  go_upto_region 1 with (fail)
  rw [← hW]
  clear hW
  go_upto_region 2 with (go_at_call 83; refine (sys_draws HR.out (by omega)).mono ?_; rintro e w1 ⟨A0, c0, Cs, A1, c1, Bs, AC, cC, AT, cT, AL, cL, σ, rfl, hd⟩; have HD1 := za.mk hd; unfold sysA; clear hd)
  obtain ⟨V, hV⟩ : ∃ V, V = (w1.alloc (.cells #[.slice A0 Cs.length c0, .slice A1 Bs.length c1] 37)).alloc (.cells #[.slice AC σ.C.length cC, .slice AT σ.T.length cT, .int .i64 σ.clk, .slice AL σ.L.length cL] 27) := ⟨_, rfl⟩
  have HBV := za.mk (show Below w1.heap.size w1 V by rw [hV]; exact zc (zc (Below.refl _ _) _) _)
  have EP := za.mk (show V.heap[w1.heap.size]? = some (.cells #[.slice A0 Cs.length c0, .slice A1 Bs.length c1] 37 (0, 0)) by rw [hV]; exact zl (heap_alloc_new _ _) _)
  have ES := za.mk (show V.heap[w1.heap.size + 1]? = some (.cells #[.slice AC σ.C.length cC, .slice AT σ.T.length cT, .int .i64 σ.clk, .slice AL σ.L.length cL] 27 (0, 0)) by rw [hV]; exact zT (by simp))
  have HDV := za.mk (HD1.out.below HBV.out)
  rw [← hV]
  obtain ⟨b4, hb4⟩ : ∃ b, b = w1.heap.size := ⟨_, rfl⟩
  have HB4 := za.mk hb4
  rw [← hb4] at EP ES ⊢
  clear hV hb4
  have p0 := (zd EP.out 0).trans rfl
  have p1 := (zd EP.out 1).trans rfl
  have s0 := (zd ES.out 0).trans rfl
  have s1 := (zd ES.out 1).trans rfl
  have s2 := (zd ES.out 2).trans rfl
  have s3 := (zd ES.out 3).trans rfl
  go_upto_region 3 with (go_at_call 96; refine ((rest_calls A0 c0 A1 c1 AC cC AT cT AL cL 1000 HDV.out.C0 HDV.out.C1 HDV.out.o.sees HDV.out.o.rows (fun _ => HDV.out.o.inv) (by decide)).mono (fun e w' h => h.log HDV.out.o.inv)).mono ?_; rintro e w2 ⟨X0, n0, d0, X1, n2, d1, clk, BL, dL, L, b, rfl, hb, hL, σ', hI, hK⟩; have HB2 := za.mk hb; have HL := za.mk hL; have HI := za.mk hI; have HK := za.mk hK; clear hb hL hI hK)
  obtain ⟨Z, hZ⟩ : ∃ Z, Z = w2.alloc (.cells #[.slice X0 n0 d0, .slice X1 n2 d1, .int .i64 clk, .slice BL L.length dL] 27) := ⟨_, rfl⟩
  have EX := za.mk (show Z.heap[w2.heap.size]? = some (.cells #[.slice X0 n0 d0, .slice X1 n2 d1, .int .i64 clk, .slice BL L.length dL] 27 (0, 0)) by rw [hZ]; exact heap_alloc_new _ _)
  have HD := za.mk (show Dl w0 w Z g (m + 5000) b4 A0 c0 Cs A1 Bs.length c1 (.slice BL L.length dL) L by
    have bz : Below V.heap.size V Z := by rw [hZ]; exact zc HB2.out _
    have d := HDV.out.below bz
    have s1 : w.heap.size + 1 ≤ w1.heap.size := by have h1 := HWS.out; have h2 := HD1.out.K.1; omega
    have s2 := HBV.out.size
    have e := HR.out.kept HD1.out.K E0.out (by decide)
    have b1 : Below w1.heap.size w1 Z := zj HBV.out bz
    exact ⟨d.rd, yu (Kept.of_below HB.out _) d.K, HZ.out, HG.out, by have := HB4.out; omega, (bz.block _ (zo EP.out)).trans EP.out, (b1.block _ (zo e)).trans e, Kd.zO d.P0 HB.out.size, by rw [hZ]; exact Kd.zO (Kd.zN HL.out (zc (Below.refl _ _) _)) (by omega)⟩)
  have HOK := za.mk (And.intro HDV.out.ok HI.out)
  rw [← hZ]
  clear hZ HR HB HWS E0 HD1 HBV EP ES HDV HB4 HB2 HL HI p0 p1 s0 s1 s2 s3
  have x3 := (zd EX.out 3).trans rfl
  go_upto_region 4 with (fail)
  clear x3 EX
  obtain ⟨nL, hnL⟩ : ∃ n, n = L.length := ⟨_, rfl⟩
  have HNL := za.mk hnL
  rw [← hnL] at HD ⊢
  clear hnL
  by_cases h1 : 1 < nL
  · have h1i : (1 : Int) < (nL : Int) := by omega
    go_upto_if 29 with (go_at_call 55; refine (zM _ HD.out.rd (by omega) (by omega)).mono ?_; rintro e w3 ⟨y, rfl, y0, y1, y2, hr, hk⟩; have n0 := za.mk (HD.out.pick hr hk); clear HD hr hk y0 y1 y2; have HD := n0; clear n0)
    · rename_i hy
      have H1 := za.mk h1
      obtain ⟨q, hq⟩ : ∃ q, q = nL - 1 := ⟨_, rfl⟩
      have HQ := za.mk hq
      obtain ⟨gL, cL', hv, xl, hfz⟩ := HD.out.at q (by have := HNL.out; omega)
      have EW := za.mk (show wrap64 ((nL : Int) - 1) = (q : Int) by unfold wrap64; have := HK.out; have hl := HNL.out; have hh : (nL : Int) ≤ 1000000000 := (by rcases HK.out with h | h <;> rw [h] at hl <;> first | (simp at hl; omega) | (have := HOK.out.2.len_le; omega)); omega)
      obtain ⟨hv1, hv3⟩ : BL = some ⟨gL, 0, none⟩ ∧ dL = cL' := by injection hv with a b c; exact ⟨a, c⟩
      obtain ⟨gg, cc, hw, xz, hfz2⟩ := HD.out.at 0 (by have := HNL.out; omega)
      have hgg : gg = gL := by
        rw [hv1] at hw
        injection hw with a b c
        injection a with a
        injection a with a
        exact a.symm
      subst hv1 hv3 hgg
      have HD2 := za.mk (HD.out.when (show 0 < nL by omega))
      have q0 : (0 : Int) ≤ (q : Int) := by omega
      have q1 : (q : Int) < (nL : Int) := by omega
      have n1 : 0 < nL := by omega
      have z0 := hfz 2
      have z2 : w3.cell? ⟨gg, 2, none⟩ = some (.int .i64 (L.getD 0 z50).f2) := by simpa using xz
      obtain ⟨x, hx⟩ : ∃ x, x = (L.getD q z50).f2 := ⟨_, rfl⟩
      obtain ⟨y2, hy2⟩ : ∃ x, x = (L.getD 0 z50).f2 := ⟨_, rfl⟩
      have HX := za.mk hx
      rw [← hx] at xl
      rw [← hy2] at z2
      have e1 := EW.out
      clear hfz hfz2 xz hv hw hq hx hy2 HD
      go_upto_region 6 with (fail)
      have HLO := za.mk (show LogOf σ'.L (L.set 0 { L.getD 0 z50 with f2 := wrap64 (x + 1) }) by
        have hl := HNL.out
        have hq := HQ.out
        rcases HK.out with h | h
        · rw [h] at hl; simp at hl; omega
        · have hm : L.getD q z50 ∈ σ'.L := by rw [← h]; exact xM (by omega)
          have hw := (HOK.out.2.ents _ hm).w
          have ew : wrap64 (x + 1) = x + 1 := by rw [HX.out]; unfold wrap64; omega
          rw [ew, HX.out, h]
          refine .inr (.inr ⟨by rw [← h]; omega, ?_⟩)
          rw [show σ'.L.length - 1 = q by rw [← h]; omega])
      have HD := za.mk (HD2.out (wrap64 (x + 1)))
      have HN2 := za.mk (show nL = (L.set 0 { L.getD 0 z50 with f2 := wrap64 (x + 1) }).length by rw [List.length_set]; exact HNL.out)
      obtain ⟨L2, hL2⟩ : ∃ l, l = L.set 0 { L.getD 0 z50 with f2 := wrap64 (x + 1) } := ⟨_, rfl⟩
      obtain ⟨w4, hw4⟩ : ∃ y, y = w3.setCell ⟨gg, 2, none⟩ (.int .i64 (wrap64 (x + 1))) := ⟨_, rfl⟩
      rw [← hL2] at HLO HD HN2
      rw [← hw4] at HD ⊢
      clear HNL hL2 hw4 HD2 xl z2 z0 q0 q1 n1 e1
      have HNL := HN2
      have q0 := HD.out.p0
      have q1 := HD.out.p1
      have r0 := (zd HD.out.r0 0).trans rfl
      have r1 := (zd HD.out.r0 1).trans rfl
      have f0 := zk HD.out.r0 0
      have f1 := zk HD.out.r0 1
      go_wp2
      have HF := za.mk HD.out.fin
      refine bodyPost_ret (yr rfl _ _ w.heap.size 37 #[.slice A0 Cs.length c0, .slice A1 Bs.length c1] (0, 0) _ rfl HF.out.1 hup rfl (by kernel_rfl)) rfl ?_
      rw [HP.out]
      have hz := HNL.out
      subst hz
      exact ⟨A0, c0, Cs, A1, Bs.length, c1, some ⟨gg, 0, none⟩, dL, L2, rfl, ⟨HF.out.2.1.mono (by omega), HF.out.2.2.1, HF.out.2.2.2.1, HF.out.2.2.2.2⟩, Bs, σ', HOK.out.1, HOK.out.2, HLO.out⟩
    · rename_i hy
      have HLO := za.mk (show LogOf σ'.L L from HK.out.imp id .inl)
      go_upto_region 6 with (fail)
      have q0 := HD.out.p0
      have q1 := HD.out.p1
      have r0 := (zd HD.out.r0 0).trans rfl
      have r1 := (zd HD.out.r0 1).trans rfl
      have f0 := zk HD.out.r0 0
      have f1 := zk HD.out.r0 1
      go_wp2
      have HF := za.mk HD.out.fin
      refine bodyPost_ret (yr rfl _ _ w.heap.size 37 #[.slice A0 Cs.length c0, .slice A1 Bs.length c1] (0, 0) _ rfl HF.out.1 hup rfl (by kernel_rfl)) rfl ?_
      rw [HP.out]
      have hz := HNL.out
      subst hz
      exact ⟨A0, c0, Cs, A1, Bs.length, c1, BL, dL, L, rfl, ⟨HF.out.2.1.mono (by omega), HF.out.2.2.1, HF.out.2.2.2.1, HF.out.2.2.2.2⟩, Bs, σ', HOK.out.1, HOK.out.2, HLO.out⟩
  · have h1i : ¬ (1 : Int) < (nL : Int) := by omega
    have HLO := za.mk (show LogOf σ'.L L from HK.out.imp id .inl)
    go_upto_region 6 with (go_at_call 55; refine (zM _ HD.out.rd (by omega) (by omega)).mono ?_; rintro e w3 ⟨y, rfl, y0, y1, y2, hr, hk⟩; have n0 := za.mk (HD.out.pick hr hk); clear HD hr hk y0 y1 y2; have HD := n0; clear n0)
    all_goals
      have q0 := HD.out.p0
      have q1 := HD.out.p1
      have r0 := (zd HD.out.r0 0).trans rfl
      have r1 := (zd HD.out.r0 1).trans rfl
      have f0 := zk HD.out.r0 0
      have f1 := zk HD.out.r0 1
      go_wp2
      have HF := za.mk HD.out.fin
      refine bodyPost_ret (yr rfl _ _ w.heap.size 37 #[.slice A0 Cs.length c0, .slice A1 Bs.length c1] (0, 0) _ rfl HF.out.1 hup rfl (by kernel_rfl)) rfl ?_
      rw [HP.out]
      have hz := HNL.out
      subst hz
      exact ⟨A0, c0, Cs, A1, Bs.length, c1, BL, dL, L, rfl, ⟨HF.out.2.1.mono (by omega), HF.out.2.2.1, HF.out.2.2.2.1, HF.out.2.2.2.2⟩, Bs, σ', HOK.out.1, HOK.out.2, HLO.out⟩
end Go.Proofs.Ytppapibjbjmmbaa.QSY
set_option linter.unusedVariables false
set_option linter.unusedSimpArgs false
namespace Go.Proofs.Ytppapibjbjmmbaa.QSY
open Go.RowKit Go.Proofs.YtppapibjbjmmbaaW.PrintWords Go.Proofs.YtppapibjbjmmbaaW.PrintLast Go.Proofs.YtppapibjbjmmbaaW.PrintMore
theorem open_calls {w : World} (A : Option Addr) (c : Nat) (b : List Int) (h : Kd.C (Kd.int .u8) w A b.length b) (hc : b.length ≤ c) (hb : ∀ x ∈ b, (0 : Int) ≤ x ∧ x ≤ 255) (hl : b.length ≤ 1000000000) :
    Calls Try.prog 54 #[.slice A b.length c] w fun e w' => ∃ g, e = .returned (.pointer (some ⟨g, 0, none⟩)) ∧ Rdr w w' g 0 := by
  have H := za.mk h
  have HB := za.mk hb
  obtain ⟨n, hn⟩ : ∃ n, n = b.length := ⟨_, rfl⟩
  have HN := za.mk hn
  rw [← hn] at hc hl ⊢
  obtain ⟨Post, hPost⟩ : ∃ P, P = (fun (e : Ending) (w' : World) => ∃ g, e = .returned (.pointer (some ⟨g, 0, none⟩)) ∧ Rdr w w' g 0) := ⟨_, rfl⟩
  have HP := za.mk hPost
  rw [← hPost]
  clear h hb hn hPost
  go_enter Try.func54, Try.ntmps54
  by_cases hg : (n : Int) > 2000
  · have h2 : 2000 ≤ c := by omega
    have h3 : 2000 < n := by omega
    go_wp2
    rw [HP.out]
    refine ⟨w.heap.size, rfl, A, c, b.take 2000, 0, ?_, zc (Below.refl _ _) _, Nat.le_refl _, Kd.C_take H.out (by have := HN.out; omega), by rw [List.length_take]; omega, fun x hx => HB.out x (List.mem_of_mem_take hx), Int.le_refl _, Int.le_refl _⟩
    have e : (b.take 2000).length = 2000 := by rw [List.length_take]; have := HN.out; omega
    rw [e]
    exact heap_alloc_new _ _
  · have h3 : ¬ 2000 < n := by omega
    go_wp2
    rw [HP.out]
    have e := HN.out
    subst e
    exact ⟨w.heap.size, rfl, A, c, b, 0, heap_alloc_new _ _, zc (Below.refl _ _) _, Nat.le_refl _, H.out, by omega, HB.out, Int.le_refl _, Int.le_refl _⟩
def LogDrawn (w : World) (e : Ending) (w' : World) : Prop := ∃ AL cL L, e = .returned (.slice AL (List.length L) cL) ∧ Below w.heap.size w w' ∧ Kd.R k50 50 w' w.heap.size (fun _ => True) (.slice AL (List.length L) cL) L ∧ ∃ Cs Bs σ, okF Cs Bs = true ∧ Inv Bs (List.length Cs) σ ∧ LogOf σ.L L
set_option maxHeartbeats 4000000 in
set_option maxRecDepth 100000 in
theorem draw_calls {w : World} (A : Option Addr) (c : Nat) (b : List Int) (h : Kd.C (Kd.int .u8) w A b.length b) (hc : b.length ≤ c) (hb : ∀ x ∈ b, (0 : Int) ≤ x ∧ x ≤ 255) (hl : b.length ≤ 1000000000) :
    Calls Try.prog 63 #[.slice A b.length c] w (LogDrawn w) := by
  have HO := za.mk (open_calls A c b h hc hb hl)
  obtain ⟨n, hn⟩ : ∃ n, n = b.length := ⟨_, rfl⟩
  rw [← hn] at HO ⊢
  obtain ⟨Post, hPost⟩ : ∃ P, P = LogDrawn w := ⟨_, rfl⟩
  have HP := za.mk hPost
  rw [← hPost]
  clear h hc hb hl hn hPost
  go_enter Try.func63, Try.ntmps63
  go_wp2_with (first
    | (go_at_call 54; refine HO.out.mono ?_; rintro e w1 ⟨g, rfl, hr⟩; have HR := za.mk hr; clear hr)
    | (go_at_call 66; refine (log_draws HR.out (by decide)).mono ?_; rintro e w2 ⟨A0, c0, Cs, A1, n1, c1, AL, cL, L, rfl, hd, hs⟩; have HD := za.mk hd; have HS := za.mk hs; clear hd hs))
  rw [HP.out]
  obtain ⟨Bs, σ, hs⟩ := HS.out
  have hb : Below w.heap.size w w2 := HD.out.1.hb
  exact ⟨AL, cL, L, rfl, zc hb _, Kd.zO (Kd.zN HD.out.2.2.2 (zc (Below.refl _ _) _)) HR.out.hb.size, Cs, Bs, σ, hs⟩
theorem drawReal_calls {w : World} (A : Option Addr) (c : Nat) (b : List Int) (h : Kd.C (Kd.int .u8) w A b.length b) (hc : b.length ≤ c) (hb : ∀ x ∈ b, (0 : Int) ≤ x ∧ x ≤ 255) (hl : b.length ≤ 1000000000) :
    Calls Try.prog 24 #[.slice A b.length c] w (LogDrawn w) := by
  have HO := za.mk (draw_calls A c b h hc hb hl)
  obtain ⟨n, hn⟩ : ∃ n, n = b.length := ⟨_, rfl⟩
  rw [← hn] at HO ⊢
  obtain ⟨Post, hPost⟩ : ∃ P, P = LogDrawn w := ⟨_, rfl⟩
  have HP := za.mk hPost
  rw [← hPost]
  clear h hc hb hl hn hPost
  go_enter Try.func24, Try.ntmps24
  go_wp2_with (go_at_call 63; refine HO.out.mono ?_; rintro e w1 ⟨AL, cL, L, rfl, hb, hr, hs⟩; have HR := za.mk (And.intro hb hr); have HS := za.mk hs; clear hb hr hs)
  rw [HP.out]
  exact ⟨AL, cL, L, rfl, HR.out.1, HR.out.2, HS.out⟩
end Go.Proofs.Ytppapibjbjmmbaa.QSY
set_option linter.unusedVariables false
set_option linter.unusedSimpArgs false
namespace Go.Proofs.Ytppapibjbjmmbaa.QSY
open Go.RowKit Go.Proofs.YtppapibjbjmmbaaW.PrintWords Go.Proofs.YtppapibjbjmmbaaW.PrintLast Go.Proofs.YtppapibjbjmmbaaW.PrintMore
def aheadF (a b : S50) : Bool := decide (a.f2 < b.f2) || (decide (a.f2 = b.f2) && (decide (0 < a.f4.length) && decide (b.f4.length = 0)))
def ecs (e : S50) (A3 : Option Addr) (c3 : Nat) (A4 : Option Addr) (c4 : Nat) : Array Value := #[.int .i64 e.f0, .int .i64 e.f1, .int .i64 e.f2, .slice A3 e.f3.length c3, .slice A4 e.f4.length c4, .int .i64 e.f5]
set_option maxHeartbeats 4000000 in
set_option maxRecDepth 100000 in
theorem stands_calls (a b : S50) (A3 : Option Addr) (c3 : Nat) (A4 : Option Addr) (c4 : Nat) (B3 : Option Addr) (d3 : Nat) (B4 : Option Addr) (d4 : Nat) (r : Bool) (w : World) (h : aheadF a b = r) :
    Calls Try.prog 64 #[.agg (ecs a A3 c3 A4 c4), .agg (ecs b B3 d3 B4 d4)] w fun e w' => e = .returned (.bool r) ∧ Below w.heap.size w w' := by
  have HH := za.mk h
  obtain ⟨Post, hPost⟩ : ∃ P, P = fun (e : Ending) (w' : World) => e = .returned (.bool r) ∧ Below w.heap.size w w' := ⟨_, rfl⟩
  have HP := za.mk (show ∀ e w', Post e w' ↔ (e = .returned (.bool r) ∧ Below w.heap.size w w') from fun _ _ => by rw [hPost])
  rw [← hPost]
  clear h hPost
  unfold ecs
  obtain ⟨n3, hn3⟩ : ∃ n, n = a.f3.length := ⟨_, rfl⟩
  obtain ⟨n4, hn4⟩ : ∃ n, n = a.f4.length := ⟨_, rfl⟩
  obtain ⟨m3, hm3⟩ : ∃ n, n = b.f3.length := ⟨_, rfl⟩
  obtain ⟨m4, hm4⟩ : ∃ n, n = b.f4.length := ⟨_, rfl⟩
  obtain ⟨x, hx⟩ : ∃ x, x = a.f2 := ⟨_, rfl⟩
  obtain ⟨y, hy⟩ : ∃ x, x = b.f2 := ⟨_, rfl⟩
  have HR := za.mk (show r = (decide (x < y) || (decide (x = y) && (decide (0 < n4) && decide (m4 = 0)))) by rw [← HH.out, hx, hy, hn4, hm4]; rfl)
  rw [← hn3, ← hn4, ← hm3, ← hm4, ← hx, ← hy]
  clear hn3 hn4 hm3 hm4 hx hy HH
  obtain ⟨W, hW⟩ : ∃ W, W = (w.alloc (.cells #[.int .i64 a.f0, .int .i64 a.f1, .int .i64 x, .slice A3 n3 c3, .slice A4 n4 c4, .int .i64 a.f5] 50)).alloc (.cells #[.int .i64 b.f0, .int .i64 b.f1, .int .i64 y, .slice B3 m3 d3, .slice B4 m4 d4, .int .i64 b.f5] 50) := ⟨_, rfl⟩
  have HB := za.mk (show Below w.heap.size w W by rw [hW]; exact zc (zc (Below.refl _ _) _) _)
  have E0 := za.mk (show W.heap[w.heap.size]? = some (.cells #[.int .i64 a.f0, .int .i64 a.f1, .int .i64 x, .slice A3 n3 c3, .slice A4 n4 c4, .int .i64 a.f5] 50 (0, 0)) by rw [hW]; exact zl (heap_alloc_new _ _) _)
  have E1 := za.mk (show W.heap[w.heap.size + 1]? = some (.cells #[.int .i64 b.f0, .int .i64 b.f1, .int .i64 y, .slice B3 m3 d3, .slice B4 m4 d4, .int .i64 b.f5] 50 (0, 0)) by rw [hW]; exact zT (by simp))
  go_enter Try.func64, Try.ntmps64
  go_upto_region 1 with (fail)
  rw [← hW]
  clear hW
  have x2 := (zd E0.out 2).trans rfl
  have x4 := (zd E0.out 4).trans rfl
  have y2 := (zd E1.out 2).trans rfl
  have y4 := (zd E1.out 4).trans rfl
  by_cases q1 : x < y
  · have q2 : ¬ x = y := by omega
    go_wp2
    all_goals
      (try refine bodyPost_ret (results_tmp rfl _ _ _) rfl ?_)
      rw [HP.out]
      exact ⟨by rw [HR.out]; simp [q1], HB.out⟩
  · by_cases q2 : x = y
    · by_cases q3 : 0 < n4
      · by_cases q4 : m4 = 0
        all_goals
          go_wp2
          (try refine bodyPost_ret (results_tmp rfl _ _ _) rfl ?_)
          rw [HP.out]
          exact ⟨by rw [HR.out]; simp [q1, q2, q3, q4], HB.out⟩
      · go_wp2
        (try refine bodyPost_ret (results_tmp rfl _ _ _) rfl ?_)
        rw [HP.out]
        exact ⟨by rw [HR.out]; simp [q1, q2, q3], HB.out⟩
    · go_wp2
      (try refine bodyPost_ret (results_tmp rfl _ _ _) rfl ?_)
      rw [HP.out]
      exact ⟨by rw [HR.out]; simp [q1, q2], HB.out⟩
set_option maxHeartbeats 4000000 in
set_option maxRecDepth 100000 in
theorem l13ahead_calls (a b : S50) (A3 : Option Addr) (c3 : Nat) (A4 : Option Addr) (c4 : Nat) (B3 : Option Addr) (d3 : Nat) (B4 : Option Addr) (d4 : Nat) (r : Bool) (w : World) (h : aheadF a b = r) :
    Calls Try.prog 65 #[.agg (ecs a A3 c3 A4 c4), .agg (ecs b B3 d3 B4 d4)] w fun e w' => e = .returned (.bool r) ∧ Below w.heap.size w w' := by
  have HH := za.mk h
  obtain ⟨Post, hPost⟩ : ∃ P, P = fun (e : Ending) (w' : World) => e = .returned (.bool r) ∧ Below w.heap.size w w' := ⟨_, rfl⟩
  have HP := za.mk (show ∀ e w', Post e w' ↔ (e = .returned (.bool r) ∧ Below w.heap.size w w') from fun _ _ => by rw [hPost])
  rw [← hPost]
  clear h hPost
  unfold ecs
  obtain ⟨n3, hn3⟩ : ∃ n, n = a.f3.length := ⟨_, rfl⟩
  obtain ⟨n4, hn4⟩ : ∃ n, n = a.f4.length := ⟨_, rfl⟩
  obtain ⟨m3, hm3⟩ : ∃ n, n = b.f3.length := ⟨_, rfl⟩
  obtain ⟨m4, hm4⟩ : ∃ n, n = b.f4.length := ⟨_, rfl⟩
  obtain ⟨x, hx⟩ : ∃ x, x = a.f2 := ⟨_, rfl⟩
  obtain ⟨y, hy⟩ : ∃ x, x = b.f2 := ⟨_, rfl⟩
  have HR := za.mk (show r = (decide (x < y) || (decide (x = y) && (decide (0 < n4) && decide (m4 = 0)))) by rw [← HH.out, hx, hy, hn4, hm4]; rfl)
  rw [← hn3, ← hn4, ← hm3, ← hm4, ← hx, ← hy]
  clear hn3 hn4 hm3 hm4 hx hy HH
  obtain ⟨W, hW⟩ : ∃ W, W = (w.alloc (.cells #[.int .i64 a.f0, .int .i64 a.f1, .int .i64 x, .slice A3 n3 c3, .slice A4 n4 c4, .int .i64 a.f5] 50)).alloc (.cells #[.int .i64 b.f0, .int .i64 b.f1, .int .i64 y, .slice B3 m3 d3, .slice B4 m4 d4, .int .i64 b.f5] 50) := ⟨_, rfl⟩
  have HB := za.mk (show Below w.heap.size w W by rw [hW]; exact zc (zc (Below.refl _ _) _) _)
  have E0 := za.mk (show W.heap[w.heap.size]? = some (.cells #[.int .i64 a.f0, .int .i64 a.f1, .int .i64 x, .slice A3 n3 c3, .slice A4 n4 c4, .int .i64 a.f5] 50 (0, 0)) by rw [hW]; exact zl (heap_alloc_new _ _) _)
  have E1 := za.mk (show W.heap[w.heap.size + 1]? = some (.cells #[.int .i64 b.f0, .int .i64 b.f1, .int .i64 y, .slice B3 m3 d3, .slice B4 m4 d4, .int .i64 b.f5] 50 (0, 0)) by rw [hW]; exact zT (by simp))
  go_enter Try.func65, Try.ntmps65
  go_upto_region 1 with (fail)
  rw [← hW]
  clear hW
  have x2 := (zd E0.out 2).trans rfl
  have x4 := (zd E0.out 4).trans rfl
  have y2 := (zd E1.out 2).trans rfl
  have y4 := (zd E1.out 4).trans rfl
  by_cases q1 : x < y
  · have q2 : ¬ x = y := by omega
    go_wp2
    all_goals
      (try refine bodyPost_ret (results_tmp rfl _ _ _) rfl ?_)
      rw [HP.out]
      exact ⟨by rw [HR.out]; simp [q1], HB.out⟩
  · by_cases q2 : x = y
    · by_cases q3 : 0 < n4
      · by_cases q4 : m4 = 0
        all_goals
          go_wp2
          (try refine bodyPost_ret (results_tmp rfl _ _ _) rfl ?_)
          rw [HP.out]
          exact ⟨by rw [HR.out]; simp [q1, q2, q3, q4], HB.out⟩
      · go_wp2
        (try refine bodyPost_ret (results_tmp rfl _ _ _) rfl ?_)
        rw [HP.out]
        exact ⟨by rw [HR.out]; simp [q1, q2, q3], HB.out⟩
    · go_wp2
      (try refine bodyPost_ret (results_tmp rfl _ _ _) rfl ?_)
      rw [HP.out]
      exact ⟨by rw [HR.out]; simp [q1, q2], HB.out⟩
set_option maxHeartbeats 4000000 in
set_option maxRecDepth 100000 in
theorem lqahead_calls (a b : S50) (A3 : Option Addr) (c3 : Nat) (A4 : Option Addr) (c4 : Nat) (B3 : Option Addr) (d3 : Nat) (B4 : Option Addr) (d4 : Nat) (r : Bool) (w : World) (h : aheadF a b = r) :
    Calls Try.prog 26 #[.agg (ecs a A3 c3 A4 c4), .agg (ecs b B3 d3 B4 d4)] w fun e w' => e = .returned (.bool r) ∧ Below w.heap.size w w' := by
  have HH := za.mk h
  obtain ⟨Post, hPost⟩ : ∃ P, P = fun (e : Ending) (w' : World) => e = .returned (.bool r) ∧ Below w.heap.size w w' := ⟨_, rfl⟩
  have HP := za.mk (show ∀ e w', Post e w' ↔ (e = .returned (.bool r) ∧ Below w.heap.size w w') from fun _ _ => by rw [hPost])
  rw [← hPost]
  clear h hPost
  unfold ecs
  obtain ⟨n3, hn3⟩ : ∃ n, n = a.f3.length := ⟨_, rfl⟩
  obtain ⟨n4, hn4⟩ : ∃ n, n = a.f4.length := ⟨_, rfl⟩
  obtain ⟨m3, hm3⟩ : ∃ n, n = b.f3.length := ⟨_, rfl⟩
  obtain ⟨m4, hm4⟩ : ∃ n, n = b.f4.length := ⟨_, rfl⟩
  obtain ⟨x, hx⟩ : ∃ x, x = a.f2 := ⟨_, rfl⟩
  obtain ⟨y, hy⟩ : ∃ x, x = b.f2 := ⟨_, rfl⟩
  have HR := za.mk (show r = (decide (x < y) || (decide (x = y) && (decide (0 < n4) && decide (m4 = 0)))) by rw [← HH.out, hx, hy, hn4, hm4]; rfl)
  rw [← hn3, ← hn4, ← hm3, ← hm4, ← hx, ← hy]
  clear hn3 hn4 hm3 hm4 hx hy HH
  obtain ⟨W, hW⟩ : ∃ W, W = (w.alloc (.cells #[.int .i64 a.f0, .int .i64 a.f1, .int .i64 x, .slice A3 n3 c3, .slice A4 n4 c4, .int .i64 a.f5] 50)).alloc (.cells #[.int .i64 b.f0, .int .i64 b.f1, .int .i64 y, .slice B3 m3 d3, .slice B4 m4 d4, .int .i64 b.f5] 50) := ⟨_, rfl⟩
  have HB := za.mk (show Below w.heap.size w W by rw [hW]; exact zc (zc (Below.refl _ _) _) _)
  have E0 := za.mk (show W.heap[w.heap.size]? = some (.cells #[.int .i64 a.f0, .int .i64 a.f1, .int .i64 x, .slice A3 n3 c3, .slice A4 n4 c4, .int .i64 a.f5] 50 (0, 0)) by rw [hW]; exact zl (heap_alloc_new _ _) _)
  have E1 := za.mk (show W.heap[w.heap.size + 1]? = some (.cells #[.int .i64 b.f0, .int .i64 b.f1, .int .i64 y, .slice B3 m3 d3, .slice B4 m4 d4, .int .i64 b.f5] 50 (0, 0)) by rw [hW]; exact zT (by simp))
  go_enter Try.func26, Try.ntmps26
  go_upto_region 1 with (fail)
  rw [← hW]
  clear hW
  have x2 := (zd E0.out 2).trans rfl
  have x4 := (zd E0.out 4).trans rfl
  have y2 := (zd E1.out 2).trans rfl
  have y4 := (zd E1.out 4).trans rfl
  by_cases q1 : x < y
  · have q2 : ¬ x = y := by omega
    go_wp2
    all_goals
      (try refine bodyPost_ret (results_tmp rfl _ _ _) rfl ?_)
      rw [HP.out]
      exact ⟨by rw [HR.out]; simp [q1], HB.out⟩
  · by_cases q2 : x = y
    · by_cases q3 : 0 < n4
      · by_cases q4 : m4 = 0
        all_goals
          go_wp2
          (try refine bodyPost_ret (results_tmp rfl _ _ _) rfl ?_)
          rw [HP.out]
          exact ⟨by rw [HR.out]; simp [q1, q2, q3, q4], HB.out⟩
      · go_wp2
        (try refine bodyPost_ret (results_tmp rfl _ _ _) rfl ?_)
        rw [HP.out]
        exact ⟨by rw [HR.out]; simp [q1, q2, q3], HB.out⟩
    · go_wp2
      (try refine bodyPost_ret (results_tmp rfl _ _ _) rfl ?_)
      rw [HP.out]
      exact ⟨by rw [HR.out]; simp [q1, q2], HB.out⟩
end Go.Proofs.Ytppapibjbjmmbaa.QSY
set_option linter.unusedVariables false
set_option linter.unusedSimpArgs false
namespace Go.Proofs.Ytppapibjbjmmbaa.QSY
open Go.RowKit Go.Proofs.YtppapibjbjmmbaaW.PrintWords Go.Proofs.YtppapibjbjmmbaaW.PrintLast Go.Proofs.YtppapibjbjmmbaaW.PrintMore
def pairF (L : List S50) (i k : Nat) : Bool := decide ((k : Int) < (yj L (i : Int)).f5) && aheadF (yj L (i : Int)) (yj L (k : Int))
def rowRF (L : List S50) (i : Nat) : Bool := (List.range i).all (fun k => !pairF L i k)
def realF (L : List S50) : Bool := (List.range L.length).all (rowRF L)
theorem yJ {n : Nat} {p : Nat → Bool} : (List.range (n + 1)).all p = ((List.range n).all p && p n) := by rw [List.range_succ, List.all_append]; simp
theorem row_stop {L : List S50} {i k : Nat} (hk : k ≤ i) (h : ¬ ((k : Int) < (yj L (i : Int)).f5)) : rowRF L i = (List.range k).all (fun k => !pairF L i k) := by
  unfold rowRF
  rw [Bool.eq_iff_iff, List.all_eq_true, List.all_eq_true]
  refine ⟨fun H x hx => H x (List.mem_range.2 (by have := List.mem_range.1 hx; omega)), fun H x hx => ?_⟩
  by_cases c : x < k
  · exact H x (List.mem_range.2 c)
  · unfold pairF
    rw [decide_eq_false (show ¬ ((x : Int) < (yj L (i : Int)).f5) by omega)]; rfl
set_option maxHeartbeats 8000000 in
set_option maxRecDepth 100000 in
theorem xL (A : Option Addr) (c : Nat) (L : List S50) (r : Bool) (w : World) (hL : Kd.C k50 w A L.length L) (hr : realF L = r) :
    Calls Try.prog 25 #[.slice A L.length c] w fun e w' => e = .returned (.bool r) ∧ Below w.heap.size w w' := by
  have HL := za.mk hL
  have HR := za.mk hr
  have HM := za.mk hL.2.1
  have hue := Try.underlying50
  obtain ⟨n, hn⟩ : ∃ n, n = L.length := ⟨_, rfl⟩
  have HN := za.mk hn
  rw [← hn] at HM ⊢
  obtain ⟨Post, hPost⟩ : ∃ P, P = fun (e : Ending) (w' : World) => e = .returned (.bool r) ∧ Below w.heap.size w w' := ⟨_, rfl⟩
  have HP := za.mk (show ∀ e w', Post e w' ↔ (e = .returned (.bool r) ∧ Below w.heap.size w w') from fun _ _ => by rw [hPost])
  rw [← hPost]
  clear hL hr hn hPost
  go_enter Try.func25, Try.ntmps25
  go_wp2
  go_loopw [8] (fun v8 wr => ∃ (V : World) (i : Nat), V = wr ∧ v8 = .int .i64 i ∧ za (i ≤ n ∧ (List.range i).all (rowRF L) = true) ∧ za (Below w.heap.size w V)) (fun v8 _ => n - (intOf v8).toNat)
  case atStart => exact ⟨w, 0, rfl, rfl, ⟨Nat.zero_le _, rfl⟩, ⟨Below.refl _ _⟩⟩
  case round =>
    obtain ⟨V, i, hV, rfl, hi, HB⟩ := hrel
    rw [← hV]
    clear hV
    by_cases hlt : (i : Int) < (n : Int)
    · have HLI := za.mk (show i < n by omega)
      have ei := yq (i := i) (n := n) (by omega) HM.out
      have i0 : (0 : Int) ≤ (i : Int) := by omega
      obtain ⟨ad, A3, c3, A4, c4, rfl, z0, z1, z2, z3, z4, z5, -, -, -, -⟩ := at_T50 HL.out (i : Int) i0 (show (i : Int) < (L.length : Int) by have := HLI.out; have := HN.out; omega)
      rw [Int.toNat_natCast] at z0 z1 z2 z3 z4 z5
      obtain ⟨x, hx⟩ : ∃ x, x = yj L (i : Int) := ⟨_, rfl⟩
      have HX := za.mk hx
      rw [← hx] at z0 z1 z2 z3 z4 z5
      have HZ := za.mk (show w.cell? (ad.add (i * 6)) = some (.int .i64 x.f0) ∧ w.cell? ⟨(ad.add (i * 6)).block, (ad.add (i * 6)).off + 1, none⟩ = some (.int .i64 x.f1) ∧ w.cell? ⟨(ad.add (i * 6)).block, (ad.add (i * 6)).off + 2, none⟩ = some (.int .i64 x.f2) ∧ w.cell? ⟨(ad.add (i * 6)).block, (ad.add (i * 6)).off + 3, none⟩ = some (.slice A3 x.f3.length c3) ∧ w.cell? ⟨(ad.add (i * 6)).block, (ad.add (i * 6)).off + 4, none⟩ = some (.slice A4 x.f4.length c4) ∧ w.cell? ⟨(ad.add (i * 6)).block, (ad.add (i * 6)).off + 5, none⟩ = some (.int .i64 x.f5) from ⟨z0, z1, z2, z3, z4, z5⟩)
      clear hx z0 z1 z2 z3 z4 z5
      obtain ⟨z0, z1, z2, z3, z4, z5⟩ := HZ.out
      have z0 := zb HB.out z0
      have z1 := zb HB.out z1
      have z2 := zb HB.out z2
      have z3 := zb HB.out z3
      have z4 := zb HB.out z4
      have z5 := zb HB.out z5
      go_upto_region 4 with (fail)
      obtain ⟨X, hX⟩ : ∃ X, X = V.alloc (.cells #[.int .i64 x.f0, .int .i64 x.f1, .int .i64 x.f2, .slice A3 x.f3.length c3, .slice A4 x.f4.length c4, .int .i64 x.f5] 50) := ⟨_, rfl⟩
      have HBX := za.mk (show Below w.heap.size w X by rw [hX]; exact zc HB.out _)
      have EX := za.mk (show X.heap[V.heap.size]? = some (.cells #[.int .i64 x.f0, .int .i64 x.f1, .int .i64 x.f2, .slice A3 x.f3.length c3, .slice A4 x.f4.length c4, .int .i64 x.f5] 50 (0, 0)) by rw [hX]; exact heap_alloc_new _ _)
      rw [← hX]
      obtain ⟨b4, hb4⟩ : ∃ b, b = V.heap.size := ⟨_, rfl⟩
      rw [← hb4] at EX ⊢
      clear hX hb4 z0 z1 z2 z3 z4 z5 HB
      go_wp2
      go_loopw [5] (fun v5 wr => ∃ (V : World) (k : Nat), V = wr ∧ v5 = .int .i64 k ∧ za (k ≤ i ∧ (List.range k).all (fun k => !pairF L i k) = true) ∧ za (Below X.heap.size X V)) (fun v5 _ => i - (intOf v5).toNat)
      case atStart => exact ⟨X, 0, rfl, rfl, ⟨Nat.zero_le _, rfl⟩, ⟨Below.refl _ _⟩⟩
      case round =>
        obtain ⟨V, k, hV, rfl, hk, HB⟩ := hrel
        rw [← hV]
        clear hV
        have HW := za.mk (zj HBX.out HB.out)
        have HE := za.mk ((HB.out.block _ (zo EX.out)).trans EX.out)
        have x5 : V.cell? ⟨b4, 5, none⟩ = some (.int .i64 x.f5) := (zd HE.out 5).trans rfl
        by_cases hc : (k : Int) < (i : Int) ∧ (k : Int) < x.f5
        · obtain ⟨hc1, hc2⟩ := hc
          have HC := za.mk (And.intro hc1 hc2)
          have ek : wrap64 ((k : Int) + 1) = ((k + 1 : Nat) : Int) := yq (i := k) (n := n) (by have := HLI.out; omega) HM.out
          have k0 : (0 : Int) ≤ (k : Int) := by omega
          have kn : (k : Int) < (n : Int) := by omega
          have hc3 : k < i := by omega
          obtain ⟨ad2, B3, d3, B4, d4, hae, y0, y1, y2, y3, y4, y5, -, -, -, -⟩ := at_T50 HL.out (k : Int) k0 (show (k : Int) < (L.length : Int) by have := HLI.out; have := HN.out; omega)
          injection hae with hae
          subst hae
          rw [Int.toNat_natCast] at y0 y1 y2 y3 y4 y5
          obtain ⟨y, hy⟩ : ∃ y, y = yj L (k : Int) := ⟨_, rfl⟩
          have HY := za.mk hy
          rw [← hy] at y0 y1 y2 y3 y4 y5
          have HS := za.mk (show ∀ w', Below V.heap.size V w' → w'.cell? ⟨b4, 0, none⟩ = some (.int .i64 x.f0) ∧ w'.cell? ⟨b4, 1, none⟩ = some (.int .i64 x.f1) ∧ w'.cell? ⟨b4, 2, none⟩ = some (.int .i64 x.f2) ∧ w'.cell? ⟨b4, 3, none⟩ = some (.slice A3 x.f3.length c3) ∧ w'.cell? ⟨b4, 4, none⟩ = some (.slice A4 x.f4.length c4) ∧ w'.cell? ⟨b4, 5, none⟩ = some (.int .i64 x.f5) ∧ w'.cell? (ad.add (k * 6)) = some (.int .i64 y.f0) ∧ w'.cell? ⟨(ad.add (k * 6)).block, (ad.add (k * 6)).off + 1, none⟩ = some (.int .i64 y.f1) ∧ w'.cell? ⟨(ad.add (k * 6)).block, (ad.add (k * 6)).off + 2, none⟩ = some (.int .i64 y.f2) ∧ w'.cell? ⟨(ad.add (k * 6)).block, (ad.add (k * 6)).off + 3, none⟩ = some (.slice B3 y.f3.length d3) ∧ w'.cell? ⟨(ad.add (k * 6)).block, (ad.add (k * 6)).off + 4, none⟩ = some (.slice B4 y.f4.length d4) ∧ w'.cell? ⟨(ad.add (k * 6)).block, (ad.add (k * 6)).off + 5, none⟩ = some (.int .i64 y.f5) from fun w' hb => ⟨(show _ from (zd ((hb.block _ (zo HE.out)).trans HE.out) 0).trans rfl), (show _ from (zd ((hb.block _ (zo HE.out)).trans HE.out) 1).trans rfl), (show _ from (zd ((hb.block _ (zo HE.out)).trans HE.out) 2).trans rfl), (show _ from (zd ((hb.block _ (zo HE.out)).trans HE.out) 3).trans rfl), (show _ from (zd ((hb.block _ (zo HE.out)).trans HE.out) 4).trans rfl), (show _ from (zd ((hb.block _ (zo HE.out)).trans HE.out) 5).trans rfl), zb (HW.out.trans (zq hb HW.out.size)) y0, zb (HW.out.trans (zq hb HW.out.size)) y1, zb (HW.out.trans (zq hb HW.out.size)) y2, zb (HW.out.trans (zq hb HW.out.size)) y3, zb (HW.out.trans (zq hb HW.out.size)) y4, zb (HW.out.trans (zq hb HW.out.size)) y5⟩)
          obtain ⟨q, hq⟩ : ∃ q, aheadF x y = q := ⟨_, rfl⟩
          have HQ := za.mk hq
          clear hy hq y0 y1 y2 y3 y4 y5
          go_upto_region 7 with (fail)
          clear x5
          go_region_held3 (fun w' => w'.cell? ⟨b4, 0, none⟩ = some (.int .i64 x.f0) ∧ w'.cell? ⟨b4, 1, none⟩ = some (.int .i64 x.f1) ∧ w'.cell? ⟨b4, 2, none⟩ = some (.int .i64 x.f2) ∧ w'.cell? ⟨b4, 3, none⟩ = some (.slice A3 x.f3.length c3) ∧ w'.cell? ⟨b4, 4, none⟩ = some (.slice A4 x.f4.length c4) ∧ w'.cell? ⟨b4, 5, none⟩ = some (.int .i64 x.f5) ∧ w'.cell? (ad.add (k * 6)) = some (.int .i64 y.f0) ∧ w'.cell? ⟨(ad.add (k * 6)).block, (ad.add (k * 6)).off + 1, none⟩ = some (.int .i64 y.f1) ∧ w'.cell? ⟨(ad.add (k * 6)).block, (ad.add (k * 6)).off + 2, none⟩ = some (.int .i64 y.f2) ∧ w'.cell? ⟨(ad.add (k * 6)).block, (ad.add (k * 6)).off + 3, none⟩ = some (.slice B3 y.f3.length d3) ∧ w'.cell? ⟨(ad.add (k * 6)).block, (ad.add (k * 6)).off + 4, none⟩ = some (.slice B4 y.f4.length d4) ∧ w'.cell? ⟨(ad.add (k * 6)).block, (ad.add (k * 6)).off + 5, none⟩ = some (.int .i64 y.f5)) (first | exact HS.out _ (ze (Below.refl _ _)) | exact HS.out _ (zj (ze (Below.refl _ _)) (by assumption))) (first | (go_at_call 64; refine (stands_calls x y A3 c3 A4 c4 B3 d3 B4 d4 q _ HQ.out).mono ?_; rintro e wz ⟨rfl, hb⟩))
          have HBZ := za.mk (zj HB.out (zj (ze (Below.refl _ _)) hb))
          clear hb
          cases q
          · skip
            go_wp2
            go_roundw
            case rel => exact ⟨_, k + 1, rfl, by first | rw [ek] | rfl | simp, ⟨by have := HC.out; omega, by rw [yJ, hk.out.2]; unfold pairF; rw [← HX.out, ← HY.out, HQ.out]; simp⟩, HBZ⟩
            case measure => (try rw [ek]); have := HC.out; simp [intOf]; omega
          · skip
            go_wp2
            (try refine bodyPost_ret (results_tmp rfl _ _ _) rfl ?_)
            rw [HP.out]
            refine ⟨?_, zj HBX.out HBZ.out⟩
            rw [← HR.out, show realF L = false from xc (by rw [← HN.out]; exact HLI.out) (xc (show k < i by have := HC.out; omega) (by unfold pairF; rw [← HX.out, ← HY.out, HQ.out, decide_eq_true HC.out.2]; rfl))]
            rfl
        · have HRO := za.mk (show rowRF L i = true by
            by_cases c1 : (k : Int) < x.f5
            · have e : k = i := by have := hk.out.1; omega
              have h := hk.out.2
              rw [e] at h
              exact h
            · rw [row_stop hk.out.1 (by rw [← HX.out]; exact c1)]; exact hk.out.2)
          by_cases hc1 : (k : Int) < (i : Int)
          · have hc2 : ¬ (k : Int) < x.f5 := fun h => hc ⟨hc1, h⟩
            have hc3 : k < i := by omega
            clear hc
            go_wp2
            go_roundw
            case rel => exact ⟨_, i + 1, rfl, by first | rw [ei] | rfl | simp, ⟨HLI.out, by rw [yJ, hi.out.2, HRO.out]; rfl⟩, HW⟩
            case measure => (try rw [ei]); have := HLI.out; simp [intOf]; omega
          · have hc3 : ¬ k < i := by omega
            clear hc
            go_wp2
            go_roundw
            case rel => exact ⟨_, i + 1, rfl, by first | rw [ei] | rfl | simp, ⟨HLI.out, by rw [yJ, hi.out.2, HRO.out]; rfl⟩, HW⟩
            case measure => (try rw [ei]); have := HLI.out; simp [intOf]; omega
    · have HRE := za.mk (show r = true by
        rw [← HR.out]
        unfold realF
        have e : i = L.length := by have := hi.out.1; have := HN.out; omega
        rw [← e]
        exact hi.out.2)
      go_wp2
      (try refine bodyPost_ret (results_tmp rfl _ _ _) rfl ?_)
      rw [HP.out]
      exact ⟨by rw [HRE.out], HB.out⟩
set_option maxHeartbeats 8000000 in
set_option maxRecDepth 100000 in
theorem specReal_calls (A : Option Addr) (c : Nat) (L : List S50) (r : Bool) (w : World) (hL : Kd.C k50 w A L.length L) (hr : realF L = r) :
    Calls Try.prog 27 #[.slice A L.length c] w fun e w' => e = .returned (.bool r) ∧ Below w.heap.size w w' := by
  have HL := za.mk hL
  have HR := za.mk hr
  have HM := za.mk hL.2.1
  have hue := Try.underlying50
  obtain ⟨n, hn⟩ : ∃ n, n = L.length := ⟨_, rfl⟩
  have HN := za.mk hn
  rw [← hn] at HM ⊢
  obtain ⟨Post, hPost⟩ : ∃ P, P = fun (e : Ending) (w' : World) => e = .returned (.bool r) ∧ Below w.heap.size w w' := ⟨_, rfl⟩
  have HP := za.mk (show ∀ e w', Post e w' ↔ (e = .returned (.bool r) ∧ Below w.heap.size w w') from fun _ _ => by rw [hPost])
  rw [← hPost]
  clear hL hr hn hPost
  go_enter Try.func27, Try.ntmps27
  go_wp2
  go_loopw [3] (fun v3 wr => ∃ (V : World) (i : Nat), V = wr ∧ v3 = .int .i64 i ∧ za (i ≤ n ∧ (List.range i).all (rowRF L) = true) ∧ za (Below w.heap.size w V)) (fun v3 _ => n - (intOf v3).toNat)
  case atStart => exact ⟨w, 0, rfl, rfl, ⟨Nat.zero_le _, rfl⟩, ⟨Below.refl _ _⟩⟩
  case round =>
    obtain ⟨V, i, hV, rfl, hi, HB⟩ := hrel
    rw [← hV]
    clear hV
    by_cases hlt : (i : Int) < (n : Int)
    · have HLI := za.mk (show i < n by omega)
      have ei := yq (i := i) (n := n) (by omega) HM.out
      have i0 : (0 : Int) ≤ (i : Int) := by omega
      obtain ⟨ad, A3, c3, A4, c4, rfl, z0, z1, z2, z3, z4, z5, -, -, -, -⟩ := at_T50 HL.out (i : Int) i0 (show (i : Int) < (L.length : Int) by have := HLI.out; have := HN.out; omega)
      rw [Int.toNat_natCast] at z0 z1 z2 z3 z4 z5
      obtain ⟨x, hx⟩ : ∃ x, x = yj L (i : Int) := ⟨_, rfl⟩
      have HX := za.mk hx
      rw [← hx] at z0 z1 z2 z3 z4 z5
      have HZ := za.mk (show w.cell? (ad.add (i * 6)) = some (.int .i64 x.f0) ∧ w.cell? ⟨(ad.add (i * 6)).block, (ad.add (i * 6)).off + 1, none⟩ = some (.int .i64 x.f1) ∧ w.cell? ⟨(ad.add (i * 6)).block, (ad.add (i * 6)).off + 2, none⟩ = some (.int .i64 x.f2) ∧ w.cell? ⟨(ad.add (i * 6)).block, (ad.add (i * 6)).off + 3, none⟩ = some (.slice A3 x.f3.length c3) ∧ w.cell? ⟨(ad.add (i * 6)).block, (ad.add (i * 6)).off + 4, none⟩ = some (.slice A4 x.f4.length c4) ∧ w.cell? ⟨(ad.add (i * 6)).block, (ad.add (i * 6)).off + 5, none⟩ = some (.int .i64 x.f5) from ⟨z0, z1, z2, z3, z4, z5⟩)
      clear hx z0 z1 z2 z3 z4 z5
      obtain ⟨X, hX⟩ : ∃ X, X = V := ⟨_, rfl⟩
      have HBX := za.mk (show Below w.heap.size w X by rw [hX]; exact HB.out)
      rw [← hX]
      clear hX HB
      go_wp2
      go_loopw [4] (fun v4 wr => ∃ (V : World) (k : Nat), V = wr ∧ v4 = .int .i64 k ∧ za (k ≤ i ∧ (List.range k).all (fun k => !pairF L i k) = true) ∧ za (Below X.heap.size X V)) (fun v4 _ => i - (intOf v4).toNat)
      case atStart => exact ⟨X, 0, rfl, rfl, ⟨Nat.zero_le _, rfl⟩, ⟨Below.refl _ _⟩⟩
      case round =>
        obtain ⟨V, k, hV, rfl, hk, HB⟩ := hrel
        rw [← hV]
        clear hV
        have HW := za.mk (zj HBX.out HB.out)
        have x5 := zb HW.out HZ.out.2.2.2.2.2
        by_cases hc : (k : Int) < (i : Int) ∧ (k : Int) < x.f5
        · obtain ⟨hc1, hc2⟩ := hc
          have HC := za.mk (And.intro hc1 hc2)
          have ek : wrap64 ((k : Int) + 1) = ((k + 1 : Nat) : Int) := yq (i := k) (n := n) (by have := HLI.out; omega) HM.out
          have k0 : (0 : Int) ≤ (k : Int) := by omega
          have kn : (k : Int) < (n : Int) := by omega
          have hc3 : k < i := by omega
          obtain ⟨ad2, B3, d3, B4, d4, hae, y0, y1, y2, y3, y4, y5, -, -, -, -⟩ := at_T50 HL.out (k : Int) k0 (show (k : Int) < (L.length : Int) by have := HLI.out; have := HN.out; omega)
          injection hae with hae
          subst hae
          rw [Int.toNat_natCast] at y0 y1 y2 y3 y4 y5
          obtain ⟨y, hy⟩ : ∃ y, y = yj L (k : Int) := ⟨_, rfl⟩
          have HY := za.mk hy
          rw [← hy] at y0 y1 y2 y3 y4 y5
          have HS := za.mk (show ∀ w', Below V.heap.size V w' → w'.cell? (ad.add (i * 6)) = some (.int .i64 x.f0) ∧ w'.cell? ⟨(ad.add (i * 6)).block, (ad.add (i * 6)).off + 1, none⟩ = some (.int .i64 x.f1) ∧ w'.cell? ⟨(ad.add (i * 6)).block, (ad.add (i * 6)).off + 2, none⟩ = some (.int .i64 x.f2) ∧ w'.cell? ⟨(ad.add (i * 6)).block, (ad.add (i * 6)).off + 3, none⟩ = some (.slice A3 x.f3.length c3) ∧ w'.cell? ⟨(ad.add (i * 6)).block, (ad.add (i * 6)).off + 4, none⟩ = some (.slice A4 x.f4.length c4) ∧ w'.cell? ⟨(ad.add (i * 6)).block, (ad.add (i * 6)).off + 5, none⟩ = some (.int .i64 x.f5) ∧ w'.cell? (ad.add (k * 6)) = some (.int .i64 y.f0) ∧ w'.cell? ⟨(ad.add (k * 6)).block, (ad.add (k * 6)).off + 1, none⟩ = some (.int .i64 y.f1) ∧ w'.cell? ⟨(ad.add (k * 6)).block, (ad.add (k * 6)).off + 2, none⟩ = some (.int .i64 y.f2) ∧ w'.cell? ⟨(ad.add (k * 6)).block, (ad.add (k * 6)).off + 3, none⟩ = some (.slice B3 y.f3.length d3) ∧ w'.cell? ⟨(ad.add (k * 6)).block, (ad.add (k * 6)).off + 4, none⟩ = some (.slice B4 y.f4.length d4) ∧ w'.cell? ⟨(ad.add (k * 6)).block, (ad.add (k * 6)).off + 5, none⟩ = some (.int .i64 y.f5) from fun w' hb => ⟨zb (HW.out.trans (zq hb HW.out.size)) HZ.out.1, zb (HW.out.trans (zq hb HW.out.size)) HZ.out.2.1, zb (HW.out.trans (zq hb HW.out.size)) HZ.out.2.2.1, zb (HW.out.trans (zq hb HW.out.size)) HZ.out.2.2.2.1, zb (HW.out.trans (zq hb HW.out.size)) HZ.out.2.2.2.2.1, zb (HW.out.trans (zq hb HW.out.size)) HZ.out.2.2.2.2.2, zb (HW.out.trans (zq hb HW.out.size)) y0, zb (HW.out.trans (zq hb HW.out.size)) y1, zb (HW.out.trans (zq hb HW.out.size)) y2, zb (HW.out.trans (zq hb HW.out.size)) y3, zb (HW.out.trans (zq hb HW.out.size)) y4, zb (HW.out.trans (zq hb HW.out.size)) y5⟩)
          obtain ⟨q, hq⟩ : ∃ q, aheadF x y = q := ⟨_, rfl⟩
          have HQ := za.mk hq
          clear hy hq y0 y1 y2 y3 y4 y5
          go_upto_region 7 with (fail)
          clear x5
          go_region_held3 (fun w' => w'.cell? (ad.add (i * 6)) = some (.int .i64 x.f0) ∧ w'.cell? ⟨(ad.add (i * 6)).block, (ad.add (i * 6)).off + 1, none⟩ = some (.int .i64 x.f1) ∧ w'.cell? ⟨(ad.add (i * 6)).block, (ad.add (i * 6)).off + 2, none⟩ = some (.int .i64 x.f2) ∧ w'.cell? ⟨(ad.add (i * 6)).block, (ad.add (i * 6)).off + 3, none⟩ = some (.slice A3 x.f3.length c3) ∧ w'.cell? ⟨(ad.add (i * 6)).block, (ad.add (i * 6)).off + 4, none⟩ = some (.slice A4 x.f4.length c4) ∧ w'.cell? ⟨(ad.add (i * 6)).block, (ad.add (i * 6)).off + 5, none⟩ = some (.int .i64 x.f5) ∧ w'.cell? (ad.add (k * 6)) = some (.int .i64 y.f0) ∧ w'.cell? ⟨(ad.add (k * 6)).block, (ad.add (k * 6)).off + 1, none⟩ = some (.int .i64 y.f1) ∧ w'.cell? ⟨(ad.add (k * 6)).block, (ad.add (k * 6)).off + 2, none⟩ = some (.int .i64 y.f2) ∧ w'.cell? ⟨(ad.add (k * 6)).block, (ad.add (k * 6)).off + 3, none⟩ = some (.slice B3 y.f3.length d3) ∧ w'.cell? ⟨(ad.add (k * 6)).block, (ad.add (k * 6)).off + 4, none⟩ = some (.slice B4 y.f4.length d4) ∧ w'.cell? ⟨(ad.add (k * 6)).block, (ad.add (k * 6)).off + 5, none⟩ = some (.int .i64 y.f5)) (first | exact HS.out _ (ze (Below.refl _ _)) | exact HS.out _ (zj (ze (Below.refl _ _)) (by assumption))) (first | (go_at_call 65; refine (l13ahead_calls x y A3 c3 A4 c4 B3 d3 B4 d4 q _ HQ.out).mono ?_; rintro e wz ⟨rfl, hb⟩))
          have HBZ := za.mk (zj HB.out (zj (ze (Below.refl _ _)) hb))
          clear hb
          cases q
          · skip
            go_wp2
            go_roundw
            case rel => exact ⟨_, k + 1, rfl, by first | rw [ek] | rfl | simp, ⟨by have := HC.out; omega, by rw [yJ, hk.out.2]; unfold pairF; rw [← HX.out, ← HY.out, HQ.out]; simp⟩, HBZ⟩
            case measure => (try rw [ek]); have := HC.out; simp [intOf]; omega
          · skip
            go_wp2
            (try refine bodyPost_ret (results_tmp rfl _ _ _) rfl ?_)
            rw [HP.out]
            refine ⟨?_, zj HBX.out HBZ.out⟩
            rw [← HR.out, show realF L = false from xc (by rw [← HN.out]; exact HLI.out) (xc (show k < i by have := HC.out; omega) (by unfold pairF; rw [← HX.out, ← HY.out, HQ.out, decide_eq_true HC.out.2]; rfl))]
            rfl
        · have HRO := za.mk (show rowRF L i = true by
            by_cases c1 : (k : Int) < x.f5
            · have e : k = i := by have := hk.out.1; omega
              have h := hk.out.2
              rw [e] at h
              exact h
            · rw [row_stop hk.out.1 (by rw [← HX.out]; exact c1)]; exact hk.out.2)
          by_cases hc1 : (k : Int) < (i : Int)
          · have hc2 : ¬ (k : Int) < x.f5 := fun h => hc ⟨hc1, h⟩
            have hc3 : k < i := by omega
            clear hc
            go_wp2
            go_roundw
            case rel => exact ⟨_, i + 1, rfl, by first | rw [ei] | rfl | simp, ⟨HLI.out, by rw [yJ, hi.out.2, HRO.out]; rfl⟩, HW⟩
            case measure => (try rw [ei]); have := HLI.out; simp [intOf]; omega
          · have hc3 : ¬ k < i := by omega
            clear hc
            go_wp2
            go_roundw
            case rel => exact ⟨_, i + 1, rfl, by first | rw [ei] | rfl | simp, ⟨HLI.out, by rw [yJ, hi.out.2, HRO.out]; rfl⟩, HW⟩
            case measure => (try rw [ei]); have := HLI.out; simp [intOf]; omega
    · have HRE := za.mk (show r = true by
        rw [← HR.out]
        unfold realF
        have e : i = L.length := by have := hi.out.1; have := HN.out; omega
        rw [← e]
        exact hi.out.2)
      go_wp2
      (try refine bodyPost_ret (results_tmp rfl _ _ _) rfl ?_)
      rw [HP.out]
      exact ⟨by rw [HRE.out], HB.out⟩
end Go.Proofs.Ytppapibjbjmmbaa.QSY
set_option linter.unusedVariables false
set_option linter.unusedSimpArgs false
namespace Go.Proofs.Ytppapibjbjmmbaa.QSY
open Go.RowKit Go.Proofs.YtppapibjbjmmbaaW.PrintWords Go.Proofs.YtppapibjbjmmbaaW.PrintLast Go.Proofs.YtppapibjbjmmbaaW.PrintMore
set_option maxHeartbeats 8000000 in
set_option maxRecDepth 100000 in
theorem logReal_law (A : Option Addr) (c : Nat) (b : List Int) (w : World) (h : Kd.C (Kd.int .u8) w A b.length b) (hc : b.length ≤ c) (hb : ∀ x ∈ b, (0 : Int) ≤ x ∧ x ≤ 255) :
    Calls Try.prog 6 #[.slice A b.length c] w fun e w' => e = .returned (.bool true) ∧ Below w.heap.size w w' := by
  have HD := za.mk (fun hl => drawReal_calls A c b h hc hb hl)
  have hue := Try.underlying50
  obtain ⟨nb, hnb⟩ : ∃ n, n = b.length := ⟨_, rfl⟩
  rw [← hnb] at HD ⊢
  obtain ⟨Post, hPost⟩ : ∃ P, P = fun (e : Ending) (w' : World) => e = .returned (.bool true) ∧ Below w.heap.size w w' := ⟨_, rfl⟩
  have HP := za.mk (show ∀ e w', Post e w' ↔ (e = .returned (.bool true) ∧ Below w.heap.size w w') from fun _ _ => by rw [hPost])
  rw [← hPost]
  clear h hc hb hnb hPost
  go_enter Try.func6, Try.ntmps6
  by_cases hbig : (nb : Int) > 1048576
  · go_wp2
    (try refine bodyPost_ret (results_tmp rfl _ _ _) rfl ?_)
    rw [HP.out]
    exact ⟨rfl, Below.refl _ _⟩
  have HD2 := za.mk (HD.out (by omega))
  clear HD
  go_upto_region 4 with (go_at_call 24; refine HD2.out.mono ?_; rintro e w1 ⟨AL, cL, L, rfl, hb, hr, hs⟩; have HB1 := za.mk hb; have HL := za.mk (Kd.zW hr).2.2; clear hb hr hs)
  obtain ⟨q0, hq0⟩ : ∃ q, realF L = q := ⟨_, rfl⟩
  have HQ0 := za.mk hq0
  obtain ⟨n, hn⟩ : ∃ n, n = L.length := ⟨_, rfl⟩
  have HN := za.mk hn
  have HM := za.mk (show n ≤ maxLen from by rw [hn]; exact HL.out.2.1)
  have KI := za.mk (xL AL cL L q0 w1 HL.out hq0)
  rw [← hn] at KI ⊢
  clear hq0 hn hbig HD2
  go_upto_region 6 with (go_at_call 25; refine KI.out.mono ?_; rintro e w2 ⟨rfl, hb⟩; have HB2 := za.mk (zj HB1.out hb); have HB12 := za.mk hb; clear hb)
  have HLV := za.mk (Kd.zw HL.out HB12.out)
  clear HL KI HB12
  obtain ⟨X, hX⟩ : ∃ X, X = w2 := ⟨_, rfl⟩
  rw [← hX] at HB2 HLV ⊢
  clear hX
  go_wp2
  go_loopw [5, 6] (fun v5 v6 wr => ∃ (V : World) (i : Nat) (al : Bool), V = wr ∧ v5 = .bool al ∧ v6 = .int .i64 i ∧ za (i ≤ n ∧ al = (List.range i).all (rowRF L)) ∧ za (Below X.heap.size X V)) (fun _ v6 _ => n - (intOf v6).toNat)
  case atStart => exact ⟨X, 0, true, rfl, rfl, rfl, ⟨Nat.zero_le _, rfl⟩, ⟨Below.refl _ _⟩⟩
  case round =>
    obtain ⟨V, i, al, hV, rfl, rfl, hi, HB⟩ := hrel
    rw [← hV]
    clear hV
    by_cases hlt : (i : Int) < (n : Int)
    · have HLI := za.mk (show i < n by omega)
      have ei := yq (i := i) (n := n) (by omega) HM.out
      have i0 : (0 : Int) ≤ (i : Int) := by omega
      obtain ⟨ad, A3, c3, A4, c4, rfl, z0, z1, z2, z3, z4, z5, -, -, -, -⟩ := at_T50 HLV.out (i : Int) i0 (show (i : Int) < (L.length : Int) by have := HLI.out; have := HN.out; omega)
      rw [Int.toNat_natCast] at z0 z1 z2 z3 z4 z5
      obtain ⟨x, hx⟩ : ∃ x, x = yj L (i : Int) := ⟨_, rfl⟩
      have HX := za.mk hx
      rw [← hx] at z0 z1 z2 z3 z4 z5
      have HZ := za.mk (show X.cell? (ad.add (i * 6)) = some (.int .i64 x.f0) ∧ X.cell? ⟨(ad.add (i * 6)).block, (ad.add (i * 6)).off + 1, none⟩ = some (.int .i64 x.f1) ∧ X.cell? ⟨(ad.add (i * 6)).block, (ad.add (i * 6)).off + 2, none⟩ = some (.int .i64 x.f2) ∧ X.cell? ⟨(ad.add (i * 6)).block, (ad.add (i * 6)).off + 3, none⟩ = some (.slice A3 x.f3.length c3) ∧ X.cell? ⟨(ad.add (i * 6)).block, (ad.add (i * 6)).off + 4, none⟩ = some (.slice A4 x.f4.length c4) ∧ X.cell? ⟨(ad.add (i * 6)).block, (ad.add (i * 6)).off + 5, none⟩ = some (.int .i64 x.f5) from ⟨z0, z1, z2, z3, z4, z5⟩)
      clear hx z0 z1 z2 z3 z4 z5
      go_wp2
      go_loopw [5, 7] (fun v5 v7 wr => ∃ (V : World) (k : Nat) (al2 : Bool), V = wr ∧ v5 = .bool al2 ∧ v7 = .int .i64 k ∧ za (k ≤ i ∧ al2 = (al && (List.range k).all (fun k => !pairF L i k))) ∧ za (Below X.heap.size X V)) (fun _ v7 _ => i - (intOf v7).toNat)
      case atStart => exact ⟨V, 0, al, rfl, rfl, rfl, ⟨Nat.zero_le _, by simp⟩, HB⟩
      case round =>
        clear HB
        obtain ⟨V, k, al2, hV, rfl, rfl, hk, HB⟩ := hrel
        rw [← hV]
        clear hV
        have HW := HB
        have x5 := zb HW.out HZ.out.2.2.2.2.2
        by_cases hc : (k : Int) < (i : Int) ∧ (k : Int) < x.f5
        · obtain ⟨hc1, hc2⟩ := hc
          have HC := za.mk (And.intro hc1 hc2)
          have ek : wrap64 ((k : Int) + 1) = ((k + 1 : Nat) : Int) := yq (i := k) (n := n) (by have := HLI.out; omega) HM.out
          have k0 : (0 : Int) ≤ (k : Int) := by omega
          have kn : (k : Int) < (n : Int) := by omega
          have hc3 : k < i := by omega
          obtain ⟨ad2, B3, d3, B4, d4, hae, y0, y1, y2, y3, y4, y5, -, -, -, -⟩ := at_T50 HLV.out (k : Int) k0 (show (k : Int) < (L.length : Int) by have := HLI.out; have := HN.out; omega)
          injection hae with hae
          subst hae
          rw [Int.toNat_natCast] at y0 y1 y2 y3 y4 y5
          obtain ⟨y, hy⟩ : ∃ y, y = yj L (k : Int) := ⟨_, rfl⟩
          have HY := za.mk hy
          rw [← hy] at y0 y1 y2 y3 y4 y5
          have HS := za.mk (show ∀ w', Below V.heap.size V w' → w'.cell? (ad.add (i * 6)) = some (.int .i64 x.f0) ∧ w'.cell? ⟨(ad.add (i * 6)).block, (ad.add (i * 6)).off + 1, none⟩ = some (.int .i64 x.f1) ∧ w'.cell? ⟨(ad.add (i * 6)).block, (ad.add (i * 6)).off + 2, none⟩ = some (.int .i64 x.f2) ∧ w'.cell? ⟨(ad.add (i * 6)).block, (ad.add (i * 6)).off + 3, none⟩ = some (.slice A3 x.f3.length c3) ∧ w'.cell? ⟨(ad.add (i * 6)).block, (ad.add (i * 6)).off + 4, none⟩ = some (.slice A4 x.f4.length c4) ∧ w'.cell? ⟨(ad.add (i * 6)).block, (ad.add (i * 6)).off + 5, none⟩ = some (.int .i64 x.f5) ∧ w'.cell? (ad.add (k * 6)) = some (.int .i64 y.f0) ∧ w'.cell? ⟨(ad.add (k * 6)).block, (ad.add (k * 6)).off + 1, none⟩ = some (.int .i64 y.f1) ∧ w'.cell? ⟨(ad.add (k * 6)).block, (ad.add (k * 6)).off + 2, none⟩ = some (.int .i64 y.f2) ∧ w'.cell? ⟨(ad.add (k * 6)).block, (ad.add (k * 6)).off + 3, none⟩ = some (.slice B3 y.f3.length d3) ∧ w'.cell? ⟨(ad.add (k * 6)).block, (ad.add (k * 6)).off + 4, none⟩ = some (.slice B4 y.f4.length d4) ∧ w'.cell? ⟨(ad.add (k * 6)).block, (ad.add (k * 6)).off + 5, none⟩ = some (.int .i64 y.f5) from fun w' hb => ⟨zb (HW.out.trans (zq hb HW.out.size)) HZ.out.1, zb (HW.out.trans (zq hb HW.out.size)) HZ.out.2.1, zb (HW.out.trans (zq hb HW.out.size)) HZ.out.2.2.1, zb (HW.out.trans (zq hb HW.out.size)) HZ.out.2.2.2.1, zb (HW.out.trans (zq hb HW.out.size)) HZ.out.2.2.2.2.1, zb (HW.out.trans (zq hb HW.out.size)) HZ.out.2.2.2.2.2, zb (HW.out.trans (zq hb HW.out.size)) y0, zb (HW.out.trans (zq hb HW.out.size)) y1, zb (HW.out.trans (zq hb HW.out.size)) y2, zb (HW.out.trans (zq hb HW.out.size)) y3, zb (HW.out.trans (zq hb HW.out.size)) y4, zb (HW.out.trans (zq hb HW.out.size)) y5⟩)
          obtain ⟨q, hq⟩ : ∃ q, aheadF x y = q := ⟨_, rfl⟩
          have HQ := za.mk hq
          have HPF := za.mk (show pairF L i k = q by unfold pairF; rw [← HX.out, ← HY.out, hq, decide_eq_true hc2, Bool.true_and])
          clear hy hq y0 y1 y2 y3 y4 y5
          go_upto_region 12 with (fail)
          clear x5
          cases al2
          · skip
            go_quiet (fail)
            go_wp2
            go_roundw
            case rel => exact ⟨_, k + 1, false, rfl, rfl, by first | rw [ek] | rfl | simp, ⟨by have := HC.out; omega, by rw [yJ, HPF.out]; have h := hk.out.2; generalize (List.range k).all (fun k => !pairF L i k) = u at h ⊢; revert h; cases al <;> cases u <;> cases q <;> simp⟩, by first | exact HB | exact ⟨HB.out.trans (zg (Below.refl _ _) _)⟩ | exact ⟨zj HB.out (zg (Below.refl _ _) _)⟩⟩
            case measure => (try rw [ek]); have := HC.out; simp [intOf]; omega
          · skip
            go_region_held3 (fun w' => w'.cell? (ad.add (i * 6)) = some (.int .i64 x.f0) ∧ w'.cell? ⟨(ad.add (i * 6)).block, (ad.add (i * 6)).off + 1, none⟩ = some (.int .i64 x.f1) ∧ w'.cell? ⟨(ad.add (i * 6)).block, (ad.add (i * 6)).off + 2, none⟩ = some (.int .i64 x.f2) ∧ w'.cell? ⟨(ad.add (i * 6)).block, (ad.add (i * 6)).off + 3, none⟩ = some (.slice A3 x.f3.length c3) ∧ w'.cell? ⟨(ad.add (i * 6)).block, (ad.add (i * 6)).off + 4, none⟩ = some (.slice A4 x.f4.length c4) ∧ w'.cell? ⟨(ad.add (i * 6)).block, (ad.add (i * 6)).off + 5, none⟩ = some (.int .i64 x.f5) ∧ w'.cell? (ad.add (k * 6)) = some (.int .i64 y.f0) ∧ w'.cell? ⟨(ad.add (k * 6)).block, (ad.add (k * 6)).off + 1, none⟩ = some (.int .i64 y.f1) ∧ w'.cell? ⟨(ad.add (k * 6)).block, (ad.add (k * 6)).off + 2, none⟩ = some (.int .i64 y.f2) ∧ w'.cell? ⟨(ad.add (k * 6)).block, (ad.add (k * 6)).off + 3, none⟩ = some (.slice B3 y.f3.length d3) ∧ w'.cell? ⟨(ad.add (k * 6)).block, (ad.add (k * 6)).off + 4, none⟩ = some (.slice B4 y.f4.length d4) ∧ w'.cell? ⟨(ad.add (k * 6)).block, (ad.add (k * 6)).off + 5, none⟩ = some (.int .i64 y.f5)) (first | exact HS.out _ (ze (Below.refl _ _)) | exact HS.out _ (zj (ze (Below.refl _ _)) (by assumption))) (first | (go_at_call 26; refine (lqahead_calls x y A3 c3 A4 c4 B3 d3 B4 d4 q _ HQ.out).mono ?_; rintro e wz ⟨rfl, hb⟩))
            have HBZ := za.mk (zj HB.out (zj (ze (Below.refl _ _)) hb))
            clear hb
            go_wp2
            go_roundw
            case rel => exact ⟨_, k + 1, !q, rfl, by first | rfl | (cases q <;> rfl), by first | rw [ek] | rfl | simp, ⟨by have := HC.out; omega, by rw [yJ, HPF.out]; have h := hk.out.2; generalize (List.range k).all (fun k => !pairF L i k) = u at h ⊢; revert h; cases al <;> cases u <;> cases q <;> simp⟩, HBZ⟩
            case measure => (try rw [ek]); have := HC.out; simp [intOf]; omega
        · have HRO := za.mk (show rowRF L i = (List.range k).all (fun k => !pairF L i k) by
            by_cases c1 : (k : Int) < x.f5
            · have e : k = i := by have := hk.out.1; omega
              rw [e]; rfl
            · exact row_stop hk.out.1 (by rw [← HX.out]; exact c1))
          by_cases hc2 : (k : Int) < x.f5
          · have hc1 : ¬ (k : Int) < (i : Int) := fun h => hc ⟨h, hc2⟩
            have hc3 : ¬ k < i := by omega
            clear hc
            go_wp2
            go_roundw
            case rel => exact ⟨_, i + 1, al2, rfl, rfl, by first | rw [ei] | rfl | simp, ⟨HLI.out, by rw [yJ, HRO.out, ← hi.out.2]; exact hk.out.2⟩, HB⟩
            case measure => (try rw [ei]); have := HLI.out; simp [intOf]; omega
          · clear hc
            go_wp2
            go_roundw
            case rel => exact ⟨_, i + 1, al2, rfl, rfl, by first | rw [ei] | rfl | simp, ⟨HLI.out, by rw [yJ, HRO.out, ← hi.out.2]; exact hk.out.2⟩, HB⟩
            case measure => (try rw [ei]); have := HLI.out; simp [intOf]; omega
    · have HAL := za.mk (show al = q0 by
        rw [← HQ0.out, hi.out.2]
        unfold realF
        have e : i = L.length := by have := hi.out.1; have := HN.out; omega
        rw [← e])
      have KS := za.mk (specReal_calls AL cL L q0 V (Kd.zw HLV.out HB.out) HQ0.out)
      rw [← HN.out] at KS
      have e := HAL.out
      subst e
      cases al
      all_goals
        go_wp2_with (go_at_call 27; refine KS.out.mono ?_; rintro e w3 ⟨rfl, hb⟩; have HB3 := za.mk (zj HB.out hb); clear hb)
        (try refine bodyPost_ret (results_tmp rfl _ _ _) rfl ?_)
        rw [HP.out]
        exact ⟨rfl, zj HB2.out HB3.out⟩
theorem byte_ok {n : Int} (h : (Lit.int .u8 n).wf = true) : (0 : Int) ≤ n ∧ n ≤ 255 := by
  simp [Lit.wf] at h
  have h1 : IntKind.u8.min = 0 := by decide
  have h2 : IntKind.u8.max = 255 := by decide
  rw [h1, h2] at h
  exact h
theorem laws_FnLogReal.walk (a0 : Option Addr) (len0 cap0 : Nat) (z0 : List Int) (w : World) (w0 : (a0 = none ∧ len0 = 0 ∧ cap0 = 0 ∧ z0 = []) ∨ ∃ x, a0 = some x ∧ len0 ≤ cap0 ∧ cap0 ≤ maxLen ∧ z0.length = cap0 ∧ (∀ i, i < z0.length → w.cell? (x.add i) = some (.int .u8 (z0.getD i 0))) ∧ ∀ n ∈ z0, (Lit.int .u8 n).wf = true) :
    Calls Try.prog 6 #[.slice a0 len0 cap0] w fun e w' => e = .returned (.bool true) ∧ Below w.heap.size w w' := by
  obtain ⟨l0, rfl, hr0, hm0, hw0, hc0⟩ := yo.ofRowC w0
  exact logReal_law _ _ l0 w (Kd.C_of_reads (d := (0 : Int)) (h1 := fun _ => rfl) hr0) hc0 (fun x hx => byte_ok (hw0 x hx))
end Go.Proofs.Ytppapibjbjmmbaa.QSY
set_option linter.unusedVariables false
set_option linter.unusedSimpArgs false
namespace Go.Proofs.Ytppapibjbjmmbaa.QSY
open Go.RowKit Go.Proofs.YtppapibjbjmmbaaW.PrintWords Go.Proofs.YtppapibjbjmmbaaW.PrintLast Go.Proofs.YtppapibjbjmmbaaW.PrintMore
theorem rd_take {L : List S50} {t i : Nat} (h : i < t) : yj (L.take t) (i : Int) = yj L (i : Int) := by
  unfold yj
  rw [Int.toNat_natCast, List.getD_eq_getElem?_getD, List.getD_eq_getElem?_getD, List.getElem?_take_of_lt h]
theorem real_take {L : List S50} {t : Nat} (h : realF L = true) : realF (L.take t) = true := by
  refine xn (fun i hi => xn (fun k hk => ?_))
  rw [List.length_take] at hi
  have h1 := List.all_eq_true.1 (List.all_eq_true.1 h i (List.mem_range.2 (by omega))) k (List.mem_range.2 hk)
  unfold pairF at h1 ⊢
  rw [rd_take (show i < t by omega), rd_take (show k < t by omega)]
  exact h1
theorem LogOf.len {Bs : List (List zJ)} {nC : Nat} {σ : St} {L : List S50} (h : LogOf σ.L L) (hi : Inv Bs nC σ) : L.length ≤ 1000000000 := by
  have := hi.len_le
  rcases h with rfl | rfl | ⟨_, rfl⟩
  · simp
  · exact this
  · rw [List.length_set]; exact this
set_option maxHeartbeats 8000000 in
set_option maxRecDepth 100000 in
theorem logRealCut_law (A : Option Addr) (c : Nat) (b : List Int) (AM : Option Addr) (nm cM : Nat) (w : World) (h : Kd.C (Kd.int .u8) w A b.length b) (hc : b.length ≤ c) (hb : ∀ x ∈ b, (0 : Int) ≤ x ∧ x ≤ 255) :
    Calls Try.prog 7 #[.slice A b.length c, .slice AM nm cM] w fun e w' => e = .returned (.bool true) ∧ Below w.heap.size w w' := by
  have HD := za.mk (fun hl => drawReal_calls A c b h hc hb hl)
  obtain ⟨nb, hnb⟩ : ∃ n, n = b.length := ⟨_, rfl⟩
  rw [← hnb] at HD ⊢
  obtain ⟨Post, hPost⟩ : ∃ P, P = fun (e : Ending) (w' : World) => e = .returned (.bool true) ∧ Below w.heap.size w w' := ⟨_, rfl⟩
  have HP := za.mk (show ∀ e w', Post e w' ↔ (e = .returned (.bool true) ∧ Below w.heap.size w w') from fun _ _ => by rw [hPost])
  rw [← hPost]
  clear h hc hb hnb hPost
  go_enter Try.func7, Try.ntmps7
  by_cases hbig : (nb : Int) > 1048576
  · go_wp2
    (try refine bodyPost_ret (results_tmp rfl _ _ _) rfl ?_)
    rw [HP.out]
    exact ⟨rfl, Below.refl _ _⟩
  by_cases hbig2 : (nm : Int) > 1048576
  · go_wp2
    (try refine bodyPost_ret (results_tmp rfl _ _ _) rfl ?_)
    rw [HP.out]
    exact ⟨rfl, Below.refl _ _⟩
  have HD2 := za.mk (HD.out (by omega))
  have HNM := za.mk (show nm ≤ 1048576 by omega)
  clear HD
  go_upto_region 4 with (go_at_call 24; refine HD2.out.mono ?_; rintro e w1 ⟨AL, cL, L, rfl, hb, hr, hs⟩; have HB1 := za.mk hb; have HL := za.mk (Kd.zW hr).2; have HLL := za.mk (show L.length ≤ 1000000000 by obtain ⟨Cs, Bs, σ, h1, h2, h3⟩ := hs; exact h3.len h2); clear hb hr hs)
  obtain ⟨q0, hq0⟩ : ∃ q, realF L = q := ⟨_, rfl⟩
  have HQ0 := za.mk hq0
  obtain ⟨n, hn⟩ : ∃ n, n = L.length := ⟨_, rfl⟩
  have HN := za.mk hn
  have KI := za.mk (xL AL cL L q0 w1 HL.out.2 hq0)
  rw [← hn] at KI HLL ⊢
  clear hq0 hn hbig hbig2 HD2
  go_upto_region 5 with (go_at_call 25; refine KI.out.mono ?_; rintro e w2 ⟨rfl, hb⟩; have HB2 := za.mk (zj HB1.out hb); have HB12 := za.mk hb; clear hb)
  have KS := za.mk (fun (W : World) (hW : Below w1.heap.size w1 W) => specReal_calls AL cL L q0 W (Kd.zw HL.out.2 hW) HQ0.out)
  rw [← HN.out] at KS
  cases q0
  · go_wp2_with (go_at_call 27; first | (with_reducible refine (KS.out _ HB12.out).mono ?_; rintro e w3 ⟨rfl, hb⟩; have HB3 := za.mk (zj HB12.out hb); clear hb) | (with_reducible refine (KS.out _ HB3.out).mono ?_; rintro e w4 ⟨rfl, hb⟩; have HB4 := za.mk (zj HB3.out hb); clear hb))
    (try refine bodyPost_ret (results_tmp rfl _ _ _) rfl ?_)
    rw [HP.out]
    exact ⟨rfl, zj HB1.out HB4.out⟩
  · go_upto_region 7 with (go_at_call 27; refine (KS.out _ HB12.out).mono ?_; rintro e w3 ⟨rfl, hb⟩; have HB3 := za.mk (zj HB12.out hb); clear hb)
    have HT := za.mk (tmod_in (a := (nm : Int)) (n := (n : Int) + 1) (by omega) (by omega))
    obtain ⟨t, ht⟩ : ∃ t : Nat, Int.tmod (nm : Int) ((n : Int) + 1) = (t : Int) := ⟨(Int.tmod (nm : Int) ((n : Int) + 1)).toNat, by have := HT.out.1; omega⟩
    have HTN := za.mk (show t ≤ n by have := HT.out.2; omega)
    have htc : t ≤ cL := by have h1 := HTN.out; have h2 := HL.out.1; have h3 := HN.out; omega
    have e1 : wrap64 ((n : Int) + 1) = (n : Int) + 1 := by have := HLL.out; unfold wrap64; omega
    have e2 : ¬ (n : Int) + 1 = 0 := by omega
    have e3 : wrap64 (t : Int) = (t : Int) := by have h1 := HLL.out; have h2 := HTN.out; unfold wrap64; omega
    have KT := za.mk (fun (W : World) (hW : Below w1.heap.size w1 W) => xL AL cL (L.take t) true W (Kd.zw (Kd.C_take HL.out.2 (by have := HTN.out; have := HN.out; omega)) hW) (real_take HQ0.out))
    rw [show (L.take t).length = t by rw [List.length_take]; have := HTN.out; have := HN.out; omega] at KT
    have KN := za.mk (fun (W : World) => show Calls Try.prog 25 #[.slice none 0 0] W (fun e w' => e = .returned (.bool true) ∧ Below W.heap.size W w') from xL none 0 [] true W (Kd.zW (Kd.R_nil k50 50 W 0 (fun _ => True))).2.2 rfl)
    go_wp2_with (go_at_call 25; first | (with_reducible refine (KT.out _ HB3.out).mono ?_; rintro e w4 ⟨rfl, hb⟩; have HB4 := za.mk (zj HB3.out hb); clear hb) | (with_reducible refine (KN.out _).mono ?_; rintro e w5 ⟨rfl, hb⟩; have HB5 := za.mk (zj HB4.out hb); clear hb))
    (try refine bodyPost_ret (results_tmp rfl _ _ _) rfl ?_)
    rw [HP.out]
    exact ⟨rfl, zj HB1.out HB5.out⟩
theorem laws_FnLogRealCut.walk (a0 : Option Addr) (len0 cap0 : Nat) (z0 : List Int) (a1 : Option Addr) (len1 cap1 : Nat) (z1 : List Int) (w : World) (w0 : (a0 = none ∧ len0 = 0 ∧ cap0 = 0 ∧ z0 = []) ∨ ∃ x, a0 = some x ∧ len0 ≤ cap0 ∧ cap0 ≤ maxLen ∧ z0.length = cap0 ∧ (∀ i, i < z0.length → w.cell? (x.add i) = some (.int .u8 (z0.getD i 0))) ∧ ∀ n ∈ z0, (Lit.int .u8 n).wf = true) (w1 : (a1 = none ∧ len1 = 0 ∧ cap1 = 0 ∧ z1 = []) ∨ ∃ x, a1 = some x ∧ len1 ≤ cap1 ∧ cap1 ≤ maxLen ∧ z1.length = cap1 ∧ (∀ i, i < z1.length → w.cell? (x.add i) = some (.int .u8 (z1.getD i 0))) ∧ ∀ n ∈ z1, (Lit.int .u8 n).wf = true) :
    Calls Try.prog 7 #[.slice a0 len0 cap0, .slice a1 len1 cap1] w fun e w' => e = .returned (.bool true) ∧ Below w.heap.size w w' := by
  obtain ⟨l0, rfl, hr0, hm0, hw0, hc0⟩ := yo.ofRowC w0
  exact logRealCut_law _ _ l0 a1 len1 cap1 w (Kd.C_of_reads (d := (0 : Int)) (h1 := fun _ => rfl) hr0) hc0 (fun x hx => byte_ok (hw0 x hx))
end Go.Proofs.Ytppapibjbjmmbaa.QSY
