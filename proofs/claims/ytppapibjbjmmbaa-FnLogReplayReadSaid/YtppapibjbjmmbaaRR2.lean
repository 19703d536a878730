import Derived.Lib.SliceRun
import Derived.Test.YtppapibjbjmmbaaRR0
import Derived.Test.YtppapibjbjmmbaaRR1
namespace Go.Proofs.Ytppapibjbjmmbaa.QSY
open Go.RowKit Go.Proofs.YtppapibjbjmmbaaW.PrintWords Go.Proofs.YtppapibjbjmmbaaW.PrintLast Go.Proofs.YtppapibjbjmmbaaW.PrintMore
attribute [local go_sem] max2_int min2_int max_two min_two we xZ max_four min_four   -- for this text's walks alone
set_option linter.unusedVariables false
set_option linter.unusedSimpArgs false
def putL (c : List Int) (p : S45) : List Int := if 0 ≤ p.f0 ∧ p.f0 < (c.length : Int) then c.set p.f0.toNat p.f1 else c
theorem putL_len (c : List Int) (p : S45) : (putL c p).length = c.length := by
 unfold putL
 split
 ·rw [List.length_set]
 ·rfl
def impl_putAll.f (l0 : List Int) (l1 : List (S45)) : Option (List Int) := some (l1.foldl putL l0)
theorem putAll_step (l0 : List Int) (l1 : List (S45)) (i : Nat) (p : S45) (h : l1[i]? = some p) : (l1.take (i + 1)).foldl putL l0 = putL ((l1.take i).foldl putL l0) p := by
 obtain ⟨hi, rfl⟩ := List.getElem?_eq_some_iff.1 h
 rw [List.take_succ_eq_append_getElem hi, List.foldl_append]
 rfl
set_option maxHeartbeats 8000000 in
set_option maxRecDepth 100000 in
theorem impl_putAll.calls (P0_ : Nat → Prop) (u9000_ : Value) (l0 : List Int) (A1 : Option Addr) (c1 : Nat) (l1 : List (S45)) (r : List Int) (w0 w : World) (hB : Below w0.heap.size w0 w) (ho0 : Kd.R (Kd.int .i64) 3 w w0.heap.size P0_ u9000_ l0) (hr1 : ∀ W_, Kept w W_ (fun k_ => P0_ k_) → Kd.C k45 W_ A1 l1.length l1) (hc1 : l1.length ≤ c1) (h : impl_putAll.f l0 l1 = some r) :
  Calls Try.prog 74 #[u9000_, .slice A1 l1.length c1] w fun e w' => e = .returned (.tuple #[]) ∧ Kd.R (Kd.int .i64) 3 w' w0.heap.size (fun k_ => (P0_ k_ ∨ w.heap.size ≤ k_)) u9000_ r ∧ Below w0.heap.size w0 w' ∧ Kept w w' (fun k_ => P0_ k_) := by
 obtain rfl := Option.some.inj h
 clear h
 have HF := zb.mk (show Kd.R (Kd.int .i64) 3 w w0.heap.size (fun k_ => (P0_ k_ ∨ w.heap.size ≤ k_)) u9000_ l0 from Kd.zT ho0 (fun k_ hk => (.inl hk)))
 have HK := zb.mk (Kept.refl w (fun k_ => P0_ k_))
 have HB := zb.mk hB
 have HR1 := zb.mk hr1
 have HM := zb.mk (show l1.length ≤ 9223372036854775807 from (hr1 w (Kept.refl _ _)).2.1)
 clear hB ho0 hr1
 have hu := Try.underlying45
 go_enter Try.func74, Try.ntmps74
 go_wp2
 go_loopw [8] (fun v8 wr => ∃ (x : Int), v8 = .int .i64 x ∧ zb (0 ≤ x ∧ x ≤ (l1.length : Nat)) ∧ zb (Kd.R (Kd.int .i64) 3 wr w0.heap.size (fun k_ => (P0_ k_ ∨ w.heap.size ≤ k_)) u9000_ ((l1.take x.toNat).foldl putL l0)) ∧ zb (Kept w wr (fun k_ => P0_ k_)) ∧ zb (Below w0.heap.size w0 wr)) (fun v8 _ => l1.length - (intOf v8).toNat)
 case atStart => exact ⟨0, rfl, ⟨by omega, by omega⟩, HF, HK, HB⟩
 case round =>
  clear HF HK HB
  obtain ⟨x, rfl, HX, HF, HK, HB⟩ := hrel
  by_cases c0 : x < ((l1.length : Nat) : Int)
  ·have c0b : decide (x < ((l1.length : Nat) : Int)) = true := decide_eq_true c0
   have hx0 := HX.out.1
   obtain ⟨ad, rfl, hx_0, hx_1⟩ := yK (Kd.C_kept_now HR1.out HK.out) x hx0 c0
   obtain ⟨p, hp⟩ : ∃ p, p = zw l1 x := ⟨_, rfl⟩
   rw [← hp] at hx_0 hx_1
   have HP := zb.mk (show l1[x.toNat]? = some p by rw [hp]; unfold zw; rw [List.getD_eq_getElem?_getD, List.getElem?_eq_getElem (show x.toNat < l1.length by omega)]; rfl)
   clear hp
   have p0 := eq_true hx0
   have q0 := eq_true c0
   have HC0 := zb.mk c0
   clear c0 hx0
   have HSTEP := zb.mk (putAll_step l0 l1 x.toNat p HP.out)
   obtain ⟨cs, hcs⟩ : ∃ cs, cs = (l1.take x.toNat).foldl putL l0 := ⟨_, rfl⟩
   rw [← hcs] at HF HSTEP
   clear hcs
   obtain ⟨A0, cc, e0⟩ := Kd.zJ HF.out
   subst e0
   by_cases c1 : 0 ≤ p.f0 ∧ p.f0 < (cs.length : Int)
   ·obtain ⟨g, cap, e1, hbg, hlt, hcl⟩ := Kd.xT HF.out (by omega)
    injection e1 with e1 e2 e3
    subst e1 e3
    obtain ⟨ce, hcl, hM, hcc, hfr⟩ := Kd.R_elem HF.out 0 p.f0 c1.1 c1.2
    obtain rfl : ce = [.int .i64 (cs.getD p.f0.toNat 0)] := hM
    have hc2 : ∀ (o : Obj) (n : Nat), ((wr.alloc o).drewN n).cell? ⟨g, p.f0.toNat, none⟩ = some (.int .i64 (cs.getD p.f0.toNat 0)) := fun o n => by
     have h1 := hcc 0 _ rfl
     rw [show (Kd.int .i64).sz = 1 from rfl, Nat.mul_one, Nat.add_zero] at h1
     exact za (zj (zc (Below.refl _ _) o) n) h1
    have hf2 : ∀ (o : Obj) (n : Nat), ((wr.alloc o).drewN n).frozen? ⟨g, p.f0.toNat, none⟩ = false := fun o n => by
     have h1 := hfr 0
     have h2 := (zj (zc (Below.refl wr.heap.size wr) o) n).frozen (p := ⟨g, p.f0.toNat, none⟩) hlt
     rw [show (Kd.int .i64).sz = 1 from rfl, Nat.mul_one, Nat.add_zero] at h1
     exact h2.trans h1
    have HG := zb.mk (HF.out.1 g rfl)
    have HBG := zb.mk hbg
    have p1 := eq_true c1.1
    have q1 := eq_true c1.2
    have HIP := zb.mk (show yj.f p.f0 (cs.length : Int) = some true by unfold yj.f; rw [if_pos c1.1, decide_eq_true c1.2])
    have HS2 := zb.mk (show putL cs p = cs.set p.f0.toNat p.f1 by unfold putL; rw [if_pos c1])
    clear c1 hcc hfr hcl hbg hlt
    go_wp2_with fail
    refine (yj.calls p.f0 (cs.length : Int) true _ HIP.out).mono ?_
    rintro e w1 ⟨rfl, hd⟩
    obtain ⟨nd, rfl⟩ := hd.out
    go_wp2
    go_roundw
    case rel =>
     have e1 : (wrap64 (x + 1)) = x + 1 := by have h1 := HX.out.1; have h2 := HC0.out; have h3 := HM.out; unfold wrap64; omega
     refine ⟨_, rfl, ⟨?_⟩, ⟨?_⟩, ⟨?_⟩, ⟨?_⟩⟩
     ·rw [e1]; exact ⟨by have := HX.out.1; omega, by have := HC0.out; omega⟩
     ·rw [e1, show (x + 1).toNat = x.toNat + 1 by have := HX.out.1; omega, HSTEP.out, HS2.out]
      exact (Kd.R_putg (Kd.zU (Kd.zX HF.out _) _) p.f0 p.f1).1
     ·exact Kept.setCell (Kept.drewN (Kept.alloc HK.out _) _) HG.out _
     ·exact zv (zj (zc HB.out _) _) HBG.out
    case measure =>
     have h1 := HX.out.1
     have h2 := HC0.out
     have h3 := HM.out
     have e1 : (wrap64 (x + 1)) = x + 1 := by unfold wrap64; omega
     rw [e1]
     simp [intOf]
     omega
   ·have HIP := zb.mk (show yj.f p.f0 (cs.length : Int) = some false by
     unfold yj.f
     by_cases c2 : 0 ≤ p.f0
     ·rw [if_pos c2, decide_eq_false (fun h => c1 ⟨c2, h⟩)]
     ·rw [if_neg c2])
    have HS2 := zb.mk (show putL cs p = cs by unfold putL; rw [if_neg c1])
    clear c1
    go_wp2_with fail
    refine (yj.calls p.f0 (cs.length : Int) false _ HIP.out).mono ?_
    rintro e w1 ⟨rfl, hd⟩
    obtain ⟨nd, rfl⟩ := hd.out
    go_wp2
    go_roundw
    case rel =>
     have e1 : (wrap64 (x + 1)) = x + 1 := by have h1 := HX.out.1; have h2 := HC0.out; have h3 := HM.out; unfold wrap64; omega
     refine ⟨_, rfl, ⟨?_⟩, ⟨?_⟩, ⟨?_⟩, ⟨?_⟩⟩
     ·rw [e1]; exact ⟨by have := HX.out.1; omega, by have := HC0.out; omega⟩
     ·rw [e1, show (x + 1).toNat = x.toNat + 1 by have := HX.out.1; omega, HSTEP.out, HS2.out]
      exact Kd.zU (Kd.zX HF.out _) _
     ·exact Kept.drewN (Kept.alloc HK.out _) _
     ·exact zj (zc HB.out _) _
    case measure =>
     have h1 := HX.out.1
     have h2 := HC0.out
     have h3 := HM.out
     have e1 : (wrap64 (x + 1)) = x + 1 := by unfold wrap64; omega
     rw [e1]
     simp [intOf]
     omega
  ·have c0b : decide (x < ((l1.length : Nat) : Int)) = false := decide_eq_false c0
   have q0 := eq_false c0
   have HE := zb.mk (show x.toNat = l1.length by have := HX.out.1; have := HX.out.2; omega)
   clear c0
   go_wp2
   go_end0
   have h5 := HF.out
   rw [HE.out, List.take_length] at h5
   exact ⟨rfl, h5, HB.out, HK.out⟩
end Go.Proofs.Ytppapibjbjmmbaa.QSY
set_option linter.unusedVariables false
set_option linter.unusedSimpArgs false
namespace Go.Proofs.Ytppapibjbjmmbaa.QSY
open Go.RowKit Go.Proofs.YtppapibjbjmmbaaW.PrintWords Go.Proofs.YtppapibjbjmmbaaW.PrintLast Go.Proofs.YtppapibjbjmmbaaW.PrintMore
theorem R_shape1 {α : Type} {d : Kd α} {e B : Nat} {w : World} {ok : Nat → Prop} {v : Value} {xs : List α} (h : d.R e w B ok v xs) : ∃ A n c, v = .slice A n c := by
 obtain ⟨A, c, e⟩ := Kd.zJ h
 exact ⟨A, _, c, e⟩
def hasP (c : List Int) (p : S45) : Bool := decide (0 ≤ p.f0) && (decide (p.f0 < (c.length : Int)) && decide (rd c p.f0 = p.f1))
def hasF (c : List Int) (l : List S45) : Bool := (List.range l.length).all (fun i => hasP c (zw l (i : Int)))
theorem has_out {c : List Int} {p : S45} (h : ¬ (0 ≤ p.f0 ∧ p.f0 < (c.length : Int))) : hasP c p = false := by
 unfold hasP
 by_cases h0 : 0 ≤ p.f0
 ·rw [decide_eq_false (show ¬ p.f0 < (c.length : Int) from fun h1 => h ⟨h0, h1⟩)]; simp
 ·rw [decide_eq_false h0]; rfl
set_option maxHeartbeats 4000000 in
set_option maxRecDepth 100000 in
theorem has_calls (A : Option Addr) (cs : List Int) (c : Nat) (B : Option Addr) (l : List S45) (d : Nat) (r : Bool) (w : World) (hc : Kd.C (Kd.int .i64) w A cs.length cs) (hl : Kd.C k45 w B l.length l) (h : hasF cs l = r) :
  Calls Try.prog 70 #[.slice A cs.length c, .slice B l.length d] w fun e w' => e = .returned (.bool r) ∧ Below w.heap.size w w' := by
 have HC := zb.mk hc
 have HL := zb.mk hl
 have HM := zb.mk (And.intro hc.2.1 hl.2.1)
 have HH := zb.mk h
 obtain ⟨nc, hnc⟩ : ∃ n, n = cs.length := ⟨_, rfl⟩
 obtain ⟨nl, hnl⟩ : ∃ n, n = l.length := ⟨_, rfl⟩
 have HNC := zb.mk hnc
 have HNL := zb.mk hnl
 rw [← hnc, ← hnl] at HM ⊢
 obtain ⟨Post, hPost⟩ : ∃ P, P = fun (e : Ending) (w' : World) => e = .returned (.bool r) ∧ Below w.heap.size w w' := ⟨_, rfl⟩
 have HP := zb.mk (show ∀ e w', Post e w' ↔ (e = .returned (.bool r) ∧ Below w.heap.size w w') from fun _ _ => by rw [hPost])
 rw [← hPost]
 clear hc hl h hnc hnl hPost
 go_enter Try.func70, Try.ntmps70
 go_wp2
 go_loopw [5] (fun v5 wr => ∃ (i m : Nat), wr = w.drewN m ∧ v5 = .int .i64 i ∧ zb (i ≤ nl ∧ ∀ j, j < i → hasP cs (zw l (j : Int)) = true)) (fun v5 _ => nl - (intOf v5).toNat)
 case atStart => exact ⟨0, 0, rfl, rfl, ⟨Nat.zero_le _, fun j hj => absurd hj (by omega)⟩⟩
 case round =>
  obtain ⟨i, m, rfl, rfl, hi⟩ := hrel
  by_cases hlt : (i : Int) < (nl : Int)
  ·have HLI := zb.mk (show i < nl by omega)
   have en := yx (i := i) (n := nl) (by omega) HM.out.2
   have i0 : (0 : Int) ≤ (i : Int) := by omega
   obtain ⟨ad, rfl, z0, z1⟩ := yK HL.out (i : Int) i0 (by have := HLI.out; have := HNL.out; omega)
   rw [Int.toNat_natCast] at z0 z1
   obtain ⟨p, hp⟩ : ∃ p, p = zw l (i : Int) := ⟨_, rfl⟩
   have HPP := zb.mk hp
   rw [← hp] at z0 z1
   clear hp
   have EW := zb.mk (show wrap64 ((nc : Int) - 1) = (nc : Int) - 1 by have := HM.out.1; unfold wrap64; omega)
   have FAIL := zb.mk (show hasP cs p = false → r = false from fun h => by rw [← HH.out]; exact xY (by rw [← HNL.out]; exact HLI.out) (by rw [← HPP.out]; exact h))
   obtain ⟨a, ha⟩ : ∃ q, inB p.f0 0 (wrap64 ((nc : Int) - 1)) = q := ⟨_, rfl⟩
   have HA := zb.mk ha
   cases a
   ·have hf := FAIL.out (has_out (by rw [← HNC.out]; intro hq; rw [EW.out] at ha; rw [xo.2 ⟨hq.1, by omega⟩] at ha; cases ha))
    subst hf
    clear ha
    go_upto_region 4 with (fail)
    go_quiet (first | (go_at_call 59; with_reducible refine (yU _ _ _ _ _ HA.out).mono (fun e w' h => ⟨h.1, _, h.2⟩)))
    go_wp2
    (try refine bodyPost_ret (results_tmp rfl _ _ _) rfl ?_)
    rw [HP.out]
    exact ⟨rfl, zj (Below.refl _ _) _⟩
   ·have hq := inB_ok'.1 ha
    rw [EW.out] at hq
    clear ha
    have p0 : 0 ≤ p.f0 := hq.1
    have p1 : p.f0 < (nc : Int) := by omega
    obtain ⟨ac, rfl, y0⟩ := Kd.at_int HC.out p.f0 p0 (by have := HNC.out; omega)
    obtain ⟨x, hx⟩ : ∃ x, x = rd cs p.f0 := ⟨_, rfl⟩
    have HX := zb.mk hx
    rw [← hx] at y0
    have HE := zb.mk (show hasP cs p = decide (x = p.f1) by unfold hasP; rw [decide_eq_true p0, decide_eq_true (show p.f0 < (cs.length : Int) by rw [← HNC.out]; exact p1), hx]; rfl)
    clear hx hq
    by_cases xe : x = p.f1
    ·go_upto_region 4 with (fail)
     go_quiet (first | (go_at_call 59; with_reducible refine (yU _ _ _ _ _ HA.out).mono (fun e w' h => ⟨h.1, _, h.2⟩)))
     go_wp2
     go_roundw
     case rel => exact ⟨i + 1, _, by first | rfl | exact (World.drewN_drewN _ _ _), by first | rw [en] | rfl | simp, ⟨HLI.out, fun j hj => by
      by_cases e : j = i
      ·rw [e, ← HPP.out, HE.out]; exact decide_eq_true xe
      ·exact hi.out.2 j (by omega)⟩⟩
     case measure => (try rw [en]); have := HLI.out; simp [intOf]; omega
    ·have hf := FAIL.out (by rw [HE.out]; exact decide_eq_false xe)
     subst hf
     go_upto_region 4 with (fail)
     go_quiet (first | (go_at_call 59; with_reducible refine (yU _ _ _ _ _ HA.out).mono (fun e w' h => ⟨h.1, _, h.2⟩)))
     go_wp2
     (try refine bodyPost_ret (results_tmp rfl _ _ _) rfl ?_)
     rw [HP.out]
     exact ⟨rfl, zj (Below.refl _ _) _⟩
  ·have HE := zb.mk (show r = true by rw [← HH.out]; exact xF (fun j hj => hi.out.2 j (by rw [← HNL.out] at hj; omega)))
   go_wp2
   (try refine bodyPost_ret (results_tmp rfl _ _ _) rfl ?_)
   rw [HP.out]
   exact ⟨by rw [HE.out], zj (Below.refl _ _) _⟩
theorem place_q (a b : Int) (r : Bool) (w : World) (h : yj.f a b = some r) : Calls Try.prog 100 #[.int .i64 a, .int .i64 b] w fun e w' => e = .returned (.bool r) ∧ ∃ n, w' = w.drewN n :=
 (yj.calls a b r w h).mono (fun _ _ h => ⟨h.1, h.2.out⟩)
set_option maxHeartbeats 4000000 in
set_option maxRecDepth 100000 in
theorem hasAll_calls (A : Option Addr) (cs : List Int) (c : Nat) (B : Option Addr) (l : List S45) (d : Nat) (r : Bool) (w : World) (hc : Kd.C (Kd.int .i64) w A cs.length cs) (hl : Kd.C k45 w B l.length l) (h : hasF cs l = r) :
  Calls Try.prog 73 #[.slice A cs.length c, .slice B l.length d] w fun e w' => e = .returned (.bool r) ∧ Below w.heap.size w w' := by
 have hu := Try.underlying45
 have HC := zb.mk hc
 have HL := zb.mk hl
 have HM := zb.mk (And.intro hc.2.1 hl.2.1)
 have HH := zb.mk h
 obtain ⟨nc, hnc⟩ : ∃ n, n = cs.length := ⟨_, rfl⟩
 obtain ⟨nl, hnl⟩ : ∃ n, n = l.length := ⟨_, rfl⟩
 have HNC := zb.mk hnc
 have HNL := zb.mk hnl
 rw [← hnc, ← hnl] at HM ⊢
 obtain ⟨Post, hPost⟩ : ∃ P, P = fun (e : Ending) (w' : World) => e = .returned (.bool r) ∧ Below w.heap.size w w' := ⟨_, rfl⟩
 have HP := zb.mk (show ∀ e w', Post e w' ↔ (e = .returned (.bool r) ∧ Below w.heap.size w w') from fun _ _ => by rw [hPost])
 rw [← hPost]
 clear hc hl h hnc hnl hPost
 go_enter Try.func73, Try.ntmps73
 go_wp2
 go_loopw [9] (fun v9 wr => ∃ (V : World) (i : Nat), V = wr ∧ v9 = .int .i64 i ∧ zb (i ≤ nl ∧ ∀ j, j < i → hasP cs (zw l (j : Int)) = true) ∧ zb (Below w.heap.size w V)) (fun v9 _ => nl - (intOf v9).toNat)
 case atStart => exact ⟨w, 0, rfl, rfl, ⟨Nat.zero_le _, fun j hj => absurd hj (by omega)⟩, ⟨Below.refl _ _⟩⟩
 case round =>
  obtain ⟨V, i, hV, rfl, hi, HB⟩ := hrel
  rw [← hV]
  clear hV
  by_cases hlt : (i : Int) < (nl : Int)
  ·have HLI := zb.mk (show i < nl by omega)
   have en := yx (i := i) (n := nl) (by omega) HM.out.2
   have i0 : (0 : Int) ≤ (i : Int) := by omega
   obtain ⟨ad, rfl, z0, z1⟩ := yK (Kd.zt HL.out HB.out) (i : Int) i0 (by have := HLI.out; have := HNL.out; omega)
   rw [Int.toNat_natCast] at z0 z1
   obtain ⟨p, hp⟩ : ∃ p, p = zw l (i : Int) := ⟨_, rfl⟩
   have HPP := zb.mk hp
   rw [← hp] at z0 z1
   clear hp
   have FAIL := zb.mk (show hasP cs p = false → r = false from fun h => by rw [← HH.out]; exact xY (by rw [← HNL.out]; exact HLI.out) (by rw [← HPP.out]; exact h))
   go_upto_region 4 with (fail)
   obtain ⟨X, hX⟩ : ∃ X, X = V.alloc (.cells #[.int .i64 p.f0, .int .i64 p.f1] 45) := ⟨_, rfl⟩
   have HBX := zb.mk (show Below w.heap.size w X by rw [hX]; exact zc HB.out _)
   have EX := zb.mk (show X.heap[V.heap.size]? = some (.cells #[.int .i64 p.f0, .int .i64 p.f1] 45 (0, 0)) by rw [hX]; exact heap_alloc_new _ _)
   rw [← hX]
   clear hX z0 z1 HB
   have x0 := (zd EX.out 0).trans rfl
   have x1 := (zd EX.out 1).trans rfl
   by_cases hin : 0 ≤ p.f0 ∧ p.f0 < (nc : Int)
   ·obtain ⟨p0, p1⟩ := hin
    have HIP := zb.mk (show yj.f p.f0 (nc : Int) = some true by unfold yj.f; rw [if_pos p0, decide_eq_true p1])
    obtain ⟨ac, rfl, y0⟩ := Kd.at_int HC.out p.f0 p0 (by have := HNC.out; omega)
    have y0 := za HBX.out y0
    obtain ⟨x, hx⟩ : ∃ x, x = rd cs p.f0 := ⟨_, rfl⟩
    rw [← hx] at y0
    have HE := zb.mk (show hasP cs p = decide (x = p.f1) by unfold hasP; rw [decide_eq_true p0, decide_eq_true (show p.f0 < (cs.length : Int) by rw [← HNC.out]; exact p1), hx]; rfl)
    clear hx
    by_cases xe : x = p.f1
    ·go_quiet (first | (go_at_call 100; with_reducible refine (place_q _ _ _ _ HIP.out).mono (fun e w' h => ⟨h.1, h.2.elim fun m e => ⟨_, e.trans (World.drewN_drewN ..)⟩⟩)))
     go_wp2
     go_roundw
     case rel => exact ⟨_, i + 1, rfl, by first | rw [en] | rfl | simp, ⟨HLI.out, fun j hj => by
      by_cases e : j = i
      ·rw [e, ← HPP.out, HE.out]; exact decide_eq_true xe
      ·exact hi.out.2 j (by omega)⟩, ⟨by first | exact zj HBX.out _ | exact HBX.out⟩⟩
     case measure => (try rw [en]); have := HLI.out; simp [intOf]; omega
    ·have hf := FAIL.out (by rw [HE.out]; exact decide_eq_false xe)
     subst hf
     go_quiet (first | (go_at_call 100; with_reducible refine (place_q _ _ _ _ HIP.out).mono (fun e w' h => ⟨h.1, h.2.elim fun m e => ⟨_, e.trans (World.drewN_drewN ..)⟩⟩)))
     go_wp2
     (try refine bodyPost_ret (results_tmp rfl _ _ _) rfl ?_)
     rw [HP.out]
     exact ⟨rfl, zj HBX.out _⟩
   ·have HIP := zb.mk (show yj.f p.f0 (nc : Int) = some false by
     unfold yj.f
     by_cases c2 : 0 ≤ p.f0
     ·rw [if_pos c2, decide_eq_false (fun h => hin ⟨c2, h⟩)]
     ·rw [if_neg c2])
    have hf := FAIL.out (has_out (by rw [← HNC.out]; exact hin))
    subst hf
    clear hin
    go_quiet (first | (go_at_call 100; with_reducible refine (place_q _ _ _ _ HIP.out).mono (fun e w' h => ⟨h.1, h.2.elim fun m e => ⟨_, e.trans (World.drewN_drewN ..)⟩⟩)))
    go_wp2
    (try refine bodyPost_ret (results_tmp rfl _ _ _) rfl ?_)
    rw [HP.out]
    exact ⟨rfl, zj HBX.out _⟩
  ·have HE := zb.mk (show r = true by rw [← HH.out]; exact xF (fun j hj => hi.out.2 j (by rw [← HNL.out] at hj; omega)))
   go_wp2
   (try refine bodyPost_ret (results_tmp rfl _ _ _) rfl ?_)
   rw [HP.out]
   exact ⟨by rw [HE.out], HB.out⟩
def xp (c : List Int) (l : List S45) : List Int := l.foldl putL c
theorem putsF_len (l : List S45) : ∀ c : List Int, (xp c l).length = c.length := by
 induction l with
 | nil => intro c; rfl
 | cons p l ih => intro c; show (xp (putL c p) l).length = _; rw [ih, putL_len]
set_option maxHeartbeats 4000000 in
set_option maxRecDepth 100000 in
theorem puts13_calls (A : Option Addr) (cs : List Int) (c : Nat) (B : Option Addr) (l : List S45) (d : Nat) (w : World) (hc : Kd.C (Kd.int .i64) w A cs.length cs) (hn : cs.length ≤ 1000000000) (hl : Kd.C k45 w B l.length l) :
  Calls Try.prog 71 #[.slice A cs.length c, .slice B l.length d] w fun e w' => ∃ v, e = .returned v ∧ Kd.R (Kd.int .i64) 3 w' w.heap.size (fun _ => True) v (xp cs l) ∧ Below w.heap.size w w' := by
 have HC := zb.mk hc
 have HL := zb.mk hl
 have HM := zb.mk (And.intro hn hl.2.1)
 obtain ⟨nc, hnc⟩ : ∃ n, n = cs.length := ⟨_, rfl⟩
 obtain ⟨nl, hnl⟩ : ∃ n, n = l.length := ⟨_, rfl⟩
 have HNC := zb.mk hnc
 have HNL := zb.mk hnl
 rw [← hnl] at HM ⊢
 rw [← hnc] at HM ⊢
 obtain ⟨Post, hPost⟩ : ∃ P, P = fun (e : Ending) (w' : World) => ∃ v, e = .returned v ∧ Kd.R (Kd.int .i64) 3 w' w.heap.size (fun _ => True) v (xp cs l) ∧ Below w.heap.size w w' := ⟨_, rfl⟩
 have HP := zb.mk hPost
 rw [← hPost]
 clear hc hl hn hnc hnl hPost
 go_enter Try.func71, Try.ntmps71
 go_upto_region 2 with ((with_reducible refine zG (b := .append) (xs := #[.tmp 7, .tmp 8]) rfl ?_); at_builtin; refine Kd.yT (Kd.int .i64) (w0 := w) w.heap.size rfl (.tmp 7) (.tmp 8) 29 3 (.int .i64 0) 8 rfl Try.underlying29 (by kernel_rfl) rfl (by decide) (by decide) (.slice (some ⟨w.heap.size, 0, none⟩) 0 0) [] cs A nc c (fun _ => True) (fun _ => False) rfl rfl (xI (heap_alloc_new _ _) (Nat.le_refl _) trivial) (by rw [HNC.out]; exact Kd.zt HC.out (zc (Below.refl _ _) _)) (fun _ _ h => h) (fun _ h => h.elim) (fun _ _ => trivial) (zc (Below.refl _ _) _) (by simp) (by have := HM.out.1; simp; omega) ?_; intro va wa hra hba hga hata; obtain ⟨A2, n2, c2, rfl⟩ := R_shape1 hra; have HRa := zb.mk (show Kd.R (Kd.int .i64) 3 wa w.heap.size (fun _ => True) (.slice A2 n2 c2) (xp cs (l.take 0)) from hra); have HBa := zb.mk hba; clear hra hba hga hata)
 go_wp2
 go_loopw [6] (fun v6 wr => ∃ (V : World) (i : Nat), V = wr ∧ v6 = .int .i64 i ∧ zb (i ≤ nl) ∧ zb (Kd.R (Kd.int .i64) 3 V w.heap.size (fun _ => True) (.slice A2 n2 c2) (xp cs (l.take i))) ∧ zb (Below w.heap.size w V)) (fun v6 _ => nl - (intOf v6).toNat)
 case atStart => exact ⟨wa, 0, rfl, rfl, ⟨Nat.zero_le _⟩, HRa, HBa⟩
 case round =>
  clear HRa HBa
  obtain ⟨V, i, hV, rfl, hi, HR, HBV⟩ := hrel
  rw [← hV]
  clear hV
  by_cases hlt : (i : Int) < (nl : Int)
  ·have HLI := zb.mk (show i < nl by omega)
   have en := yx (i := i) (n := nl) (by omega) HM.out.2
   have i0 : (0 : Int) ≤ (i : Int) := by omega
   obtain ⟨ad, rfl, z0, z1⟩ := yK HL.out (i : Int) i0 (by have := HLI.out; have := HNL.out; omega)
   rw [Int.toNat_natCast] at z0 z1
   obtain ⟨p, hp⟩ : ∃ p, p = zw l (i : Int) := ⟨_, rfl⟩
   have HST := zb.mk (show xp cs (l.take (i + 1)) = putL (xp cs (l.take i)) p by
    have h : i < l.length := by have := HLI.out; have := HNL.out; omega
    have h2 := putAll_step cs l i p (by rw [hp]; unfold zw; rw [Int.toNat_natCast, List.getD_eq_getElem?_getD, List.getElem?_eq_getElem h]; rfl)
    exact h2)
   rw [← hp] at z0 z1
   clear hp
   have HZ := zb.mk (And.intro z0 z1)
   have HN2 := zb.mk (show n2 = nc by rw [(Kd.zH HR.out).1, putsF_len, HNC.out])
   have x0 := za HBV.out z0
   have EW := zb.mk (show wrap64 ((n2 : Int) - 1) = (n2 : Int) - 1 by have := HM.out.1; have := HN2.out; unfold wrap64; omega)
   obtain ⟨a, ha⟩ : ∃ q, inB p.f0 0 (wrap64 ((n2 : Int) - 1)) = q := ⟨_, rfl⟩
   have HA := zb.mk ha
   clear z0 z1
   cases a
   ·have HS2 := zb.mk (show putL (xp cs (l.take i)) p = xp cs (l.take i) by
     unfold putL
     rw [if_neg]
     intro hq
     rw [putsF_len, ← HNC.out, ← HN2.out] at hq
     rw [EW.out, xo.2 ⟨hq.1, by omega⟩] at ha
     cases ha)
    clear ha
    go_wp2_with (go_at_call 59; with_reducible refine (yU _ _ _ _ _ HA.out).mono ?_; rintro e w' ⟨rfl, rfl⟩)
    go_roundw
    case rel => exact ⟨_, i + 1, rfl, by first | rw [en] | rfl | simp, ⟨HLI.out⟩, ⟨by rw [HST.out, HS2.out]; exact HR.out⟩, HBV⟩
    case measure => (try rw [en]); have := HLI.out; simp [intOf]; omega
   ·have hq := inB_ok'.1 ha
    rw [EW.out] at hq
    clear ha
    have p0 : 0 ≤ p.f0 := hq.1
    have p1 : p.f0 < (n2 : Int) := by omega
    have HS2 := zb.mk (show putL (xp cs (l.take i)) p = (xp cs (l.take i)).set p.f0.toNat p.f1 by
     unfold putL
     rw [if_pos ⟨p0, by rw [putsF_len, ← HNC.out, ← HN2.out]; exact p1⟩])
    obtain ⟨g, cap, e1, hbg, hglt, cells, hcell⟩ := Kd.xT HR.out (by rw [putsF_len, ← HNC.out, ← HN2.out]; omega)
    obtain ⟨hA2, hc2⟩ : A2 = some ⟨g, 0, none⟩ ∧ c2 = cap := by injection e1 with a b c; exact ⟨a, c⟩
    subst hA2 hc2
    obtain ⟨ce, hcl, hMm, hcc, hfr⟩ := Kd.R_elem HR.out 0 p.f0 p0 p1
    obtain ⟨y, hy⟩ : ∃ y, y = (xp cs (l.take i)).getD p.f0.toNat 0 := ⟨_, rfl⟩
    obtain rfl : ce = [.int .i64 ((xp cs (l.take i)).getD p.f0.toNat 0)] := hMm
    have g1 : V.drew.cell? ⟨g, p.f0.toNat, none⟩ = some (.int .i64 y) := by
     have h1 := hcc 0 _ rfl
     rw [show (Kd.int .i64).sz = 1 from rfl, Nat.mul_one, Nat.add_zero, ← hy] at h1
     exact h1
    have g2 : V.drew.frozen? ⟨g, p.f0.toNat, none⟩ = false := by
     have h1 := hfr 0
     rw [show (Kd.int .i64).sz = 1 from rfl, Nat.mul_one, Nat.add_zero] at h1
     exact h1
    have HBG := zb.mk hbg
    clear e1 hcc hfr hcl hbg hglt hcell hy hq
    go_upto_region 6 with (go_at_call 59; with_reducible refine (yU _ _ _ _ _ HA.out).mono ?_; rintro e w' ⟨rfl, rfl⟩)
    refine yc (n := 13) (S := fun w' => w'.cell? (ad.add (i * 2)) = some (.int .i64 p.f0) ∧ w'.cell? ⟨(ad.add (i * 2)).block, (ad.add (i * 2)).off + 1, none⟩ = some (.int .i64 p.f1)) (ds := [12]) (bm 13 0) (by kernel_rfl) rfl rfl ⟨(za (ze HBV.out) HZ.out.1), (za (ze HBV.out) HZ.out.2)⟩ (fun hHeld => ?_)
    refine zl (i := 0) (N := some 25) (v := ?_) (a' := ?_) (bm 13 1) rfl rfl (by kernel_rfl) (fun _ _ _ h => h) (Or.inl ⟨by rfl, ?_⟩) ?_ ?_
    rotate_left
    ·intro w'
     go_simp
     with_reducible rfl
    rotate_left
    ·simp only [Act.put, List.setIfInBounds_toArray, List.set_cons_zero, List.set_cons_succ, zg, zh]
     rfl
    refine zl (i := 1) (N := some 26) (v := ?_) (a' := ?_) (bm 13 3) rfl rfl (by kernel_rfl) (fun _ _ _ h => h) (Or.inl ⟨by rfl, ?_⟩) ?_ ?_
    rotate_left
    ·intro w'
     go_simp
     with_reducible rfl
    rotate_left
    ·simp only [Act.put, List.setIfInBounds_toArray, List.set_cons_zero, List.set_cons_succ, zg, zh]
     rfl
    refine zl (i := 2) (N := some 27) (v := ?_) (a' := ?_) (bm 13 7) rfl rfl (by kernel_rfl) (fun _ _ _ h => h) (Or.inl ⟨by rfl, ?_⟩) ?_ ?_
    rotate_left
    ·intro w'
     go_simp
     with_reducible rfl
    rotate_left
    ·simp only [Act.put, List.setIfInBounds_toArray, List.set_cons_zero, List.set_cons_succ, zg, zh]
     rfl
    refine zl (i := 3) (N := some 28) (v := ?_) (a' := ?_) (bm 13 15) rfl rfl (by kernel_rfl) (fun _ _ _ h => h) (Or.inl ⟨by rfl, ?_⟩) ?_ ?_
    rotate_left
    ·intro w'
     go_simp
     with_reducible rfl
    rotate_left
    ·simp only [Act.put, List.setIfInBounds_toArray, List.set_cons_zero, List.set_cons_succ, zg, zh]
     rfl
    refine zl (i := 4) (N := some 29) (v := ?_) (a' := ?_) (bm 13 31) rfl rfl (by kernel_rfl) (fun _ _ _ h => h) (Or.inl ⟨by rfl, ?_⟩) ?_ ?_
    rotate_left
    ·intro w'
     go_simp
     with_reducible rfl
    rotate_left
    ·simp only [Act.put, List.setIfInBounds_toArray, List.set_cons_zero, List.set_cons_succ, zg, zh]
     rfl
    refine zl (i := 6) (N := some 31) (v := ?_) (a' := ?_) (bm 13 95) rfl rfl (by kernel_rfl) (fun _ _ _ h => h) (Or.inl ⟨by rfl, ?_⟩) ?_ ?_
    rotate_left
    ·intro w'
     go_simp
     with_reducible rfl
    rotate_left
    ·simp only [Act.put, List.setIfInBounds_toArray, List.set_cons_zero, List.set_cons_succ, zg, zh]
     rfl
    refine zl (i := 7) (N := some 32) (v := ?_) (a' := ?_) (bm 13 223) rfl rfl (by kernel_rfl) (fun _ _ _ h => h) (Or.inl ⟨by rfl, ?_⟩) ?_ ?_
    rotate_left
    ·intro w'
     go_simp
     with_reducible rfl
    rotate_left
    ·simp only [Act.put, List.setIfInBounds_toArray, List.set_cons_zero, List.set_cons_succ, zg, zh]
     rfl
    refine zl (i := 8) (N := some 33) (v := ?_) (a' := ?_) (bm 13 479) rfl rfl (by kernel_rfl) (fun _ _ _ h => h) (Or.inl ⟨by rfl, ?_⟩) ?_ ?_
    rotate_left
    ·intro w'
     go_simp
     with_reducible rfl
    rotate_left
    ·simp only [Act.put, List.setIfInBounds_toArray, List.set_cons_zero, List.set_cons_succ, zg, zh]
     rfl
    refine zl (i := 9) (N := some 34) (v := ?_) (a' := ?_) (bm 13 991) rfl rfl (by kernel_rfl) (fun _ _ _ h => h) (Or.inl ⟨by rfl, ?_⟩) ?_ ?_
    rotate_left
    ·intro w'
     go_simp
     with_reducible rfl
    rotate_left
    ·simp only [Act.put, List.setIfInBounds_toArray, List.set_cons_zero, List.set_cons_succ, zg, zh]
     rfl
    refine zA (i := 5) (N := some 30) (v := ?_) (a' := ?_) (bm 13 1023) rfl rfl (by kernel_rfl) (fun _ _ _ h => h) (Or.inl ⟨by rfl, ?_⟩) hHeld ?_ ?_
    rotate_left
    ·rintro w' ⟨s0, s1⟩
     go_simp
     with_reducible rfl
    rotate_left
    ·simp only [Act.put, List.setIfInBounds_toArray, List.set_cons_zero, List.set_cons_succ, zg, zh]
     rfl
    refine zA (i := 10) (N := some 35) (v := ?_) (a' := ?_) (bm 13 2047) rfl rfl (by kernel_rfl) (fun _ _ _ h => h) (Or.inl ⟨by rfl, ?_⟩) hHeld ?_ ?_
    rotate_left
    ·rintro w' ⟨s0, s1⟩
     go_simp
     with_reducible rfl
    rotate_left
    ·simp only [Act.put, List.setIfInBounds_toArray, List.set_cons_zero, List.set_cons_succ, zg, zh]
     rfl
    refine zl (i := 11) (N := some 36) (v := ?_) (a' := ?_) (bm 13 4095) rfl rfl (by kernel_rfl) (fun _ _ _ h => h) (Or.inl ⟨by rfl, ?_⟩) ?_ ?_
    rotate_left
    ·intro w'
     go_simp
     with_reducible rfl
    rotate_left
    ·simp only [Act.put, List.setIfInBounds_toArray, List.set_cons_zero, List.set_cons_succ, zg, zh]
     rfl
    refine yR (i := 12) (N := none) (bm 13 8191) rfl rfl (by kernel_rfl) (by decide) (fun K hK => ?_)
    refine yQ (w1 := ?_) (by rfl) rfl ?_ ?_
    rotate_left
    ·go_simp
     rfl
    refine hK.out _ _ ?_
    clear hK K
    refine yt (by kernel_rfl) ?_
    go_wp2
    go_roundw
    case rel => exact ⟨_, i + 1, rfl, by first | rw [en] | rfl | simp, ⟨HLI.out⟩, ⟨by rw [HST.out, HS2.out]; exact (Kd.R_putg (Kd.ym HR.out) p.f0 p.f1).1⟩, ⟨zv (ze HBV.out) HBG.out⟩⟩
    case measure => (try rw [en]); have := HLI.out; simp [intOf]; omega
  ·have HE := zb.mk (show l.take i = l from List.take_of_length_le (by have := HNL.out; omega))
   go_wp2
   (try refine bodyPost_ret (results_tmp rfl _ _ _) rfl ?_)
   rw [HP.out]
   have h := HR.out
   rw [HE.out] at h
   exact ⟨_, rfl, h, HBV.out⟩
end Go.Proofs.Ytppapibjbjmmbaa.QSY
set_option linter.unusedVariables false
set_option linter.unusedSimpArgs false
namespace Go.Proofs.Ytppapibjbjmmbaa.QSY
open Go.RowKit Go.Proofs.YtppapibjbjmmbaaW.PrintWords Go.Proofs.YtppapibjbjmmbaaW.PrintLast Go.Proofs.YtppapibjbjmmbaaW.PrintMore
def yg : List Int → List S50 → Option (List Int)
 | c, [] => some c
 | c, e :: l => if hasF c e.f3 = true then yg (xp c e.f4) l else none
theorem replay_append : ∀ (a b : List S50) (c : List Int), yg c (a ++ b) = (yg c a).bind (fun c' => yg c' b)
 | [], b, c => rfl
 | e :: a, b, c => by
  have h1 : yg c (e :: a ++ b) = if hasF c e.f3 = true then yg (xp c e.f4) (a ++ b) else none := rfl
  have h2 : yg c (e :: a) = if hasF c e.f3 = true then yg (xp c e.f4) a else none := rfl
  rw [h1, h2]
  by_cases h : hasF c e.f3 = true
  ·rw [if_pos h, if_pos h]; exact replay_append a b _
  ·rw [if_neg h, if_neg h]; rfl
theorem replay_len : ∀ (l : List S50) (c r : List Int), yg c l = some r → r.length = c.length
 | [], c, r, h => by injection h with h; rw [h]
 | e :: l, c, r, h => by
  unfold yg at h
  by_cases q : hasF c e.f3 = true
  ·rw [if_pos q] at h; rw [replay_len l _ _ h, putsF_len]
  ·rw [if_neg q] at h; cases h
theorem replay_next {L : List S50} {i : Nat} {cs c : List Int} (hi : i < L.length) (h : yg cs (L.take i) = some c) :
  yg cs (L.take (i + 1)) = if hasF c (yu L (i : Int)).f3 = true then some (xp c (yu L (i : Int)).f4) else none := by
 rw [List.take_succ_eq_append_getElem hi, replay_append, h]
 have e : yu L (i : Int) = L[i] := by unfold yu; rw [Int.toNat_natCast, List.getD_eq_getElem?_getD, List.getElem?_eq_getElem hi]; rfl
 rw [e]
 show yg c [L[i]] = _
 unfold yg
 split <;> rfl
theorem replay_none {L : List S50} {i : Nat} {cs : List Int} (h : yg cs (L.take i) = none) : yg cs L = none := by
 rw [← List.take_append_drop i L, replay_append, h]; rfl
def Replayed (w : World) (cs : List Int) (L : List S50) (e : Ending) (w' : World) : Prop := ∃ v, e = .returned (.tuple #[v, .bool (yg cs L).isSome]) ∧ Kd.R (Kd.int .i64) 3 w' w.heap.size (fun _ => True) v ((yg cs L).getD []) ∧ Below w.heap.size w w'
theorem heapPut : Kd.Heap k45 := by unfold k45; exact Kd.heap_iso _ (Kd.heap_pair (Kd.heap_int _) (Kd.heap_int _))
theorem clone_info : (Try.prog.info? 3).map (fun i => (i.zero, i.size, i.bytes)) = some (some (.int .i64 0), 1, 8) := by kernel_rfl
set_option maxHeartbeats 2000000 in
set_option maxRecDepth 100000 in
theorem clone_calls (A0 : Option Addr) (c0 : Nat) (l0 : List Int) (w : World) (hr0 : Kd.C (Kd.int .i64) w A0 l0.length l0) (hlen : l0.length ≤ 17592186044416) :
  Calls Try.prog 72 #[.slice A0 l0.length c0] w fun e w' => ∃ v0_ : Value, e = .returned (v0_) ∧ Kd.R (Kd.int .i64) 3 w' w.heap.size (fun _ => True) v0_ l0 ∧ Below w.heap.size w w' := by
 have q_ := fun (w : World) (a : Option Addr) (n c n' c' : Nat) => Lib.run_eql_slice_nil (P := Try.prog) w 29 3 a n c n' c' Try.underlying29
 have HR := zb.mk hr0
 have HL := zb.mk hlen
 clear hr0 hlen
 rcases A0 with _ | ad
 ·obtain rfl : l0 = [] := by
   rcases Nat.eq_zero_or_pos l0.length with h0 | h0
   ·exact List.eq_nil_of_length_eq_zero h0
   ·obtain ⟨ad, h, _⟩ := HR.out.2.2 h0
    cases h
  go_enter Try.func72, Try.ntmps72
  go_wp2
  go_ret
  exact ⟨_, rfl, Kd.R_nil _ _ _ _ _, Below.refl _ _⟩
 ·go_enter Try.func72, Try.ntmps72
  go_wp2_with (at_builtin; refine Kd.yT (Rr := Kd.K (Kd.int .i64) w) (w0 := w) (Kd.int .i64) w.heap.size rfl _ _ 29 3 (.int .i64 0) 8 rfl Try.underlying29 clone_info rfl (by decide) (by decide) _ [] l0 (some ad) l0.length c0 (fun _ => True) (fun _ => False) rfl rfl ?q1 ?q2 ?q3 ?q4 ?q5 ?q6 ?q7 ?q8 ?_)
  case q1 => exact ⟨fun _ _ => trivial, [], World.ownsRow_made w #[] 0 (Nat.le_refl _) (Nat.zero_le _) (by simp), yh.none _ _⟩
  case q2 => exact yr.imp_ HR.out (zc (Below.refl _ _) _) (fun _ _ h => h)
  case q3 => intro x cs h; exact h
  case q4 => exact fun _ hk => hk.elim
  case q5 => exact fun _ _ => trivial
  case q6 => exact zc (Below.refl _ _) _
  case q7 => exact (zc (Below.refl w.heap.size w) _).size
  case q8 =>
   have := HL.out
   simp only [List.length_nil]
   omega
  intro v1 w1 hR hB hg hat
  go_wp2
  go_ret
  exact ⟨v1, rfl, hR, hB⟩
set_option maxHeartbeats 8000000 in
set_option maxRecDepth 100000 in
theorem specReplay_calls (A : Option Addr) (cs : List Int) (c : Nat) (B : Option Addr) (L : List S50) (d : Nat) (w : World) (hc : Kd.C (Kd.int .i64) w A cs.length cs) (hn : cs.length ≤ 1000000000) (hl : Kd.C k50 w B L.length L) :
  Calls Try.prog 33 #[.slice A cs.length c, .slice B L.length d] w (Replayed w cs L) := by
 have hue := Try.underlying50
 have HC := zb.mk hc
 have HL := zb.mk hl
 have HM := zb.mk (And.intro hn hl.2.1)
 obtain ⟨nc, hnc⟩ : ∃ n, n = cs.length := ⟨_, rfl⟩
 obtain ⟨nl, hnl⟩ : ∃ n, n = L.length := ⟨_, rfl⟩
 have HNC := zb.mk hnc
 have HNL := zb.mk hnl
 rw [← hnl] at HM ⊢
 rw [← hnc] at HM ⊢
 obtain ⟨Post, hPost⟩ : ∃ P, P = Replayed w cs L := ⟨_, rfl⟩
 have HP := zb.mk hPost
 rw [← hPost]
 clear hc hl hn hnc hnl hPost
 go_enter Try.func33, Try.ntmps33
 go_upto_region 2 with ((with_reducible refine zG (b := .append) (xs := #[.tmp 8, .tmp 9]) rfl ?_); at_builtin; refine Kd.yT (Kd.int .i64) (w0 := w) w.heap.size rfl (.tmp 8) (.tmp 9) 29 3 (.int .i64 0) 8 rfl Try.underlying29 clone_info rfl (by decide) (by decide) (.slice (some ⟨w.heap.size, 0, none⟩) 0 0) [] cs A nc c (fun _ => True) (fun _ => False) rfl rfl (xI (heap_alloc_new _ _) (Nat.le_refl _) trivial) (by rw [HNC.out]; exact Kd.zt HC.out (zc (Below.refl _ _) _)) (fun _ _ h => h) (fun _ h => h.elim) (fun _ _ => trivial) (zc (Below.refl _ _) _) (by simp) (by have := HM.out.1; simp; omega) ?_; intro va wa hra hba hga hata; obtain ⟨A2, n2, c2, rfl⟩ := R_shape1 hra; have HRa := zb.mk (show Kd.R (Kd.int .i64) 3 wa w.heap.size (fun _ => True) (.slice A2 n2 c2) cs from hra); have HBa := zb.mk hba; clear hra hba hga hata)
 go_wp2
 go_loopw [6, 7] (fun v6 v7 wr => ∃ (V : World) (i : Nat) (A2 : Option Addr) (n2 c2 : Nat) (now : List Int), V = wr ∧ v6 = .slice A2 n2 c2 ∧ v7 = .int .i64 i ∧ zb (i ≤ nl ∧ yg cs (L.take i) = some now) ∧ zb (Kd.R (Kd.int .i64) 3 V w.heap.size (fun _ => True) (.slice A2 n2 c2) now) ∧ zb (Below w.heap.size w V)) (fun _ v7 _ => nl - (intOf v7).toNat)
 case atStart => exact ⟨wa, 0, A2, n2, c2, cs, rfl, rfl, rfl, ⟨Nat.zero_le _, rfl⟩, HRa, HBa⟩
 case round =>
  clear HRa HBa
  obtain ⟨V, i, A2, n2, c2, now, hV, rfl, rfl, hi, HR, HBV⟩ := hrel
  rw [← hV]
  clear hV
  by_cases hlt : (i : Int) < (nl : Int)
  ·have HLI := zb.mk (show i < nl by omega)
   have en := yx (i := i) (n := nl) (by omega) HM.out.2
   have i0 : (0 : Int) ≤ (i : Int) := by omega
   obtain ⟨ad, A3, c3, A4, c4, rfl, z0, z1, z2, z3, z4, z5, l3, g3, l4, g4⟩ := at_T50 HL.out (i : Int) i0 (by have := HLI.out; have := HNL.out; omega)
   rw [Int.toNat_natCast] at z0 z1 z2 z3 z4 z5
   have HNX := zb.mk (replay_next (cs := cs) (by have := HLI.out; have := HNL.out; omega) hi.out.2)
   obtain ⟨x, hx⟩ : ∃ x, x = yu L (i : Int) := ⟨_, rfl⟩
   rw [← hx] at z3 z4 l3 g3 l4 g4 HNX
   have HG3 := zb.mk g3
   have HG4 := zb.mk g4
   have HZ := zb.mk (And.intro z3 z4)
   have HNN := zb.mk (show now.length ≤ 1000000000 by have h1 := replay_len _ _ _ hi.out.2; have := HM.out.1; have := HNC.out; omega)
   have y3 := za HBV.out z3
   obtain ⟨hn2, hc2, C2⟩ := Kd.zH HR.out
   have HN2 := zb.mk hn2
   have HC2 := zb.mk C2
   obtain ⟨q, hq⟩ : ∃ q, hasF now x.f3 = q := ⟨_, rfl⟩
   have KH := zb.mk (has_calls A2 now c2 A3 x.f3 c3 q V C2 (Kd.zt g3 HBV.out) hq)
   rw [← hn2] at KH
   have HQ := zb.mk hq
   clear hx z0 z1 z2 z3 z4 z5 l3 g3 l4 g4 hn2 hc2 C2 hq
   cases q
   ·have HF := zb.mk (show yg cs L = none from replay_none (by rw [HNX.out, HQ.out]; rfl))
    go_wp2_with (go_at_call 70; refine KH.out.mono ?_; rintro e w1 ⟨rfl, hb⟩; have HB1 := zb.mk (zi HBV.out hb); clear hb)
    rw [HP.out]
    refine ⟨_, by rw [HF.out]; rfl, ?_, zc HB1.out _⟩
    rw [HF.out]
    exact xI (heap_alloc_new _ _) HB1.out.size trivial
   ·go_upto_region 7 with (go_at_call 70; refine KH.out.mono ?_; rintro e w1 ⟨rfl, hb⟩; have HB1 := zb.mk hb; clear hb)
    have HBW := zb.mk (zi HBV.out HB1.out)
    have KP := zb.mk (puts13_calls A2 now c2 A4 x.f4 c4 w1 (Kd.zt HC2.out HB1.out) HNN.out (Kd.zt HG4.out HBW.out))
    rw [← HN2.out] at KP
    clear y3
    have y4 := za HBW.out HZ.out.2
    go_wp2_with (go_at_call 71; refine KP.out.mono ?_; rintro e w2 ⟨v2, rfl, hr, hb⟩; obtain ⟨A5, n5, c5, rfl⟩ := R_shape1 hr; have HR2 := zb.mk (Kd.zP hr HBW.out.size); have HB2 := zb.mk (zi HBW.out hb); clear hr hb)
    go_roundw
    case rel => exact ⟨_, i + 1, A5, n5, c5, _, rfl, rfl, by first | rw [en] | rfl | simp, ⟨HLI.out, by rw [HNX.out, HQ.out]; rfl⟩, HR2, HB2⟩
    case measure => (try rw [en]); have := HLI.out; simp [intOf]; omega
  ·have HE := zb.mk (show yg cs L = some now by
    have h := hi.out.2
    rwa [List.take_of_length_le (show L.length ≤ i by have := HNL.out; omega)] at h)
   go_wp2
   rw [HP.out]
   exact ⟨_, by rw [HE.out]; rfl, by rw [HE.out]; exact HR.out, HBV.out⟩
set_option maxHeartbeats 8000000 in
set_option maxRecDepth 100000 in
theorem implReplay_calls (A : Option Addr) (cs : List Int) (c : Nat) (B : Option Addr) (L : List S50) (d : Nat) (w : World) (hc : Kd.C (Kd.int .i64) w A cs.length cs) (hn : cs.length ≤ 1000000000) (hl : Kd.C k50 w B L.length L) :
  Calls Try.prog 34 #[.slice A cs.length c, .slice B L.length d] w (Replayed w cs L) := by
 have hue := Try.underlying50
 have HC := zb.mk hc
 have HL := zb.mk hl
 have HM := zb.mk (And.intro hn hl.2.1)
 have KC := zb.mk (clone_calls A c cs w hc (by omega))
 obtain ⟨nc, hnc⟩ : ∃ n, n = cs.length := ⟨_, rfl⟩
 obtain ⟨nl, hnl⟩ : ∃ n, n = L.length := ⟨_, rfl⟩
 have HNC := zb.mk hnc
 have HNL := zb.mk hnl
 rw [← hnl] at HM ⊢
 rw [← hnc] at HM KC ⊢
 obtain ⟨Post, hPost⟩ : ∃ P, P = Replayed w cs L := ⟨_, rfl⟩
 have HP := zb.mk hPost
 rw [← hPost]
 clear hc hl hn hnc hnl hPost
 go_enter Try.func34, Try.ntmps34
 go_upto_region 2 with (go_at_call 72; refine KC.out.mono ?_; rintro e wa ⟨va, rfl, hra, hba⟩; obtain ⟨A2, n2, c2, rfl⟩ := R_shape1 hra; have HRa := zb.mk hra; have HBa := zb.mk hba; clear hra hba)
 go_wp2
 go_loopw [13] (fun v13 wr => ∃ (V : World) (i : Nat) (now : List Int), V = wr ∧ v13 = .int .i64 i ∧ zb (i ≤ nl ∧ yg cs (L.take i) = some now) ∧ zb (Kd.R (Kd.int .i64) 3 V w.heap.size (fun _ => True) (.slice A2 n2 c2) now) ∧ zb (Below w.heap.size w V)) (fun v13 _ => nl - (intOf v13).toNat)
 case atStart => exact ⟨wa, 0, cs, rfl, rfl, ⟨Nat.zero_le _, rfl⟩, HRa, HBa⟩
 case round =>
  clear HRa HBa
  obtain ⟨V, i, now, hV, rfl, hi, HR, HBV⟩ := hrel
  rw [← hV]
  clear hV
  by_cases hlt : (i : Int) < (nl : Int)
  ·have HLI := zb.mk (show i < nl by omega)
   have en := yx (i := i) (n := nl) (by omega) HM.out.2
   have i0 : (0 : Int) ≤ (i : Int) := by omega
   obtain ⟨ad, A3, c3, A4, c4, rfl, z0, z1, z2, z3, z4, z5, l3, g3, l4, g4⟩ := at_T50 HL.out (i : Int) i0 (by have := HLI.out; have := HNL.out; omega)
   rw [Int.toNat_natCast] at z0 z1 z2 z3 z4 z5
   have HNX := zb.mk (replay_next (cs := cs) (by have := HLI.out; have := HNL.out; omega) hi.out.2)
   obtain ⟨x, hx⟩ : ∃ x, x = yu L (i : Int) := ⟨_, rfl⟩
   rw [← hx] at z0 z1 z2 z3 z4 z5 l3 g3 l4 g4 HNX
   have HG3 := zb.mk g3
   have HG4 := zb.mk (And.intro g4 l4)
   have z0 := za HBV.out z0
   have z1 := za HBV.out z1
   have z2 := za HBV.out z2
   have z3 := za HBV.out z3
   have z4 := za HBV.out z4
   have z5 := za HBV.out z5
   clear hx
   go_upto_region 5 with (fail)
   obtain ⟨X, hX⟩ : ∃ X, X = V.alloc (.cells #[.int .i64 x.f0, .int .i64 x.f1, .int .i64 x.f2, .slice A3 x.f3.length c3, .slice A4 x.f4.length c4, .int .i64 x.f5] 50) := ⟨_, rfl⟩
   have HBX := zb.mk (show Below w.heap.size w X by rw [hX]; exact zc HBV.out _)
   have HRX := zb.mk (show Kd.R (Kd.int .i64) 3 X w.heap.size (fun _ => True) (.slice A2 n2 c2) now by rw [hX]; exact Kd.zX HR.out _)
   have EX := zb.mk (show X.heap[V.heap.size]? = some (.cells #[.int .i64 x.f0, .int .i64 x.f1, .int .i64 x.f2, .slice A3 x.f3.length c3, .slice A4 x.f4.length c4, .int .i64 x.f5] 50 (0, 0)) by rw [hX]; exact heap_alloc_new _ _)
   rw [← hX]
   obtain ⟨b8, hb8⟩ : ∃ b, b = V.heap.size := ⟨_, rfl⟩
   rw [← hb8] at EX ⊢
   clear hX hb8 z0 z1 z2 z3 z4 z5 l3 g3 l4 g4 HR HBV
   have y3 := (zd EX.out 3).trans rfl
   obtain ⟨hn2, hc2, C2⟩ := Kd.zH HRX.out
   have HN2 := zb.mk hn2
   obtain ⟨q, hq⟩ : ∃ q, hasF now x.f3 = q := ⟨_, rfl⟩
   have KH := zb.mk (hasAll_calls A2 now c2 A3 x.f3 c3 q X C2 (Kd.zt HG3.out HBX.out) hq)
   rw [← hn2] at KH
   have HQ := zb.mk hq
   clear hn2 hc2 C2 hq
   cases q
   ·have HF := zb.mk (show yg cs L = none from replay_none (by rw [HNX.out, HQ.out]; rfl))
    go_wp2_with (go_at_call 73; refine KH.out.mono ?_; rintro e w1 ⟨rfl, hb⟩; have HB1 := zb.mk (zi HBX.out hb); clear hb)
    rw [HP.out]
    refine ⟨_, by rw [HF.out]; rfl, ?_, HB1.out⟩
    rw [HF.out]
    exact Kd.R_nil _ _ _ _ _
   ·go_upto_region 7 with (go_at_call 73; refine KH.out.mono ?_; rintro e w1 ⟨rfl, hb⟩; have HB1 := zb.mk hb; clear hb)
    have HBW := zb.mk (zi HBX.out HB1.out)
    have HRW := zb.mk (Kd.zN HRX.out HB1.out)
    have EW := zb.mk ((HB1.out.block _ (zo EX.out)).trans EX.out)
    have KP := zb.mk (impl_putAll.calls (fun k => w.heap.size ≤ k) (.slice A2 n2 c2) now A4 c4 x.f4 (xp now x.f4) w w1 HBW.out (Kd.zT (Kd.yI HRW.out) (fun k hk => hk.2.1)) (Kd.C_kept_came heapPut HG4.out.1 HBW.out (fun _ hk => hk)) HG4.out.2 rfl)
    clear y3
    have y4 := (zd EW.out 4).trans rfl
    go_wp2_with (go_at_call 74; refine KP.out.mono ?_; rintro e w2 ⟨rfl, hr, hb, hk⟩; have HR2 := zb.mk (Kd.zT hr (fun _ _ => trivial)); have HB2 := zb.mk hb; clear hr hb hk)
    go_roundw
    case rel => exact ⟨_, i + 1, _, rfl, by first | rw [en] | rfl | simp, ⟨HLI.out, by rw [HNX.out, HQ.out]; rfl⟩, HR2, HB2⟩
    case measure => (try rw [en]); have := HLI.out; simp [intOf]; omega
  ·have HE := zb.mk (show yg cs L = some now by
    have h := hi.out.2
    rwa [List.take_of_length_le (show L.length ≤ i by have := HNL.out; omega)] at h)
   go_wp2
   rw [HP.out]
   exact ⟨_, by rw [HE.out]; rfl, by rw [HE.out]; exact HR.out, HBV.out⟩
end Go.Proofs.Ytppapibjbjmmbaa.QSY
set_option linter.unusedVariables false
set_option linter.unusedSimpArgs false
namespace Go.Proofs.Ytppapibjbjmmbaa.QSY
open Go.RowKit Go.Proofs.YtppapibjbjmmbaaW.PrintWords Go.Proofs.YtppapibjbjmmbaaW.PrintLast Go.Proofs.YtppapibjbjmmbaaW.PrintMore
def xq (c : S33) (k since : Int) : Bool := (decide (0 ≤ c.f2) && c.f2 != k) || decide (since < c.f1)
set_option maxHeartbeats 2000000 in
set_option maxRecDepth 100000 in
theorem blind_calls {w0 w : World} {g : Nat} {vp0 vp1 : Value} {σ : St} (k cell : Int) (h : zS w0 w g vp0 vp1 σ) (h0 : 0 ≤ k) (h1 : k < σ.T.length) (hc0 : 0 ≤ cell) (hc1 : cell < σ.C.length) :
  Calls Try.prog 141 #[.pointer (some ⟨g, 0, none⟩), .int .i64 k, .int .i64 cell] w fun e w' => e = .returned (.bool (xq (cg σ.C cell) k (σ.t k).f7)) ∧ Below w.heap.size w w' := by
 have H1 := zb.mk h1
 clear h1
 obtain ⟨gT, cap, T, vC, vL, A3, c3, A8, c8, A9, c9, A10, c10, HR, HE, HT, H1', a3, ⟨k0, k1, k2, k3, k4, k5, k6, k7, k8, k9, k10, k11, k12⟩, hf, HB, HC3, HC8, HC9, HC10⟩ := h.open13 k h0 H1.out
 clear h k0 k1 k2 k3 k4 k5 k6 k8 k9 k10 k11 k12 hf
 obtain ⟨gC, capC, rfl, e0, e1, cc, hcc⟩ := HR.out.cform (by omega)
 obtain ⟨z0, z1, z2, zf⟩ := HR.out.celem cell hc0 hc1
 have a2 := HR.out.c2
 obtain ⟨c, hc⟩ : ∃ c, c = cg σ.C cell := ⟨_, rfl⟩
 rw [← hc] at z0 z1 z2 ⊢
 obtain ⟨s, hs⟩ : ∃ s, s = (σ.t k).f7 := ⟨_, rfl⟩
 rw [← hs] at k7 ⊢
 have hu := Try.underlying33
 have p1 : k < (σ.T.length : Int) := H1.out
 have b1 := HB.out.1
 have bg := HB.out.2.2.2
 clear hc hs zf hcc cc e0
 by_cases qA : 0 ≤ c.f2
 ·have cA : decide (c.f2 ≥ 0) = true := decide_eq_true qA
  have cA' : decide (0 ≤ c.f2) = true := decide_eq_true qA
  by_cases qB : c.f2 = k
  ·have cB : (c.f2 != k) = false := by simp [qB]
   have HBL := zb.mk (show xq c k s = decide (s < c.f1) by unfold xq; rw [cA', cB]; rfl)
   by_cases qC : s < c.f1
   ·have cC : decide (s < c.f1) = true := decide_eq_true qC
    have cC' : decide (c.f1 > s) = true := decide_eq_true qC
    have HBL := zb.mk (HBL.out.trans cC)
    clear qA qB qC
    go_enter Try.func141, Try.ntmps141
    go_wp2
    go_quiet (fail)
    go_wp2
    go_ret
    rw [HBL.out]
    exact ⟨rfl, by first | exact zj (zc (Below.refl _ _) _) _ | exact ze (zc (Below.refl _ _) _)⟩
   ·have cC : decide (s < c.f1) = false := decide_eq_false qC
    have cC' : decide (c.f1 > s) = false := decide_eq_false qC
    have HBL := zb.mk (HBL.out.trans cC)
    clear qA qB qC
    go_enter Try.func141, Try.ntmps141
    go_wp2
    go_quiet (fail)
    go_wp2
    go_ret
    rw [HBL.out]
    exact ⟨rfl, by first | exact zj (zc (Below.refl _ _) _) _ | exact ze (zc (Below.refl _ _) _)⟩
  ·have cB : (c.f2 != k) = true := by simp [qB]
   have HBL := zb.mk (show xq c k s = true by unfold xq; rw [cA', cB]; rfl)
   clear qA qB
   go_enter Try.func141, Try.ntmps141
   go_wp2
   go_quiet (fail)
   go_wp2
   go_ret
   rw [HBL.out]
   exact ⟨rfl, by first | exact zj (zc (Below.refl _ _) _) _ | exact ze (zc (Below.refl _ _) _)⟩
 ·have cA : decide (c.f2 ≥ 0) = false := decide_eq_false qA
  have cA' : decide (0 ≤ c.f2) = false := decide_eq_false qA
  have HBL := zb.mk (show xq c k s = decide (s < c.f1) by unfold xq; rw [cA']; rfl)
  by_cases qC : s < c.f1
  ·have cC : decide (s < c.f1) = true := decide_eq_true qC
   have cC' : decide (c.f1 > s) = true := decide_eq_true qC
   have HBL := zb.mk (HBL.out.trans cC)
   clear qA qC
   go_enter Try.func141, Try.ntmps141
   go_wp2
   go_quiet (fail)
   go_wp2
   go_ret
   rw [HBL.out]
   exact ⟨rfl, by first | exact zj (zc (Below.refl _ _) _) _ | exact ze (zc (Below.refl _ _) _)⟩
  ·have cC : decide (s < c.f1) = false := decide_eq_false qC
   have cC' : decide (c.f1 > s) = false := decide_eq_false qC
   have HBL := zb.mk (HBL.out.trans cC)
   clear qA qC
   go_enter Try.func141, Try.ntmps141
   go_wp2
   go_quiet (fail)
   go_wp2
   go_ret
   rw [HBL.out]
   exact ⟨rfl, by first | exact zj (zc (Below.refl _ _) _) _ | exact ze (zc (Below.refl _ _) _)⟩
end Go.Proofs.Ytppapibjbjmmbaa.QSY
set_option linter.unusedVariables false
set_option linter.unusedSimpArgs false
namespace Go.Proofs.Ytppapibjbjmmbaa.QSY
open Go.RowKit Go.Proofs.YtppapibjbjmmbaaW.PrintWords Go.Proofs.YtppapibjbjmmbaaW.PrintLast Go.Proofs.YtppapibjbjmmbaaW.PrintMore
def xg (T : List S43) (clk k : Int) : Bool := if 200 ≤ clk then false else if (zF T k).f4 = 0 then ((zF T k).f5 != 0 || decide ((zF T k).f11 ≤ clk)) else if (zF T k).f4 = 1 then (decide (0 < yG T k 3) || decide (yG T k 0 + yG T k 1 = 0)) else false
theorem kids_two (T : List S43) (k : Int) : (yG T k 0 : Int) + yG T k 1 ≤ T.length := by
 induction T with
 | nil => simp [yG]
 | cons t T ih =>
  unfold yG at ih ⊢
  rw [List.countP_cons, List.countP_cons, List.length_cons]
  have : ¬ (isKid k 0 t = true ∧ isKid k 1 t = true) := by
   rintro ⟨h, h'⟩
   simp [isKid] at h h'
   omega
  by_cases c : isKid k 0 t = true
  ·rw [if_pos c, if_neg (fun h => this ⟨c, h⟩)]; omega
  ·rw [if_neg c]; split <;> omega
set_option maxHeartbeats 4000000 in
set_option maxRecDepth 100000 in
theorem ready_calls {w : World} {g : Nat} {T : List S43} {clk : Int} (k : Int) (h : Look w g T clk) (h0 : 0 ≤ k) (h1 : k < T.length) :
  Calls Try.prog 109 #[.pointer (some ⟨g, 0, none⟩), .int .i64 k] w fun e w' => e = .returned (.bool (xg T clk k)) ∧ Below w.heap.size w w' := by
 have HLK := zb.mk h
 obtain ⟨vp0, vp1, vC, vL, A, c, hb, hC, hl⟩ := h
 have a3 := (zd hb 3).trans rfl
 have a4 := (zd hb 4).trans rfl
 have bg := zo hb
 have HC := zb.mk hC
 have HMI := zb.mk (show (T.length : Int) ≤ 9223372036854775807 from by have := hC.2.1; omega)
 obtain ⟨ad, B3, d3, B8, d8, B9, d9, B10, d10, rfl, z0, z1, z2, z3, z4, z5, z6, z7, z8, z9, z10, z11, z12, zr⟩ := at_T43 HC.out k h0 h1
 obtain ⟨t, ht⟩ : ∃ t, t = zF T k := ⟨_, rfl⟩
 rw [← ht] at z0 z1 z2 z3 z4 z5 z6 z7 z8 z9 z10 z11 z12
 have HT := zb.mk ht
 clear hb hC hl zr ht
 have hu := Try.underlying43
 have HKA := zb.mk (show ∀ way : Int, (yG T k way : Int) ≤ T.length from fun way => by have := List.countP_le_length (p := isKid k way) (l := T); unfold yG; omega)
 by_cases q0 : 200 ≤ clk
 ·have c0 : decide (clk ≥ 200) = true := decide_eq_true q0
  have c0' : decide (200 ≤ clk) = true := decide_eq_true q0
  have HBL := zb.mk (show xg T clk k = false by unfold xg; rw [if_pos q0])
  clear q0
  go_enter Try.func109, Try.ntmps109
  go_wp2
  go_ret
  rw [HBL.out]
  exact ⟨rfl, by first | exact zc (Below.refl _ _) _ | exact ze (zc (Below.refl _ _) _) | exact zj (zc (Below.refl _ _) _) _⟩
 ·have c0 : decide (clk ≥ 200) = false := decide_eq_false q0
  have c0' : decide (200 ≤ clk) = false := decide_eq_false q0
  have HR0 := zb.mk (show xg T clk k = if t.f4 = 0 then (t.f5 != 0 || decide (t.f11 ≤ clk)) else if t.f4 = 1 then (decide (0 < yG T k 3) || decide (yG T k 0 + yG T k 1 = 0)) else false by unfold xg; rw [if_neg q0, ← HT.out])
  clear q0
  by_cases q4 : t.f4 = 0
  ·have c4 : (t.f4 == 0) = true := by simp [q4]
   by_cases q5 : t.f5 = 0
   ·have c5 : (t.f5 != 0) = false := by simp [q5]
    by_cases q11 : t.f11 ≤ clk
    ·have c11 : decide (t.f11 ≤ clk) = true := decide_eq_true q11
     have HBL := zb.mk (show xg T clk k = true by rw [HR0.out, if_pos q4, c5, c11]; rfl)
     clear q4 q5 q11 HR0
     go_enter Try.func109, Try.ntmps109
     go_wp2
     go_quiet (fail)
     go_wp2
     go_ret
     rw [HBL.out]
     exact ⟨rfl, by first | exact zc (Below.refl _ _) _ | exact ze (zc (Below.refl _ _) _) | exact zj (zc (Below.refl _ _) _) _⟩
    ·have c11 : decide (t.f11 ≤ clk) = false := decide_eq_false q11
     have HBL := zb.mk (show xg T clk k = false by rw [HR0.out, if_pos q4, c5, c11]; rfl)
     clear q4 q5 q11 HR0
     go_enter Try.func109, Try.ntmps109
     go_wp2
     go_quiet (fail)
     go_wp2
     go_ret
     rw [HBL.out]
     exact ⟨rfl, by first | exact zc (Below.refl _ _) _ | exact ze (zc (Below.refl _ _) _) | exact zj (zc (Below.refl _ _) _) _⟩
   ·have c5 : (t.f5 != 0) = true := by simp [q5]
    have HBL := zb.mk (show xg T clk k = true by rw [HR0.out, if_pos q4, c5]; rfl)
    clear q4 q5 HR0
    go_enter Try.func109, Try.ntmps109
    go_wp2
    go_quiet (fail)
    go_wp2
    go_ret
    rw [HBL.out]
    exact ⟨rfl, by first | exact zc (Below.refl _ _) _ | exact ze (zc (Below.refl _ _) _) | exact zj (zc (Below.refl _ _) _) _⟩
  ·have c4 : (t.f4 == 0) = false := by simp [q4]
   by_cases q1 : t.f4 = 1
   ·have c1 : (t.f4 == 1) = true := by simp [q1]
    obtain ⟨n3, hn3⟩ : ∃ n, n = yG T k 3 := ⟨_, rfl⟩
    obtain ⟨n0, hn0⟩ : ∃ n, n = yG T k 0 := ⟨_, rfl⟩
    obtain ⟨n1, hn1⟩ : ∃ n, n = yG T k 1 := ⟨_, rfl⟩
    have K3 := zb.mk (show ∀ W, Look W g T clk → Calls Try.prog 113 #[.pointer (some ⟨g, 0, none⟩), .int .i64 k, .int .i64 3] W fun e w' => e = .returned (.int .i64 n3) ∧ W = w' from fun W hW => by rw [hn3]; exact xB k 3 hW)
    have K0 := zb.mk (show ∀ W, Look W g T clk → Calls Try.prog 113 #[.pointer (some ⟨g, 0, none⟩), .int .i64 k, .int .i64 0] W fun e w' => e = .returned (.int .i64 n0) ∧ W = w' from fun W hW => by rw [hn0]; exact xB k 0 hW)
    have K1 := zb.mk (show ∀ W, Look W g T clk → Calls Try.prog 113 #[.pointer (some ⟨g, 0, none⟩), .int .i64 k, .int .i64 1] W fun e w' => e = .returned (.int .i64 n1) ∧ W = w' from fun W hW => by rw [hn1]; exact xB k 1 hW)
    have HR1 := zb.mk (show xg T clk k = (decide (0 < n3) || decide (n0 + n1 = 0)) by rw [HR0.out, if_neg q4, if_pos q1, ← hn3, ← hn0, ← hn1])
    have B01 := zb.mk (show (n0 : Int) + n1 ≤ T.length from by rw [hn0, hn1]; exact kids_two T k)
    clear q4 q1 HR0 hn3 hn0 hn1
    by_cases q3 : 0 < n3
    ·have c3 : decide ((n3 : Int) > 0) = true := decide_eq_true (by omega)
     have c3' : decide (0 < (n3 : Int)) = true := decide_eq_true (by omega)
     have c3n : decide (0 < n3) = true := decide_eq_true q3
     have HBL := zb.mk (show xg T clk k = true by rw [HR1.out, decide_eq_true q3]; rfl)
     clear q3 HR1
     have HLA := zb.mk (HLK.out.below (zc (Below.refl _ _) (.cells #[.int .i64 t.f0, .int .i64 t.f1, .int .i64 t.f2, .slice B3 t.f3.length d3, .int .i64 t.f4, .int .i64 t.f5, .int .i64 t.f6, .int .i64 t.f7, .slice B8 t.f8.length d8, .slice B9 t.f9.length d9, .slice B10 t.f10.length d10, .int .i64 t.f11, .int .i64 t.f12] 43)))
     go_enter Try.func109, Try.ntmps109
     go_wp2_with (go_at_call 113; first | (with_reducible refine (K3.out _ HLA.out).mono ?_; rintro e w' ⟨rfl, rfl⟩) | (with_reducible refine (K0.out _ HLA.out).mono ?_; rintro e w' ⟨rfl, rfl⟩) | (with_reducible refine (K1.out _ HLA.out).mono ?_; rintro e w' ⟨rfl, rfl⟩))
     go_ret
     rw [HBL.out]
     exact ⟨rfl, by first | exact zc (Below.refl _ _) _ | exact ze (zc (Below.refl _ _) _) | exact zj (zc (Below.refl _ _) _) _⟩
    ·have c3 : decide ((n3 : Int) > 0) = false := decide_eq_false (by omega)
     have c3' : decide (0 < (n3 : Int)) = false := decide_eq_false (by omega)
     have c3n : decide (0 < n3) = false := decide_eq_false q3
     have es : wrap64 ((n0 : Int) + n1) = (n0 : Int) + n1 := yN (by omega) (Int.le_trans B01.out HMI.out)
     by_cases qs : n0 + n1 = 0
     ·have cs : ((n0 : Int) + n1 == 0) = true := by simp; omega
      have HBL := zb.mk (show xg T clk k = true by rw [HR1.out, decide_eq_false q3, decide_eq_true qs]; rfl)
      clear q3 qs HR1
      have HLA := zb.mk (HLK.out.below (zc (Below.refl _ _) (.cells #[.int .i64 t.f0, .int .i64 t.f1, .int .i64 t.f2, .slice B3 t.f3.length d3, .int .i64 t.f4, .int .i64 t.f5, .int .i64 t.f6, .int .i64 t.f7, .slice B8 t.f8.length d8, .slice B9 t.f9.length d9, .slice B10 t.f10.length d10, .int .i64 t.f11, .int .i64 t.f12] 43)))
      go_enter Try.func109, Try.ntmps109
      go_wp2_with (go_at_call 113; first | (with_reducible refine (K3.out _ HLA.out).mono ?_; rintro e w' ⟨rfl, rfl⟩) | (with_reducible refine (K0.out _ HLA.out).mono ?_; rintro e w' ⟨rfl, rfl⟩) | (with_reducible refine (K1.out _ HLA.out).mono ?_; rintro e w' ⟨rfl, rfl⟩))
      go_ret
      rw [HBL.out]
      exact ⟨rfl, by first | exact zc (Below.refl _ _) _ | exact ze (zc (Below.refl _ _) _) | exact zj (zc (Below.refl _ _) _) _⟩
     ·have cs : ((n0 : Int) + n1 == 0) = false := by simp; omega
      have HBL := zb.mk (show xg T clk k = false by rw [HR1.out, decide_eq_false q3, decide_eq_false qs]; rfl)
      clear q3 qs HR1
      have HLA := zb.mk (HLK.out.below (zc (Below.refl _ _) (.cells #[.int .i64 t.f0, .int .i64 t.f1, .int .i64 t.f2, .slice B3 t.f3.length d3, .int .i64 t.f4, .int .i64 t.f5, .int .i64 t.f6, .int .i64 t.f7, .slice B8 t.f8.length d8, .slice B9 t.f9.length d9, .slice B10 t.f10.length d10, .int .i64 t.f11, .int .i64 t.f12] 43)))
      go_enter Try.func109, Try.ntmps109
      go_wp2_with (go_at_call 113; first | (with_reducible refine (K3.out _ HLA.out).mono ?_; rintro e w' ⟨rfl, rfl⟩) | (with_reducible refine (K0.out _ HLA.out).mono ?_; rintro e w' ⟨rfl, rfl⟩) | (with_reducible refine (K1.out _ HLA.out).mono ?_; rintro e w' ⟨rfl, rfl⟩))
      go_ret
      rw [HBL.out]
      exact ⟨rfl, by first | exact zc (Below.refl _ _) _ | exact ze (zc (Below.refl _ _) _) | exact zj (zc (Below.refl _ _) _) _⟩
   ·have c1 : (t.f4 == 1) = false := by simp [q1]
    have HBL := zb.mk (show xg T clk k = false by rw [HR0.out, if_neg q4, if_neg q1])
    clear q4 q1 HR0
    go_enter Try.func109, Try.ntmps109
    go_wp2
    go_ret
    rw [HBL.out]
    exact ⟨rfl, by first | exact zc (Below.refl _ _) _ | exact ze (zc (Below.refl _ _) _) | exact zj (zc (Below.refl _ _) _) _⟩
end Go.Proofs.Ytppapibjbjmmbaa.QSY
set_option linter.unusedVariables false
set_option linter.unusedSimpArgs false
namespace Go.Proofs.Ytppapibjbjmmbaa.QSY
open Go.RowKit Go.Proofs.YtppapibjbjmmbaaW.PrintWords Go.Proofs.YtppapibjbjmmbaaW.PrintLast Go.Proofs.YtppapibjbjmmbaaW.PrintMore
def yH (Bs : List (List zO)) (t : S43) : zO := yB (bd Bs t.f0) t.f1
set_option maxHeartbeats 2000000 in
set_option maxRecDepth 100000 in
theorem act_calls {w0 w : World} {g : Nat} {vp0 : Value} {σ : St} {A1 : Option Addr} {c1 : Nat} {Bs : List (List zO)} (k : Int) (h : zS w0 w g vp0 (.slice A1 Bs.length c1) σ) (h0 : 0 ≤ k) (h1 : k < σ.T.length)
  (hP : Kd.C (Kd.slice 110 xK) w0 A1 Bs.length Bs) (hb : 0 ≤ (σ.t k).f0 ∧ (σ.t k).f0 < Bs.length) (hp : 0 ≤ (σ.t k).f1) :
  Calls Try.prog 119 #[.pointer (some ⟨g, 0, none⟩), .int .i64 k] w fun e w' => ((σ.t k).f1 < (bd Bs (σ.t k).f0).length ∧ ∃ B1 d1 B2 d2, e = .returned (.tuple #[.agg #[.int .i64 (yH Bs (σ.t k)).f0, .slice B1 (yH Bs (σ.t k)).f1.length d1, .slice B2 (yH Bs (σ.t k)).f2.length d2, .int .i64 (yH Bs (σ.t k)).f3], .bool true]) ∧
   Below w.heap.size w w' ∧ (Kd.C xu w0 B1 (yH Bs (σ.t k)).f1.length (yH Bs (σ.t k)).f1 ∧ (yH Bs (σ.t k)).f1.length ≤ d1) ∧ (Kd.C (Kd.int .i64) w0 B2 (yH Bs (σ.t k)).f2.length (yH Bs (σ.t k)).f2 ∧ (yH Bs (σ.t k)).f2.length ≤ d2)) ∨
   (¬ (σ.t k).f1 < (bd Bs (σ.t k).f0).length ∧ e = .returned (.tuple #[.agg #[.int .i64 0, .slice none 0 0, .slice none 0 0, .int .i64 0], .bool false]) ∧ Below w.heap.size w w') := by
 have H1 := zb.mk h1
 have HBD := zb.mk hb
 have HPC := zb.mk hp
 have HPP := zb.mk hP
 have H0B := zb.mk h.hb
 clear h1 hb hp hP
 obtain ⟨gT, cap, T, vC, vL, A3, c3, A8, c8, A9, c9, A10, c10, HR, HE, HT, H1', a3, ⟨k0, k1, k2, k3, k4, k5, k6, k7, k8, k9, k10, k11, k12⟩, hf, HB, HC3, HC8, HC9, HC10⟩ := h.open13 k h0 H1.out
 clear h
 obtain ⟨adB, A2, c2, rfl, y1, yl, yC⟩ := at_B HPP.out (σ.t k).f0 HBD.out.1 HBD.out.2
 have y1 := za H0B.out y1
 have g1 := HR.out.c1
 have YC := zb.mk (And.intro yC yl)
 clear yl yC
 have hu := Try.underlying43
 have hua := Try.underlying110
 have p1 : k < (σ.T.length : Int) := H1.out
 have b1 := HB.out.1
 have bg := HB.out.2.2.2
 go_enter Try.func119, Try.ntmps119
 go_upto_region 2 with (fail)
 obtain ⟨V, hV⟩ : ∃ V, V = (w.alloc (.cells #[.int .i64 0, .slice none 0 0, .slice none 0 0, .int .i64 0] 110)).alloc (.cells #[.int .i64 (σ.t k).f0, .int .i64 (σ.t k).f1, .int .i64 (σ.t k).f2, .slice A3 (σ.t k).f3.length c3, .int .i64 (σ.t k).f4, .int .i64 (σ.t k).f5, .int .i64 (σ.t k).f6, .int .i64 (σ.t k).f7, .slice A8 (σ.t k).f8.length c8, .slice A9 (σ.t k).f9.length c9, .slice A10 (σ.t k).f10.length c10, .int .i64 (σ.t k).f11, .int .i64 (σ.t k).f12] 43) := ⟨_, rfl⟩
 have HBV := zb.mk (show Below w.heap.size w V by rw [hV]; exact zc (zc (Below.refl _ _) _) _)
 have HVS := zb.mk (show V.heap.size = w.heap.size + 2 by rw [hV]; simp)
 have HX := zb.mk (show V.heap[w.heap.size + 1]? = some (.cells #[.int .i64 (σ.t k).f0, .int .i64 (σ.t k).f1, .int .i64 (σ.t k).f2, .slice A3 (σ.t k).f3.length c3, .int .i64 (σ.t k).f4, .int .i64 (σ.t k).f5, .int .i64 (σ.t k).f6, .int .i64 (σ.t k).f7, .slice A8 (σ.t k).f8.length c8, .slice A9 (σ.t k).f9.length c9, .slice A10 (σ.t k).f10.length c10, .int .i64 (σ.t k).f11, .int .i64 (σ.t k).f12] 43 (0, 0)) by rw [hV, show w.heap.size + 1 = (w.alloc (.cells #[.int .i64 0, .slice none 0 0, .slice none 0 0, .int .i64 0] 110)).heap.size by simp]; exact heap_alloc_new _ _)
 have HX0 := zb.mk (show V.heap[w.heap.size]? = some (.cells #[.int .i64 0, .slice none 0 0, .slice none 0 0, .int .i64 0] 110 (0, 0)) by rw [hV]; exact (Below.heap_alloc _ _ _ (by simp)).trans (heap_alloc_new _ _))
 rw [← hV]
 have x0 := (zd HX.out 0).trans rfl
 have x1 := (zd HX.out 1).trans rfl
 have r0 := (zd HX0.out 0).trans rfl
 have r1 := (zd HX0.out 1).trans rfl
 have r2 := (zd HX0.out 2).trans rfl
 have r3 := (zd HX0.out 3).trans rfl
 have rf0 := zk HX0.out 0
 have rf1 := zk HX0.out 1
 have rf2 := zk HX0.out 2
 have rf3 := zk HX0.out 3
 have g1 := za HBV.out g1
 have y1 := za HBV.out y1
 have pb0 := HBD.out.1
 have pb1 := HBD.out.2
 clear hV k0 k1 k2 k3 k4 k5 k6 k7 k8 k9 k10 k11 k12 a3 hf
 by_cases hlt : (σ.t k).f1 < (bd Bs (σ.t k).f0).length
 ·obtain ⟨ad, B1, d1, B2, d2, rfl, z0, z1, z2, z3, l1, C1, l2, C2⟩ := at_T110 YC.out.1 (σ.t k).f1 HPC.out hlt
  obtain ⟨aa, haa⟩ : ∃ aa, aa = yB (bd Bs (σ.t k).f0) (σ.t k).f1 := ⟨_, rfl⟩
  rw [← haa] at z0 z1 z2 z3 l1 C1 l2 C2
  have HAA := zb.mk (show yH Bs (σ.t k) = aa from haa.symm)
  have D1 := zb.mk (And.intro C1 l1)
  have D2 := zb.mk (And.intro C2 l2)
  have z0 := za HBV.out (za H0B.out z0)
  have z1 := za HBV.out (za H0B.out z1)
  have z2 := za HBV.out (za H0B.out z2)
  have z3 := za HBV.out (za H0B.out z3)
  clear l1 C1 l2 C2 haa
  have q0 := HPC.out
  have q1 := hlt
  have cb : decide ((σ.t k).f1 ≥ ((bd Bs (σ.t k).f0).length : Int)) = false := decide_eq_false (by omega)
  have cb2 : decide (((bd Bs (σ.t k).f0).length : Int) ≤ (σ.t k).f1) = false := decide_eq_false (by omega)
  have HLT := zb.mk hlt
  clear hlt
  refine yc (n := 10) (S := fun w' => w'.cell? ⟨g, 1, none⟩ = some (.slice (some adB) Bs.length c1) ∧ w'.cell? ⟨w.heap.size + 1, 0, none⟩ = some (.int .i64 (σ.t k).f0) ∧ w'.cell? (adB.add (σ.t k).f0.toNat) = some (.slice (some ad) (bd Bs (σ.t k).f0).length c2)) (ds := []) (bm 10 0) (by kernel_rfl) rfl rfl ⟨(za (ze (Below.refl _ _)) g1), (za (ze (Below.refl _ _)) x0), (za (ze (Below.refl _ _)) y1)⟩ (fun hHeld => ?_)
  refine zl (i := 0) (N := some 16) (v := ?_) (a' := ?_) (bm 10 1) rfl rfl (by kernel_rfl) (fun _ _ _ h => h) (Or.inl ⟨by rfl, ?_⟩) ?_ ?_
  rotate_left
  ·intro w'
   go_simp
   with_reducible rfl
  rotate_left
  ·simp only [Act.put, List.setIfInBounds_toArray, List.set_cons_zero, List.set_cons_succ, zg, zh]
   rfl
  refine zl (i := 1) (N := some 17) (v := ?_) (a' := ?_) (bm 10 3) rfl rfl (by kernel_rfl) (fun _ _ _ h => h) (Or.inl ⟨by rfl, ?_⟩) ?_ ?_
  rotate_left
  ·intro w'
   go_simp
   with_reducible rfl
  rotate_left
  ·simp only [Act.put, List.setIfInBounds_toArray, List.set_cons_zero, List.set_cons_succ, zg, zh]
   rfl
  refine zl (i := 2) (N := some 18) (v := ?_) (a' := ?_) (bm 10 7) rfl rfl (by kernel_rfl) (fun _ _ _ h => h) (Or.inl ⟨by rfl, ?_⟩) ?_ ?_
  rotate_left
  ·intro w'
   go_simp
   with_reducible rfl
  rotate_left
  ·simp only [Act.put, List.setIfInBounds_toArray, List.set_cons_zero, List.set_cons_succ, zg, zh]
   rfl
  refine zl (i := 3) (N := some 19) (v := ?_) (a' := ?_) (bm 10 15) rfl rfl (by kernel_rfl) (fun _ _ _ h => h) (Or.inl ⟨by rfl, ?_⟩) ?_ ?_
  rotate_left
  ·intro w'
   go_simp
   with_reducible rfl
  rotate_left
  ·simp only [Act.put, List.setIfInBounds_toArray, List.set_cons_zero, List.set_cons_succ, zg, zh]
   rfl
  refine zl (i := 5) (N := some 21) (v := ?_) (a' := ?_) (bm 10 47) rfl rfl (by kernel_rfl) (fun _ _ _ h => h) (Or.inl ⟨by rfl, ?_⟩) ?_ ?_
  rotate_left
  ·intro w'
   go_simp
   with_reducible rfl
  rotate_left
  ·simp only [Act.put, List.setIfInBounds_toArray, List.set_cons_zero, List.set_cons_succ, zg, zh]
   rfl
  refine zA (i := 4) (N := some 20) (v := ?_) (a' := ?_) (bm 10 63) rfl rfl (by kernel_rfl) (fun _ _ _ h => h) (Or.inl ⟨by rfl, ?_⟩) hHeld ?_ ?_
  rotate_left
  ·rintro w' ⟨s0, s1, s2⟩
   go_simp
   with_reducible rfl
  rotate_left
  ·simp only [Act.put, List.setIfInBounds_toArray, List.set_cons_zero, List.set_cons_succ, zg, zh]
   rfl
  refine zA (i := 6) (N := some 22) (v := ?_) (a' := ?_) (bm 10 127) rfl rfl (by kernel_rfl) (fun _ _ _ h => h) (Or.inl ⟨by rfl, ?_⟩) hHeld ?_ ?_
  rotate_left
  ·rintro w' ⟨s0, s1, s2⟩
   go_simp
   with_reducible rfl
  rotate_left
  ·simp only [Act.put, List.setIfInBounds_toArray, List.set_cons_zero, List.set_cons_succ, zg, zh]
   rfl
  refine zl (i := 7) (N := some 23) (v := ?_) (a' := ?_) (bm 10 255) rfl rfl (by kernel_rfl) (fun _ _ _ h => h) (Or.inl ⟨by rfl, ?_⟩) ?_ ?_
  rotate_left
  ·intro w'
   go_simp
   with_reducible rfl
  rotate_left
  ·simp only [Act.put, List.setIfInBounds_toArray, List.set_cons_zero, List.set_cons_succ, zg, zh]
   rfl
  refine zA (i := 8) (N := some 24) (v := ?_) (a' := ?_) (bm 10 511) rfl rfl (by kernel_rfl) (fun _ _ _ h => h) (Or.inl ⟨by rfl, ?_⟩) hHeld ?_ ?_
  rotate_left
  ·rintro w' ⟨s0, s1, s2⟩
   go_simp
   with_reducible rfl
  rotate_left
  ·simp only [Act.put, List.setIfInBounds_toArray, List.set_cons_zero, List.set_cons_succ, zg, zh]
   rfl
  refine zl (i := 9) (N := some 7) (v := ?_) (a' := ?_) (bm 10 1023) rfl rfl (by kernel_rfl) (fun _ _ _ h => h) (Or.inl ⟨by rfl, ?_⟩) ?_ ?_
  rotate_left
  ·intro w'
   go_simp
   with_reducible rfl
  rotate_left
  ·simp only [Act.put, List.setIfInBounds_toArray, List.set_cons_zero, List.set_cons_succ, zg, zh]
   rfl
  refine yt (by kernel_rfl) ?_
  go_wp2
  refine bodyPost_ret (yy rfl _ _ w.heap.size 110 #[.int .i64 aa.f0, .slice B1 aa.f1.length d1, .slice B2 aa.f2.length d2, .int .i64 aa.f3] (0, 0) _ rfl (zD (zu (zu (zu (zu HX0.out 0 _) 1 _) 2 _) 3 _)) hua rfl (by kernel_rfl)) rfl ?_
  have HF := zb.mk (show ∀ v0 v1 v2 v3, Below w.heap.size w ((((V.setCell ⟨w.heap.size, 0, none⟩ v0).setCell ⟨w.heap.size, 1, none⟩ v1).setCell ⟨w.heap.size, 2, none⟩ v2).setCell ⟨w.heap.size, 3, none⟩ v3).drew from fun v0 v1 v2 v3 => ze (zv (zv (zv (zv HBV.out (Nat.le_refl _)) (Nat.le_refl _)) (Nat.le_refl _)) (Nat.le_refl _)))
  rw [HAA.out]
  exact .inl ⟨B1, d1, B2, d2, rfl, HF.out _ _ _ _, ⟨D1.out.1, D1.out.2⟩, ⟨D2.out.1, D2.out.2⟩⟩
 ·have cb : decide ((σ.t k).f1 ≥ ((bd Bs (σ.t k).f0).length : Int)) = true := decide_eq_true (by omega)
  have cb2 : decide (((bd Bs (σ.t k).f0).length : Int) ≤ (σ.t k).f1) = true := decide_eq_true (by omega)
  have HLT := zb.mk hlt
  clear hlt
  refine yc (n := 10) (S := fun w' => w'.cell? ⟨g, 1, none⟩ = some (.slice (some adB) Bs.length c1) ∧ w'.cell? ⟨w.heap.size + 1, 0, none⟩ = some (.int .i64 (σ.t k).f0) ∧ w'.cell? (adB.add (σ.t k).f0.toNat) = some (.slice A2 (bd Bs (σ.t k).f0).length c2)) (ds := []) (bm 10 0) (by kernel_rfl) rfl rfl ⟨(za (ze (Below.refl _ _)) g1), (za (ze (Below.refl _ _)) x0), (za (ze (Below.refl _ _)) y1)⟩ (fun hHeld => ?_)
  refine zl (i := 0) (N := some 16) (v := ?_) (a' := ?_) (bm 10 1) rfl rfl (by kernel_rfl) (fun _ _ _ h => h) (Or.inl ⟨by rfl, ?_⟩) ?_ ?_
  rotate_left
  ·intro w'
   go_simp
   with_reducible rfl
  rotate_left
  ·simp only [Act.put, List.setIfInBounds_toArray, List.set_cons_zero, List.set_cons_succ, zg, zh]
   rfl
  refine zl (i := 1) (N := some 17) (v := ?_) (a' := ?_) (bm 10 3) rfl rfl (by kernel_rfl) (fun _ _ _ h => h) (Or.inl ⟨by rfl, ?_⟩) ?_ ?_
  rotate_left
  ·intro w'
   go_simp
   with_reducible rfl
  rotate_left
  ·simp only [Act.put, List.setIfInBounds_toArray, List.set_cons_zero, List.set_cons_succ, zg, zh]
   rfl
  refine zl (i := 2) (N := some 18) (v := ?_) (a' := ?_) (bm 10 7) rfl rfl (by kernel_rfl) (fun _ _ _ h => h) (Or.inl ⟨by rfl, ?_⟩) ?_ ?_
  rotate_left
  ·intro w'
   go_simp
   with_reducible rfl
  rotate_left
  ·simp only [Act.put, List.setIfInBounds_toArray, List.set_cons_zero, List.set_cons_succ, zg, zh]
   rfl
  refine zl (i := 3) (N := some 19) (v := ?_) (a' := ?_) (bm 10 15) rfl rfl (by kernel_rfl) (fun _ _ _ h => h) (Or.inl ⟨by rfl, ?_⟩) ?_ ?_
  rotate_left
  ·intro w'
   go_simp
   with_reducible rfl
  rotate_left
  ·simp only [Act.put, List.setIfInBounds_toArray, List.set_cons_zero, List.set_cons_succ, zg, zh]
   rfl
  refine zl (i := 5) (N := some 21) (v := ?_) (a' := ?_) (bm 10 47) rfl rfl (by kernel_rfl) (fun _ _ _ h => h) (Or.inl ⟨by rfl, ?_⟩) ?_ ?_
  rotate_left
  ·intro w'
   go_simp
   with_reducible rfl
  rotate_left
  ·simp only [Act.put, List.setIfInBounds_toArray, List.set_cons_zero, List.set_cons_succ, zg, zh]
   rfl
  refine zA (i := 4) (N := some 20) (v := ?_) (a' := ?_) (bm 10 63) rfl rfl (by kernel_rfl) (fun _ _ _ h => h) (Or.inl ⟨by rfl, ?_⟩) hHeld ?_ ?_
  rotate_left
  ·rintro w' ⟨s0, s1, s2⟩
   go_simp
   with_reducible rfl
  rotate_left
  ·simp only [Act.put, List.setIfInBounds_toArray, List.set_cons_zero, List.set_cons_succ, zg, zh]
   rfl
  refine zA (i := 6) (N := some 22) (v := ?_) (a' := ?_) (bm 10 127) rfl rfl (by kernel_rfl) (fun _ _ _ h => h) (Or.inl ⟨by rfl, ?_⟩) hHeld ?_ ?_
  rotate_left
  ·rintro w' ⟨s0, s1, s2⟩
   go_simp
   with_reducible rfl
  rotate_left
  ·simp only [Act.put, List.setIfInBounds_toArray, List.set_cons_zero, List.set_cons_succ, zg, zh]
   rfl
  refine zl (i := 7) (N := some 23) (v := ?_) (a' := ?_) (bm 10 255) rfl rfl (by kernel_rfl) (fun _ _ _ h => h) (Or.inl ⟨by rfl, ?_⟩) ?_ ?_
  rotate_left
  ·intro w'
   go_simp
   with_reducible rfl
  rotate_left
  ·simp only [Act.put, List.setIfInBounds_toArray, List.set_cons_zero, List.set_cons_succ, zg, zh]
   rfl
  refine zA (i := 8) (N := some 24) (v := ?_) (a' := ?_) (bm 10 511) rfl rfl (by kernel_rfl) (fun _ _ _ h => h) (Or.inl ⟨by rfl, ?_⟩) hHeld ?_ ?_
  rotate_left
  ·rintro w' ⟨s0, s1, s2⟩
   go_simp
   with_reducible rfl
  rotate_left
  ·simp only [Act.put, List.setIfInBounds_toArray, List.set_cons_zero, List.set_cons_succ, zg, zh]
   rfl
  refine zl (i := 9) (N := some 7) (v := ?_) (a' := ?_) (bm 10 1023) rfl rfl (by kernel_rfl) (fun _ _ _ h => h) (Or.inl ⟨by rfl, ?_⟩) ?_ ?_
  rotate_left
  ·intro w'
   go_simp
   with_reducible rfl
  rotate_left
  ·simp only [Act.put, List.setIfInBounds_toArray, List.set_cons_zero, List.set_cons_succ, zg, zh]
   rfl
  refine yt (by kernel_rfl) ?_
  go_wp2
  refine bodyPost_ret (yy rfl _ _ w.heap.size 110 #[.int .i64 0, .slice none 0 0, .slice none 0 0, .int .i64 0] (0, 0) _ rfl (zD (zu (zu (zu (zu HX0.out 0 _) 1 _) 2 _) 3 _)) hua rfl (by kernel_rfl)) rfl ?_
  exact .inr ⟨HLT.out, rfl, ze (zv (zv (zv (zv HBV.out (Nat.le_refl _)) (Nat.le_refl _)) (Nat.le_refl _)) (Nat.le_refl _))⟩
end Go.Proofs.Ytppapibjbjmmbaa.QSY
set_option linter.unusedVariables false
set_option linter.unusedSimpArgs false
namespace Go.Proofs.Ytppapibjbjmmbaa.QSY
open Go.RowKit Go.Proofs.YtppapibjbjmmbaaW.PrintWords Go.Proofs.YtppapibjbjmmbaaW.PrintLast Go.Proofs.YtppapibjbjmmbaaW.PrintMore
def St.stage (σ : St) (k x : Int) : St := (σ.upd k fun t => { t with f5 := x }).upd k fun t => { t with f6 := 0 }
set_option maxHeartbeats 1000000 in
theorem xw {w0 w : World} {g : Nat} {vp0 vp1 : Value} {σ : St} (k x : Int) (h : zS w0 w g vp0 vp1 σ) (h0 : 0 ≤ k) (h1 : k < σ.T.length) :
  Calls Try.prog 131 #[.pointer (some ⟨g, 0, none⟩), .int .i64 k, .int .i64 x] w fun e w' => e = .returned (.tuple #[]) ∧ zS w0 w' g vp0 vp1 (σ.stage k x) := by
 obtain ⟨N, vC, vT, vL, T, h, he⟩ := h
 have h1' : k < T.length := by rw [len_of he]; exact h1
 obtain ⟨gT, cap, rfl, b0, b1, cells, hcT⟩ := h.form (by omega)
 have HR := zb.mk h
 have HE := zb.mk he
 obtain ⟨hc, hf, ho⟩ := h.elem k h0 h1'
 have a3 := h.c3
 have f3 := h.fz 3
 have k5 := hc 5 _ rfl
 have z5 := hf 5
 have k6 := hc 6 _ rfl
 have z6 := hf 6
 clear hc hf ho h hcT he h1
 go_enter Try.func131, Try.ntmps131
 go_wp2
 go_end0
 have r1 := HR.out.numf k h0 h1' (fun t => { t with f5 := x }) 5 x (by decide) (fun _ => rfl) (fun _ => rfl) (fun _ => rfl) (fun _ => rfl) (fun _ => rfl)
 have r2 := r1.numf k h0 (len_updT h1') (fun t => { t with f6 := 0 }) 6 0 (by decide) (fun _ => rfl) (fun _ => rfl) (fun _ => rfl) (fun _ => rfl) (fun _ => rfl)
 exact ⟨rfl, _, _, _, _, _, r2, map_upd (map_upd HE.out k (F := fun t => t.w { t.s with f5 := x }) (fun _ => rfl)) k (F := fun t => t.w { t.s with f6 := 0 }) (fun _ => rfl)⟩
theorem St.len_stage {σ : St} {k x : Int} : (σ.stage k x).T.length = σ.T.length := St.len_upd.trans St.len_upd
end Go.Proofs.Ytppapibjbjmmbaa.QSY
set_option linter.unusedVariables false
set_option linter.unusedSimpArgs false
namespace Go.Proofs.Ytppapibjbjmmbaa.QSY
open Go.RowKit Go.Proofs.YtppapibjbjmmbaaW.PrintWords Go.Proofs.YtppapibjbjmmbaaW.PrintLast Go.Proofs.YtppapibjbjmmbaaW.PrintMore
def letGo (k : Int) (c : S33) : S33 := if c.f2 = k then { c with f2 := -1 } else c
def St.free (σ : St) (k : Int) : St := { σ with C := σ.C.map (letGo k) }
def upTo (k : Int) (C : List S33) (i : Nat) : List S33 := (C.take i).map (letGo k) ++ C.drop i
theorem upTo_len (k : Int) (C : List S33) (i : Nat) : (upTo k C i).length = C.length := by simp [upTo]; omega
theorem upTo_get {k : Int} {C : List S33} {i : Nat} (h : i < C.length) : (upTo k C i).getD i z33 = C.getD i z33 := by
 unfold upTo
 rw [List.getD_eq_getElem?_getD, List.getD_eq_getElem?_getD, List.getElem?_append_right (by simp; omega)]
 simp [Nat.min_eq_left (Nat.le_of_lt h)]
theorem upTo_succ {k : Int} {C : List S33} {i : Nat} (h : i < C.length) : upTo k C (i + 1) = (upTo k C i).set i (letGo k (C.getD i z33)) := by
 unfold upTo
 rw [List.take_succ_eq_append_getElem h, List.map_append, List.set_append_right _ _ (by simp; omega)]
 have e : i - ((C.take i).map (letGo k)).length = 0 := by simp; omega
 rw [e, List.drop_eq_getElem_cons h, List.set_cons_zero, List.getD_eq_getElem?_getD, List.getElem?_eq_getElem h]
 simp
theorem upTo_same {k : Int} {C : List S33} {i : Nat} (h : i < C.length) (hk : ¬ (C.getD i z33).f2 = k) : upTo k C (i + 1) = upTo k C i := by
 rw [upTo_succ h]
 have e : letGo k (C.getD i z33) = C.getD i z33 := by unfold letGo; rw [if_neg hk]
 rw [e, ← upTo_get (k := k) h]
 have hl : i < (upTo k C i).length := by rw [upTo_len]; exact h
 rw [List.getD_eq_getElem?_getD, List.getElem?_eq_getElem hl]
 exact List.set_getElem_self hl
theorem upTo_end {k : Int} {C : List S33} {i : Nat} (h : i = C.length) : upTo k C i = C.map (letGo k) := by
 subst h; simp [upTo]
set_option maxHeartbeats 1000000 in
theorem free_calls {w0 w : World} {g : Nat} {vp0 vp1 : Value} {σ : St} (k : Int) (h : zS w0 w g vp0 vp1 σ) :
  Calls Try.prog 143 #[.pointer (some ⟨g, 0, none⟩), .int .i64 k] w fun e w' => e = .returned (.tuple #[]) ∧ zS w0 w' g vp0 vp1 (σ.free k) := by
 obtain ⟨C, T0, clk, L⟩ := σ
 obtain ⟨N, vC, vT, vL, T, h, he⟩ := h
 have he : T.map TG.s = T0 := he
 have HE := zb.mk he
 have HM := zb.mk (show C.length ≤ 9223372036854775807 from (by obtain ⟨A, c, _, _, hC⟩ := Kd.yP h.V.rC; exact hC.2.1))
 obtain ⟨A2, c2, hv, _⟩ := Kd.yP h.V.rC
 subst hv
 have h : Rep w0 w g N vp0 vp1 (.slice A2 C.length c2) vT vL C T clk L := h
 have a2 := h.c2
 have HR := zb.mk (show Rep w0 w g N vp0 vp1 (.slice A2 C.length c2) vT vL (upTo k C 0) T clk L from h)
 clear h he
 go_enter Try.func143, Try.ntmps143
 go_wp2
 go_loopw [4] (fun v4 wr => ∃ i : Nat, v4 = .int .i64 i ∧ zb (i ≤ C.length) ∧ zb (Rep w0 wr g N vp0 vp1 (.slice A2 C.length c2) vT vL (upTo k C i) T clk L)) (fun v4 _ => C.length - (intOf v4).toNat)
 case atStart => exact ⟨0, rfl, ⟨Nat.zero_le _⟩, HR⟩
 case round =>
  clear HR a2
  obtain ⟨i, rfl, hi, HR⟩ := hrel
  have a2 := HR.out.c2
  by_cases hlt : i < C.length
  ·have cb : decide (i < C.length) = true := decide_eq_true hlt
   obtain ⟨gC, cap, hv, b0, b1, _⟩ := HR.out.cform (by rw [upTo_len]; omega)
   injection hv with hv1 _ hv2
   subst hv1 hv2
   have hl2 : (i : Int) < (upTo k C i).length := by rw [upTo_len]; omega
   obtain ⟨e0, e1, e2, ef⟩ := HR.out.celem (i : Int) (by omega) hl2
   rw [Int.toNat_natCast] at e0 e1 e2 ef
   have ef2 := ef 2
   have ecg : cg (upTo k C i) i = C.getD i z33 := by unfold cg; rw [Int.toNat_natCast]; exact upTo_get hlt
   rw [ecg] at e2
   have ECG := zb.mk ecg
   clear e0 e1 ef ecg
   obtain ⟨x, hx⟩ : ∃ x, x = (C.getD i z33).f2 := ⟨_, rfl⟩
   rw [← hx] at e2
   have HX := zb.mk hx
   clear hx
   have p0 : (0 : Int) ≤ (i : Int) := by omega
   have p1 : (i : Int) < (C.length : Int) := by omega
   have HLT := zb.mk hlt
   have ei : wrap64 ((i : Int) + 1) = ((i + 1 : Nat) : Int) := by have := HM.out; unfold wrap64; omega
   have EI := zb.mk ei
   clear hlt hl2 ei
   by_cases hk : x = k
   ·have ck : (x == k) = true := by simp [hk]
    have HK := zb.mk hk
    clear hk
    go_wp2
    go_roundw
    case rel =>
     refine ⟨i + 1, by rw [EI.out], ⟨HLT.out⟩, ⟨?_⟩⟩
     have := HR.out.lockset (i : Int) (by omega) (by rw [upTo_len]; have := HLT.out; omega) (-1)
     rw [Int.toNat_natCast] at this
     rw [upTo_succ HLT.out]
     have e : letGo k (C.getD i z33) = { cg (upTo k C i) i with f2 := -1 } := by rw [ECG.out]; unfold letGo; rw [if_pos (by rw [← HX.out]; exact HK.out)]
     rw [e]
     exact this
    case measure => rw [EI.out]; have := HLT.out; simp [intOf]; omega
   ·have ck : (x == k) = false := by simp [hk]
    have HK := zb.mk hk
    clear hk
    go_wp2
    go_roundw
    case rel =>
     refine ⟨i + 1, by rw [EI.out], ⟨HLT.out⟩, ⟨?_⟩⟩
     rw [upTo_same HLT.out (by rw [← HX.out]; exact HK.out)]
     exact HR.out
    case measure => rw [EI.out]; have := HLT.out; simp [intOf]; omega
  ·have cb : decide (i < C.length) = false := decide_eq_false hlt
   have HLT := zb.mk hlt
   clear hlt
   go_wp2
   go_end0
   refine ⟨rfl, N, .slice A2 C.length c2, vT, vL, T, ?_, HE.out⟩
   have := HR.out
   rw [upTo_end (by have := HLT.out; have := hi.out; omega)] at this
   exact this
end Go.Proofs.Ytppapibjbjmmbaa.QSY
set_option linter.unusedVariables false
set_option linter.unusedSimpArgs false
namespace Go.Proofs.Ytppapibjbjmmbaa.QSY
open Go.RowKit Go.Proofs.YtppapibjbjmmbaaW.PrintWords Go.Proofs.YtppapibjbjmmbaaW.PrintLast Go.Proofs.YtppapibjbjmmbaaW.PrintMore
def St.again (σ : St) (k : Int) : St := (((((σ.free k).upd k fun t => { t with f3 := t.f8 }).upd k fun t => { t with f9 := [] }).upd k fun t => { t with f10 := [] }).upd k fun t => { t with f11 := 0 }).stage k 0
theorem swap3 (W : World) (o1 o2 : Obj) (b x y z : Nat) (v1 v2 v3 : Value) (hb : b < W.heap.size) :
  ((((W.setCell ⟨b, x, none⟩ v1).setCell ⟨b, y, none⟩ v2).setCell ⟨b, z, none⟩ v3).alloc o1).alloc o2 = ((((W.alloc o1).setCell ⟨b, x, none⟩ v1).alloc o2).setCell ⟨b, y, none⟩ v2).setCell ⟨b, z, none⟩ v3 := by
 rw [World.setCell_alloc_past o1 _ _ _ hb, World.setCell_alloc_past o2 b y v2 (by simp [World.setCell]; omega), World.setCell_alloc_past o2 b z v3 (by simp [World.setCell]; omega), World.setCell_alloc_past o1 b y v2 (by simp [World.setCell]; omega), World.setCell_alloc_past o1 b z v3 (by simp [World.setCell]; omega)]
set_option maxHeartbeats 2000000 in
set_option maxRecDepth 100000 in
theorem wg {w0 w : World} {g : Nat} {vp0 vp1 : Value} {σ : St} (k : Int) (h : zS w0 w g vp0 vp1 σ) (h0 : 0 ≤ k) (h1 : k < σ.T.length) (h8 : (σ.t k).f8.length ≤ 1000) :
  Calls Try.prog 136 #[.pointer (some ⟨g, 0, none⟩), .int .i64 k] w fun e w' => e = .returned (.tuple #[]) ∧ zS w0 w' g vp0 vp1 (σ.again k) := by
 have H := zb.mk h
 have H1 := zb.mk h1
 have H8 := zb.mk h8
 clear h h1 h8
 go_enter Try.func136, Try.ntmps136
 go_wp2_with fail
 refine (free_calls k H.out).mono ?_
 rintro e w1 ⟨rfl, h⟩
 obtain ⟨gT, cap, T, vC, vL, HR, HE, HT, H1', a3, hc, hf, HB⟩ := h.open1 k h0 H1.out
 clear h
 have r := HR.out.V.rows _ (yF h0 H1'.out)
 obtain ⟨A8, c8, hv8, hl8, hC8⟩ := Kd.yP r.r8
 have HC8 := zb.mk hC8
 have HL8 := zb.mk (show (tg T k).s.f8.length ≤ 1000 by rw [HT.out]; exact H8.out)
 have k8 : w1.cell? ⟨gT, k.toNat * 13 + 8, none⟩ = some (.slice A8 (tg T k).s.f8.length c8) := by rw [← hv8]; exact hc.out 8 _ rfl
 clear hv8 hl8 hC8 r
 have HS := zb.mk (show ∀ W, Below w1.heap.size w1 W → (W.cell? ⟨g, 3, none⟩ = some (.slice (some ⟨gT, 0, none⟩) (σ.free k).T.length cap) ∧ W.cell? ⟨gT, k.toNat * 13 + 8, none⟩ = some (.slice A8 (tg T k).s.f8.length c8)) from fun W hb => ⟨za hb a3, za hb k8⟩)
 have HK3 := zb.mk (show ∀ W, Below w1.heap.size w1 W → (W.cell? ⟨gT, k.toNat * 13 + 3, none⟩ = some (tg T k).v3 ∧ W.frozen? ⟨gT, k.toNat * 13 + 3, none⟩ = false) from fun W hb => ⟨za hb (hc.out 3 _ rfl), (hb.frozen (p := ⟨gT, _, none⟩) HB.out.1).trans (hf.out 3)⟩)
 have NE1 := zb.mk (show (⟨g, 3, none⟩ : Addr) ≠ ⟨gT, k.toNat * 13 + 3, none⟩ from fun e => HB.out.2.1 (by rw [Addr.mk.injEq] at e; exact e.1))
 have NE2 := zb.mk (show (⟨gT, k.toNat * 13 + 8, none⟩ : Addr) ≠ ⟨gT, k.toNat * 13 + 3, none⟩ from fun e => by rw [Addr.mk.injEq] at e; omega)
 have p1 : k < ((σ.free k).T.length : Int) := H1.out
 go_upto_region 1 with (fail)
 go_region_held3 (fun W => W.cell? ⟨g, 3, none⟩ = some (.slice (some ⟨gT, 0, none⟩) (σ.free k).T.length cap) ∧ W.cell? ⟨gT, k.toNat * 13 + 8, none⟩ = some (.slice A8 (tg T k).s.f8.length c8)) (first | exact HS.out _ (ze (Below.refl _ _)) | exact HS.out _ (ze (zc (Below.refl _ _) _)) | exact HS.out _ (zc (ze (Below.refl _ _)) _) | exact HS.out _ (by assumption) | exact ⟨yo (HS.out _ (by assumption)).1 NE1.out, yo (HS.out _ (by assumption)).2 NE2.out⟩ | go_keep) (first | (refine Kd.zY (Kd.int .i64) (w0 := w1) w1.heap.size (by rfl) (.tmp 13) (.tmp 22) 29 3 (.int .i64 0) 8 (by rfl) Try.underlying29 (by kernel_rfl) (by rfl) (by decide) (by decide) (.slice (some ⟨w1.heap.size, 0, none⟩) 0 0) [] (tg T k).s.f8 A8 (tg T k).s.f8.length c8 (fun _ => True) (fun _ => False) (by rfl) (by rfl) ?o1 ?o2 (fun _ _ h => h) (fun _ h => h.elim) (fun _ _ => trivial) ?o3 ?o4 ?o5 ?o6; (case o1 => (with_reducible repeat (first | apply Kd.ym | apply Kd.zU)); exact xI (heap_alloc_new _ _) (Nat.le_refl _) trivial); (case o2 => exact Kd.zt HC8.out (by repeat (first | exact Below.refl _ _ | apply zn | apply zc | apply zj))); (case o3 => repeat (first | exact Below.refl _ _ | apply zn | apply zc | apply zj)); (case o4 => simp); (case o5 => have := HL8.out; simp; omega); intro va wa hra hba hga hata; have HRA := zb.mk hra; have HBA := zb.mk hba; obtain ⟨q3, y3⟩ := HK3.out wa hba; have oA := (Kd.R_val hra).2; obtain ⟨AA, cA, rfl⟩ := Kd.zJ hra))
 clear q3 y3 oA
 have h2 := (HR.out.below HBA.out).put3 k h0 H1'.out _ _ HBA.out.size HRA.out HR.out.hb.size
 obtain ⟨W2, hW2⟩ : ∃ W2, W2 = wa.setCell ⟨gT, k.toNat * 13 + 3, none⟩ (.slice AA ([] ++ (tg T k).s.f8).length cA) := ⟨_, rfl⟩
 rw [← hW2] at h2
 have h2 : zS w0 W2 g vp0 vp1 ((σ.free k).upd k fun t => { t with f3 := t.f8 }) := ⟨_, _, _, _, _, h2, by
  have := map_upd HE.out k (F := fun t => TG.w3 (.slice AA ([] ++ (tg T k).s.f8).length cA) t.s.f8 t) (f := fun t => { t with f3 := t.f8 }) (fun _ => rfl)
  exact this⟩
 obtain ⟨σ2, hσ2⟩ : ∃ σ2, σ2 = (σ.free k).upd k fun t => { t with f3 := t.f8 } := ⟨_, rfl⟩
 rw [← hσ2] at h2
 have e2 : wa.setCell ⟨gT, k.toNat * 13 + 3, none⟩ (.slice AA (tg T k).s.f8.length cA) = W2 := hW2.symm
 rw [e2]
 clear e2 hW2
 have L2 := zb.mk (show k < (σ2.T.length : Int) by rw [hσ2, St.len_upd]; exact H1.out)
 have E2 := zb.mk hσ2
 clear hσ2 HR HE HT H1' a3 hc hf HB HC8 HL8 k8 HS HK3 NE1 NE2 hba hga hata HRA HBA p1
 obtain ⟨gT2, cap2, T2, vC2, vL2, HR, HE, HT, H1', a3, hc, hf, HB⟩ := h2.open1 k h0 L2.out
 clear h2
 have p1 : k < (σ2.T.length : Int) := L2.out
 have k9 := hc.out 9 _ rfl
 have z9 := hf.out 9
 have k10 := hc.out 10 _ rfl
 have z10 := hf.out 10
 have k11 := hc.out 11 _ rfl
 have z11 := hf.out 11
 have ne := HB.out.2.1
 have b1 := HB.out.1
 have b2 : gT2 < W2.heap.size + 1 := by omega
 have bg := HB.out.2.2.2
 have bg2 : g < W2.heap.size + 1 := by omega
 go_wp2_with fail
 refine (xw (w0 := w0) (vp0 := vp0) (vp1 := vp1) (σ := ((σ2.upd k fun t => { t with f9 := [] }).upd k fun t => { t with f10 := [] }).upd k fun t => { t with f11 := 0 }) k 0 ?_ h0 (by rw [St.len_upd, St.len_upd, St.len_upd]; exact L2.out)).mono ?_
 ·rw [swap3 _ _ _ _ _ _ _ _ _ _ b1]
  have r2 := (show yL w0 W2 g W2.heap.size vp0 vp1 gT2 cap2 σ2 from ⟨_, _, _, _, HR.out, HE.out⟩).two k h0 L2.out
  exact (r2.num k h0 (by rw [St.len_upd, St.len_upd]; exact L2.out) (fun t => { t with f11 := 0 }) 11 0 (by decide) (fun _ => rfl) (fun _ => rfl) (fun _ => rfl) (fun _ => rfl) (fun _ => rfl)).S
 ·rintro e w3 ⟨rfl, h3⟩
  go_wp2
  go_end0
  rw [E2.out] at h3
  exact ⟨rfl, h3⟩
theorem St.len_again {σ : St} {k : Int} : (σ.again k).T.length = σ.T.length := by
 unfold St.again
 rw [St.len_stage, St.len_upd, St.len_upd, St.len_upd, St.len_upd]; rfl
end Go.Proofs.Ytppapibjbjmmbaa.QSY
set_option linter.unusedVariables false
set_option linter.unusedSimpArgs false
namespace Go.Proofs.Ytppapibjbjmmbaa.QSY
open Go.RowKit Go.Proofs.YtppapibjbjmmbaaW.PrintWords Go.Proofs.YtppapibjbjmmbaaW.PrintLast Go.Proofs.YtppapibjbjmmbaaW.PrintMore
def St.fails (σ : St) (k : Int) : St := σ.upd k fun t => { t with f4 := 3 }
set_option maxHeartbeats 1000000 in
theorem fails_calls {w0 w : World} {g : Nat} {vp0 vp1 : Value} {σ : St} (k : Int) (h : zS w0 w g vp0 vp1 σ) (h0 : 0 ≤ k) (h1 : k < σ.T.length) :
  Calls Try.prog 123 #[.pointer (some ⟨g, 0, none⟩), .int .i64 k] w fun e w' => e = .returned (.tuple #[]) ∧ zS w0 w' g vp0 vp1 (σ.fails k) := by
 have H1 := zb.mk h1
 obtain ⟨gT, cap, T, vC, vL, HR, HE, HT, H1', a3, hc, hf, HB⟩ := h.open1 k h0 h1
 have k4 := hc.out 4 _ rfl
 have z4 := hf.out 4
 clear h
 go_enter Try.func123, Try.ntmps123
 go_wp2
 go_end0
 exact ⟨rfl, ((show yL w0 w g w.heap.size vp0 vp1 gT cap σ from ⟨_, _, _, _, HR.out, HE.out⟩).num k h0 H1.out (fun t => { t with f4 := 3 }) 4 3 (by decide) (fun _ => rfl) (fun _ => rfl) (fun _ => rfl) (fun _ => rfl) (fun _ => rfl)).S⟩
def St.begin (σ : St) (k : Int) : St := (σ.upd k fun t => { t with f7 := σ.clk, f8 := t.f3, f12 := σ.L.length, f11 := 0 }).stage k 1
set_option maxHeartbeats 2000000 in
set_option maxRecDepth 100000 in
theorem begin_calls {w0 w : World} {g : Nat} {vp0 vp1 : Value} {σ : St} (k : Int) (h : zS w0 w g vp0 vp1 σ) (h0 : 0 ≤ k) (h1 : k < σ.T.length) (h3 : (σ.t k).f3.length ≤ 1000) :
  Calls Try.prog 128 #[.pointer (some ⟨g, 0, none⟩), .int .i64 k] w fun e w' => e = .returned (.tuple #[]) ∧ zS w0 w' g vp0 vp1 (σ.begin k) := by
 have H1 := zb.mk h1
 have H3 := zb.mk h3
 clear h1 h3
 obtain ⟨gT, cap, T, vC, vL, A3, c3, A8, c8, A9, c9, A10, c10, HR, HE, HT, H1', a3, ⟨k0, k1, k2, k3, k4, k5, k6, k7, k8, k9, k10, k11, k12⟩, hf, HB, HC3, HC8, HC9, HC10⟩ := h.open13 k h0 H1.out
 clear h
 obtain ⟨AL, cL, hvL, hlL, _⟩ := Kd.yP HR.out.V.rL
 subst hvL
 have a4 := HR.out.c4
 have a5 := HR.out.c5
 have bg := HB.out.2.2.2
 have b1 := HB.out.1
 have hu := Try.underlying43
 have hu2 := Try.underlying29
 have p1 : k < (σ.T.length : Int) := H1.out
 go_enter Try.func128, Try.ntmps128
 go_upto_region 2 with (fail)
 obtain ⟨V, hV⟩ : ∃ V, V = w.alloc (.cells #[.int .i64 (σ.t k).f0, .int .i64 (σ.t k).f1, .int .i64 (σ.t k).f2, .slice A3 (σ.t k).f3.length c3, .int .i64 (σ.t k).f4, .int .i64 (σ.t k).f5, .int .i64 (σ.t k).f6, .int .i64 σ.clk, .slice A8 (σ.t k).f8.length c8, .slice A9 (σ.t k).f9.length c9, .slice A10 (σ.t k).f10.length c10, .int .i64 (σ.t k).f11, .int .i64 (σ.t k).f12] 43) := ⟨_, rfl⟩
 have HBV := zb.mk (show Below w.heap.size w V by rw [hV]; exact zc (Below.refl _ _) _)
 have HVS := zb.mk (show w.heap.size < V.heap.size by rw [hV]; simp)
 have HX := zb.mk (show V.heap[w.heap.size]? = some (.cells #[.int .i64 (σ.t k).f0, .int .i64 (σ.t k).f1, .int .i64 (σ.t k).f2, .slice A3 (σ.t k).f3.length c3, .int .i64 (σ.t k).f4, .int .i64 (σ.t k).f5, .int .i64 (σ.t k).f6, .int .i64 σ.clk, .slice A8 (σ.t k).f8.length c8, .slice A9 (σ.t k).f9.length c9, .slice A10 (σ.t k).f10.length c10, .int .i64 (σ.t k).f11, .int .i64 (σ.t k).f12] 43 (0, 0)) by rw [hV]; exact heap_alloc_new _ _)
 rw [← hV]
 have x3 := (zd HX.out 3).trans rfl
 have q5 := za HBV.out a5
 have hb5 := HVS.out
 have gne : g ≠ w.heap.size := by omega
 clear hV k0 k1 k2 k3 k4 k5 k6 k7 k8 k9 k10 k11 k12 a4 a5
 have HG5 := zb.mk (show ∀ W, Below V.heap.size V W → W.heap[w.heap.size]? = some (.cells #[.int .i64 (σ.t k).f0, .int .i64 (σ.t k).f1, .int .i64 (σ.t k).f2, .slice A3 (σ.t k).f3.length c3, .int .i64 (σ.t k).f4, .int .i64 (σ.t k).f5, .int .i64 (σ.t k).f6, .int .i64 σ.clk, .slice A8 (σ.t k).f8.length c8, .slice A9 (σ.t k).f9.length c9, .slice A10 (σ.t k).f10.length c10, .int .i64 (σ.t k).f11, .int .i64 (σ.t k).f12] 43 (0, 0)) from fun W hb => (hb.block _ HVS.out).trans HX.out)
 go_upto_region 5 with (at_builtin; refine Kd.yT (Kd.int .i64) (w0 := V) V.heap.size rfl (.tmp 19) (.tmp 21) 29 3 (.int .i64 0) 8 rfl Try.underlying29 (by kernel_rfl) rfl (by decide) (by decide) (.slice (some ⟨V.heap.size, 0, none⟩) 0 0) [] (σ.t k).f3 A3 (σ.t k).f3.length c3 (fun _ => True) (fun _ => False) rfl rfl (xI (heap_alloc_new _ _) (Nat.le_refl _) trivial) (Kd.zt (Kd.zt HC3.out.1 HBV.out) (zc (Below.refl _ _) _)) (fun _ _ h => h) (fun _ h => h.elim) (fun _ _ => trivial) (zc (Below.refl _ _) _) (by simp) (by have := H3.out; simp; omega) ?_; intro va wa hra hba hga hata; have HRa := zb.mk hra; have HBa := zb.mk hba; obtain ⟨Aa, ca, rfl⟩ := Kd.zJ hra; have y8 := (zd (HG5.out wa hba) 8).trans rfl; have yf8 := zk (HG5.out wa hba) 8; have y12 := (zd (HG5.out wa hba) 12).trans rfl; have yf12 := zk (HG5.out wa hba) 12; have y11 := (zd (HG5.out wa hba) 11).trans rfl; have yf11 := zk (HG5.out wa hba) 11; have y5 := za hba q5; clear hra hba hga hata)
 obtain ⟨W5, hW5⟩ : ∃ W5, W5 = ((wa.setCell ⟨w.heap.size, 8, none⟩ (.slice Aa (σ.t k).f3.length ca)).setCell ⟨w.heap.size, 12, none⟩ (.int .i64 (σ.L.length : Int))).setCell ⟨w.heap.size, 11, none⟩ (.int .i64 0) := ⟨_, rfl⟩
 have HX5 := zb.mk (show W5.heap[w.heap.size]? = some (.cells #[.int .i64 (σ.t k).f0, .int .i64 (σ.t k).f1, .int .i64 (σ.t k).f2, .slice A3 (σ.t k).f3.length c3, .int .i64 (σ.t k).f4, .int .i64 (σ.t k).f5, .int .i64 (σ.t k).f6, .int .i64 σ.clk, .slice Aa (σ.t k).f3.length ca, .slice A9 (σ.t k).f9.length c9, .slice A10 (σ.t k).f10.length c10, .int .i64 0, .int .i64 (σ.L.length : Int)] 43 (0, 0)) by
  rw [hW5]
  exact zu (zu (zu (HG5.out wa HBa.out) 8 _) 12 _) 11 _)
 have HB5 := zb.mk (show Below w.heap.size w W5 by
  rw [hW5]
  exact zv (zv (zv (zi HBV.out HBa.out) (Nat.le_refl _)) (Nat.le_refl _)) (Nat.le_refl _))
 have HRu := zb.mk (show Kd.R (Kd.int .i64) 3 W5 w.heap.size (fun _ => True) (.slice Aa ([] ++ (σ.t k).f3).length ca) ([] ++ (σ.t k).f3) by
  rw [hW5]
  exact Kd.zP (Kd.R_set (Kd.R_set (Kd.R_set HRa.out (HG5.out wa HBa.out) (by decide) 8 _) (zu (HG5.out wa HBa.out) 8 _) (by decide) 12 _) (zu (zu (HG5.out wa HBa.out) 8 _) 12 _) (by decide) 11 _) (Nat.le_of_lt HVS.out))
 rw [← hW5]
 have e3 := za HB5.out a3
 have HZ := zb.mk (show ∀ j u, (tg T k).cells[j]? = some u → W5.cell? ⟨gT, k.toNat * 13 + j, none⟩ = some u from fun j u hj => za HB5.out ((HR.out.elem k h0 H1'.out).1 j u hj))
 have HF := zb.mk (show ∀ j, W5.frozen? ⟨gT, k.toNat * 13 + j, none⟩ = false from fun j => (HB5.out.frozen (p := ⟨gT, _, none⟩) HB.out.1).trans (hf.out j))
 clear hW5 y8 yf8 y12 yf12 y11 yf11 y5 x3 q5 a3 gne hb5 HBa HRa HG5 HX HBV
 have k0 : W5.cell? ⟨gT, k.toNat * 13, none⟩ = some _ := HZ.out 0 _ rfl
 have z0 : W5.frozen? ⟨gT, k.toNat * 13, none⟩ = false := HF.out 0
 have k1 := HZ.out 1 _ rfl
 have z1 := HF.out 1
 have k2 := HZ.out 2 _ rfl
 have z2 := HF.out 2
 have k3 := HZ.out 3 _ rfl
 have z3 := HF.out 3
 have k4 := HZ.out 4 _ rfl
 have z4 := HF.out 4
 have k5 := HZ.out 5 _ rfl
 have z5 := HF.out 5
 have k6 := HZ.out 6 _ rfl
 have z6 := HF.out 6
 have k7 := HZ.out 7 _ rfl
 have z7 := HF.out 7
 have k8 := HZ.out 8 _ rfl
 have z8 := HF.out 8
 have k9 := HZ.out 9 _ rfl
 have z9 := HF.out 9
 have k10 := HZ.out 10 _ rfl
 have z10 := HF.out 10
 have k11 := HZ.out 11 _ rfl
 have z11 := HF.out 11
 have k12 := HZ.out 12 _ rfl
 have z12 := HF.out 12
 refine yc (n := 9) (S := fun w' => w'.cell? ⟨g, 3, none⟩ = some (.slice (some ⟨gT, 0, none⟩) σ.T.length cap) ∧ w'.cell? ⟨w.heap.size, 0, none⟩ = some (.int .i64 (σ.t k).f0) ∧ w'.cell? ⟨w.heap.size, 1, none⟩ = some (.int .i64 (σ.t k).f1) ∧ w'.cell? ⟨w.heap.size, 2, none⟩ = some (.int .i64 (σ.t k).f2) ∧ w'.cell? ⟨w.heap.size, 3, none⟩ = some (.slice A3 (σ.t k).f3.length c3) ∧ w'.cell? ⟨w.heap.size, 4, none⟩ = some (.int .i64 (σ.t k).f4) ∧ w'.cell? ⟨w.heap.size, 5, none⟩ = some (.int .i64 (σ.t k).f5) ∧ w'.cell? ⟨w.heap.size, 6, none⟩ = some (.int .i64 (σ.t k).f6) ∧ w'.cell? ⟨w.heap.size, 7, none⟩ = some (.int .i64 σ.clk) ∧ w'.cell? ⟨w.heap.size, 8, none⟩ = some (.slice Aa (σ.t k).f3.length ca) ∧ w'.cell? ⟨w.heap.size, 9, none⟩ = some (.slice A9 (σ.t k).f9.length c9) ∧ w'.cell? ⟨w.heap.size, 10, none⟩ = some (.slice A10 (σ.t k).f10.length c10) ∧ w'.cell? ⟨w.heap.size, 11, none⟩ = some (.int .i64 0) ∧ w'.cell? ⟨w.heap.size, 12, none⟩ = some (.int .i64 (σ.L.length : Int))) (ds := [8]) (bm 9 0) (by kernel_rfl) rfl rfl ⟨(za (ze (Below.refl _ _)) e3), (za (ze (Below.refl _ _)) ((zd HX5.out 0).trans rfl)), (za (ze (Below.refl _ _)) ((zd HX5.out 1).trans rfl)), (za (ze (Below.refl _ _)) ((zd HX5.out 2).trans rfl)), (za (ze (Below.refl _ _)) ((zd HX5.out 3).trans rfl)), (za (ze (Below.refl _ _)) ((zd HX5.out 4).trans rfl)), (za (ze (Below.refl _ _)) ((zd HX5.out 5).trans rfl)), (za (ze (Below.refl _ _)) ((zd HX5.out 6).trans rfl)), (za (ze (Below.refl _ _)) ((zd HX5.out 7).trans rfl)), (za (ze (Below.refl _ _)) ((zd HX5.out 8).trans rfl)), (za (ze (Below.refl _ _)) ((zd HX5.out 9).trans rfl)), (za (ze (Below.refl _ _)) ((zd HX5.out 10).trans rfl)), (za (ze (Below.refl _ _)) ((zd HX5.out 11).trans rfl)), (za (ze (Below.refl _ _)) ((zd HX5.out 12).trans rfl))⟩ (fun hHeld => ?_)
 refine zl (i := 0) (N := some 32) (v := ?_) (a' := ?_) (bm 9 1) rfl rfl (by kernel_rfl) (fun _ _ _ h => h) (Or.inl ⟨by rfl, ?_⟩) ?_ ?_
 rotate_left
 ·intro w'
  go_simp
  with_reducible rfl
 rotate_left
 ·simp only [Act.put, List.setIfInBounds_toArray, List.set_cons_zero, List.set_cons_succ, zg, zh]
  rfl
 refine zl (i := 1) (N := some 33) (v := ?_) (a' := ?_) (bm 9 3) rfl rfl (by kernel_rfl) (fun _ _ _ h => h) (Or.inl ⟨by rfl, ?_⟩) ?_ ?_
 rotate_left
 ·intro w'
  go_simp
  with_reducible rfl
 rotate_left
 ·simp only [Act.put, List.setIfInBounds_toArray, List.set_cons_zero, List.set_cons_succ, zg, zh]
  rfl
 refine zl (i := 2) (N := some 34) (v := ?_) (a' := ?_) (bm 9 7) rfl rfl (by kernel_rfl) (fun _ _ _ h => h) (Or.inl ⟨by rfl, ?_⟩) ?_ ?_
 rotate_left
 ·intro w'
  go_simp
  with_reducible rfl
 rotate_left
 ·simp only [Act.put, List.setIfInBounds_toArray, List.set_cons_zero, List.set_cons_succ, zg, zh]
  rfl
 refine zl (i := 3) (N := some 35) (v := ?_) (a' := ?_) (bm 9 15) rfl rfl (by kernel_rfl) (fun _ _ _ h => h) (Or.inl ⟨by rfl, ?_⟩) ?_ ?_
 rotate_left
 ·intro w'
  go_simp
  with_reducible rfl
 rotate_left
 ·simp only [Act.put, List.setIfInBounds_toArray, List.set_cons_zero, List.set_cons_succ, zg, zh]
  rfl
 refine zl (i := 5) (N := some 37) (v := ?_) (a' := ?_) (bm 9 47) rfl rfl (by kernel_rfl) (fun _ _ _ h => h) (Or.inl ⟨by rfl, ?_⟩) ?_ ?_
 rotate_left
 ·intro w'
  go_simp
  with_reducible rfl
 rotate_left
 ·simp only [Act.put, List.setIfInBounds_toArray, List.set_cons_zero, List.set_cons_succ, zg, zh]
  rfl
 refine zA (i := 4) (N := some 36) (v := ?_) (a' := ?_) (bm 9 63) rfl rfl (by kernel_rfl) (fun _ _ _ h => h) (Or.inl ⟨by rfl, ?_⟩) hHeld ?_ ?_
 rotate_left
 ·rintro w' ⟨s0, s1, s2, s3, s4, s5, s6, s7, s8, s9, s10, s11, s12, s13⟩
  go_simp
  with_reducible rfl
 rotate_left
 ·simp only [Act.put, List.setIfInBounds_toArray, List.set_cons_zero, List.set_cons_succ, zg, zh]
  rfl
 refine zA (i := 6) (N := some 38) (v := ?_) (a' := ?_) (bm 9 127) rfl rfl (by kernel_rfl) (fun _ _ _ h => h) (Or.inl ⟨by rfl, ?_⟩) hHeld ?_ ?_
 rotate_left
 ·rintro w' ⟨s0, s1, s2, s3, s4, s5, s6, s7, s8, s9, s10, s11, s12, s13⟩
  go_simp
  with_reducible rfl
 rotate_left
 ·simp only [Act.put, List.setIfInBounds_toArray, List.set_cons_zero, List.set_cons_succ, zg, zh]
  rfl
 refine zl (i := 7) (N := some 39) (v := ?_) (a' := ?_) (bm 9 255) rfl rfl (by kernel_rfl) (fun _ _ _ h => h) (Or.inl ⟨by rfl, ?_⟩) ?_ ?_
 rotate_left
 ·intro w'
  go_simp
  with_reducible rfl
 rotate_left
 ·simp only [Act.put, List.setIfInBounds_toArray, List.set_cons_zero, List.set_cons_succ, zg, zh]
  rfl
 refine yR (i := 8) (N := none) (bm 9 511) rfl rfl (by kernel_rfl) (by decide) (fun K hK => ?_)
 refine yQ (w1 := ?_) (by rfl) rfl ?_ ?_
 rotate_left
 ·go_simp
  rfl
 refine hK.out _ _ ?_
 clear hK K
 refine yt (by kernel_rfl) ?_
 have hq := HT.out
 have hr := HR.out.V.rows _ (yF h0 H1'.out)
 rw [hq] at hr
 have hn := HR.out.nd (yF h0 H1'.out)
 have r5 := (HR.out.below HB5.out).storeS k h0 H1'.out (t' := ⟨{ σ.t k with f7 := σ.clk, f8 := [] ++ (σ.t k).f3, f12 := σ.L.length, f11 := 0 }, .slice A3 (σ.t k).f3.length c3, .slice Aa ([] ++ (σ.t k).f3).length ca, .slice A9 (σ.t k).f9.length c9, .slice A10 (σ.t k).f10.length c10⟩) 0 (TG.cells ⟨{ σ.t k with f7 := σ.clk, f8 := [] ++ (σ.t k).f3, f12 := σ.L.length, f11 := 0 }, .slice A3 (σ.t k).f3.length c3, .slice Aa ([] ++ (σ.t k).f3).length ca, .slice A9 (σ.t k).f9.length c9, .slice A10 (σ.t k).f10.length c10⟩) (Nat.le_refl 13) (by rw [hq]; rfl) (by intro x hx; simp only [TG.cells, List.mem_cons, List.not_mem_nil, or_false] at hx; rcases hx with rfl | rfl | rfl | rfl | rfl | rfl | rfl | rfl | rfl | rfl | rfl | rfl | rfl <;> rfl)
  ⟨Kd.zN hr.r3 HB5.out, Kd.zP HRu.out HR.out.hb.size, Kd.zN hr.r9 HB5.out, Kd.zN hr.r10 HB5.out⟩ (N' := W5.heap.size) HB5.out.size (by
   have := nodup_swap (a := (Value.slice A3 (σ.t k).f3.length c3).ownBlock.toList) (x := (Value.slice A8 (σ.t k).f8.length c8).ownBlock.toList) (c := (Value.slice A9 (σ.t k).f9.length c9).ownBlock.toList ++ (Value.slice A10 (σ.t k).f10.length c10).ownBlock.toList) (y := (Value.slice Aa ([] ++ (σ.t k).f3).length ca).ownBlock.toList) (by rw [hq] at hn; simpa [TG.blocks] using hn) (nodup_opt _) (fun b hb hm => HR.out.notin h0 H1'.out (Kd.yV HRu.out b (mem_opt hb)) (by rw [hq]; simpa [TG.blocks] using hm))
   simpa [TG.blocks] using this) (by
   intro b hb
   rw [hq]
   simp only [TG.blocks, List.mem_append, Option.mem_toList] at hb ⊢
   rcases hb with ((hb | hb) | hb) | hb
   ·exact .inl (.inl (.inl (.inl hb)))
   ·exact .inr ⟨Kd.yV HRu.out b hb, Kd.R_lt HRu.out b hb⟩
   ·exact .inl (.inl (.inr hb))
   ·exact .inl (.inr hb))
 have h5 : zS w0 (W5.setCells gT (k.toNat * 13 + 0) (TG.cells ⟨{ σ.t k with f7 := σ.clk, f8 := [] ++ (σ.t k).f3, f12 := σ.L.length, f11 := 0 }, .slice A3 (σ.t k).f3.length c3, .slice Aa ([] ++ (σ.t k).f3).length ca, .slice A9 (σ.t k).f9.length c9, .slice A10 (σ.t k).f10.length c10⟩)) g vp0 vp1 (σ.upd k fun t => { t with f7 := σ.clk, f8 := t.f3, f12 := σ.L.length, f11 := 0 }) := ⟨_, _, _, _, _, r5, map_set HE.out k _⟩
 clear r5 hr hn hq
 go_wp2_with fail
 refine (xw (w0 := w0) (vp0 := vp0) (vp1 := vp1) (σ := σ.upd k fun t => { t with f7 := σ.clk, f8 := t.f3, f12 := σ.L.length, f11 := 0 }) k 1 (h5.below (ze (Below.refl _ _))) h0 (by rw [St.len_upd]; exact H1.out)).mono ?_
 rintro e w3 ⟨rfl, h3⟩
 go_wp2
 go_end0
 exact ⟨rfl, h3⟩
end Go.Proofs.Ytppapibjbjmmbaa.QSY
set_option linter.unusedVariables false
set_option linter.unusedSimpArgs false
namespace Go.Proofs.Ytppapibjbjmmbaa.QSY
open Go.RowKit Go.Proofs.YtppapibjbjmmbaaW.PrintWords Go.Proofs.YtppapibjbjmmbaaW.PrintLast Go.Proofs.YtppapibjbjmmbaaW.PrintMore
def St.entry (σ : St) (k when_ : Int) : S50 := ⟨k, (σ.t k).f1, when_, (σ.t k).f9, (σ.t k).f10, (σ.t k).f12⟩
def St.logged (σ : St) (k when_ : Int) : St := { σ with L := σ.L ++ [σ.entry k when_] }
def St.end_ (σ : St) (k when_ : Int) : St := (((((((σ.logged k when_).upd k fun t => { t with f1 := t.f1 + 1 }).upd k fun t => { t with f9 := [] }).upd k fun t => { t with f10 := [] }).upd k fun t => { t with f7 := 0 }).upd k fun t => { t with f11 := 0 }).upd k fun t => { t with f12 := 0 }).stage k 0
theorem zM {B V : Nat} {w w' : World} (h : Below V w w') (hB : B ≤ V) : Below B w w' := ⟨h.os, h.tape, h.output, h.size, fun k hk => h.block k (by omega)⟩
theorem swap5 (W : World) (o1 o2 : Obj) (b x y z s t : Nat) (v1 v2 v3 v4 v5 : Value) (hb : b < W.heap.size) :
  ((((((W.setCell ⟨b, x, none⟩ v1).setCell ⟨b, y, none⟩ v2).setCell ⟨b, z, none⟩ v3).setCell ⟨b, s, none⟩ v4).setCell ⟨b, t, none⟩ v5).alloc o1).alloc o2 = ((((((W.alloc o1).setCell ⟨b, x, none⟩ v1).alloc o2).setCell ⟨b, y, none⟩ v2).setCell ⟨b, z, none⟩ v3).setCell ⟨b, s, none⟩ v4).setCell ⟨b, t, none⟩ v5 := by
 rw [World.setCell_alloc_past o1 b x v1 hb, World.setCell_alloc_past o2 b y v2 (by simp [World.setCell]; omega), World.setCell_alloc_past o2 b z v3 (by simp [World.setCell]; omega), World.setCell_alloc_past o2 b s v4 (by simp [World.setCell]; omega), World.setCell_alloc_past o2 b t v5 (by simp [World.setCell]; omega), World.setCell_alloc_past o1 b y v2 (by simp [World.setCell]; omega), World.setCell_alloc_past o1 b z v3 (by simp [World.setCell]; omega), World.setCell_alloc_past o1 b s v4 (by simp [World.setCell]; omega), World.setCell_alloc_past o1 b t v5 (by simp [World.setCell]; omega)]
theorem R_since {α : Type} {d : Kd α} {e B V b : Nat} {w : World} {v : Value} {xs : List α} (h : d.R e w b (fun _ => True) v xs) (hb : V ≤ b) (hB : B ≤ V) : d.R e w B (fun k => V ≤ k) v xs :=
 Kd.zT (Kd.zP (Kd.yI h) (Nat.le_trans hB hb)) (fun k hk => by have := hk.2.1; omega)
set_option maxHeartbeats 2000000 in
set_option maxRecDepth 100000 in
theorem end_calls {w0 w : World} {g : Nat} {vp0 vp1 : Value} {σ : St} (k when_ : Int) (h : zS w0 w g vp0 vp1 σ) (h0 : 0 ≤ k) (h1 : k < σ.T.length) (hp : 0 ≤ (σ.t k).f1 ∧ (σ.t k).f1 ≤ 1000) (h9 : (σ.t k).f9.length ≤ 1000) (h10 : (σ.t k).f10.length ≤ 1000) (hL : σ.L.length ≤ 1000000000) :
  Calls Try.prog 137 #[.pointer (some ⟨g, 0, none⟩), .int .i64 k, .int .i64 when_] w fun e w' => e = .returned (.tuple #[]) ∧ zS w0 w' g vp0 vp1 (σ.end_ k when_) := by
 have H1 := zb.mk h1
 have HP := zb.mk hp
 have H9 := zb.mk h9
 have H10 := zb.mk h10
 have HL := zb.mk hL
 clear h1 hp h9 h10 hL
 obtain ⟨gT, cap, T, vC, vL, A3, c3, A8, c8, A9, c9, A10, c10, HR, HE, HT, H1', a3, ⟨k0, k1, k2, k3, k4, k5, k6, k7, k8, k9, k10, k11, k12⟩, hf, HB, HC3, HC8, HC9, HC10⟩ := h.open13 k h0 H1.out
 clear h
 have hu := Try.underlying43
 have p1 : k < (σ.T.length : Int) := H1.out
 go_enter Try.func137, Try.ntmps137
 go_upto_region 1 with (fail)
 obtain ⟨V, hV⟩ : ∃ V, V = w.alloc (.cells #[.int .i64 (σ.t k).f0, .int .i64 (σ.t k).f1, .int .i64 (σ.t k).f2, .slice A3 (σ.t k).f3.length c3, .int .i64 (σ.t k).f4, .int .i64 (σ.t k).f5, .int .i64 (σ.t k).f6, .int .i64 (σ.t k).f7, .slice A8 (σ.t k).f8.length c8, .slice A9 (σ.t k).f9.length c9, .slice A10 (σ.t k).f10.length c10, .int .i64 (σ.t k).f11, .int .i64 (σ.t k).f12] 43) := ⟨_, rfl⟩
 have HBV := zb.mk (show Below w.heap.size w V by rw [hV]; exact zc (Below.refl _ _) _)
 have HX := zb.mk (show V.heap[w.heap.size]? = some (.cells #[.int .i64 (σ.t k).f0, .int .i64 (σ.t k).f1, .int .i64 (σ.t k).f2, .slice A3 (σ.t k).f3.length c3, .int .i64 (σ.t k).f4, .int .i64 (σ.t k).f5, .int .i64 (σ.t k).f6, .int .i64 (σ.t k).f7, .slice A8 (σ.t k).f8.length c8, .slice A9 (σ.t k).f9.length c9, .slice A10 (σ.t k).f10.length c10, .int .i64 (σ.t k).f11, .int .i64 (σ.t k).f12] 43 (0, 0)) by rw [hV]; exact heap_alloc_new _ _)
 rw [← hV]
 have HV := zb.mk (HR.out.below HBV.out).now
 obtain ⟨AL, cL, hvL, hlL, _⟩ := Kd.yP HV.out.V.rL
 subst hvL
 have HS := zb.mk (show ∀ W, Below V.heap.size V W → (W.cell? ⟨g, 5, none⟩ = some (.slice AL σ.L.length cL) ∧ W.cell? ⟨w.heap.size, 1, none⟩ = some (.int .i64 (σ.t k).f1) ∧ W.cell? ⟨w.heap.size, 9, none⟩ = some (.slice A9 (σ.t k).f9.length c9) ∧ W.cell? ⟨w.heap.size, 10, none⟩ = some (.slice A10 (σ.t k).f10.length c10) ∧ W.cell? ⟨w.heap.size, 12, none⟩ = some (.int .i64 (σ.t k).f12)) from fun W hb =>
  ⟨za hb HV.out.c5, za hb ((zd HX.out 1).trans rfl), za hb ((zd HX.out 9).trans rfl), za hb ((zd HX.out 10).trans rfl), za hb ((zd HX.out 12).trans rfl)⟩)
 have HC9 := zb.mk (show Kd.C k45 V A9 (σ.t k).f9.length (σ.t k).f9 ∧ (σ.t k).f9.length ≤ c9 from ⟨Kd.zt HC9.out.1 HBV.out, HC9.out.2⟩)
 have HC10 := zb.mk (show Kd.C k45 V A10 (σ.t k).f10.length (σ.t k).f10 ∧ (σ.t k).f10.length ≤ c10 from ⟨Kd.zt HC10.out.1 HBV.out, HC10.out.2⟩)
 have HBs := zb.mk (show w0.heap.size ≤ V.heap.size from HV.out.hb.size)
 clear k0 k1 k2 k3 k4 k5 k6 k7 k8 k9 k10 k11 k12 a3 hV
 have HSG := zb.mk (show ∀ W W1, Below V.heap.size V W → W.grownBy W1 (Value.slice AL σ.L.length cL).ownBlock → (W1.cell? ⟨g, 5, none⟩ = some (.slice AL σ.L.length cL) ∧ W1.cell? ⟨w.heap.size, 1, none⟩ = some (.int .i64 (σ.t k).f1) ∧ W1.cell? ⟨w.heap.size, 9, none⟩ = some (.slice A9 (σ.t k).f9.length c9) ∧ W1.cell? ⟨w.heap.size, 10, none⟩ = some (.slice A10 (σ.t k).f10.length c10) ∧ W1.cell? ⟨w.heap.size, 12, none⟩ = some (.int .i64 (σ.t k).f12) ∧ W1.frozen? ⟨g, 5, none⟩ = false) from fun W W1 hb hg => by
  have hR := Kd.zN HV.out.V.rL hb
  have b1 := zK hR hg g _ _ (by decide) ((hb.block _ (zo HV.out.blk)).trans HV.out.blk)
  have b2 := zK hR hg w.heap.size _ _ (by decide) ((hb.block _ (zo HX.out)).trans HX.out)
  have b1 := (b1.trans (hb.block _ (zo HV.out.blk))).trans HV.out.blk
  have b2 := (b2.trans (hb.block _ (zo HX.out))).trans HX.out
  exact ⟨(zd b1 5).trans rfl, (zd b2 1).trans rfl, (zd b2 9).trans rfl, (zd b2 10).trans rfl, (zd b2 12).trans rfl, zk b1 5⟩)
 refine yc (n := 25) (S := fun w' => w'.cell? ⟨g, 5, none⟩ = some (.slice AL σ.L.length cL) ∧ w'.cell? ⟨w.heap.size, 1, none⟩ = some (.int .i64 (σ.t k).f1) ∧ w'.cell? ⟨w.heap.size, 9, none⟩ = some (.slice A9 (σ.t k).f9.length c9) ∧ w'.cell? ⟨w.heap.size, 10, none⟩ = some (.slice A10 (σ.t k).f10.length c10) ∧ w'.cell? ⟨w.heap.size, 12, none⟩ = some (.int .i64 (σ.t k).f12)) (ds := [24]) (bm 25 0) (by kernel_rfl) rfl rfl ⟨(HS.out _ (ze (Below.refl _ _))).1, (HS.out _ (ze (Below.refl _ _))).2.1, (HS.out _ (ze (Below.refl _ _))).2.2.1, (HS.out _ (ze (Below.refl _ _))).2.2.2.1, (HS.out _ (ze (Below.refl _ _))).2.2.2.2⟩ (fun hHeld => ?_)
 refine zl (i := 0) (N := some 15) (v := ?_) (a' := ?_) (bm 25 1) rfl rfl (by kernel_rfl) (fun _ _ _ h => h) (Or.inl ⟨by rfl, ?_⟩) ?_ ?_
 rotate_left
 ·intro w'
  go_simp
  with_reducible rfl
 rotate_left
 ·simp only [Act.put, List.setIfInBounds_toArray, List.set_cons_zero, List.set_cons_succ, zg, zh]
  rfl
 refine zl (i := 1) (N := some 16) (v := ?_) (a' := ?_) (bm 25 3) rfl rfl (by kernel_rfl) (fun _ _ _ h => h) (Or.inl ⟨by rfl, ?_⟩) ?_ ?_
 rotate_left
 ·intro w'
  go_simp
  with_reducible rfl
 rotate_left
 ·simp only [Act.put, List.setIfInBounds_toArray, List.set_cons_zero, List.set_cons_succ, zg, zh]
  rfl
 refine zl (i := 2) (N := some 17) (v := ?_) (a' := ?_) (bm 25 7) rfl rfl (by kernel_rfl) (fun _ _ _ h => h) (Or.inl ⟨by rfl, ?_⟩) ?_ ?_
 rotate_left
 ·intro w'
  go_simp
  with_reducible rfl
 rotate_left
 ·simp only [Act.put, List.setIfInBounds_toArray, List.set_cons_zero, List.set_cons_succ, zg, zh]
  rfl
 refine zl (i := 3) (N := some 18) (v := ?_) (a' := ?_) (bm 25 15) rfl rfl (by kernel_rfl) (fun _ _ _ h => h) (Or.inl ⟨by rfl, ?_⟩) ?_ ?_
 rotate_left
 ·intro w'
  go_simp
  with_reducible rfl
 rotate_left
 ·simp only [Act.put, List.setIfInBounds_toArray, List.set_cons_zero, List.set_cons_succ, zg, zh]
  rfl
 refine zl (i := 4) (N := some 19) (v := ?_) (a' := ?_) (bm 25 31) rfl rfl (by kernel_rfl) (fun _ _ _ h => h) (Or.inl ⟨by rfl, ?_⟩) ?_ ?_
 rotate_left
 ·intro w'
  go_simp
  with_reducible rfl
 rotate_left
 ·simp only [Act.put, List.setIfInBounds_toArray, List.set_cons_zero, List.set_cons_succ, zg, zh]
  rfl
 refine zl (i := 6) (N := some 21) (v := ?_) (a' := ?_) (bm 25 95) rfl rfl (by kernel_rfl) (fun _ _ _ h => h) (Or.inl ⟨by rfl, ?_⟩) ?_ ?_
 rotate_left
 ·intro w'
  go_simp
  with_reducible rfl
 rotate_left
 ·simp only [Act.put, List.setIfInBounds_toArray, List.set_cons_zero, List.set_cons_succ, zg, zh]
  rfl
 refine zl (i := 7) (N := some 22) (v := ?_) (a' := ?_) (bm 25 223) rfl rfl (by kernel_rfl) (fun _ _ _ h => h) (Or.inl ⟨by rfl, ?_⟩) ?_ ?_
 rotate_left
 ·intro w'
  go_simp
  with_reducible rfl
 rotate_left
 ·simp only [Act.put, List.setIfInBounds_toArray, List.set_cons_zero, List.set_cons_succ, zg, zh]
  rfl
 refine zl (i := 9) (N := some 24) (v := ?_) (a' := ?_) (bm 25 735) rfl rfl (by kernel_rfl) (fun _ _ _ h => h) (Or.inl ⟨by rfl, ?_⟩) ?_ ?_
 rotate_left
 ·intro w'
  go_simp
  with_reducible rfl
 rotate_left
 ·simp only [Act.put, List.setIfInBounds_toArray, List.set_cons_zero, List.set_cons_succ, zg, zh]
  rfl
 refine zl (i := 10) (N := some 25) (v := ?_) (a' := ?_) (bm 25 1759) rfl rfl (by kernel_rfl) (fun _ _ _ h => h) (Or.inl ⟨by rfl, ?_⟩) ?_ ?_
 rotate_left
 ·intro w'
  go_simp
  with_reducible rfl
 rotate_left
 ·simp only [Act.put, List.setIfInBounds_toArray, List.set_cons_zero, List.set_cons_succ, zg, zh]
  rfl
 refine zl (i := 13) (N := some 28) (v := ?_) (a' := ?_) (bm 25 9951) rfl rfl (by kernel_rfl) (fun _ _ _ h => h) (Or.inl ⟨by rfl, ?_⟩) ?_ ?_
 rotate_left
 ·intro w'
  go_simp
  with_reducible rfl
 rotate_left
 ·simp only [Act.put, List.setIfInBounds_toArray, List.set_cons_zero, List.set_cons_succ, zg, zh]
  rfl
 refine zl (i := 16) (N := some 31) (v := ?_) (a' := ?_) (bm 25 75487) rfl rfl (by kernel_rfl) (fun _ _ _ h => h) (Or.inl ⟨by rfl, ?_⟩) ?_ ?_
 rotate_left
 ·intro w'
  go_simp
  with_reducible rfl
 rotate_left
 ·simp only [Act.put, List.setIfInBounds_toArray, List.set_cons_zero, List.set_cons_succ, zg, zh]
  rfl
 refine zA (i := 5) (N := some 20) (v := ?_) (a' := ?_) (bm 25 75519) rfl rfl (by kernel_rfl) (fun _ _ _ h => h) (Or.inl ⟨by rfl, ?_⟩) hHeld ?_ ?_
 rotate_left
 ·rintro w' ⟨s0, s1, s2, s3, s4⟩
  go_simp
  with_reducible rfl
 rotate_left
 ·simp only [Act.put, List.setIfInBounds_toArray, List.set_cons_zero, List.set_cons_succ, zg, zh]
  rfl
 refine zA (i := 8) (N := some 23) (v := ?_) (a' := ?_) (bm 25 75775) rfl rfl (by kernel_rfl) (fun _ _ _ h => h) (Or.inl ⟨by rfl, ?_⟩) hHeld ?_ ?_
 rotate_left
 ·rintro w' ⟨s0, s1, s2, s3, s4⟩
  go_simp
  with_reducible rfl
 rotate_left
 ·simp only [Act.put, List.setIfInBounds_toArray, List.set_cons_zero, List.set_cons_succ, zg, zh]
  rfl
 refine zA (i := 11) (N := some 26) (v := ?_) (a' := ?_) (bm 25 77823) rfl rfl (by kernel_rfl) (fun _ _ _ h => h) (Or.inl ⟨by rfl, ?_⟩) hHeld ?_ ?_
 rotate_left
 ·rintro w' ⟨s0, s1, s2, s3, s4⟩
  go_simp
  with_reducible rfl
 rotate_left
 ·simp only [Act.put, List.setIfInBounds_toArray, List.set_cons_zero, List.set_cons_succ, zg, zh]
  rfl
 refine zA (i := 14) (N := some 29) (v := ?_) (a' := ?_) (bm 25 94207) rfl rfl (by kernel_rfl) (fun _ _ _ h => h) (Or.inl ⟨by rfl, ?_⟩) hHeld ?_ ?_
 rotate_left
 ·rintro w' ⟨s0, s1, s2, s3, s4⟩
  go_simp
  with_reducible rfl
 rotate_left
 ·simp only [Act.put, List.setIfInBounds_toArray, List.set_cons_zero, List.set_cons_succ, zg, zh]
  rfl
 refine zA (i := 17) (N := some 32) (v := ?_) (a' := ?_) (bm 25 225279) rfl rfl (by kernel_rfl) (fun _ _ _ h => h) (Or.inl ⟨by rfl, ?_⟩) hHeld ?_ ?_
 rotate_left
 ·rintro w' ⟨s0, s1, s2, s3, s4⟩
  go_simp
  with_reducible rfl
 rotate_left
 ·simp only [Act.put, List.setIfInBounds_toArray, List.set_cons_zero, List.set_cons_succ, zg, zh]
  rfl
 refine yE (i := 12) (N := some 27) (bm 25 229375) rfl rfl (by kernel_rfl) (by decide) (fun K hK => ?_)
 refine xQ Try.func99 (by kernel_rfl) rfl #[.slice A9 (σ.t k).f9.length c9] (by rfl) rfl rfl (by simp only [List.map_toArray, List.map_cons, List.map_nil]; rfl) ?_
 with_reducible refine (xy A9 c9 (σ.t k).f9 _ (Kd.zt HC9.out.1 (ze (Below.refl _ _))) HC9.out.2 H9.out).mono ?_
 rintro e wa ⟨va, rfl, hra, hba⟩
 refine ⟨_, rfl, ?_⟩
 have HRa := zb.mk (Kd.zP hra (show V.heap.size ≤ _ from Nat.le_refl _))
 have HBa := zb.mk (show Below V.heap.size V wa from zi (ze (Below.refl _ _)) hba)
 obtain ⟨Aa, ca, rfl⟩ := Kd.zJ hra
 clear hra hba
 refine hK.out _ _ ⟨(HS.out _ HBa.out).1, (HS.out _ HBa.out).2.1, (HS.out _ HBa.out).2.2.1, (HS.out _ HBa.out).2.2.2.1, (HS.out _ HBa.out).2.2.2.2⟩ (fun hHeld => ?_)
 clear hK K
 refine zp (a' := ?_) ?_ ?_
 rotate_left
 ·show Act.put _ (some 27) _ = _
  simp only [Act.put, List.setIfInBounds_toArray, List.set_cons_zero, List.set_cons_succ, zg, zh]
  rfl
 refine yE (i := 15) (N := some 30) (bm 25 262143) rfl rfl (by kernel_rfl) (by decide) (fun K hK => ?_)
 refine xQ Try.func99 (by kernel_rfl) rfl #[.slice A10 (σ.t k).f10.length c10] (by rfl) rfl rfl (by simp only [List.map_toArray, List.map_cons, List.map_nil]; rfl) ?_
 with_reducible refine (xy A10 c10 (σ.t k).f10 _ (Kd.zt HC10.out.1 HBa.out) HC10.out.2 H10.out).mono ?_
 rintro e wb ⟨vb, rfl, hrb, hbb⟩
 refine ⟨_, rfl, ?_⟩
 have HRb := zb.mk (Kd.zP hrb (show V.heap.size ≤ _ from HBa.out.size))
 have HBb := zb.mk (show Below V.heap.size V wb from zi HBa.out hbb)
 have HRa2 := zb.mk (Kd.zN HRa.out hbb)
 obtain ⟨Ab, cb, rfl⟩ := Kd.zJ hrb
 clear hrb hbb
 refine hK.out _ _ ⟨(HS.out _ HBb.out).1, (HS.out _ HBb.out).2.1, (HS.out _ HBb.out).2.2.1, (HS.out _ HBb.out).2.2.2.1, (HS.out _ HBb.out).2.2.2.2⟩ (fun hHeld => ?_)
 clear hK K
 refine zp (a' := ?_) ?_ ?_
 rotate_left
 ·show Act.put _ (some 30) _ = _
  simp only [Act.put, List.setIfInBounds_toArray, List.set_cons_zero, List.set_cons_succ, zg, zh]
  rfl
 refine zl (i := 18) (N := some 33) (v := ?_) (a' := ?_) (bm 25 524287) rfl rfl (by kernel_rfl) (fun _ _ _ h => h) (Or.inl ⟨by rfl, ?_⟩) ?_ ?_
 rotate_left
 ·intro w'
  go_simp
  with_reducible rfl
 rotate_left
 ·simp only [Act.put, List.setIfInBounds_toArray, List.set_cons_zero, List.set_cons_succ, zg, zh]
  rfl
 refine yE (i := 19) (N := some 34) (bm 25 1048575) rfl rfl (by kernel_rfl) (by decide) (fun K hK => ?_)
 refine zI (w1 := ?_) (v := ?_) (by rfl) rfl ?_ ?_
 rotate_left 2
 ·go_simp
  constructor
  ·rfl
  ·rfl
 refine hK.out _ _ ⟨(HS.out _ (zc HBb.out _)).1, (HS.out _ (zc HBb.out _)).2.1, (HS.out _ (zc HBb.out _)).2.2.1, (HS.out _ (zc HBb.out _)).2.2.2.1, (HS.out _ (zc HBb.out _)).2.2.2.2⟩ (fun hHeld => ?_)
 clear hK K
 refine zp (a' := ?_) ?_ ?_
 rotate_left
 ·show Act.put _ (some 34) _ = _
  simp only [Act.put, List.setIfInBounds_toArray, List.set_cons_zero, List.set_cons_succ, zg, zh]
  rfl
 refine yE (i := 20) (N := some 35) (bm 25 2097151) rfl rfl (by kernel_rfl) (by decide) (fun K hK => ?_)
 refine Kd.xn k50 (w0 := wb) w0.heap.size (by rfl) (.tmp 20) (.tmp 34) 25 50 _ _ (by rfl) Try.underlying25 xL (by rfl) (by decide) (by decide) (.slice AL σ.L.length cL) σ.L (σ.entry k when_) [.int .i64 k, .int .i64 (σ.t k).f1, .int .i64 when_, .slice Aa (σ.t k).f9.length ca, .slice Ab (σ.t k).f10.length cb, .int .i64 (σ.t k).f12] (fun j => j ∉ T.flatMap TG.blocks) (fun j => V.heap.size ≤ j) (by rfl) (by first | rfl | (go_simp; done) | (simp; done)) (k50_mkM _ _ _ (σ.entry k when_) (R_since HRa2.out (Nat.le_refl _) HBs.out) (R_since HRb.out (Nat.le_refl _) HBs.out)) (fun j hj => ⟨fun hm => by have := HV.out.V.lt j hm; omega, fun he => by have := Kd.R_lt HV.out.V.rL j he.symm; omega⟩) (fun j hj hm => by have h1 := HV.out.V.lt j hm; have h2 := HBb.out.size; have hj' : wb.heap.size ≤ j := hj; omega) (Kd.zN HV.out.logok HBb.out) (Below.refl _ _) (Nat.le_trans HBs.out HBb.out.size) (by have := HL.out; omega) ?_
 intro vc wc hrc hbc hgc hatc
 have HRc := zb.mk hrc
 have HBc := zb.mk hbc
 have HGc := zb.mk hgc
 obtain ⟨Ac, cc, rfl⟩ := Kd.zJ hrc
 have HSc := zb.mk (HSG.out wb wc HBb.out hgc)
 have fC5 := HSc.out.2.2.2.2.2
 clear hrc hbc hgc hatc
 refine hK.out _ _ ⟨(HSc.out).1, (HSc.out).2.1, (HSc.out).2.2.1, (HSc.out).2.2.2.1, HSc.out.2.2.2.2.1⟩ (fun hHeld => ?_)
 clear hK K
 refine zp (a' := ?_) ?_ ?_
 rotate_left
 ·show Act.put _ (some 35) _ = _
  simp only [Act.put, List.setIfInBounds_toArray, List.set_cons_zero, List.set_cons_succ, zg, zh]
  rfl
 refine zl (i := 21) (N := some 36) (v := ?_) (a' := ?_) (bm 25 4194303) rfl rfl (by kernel_rfl) (fun _ _ _ h => h) (Or.inl ⟨by rfl, ?_⟩) ?_ ?_
 rotate_left
 ·intro w'
  go_simp
  with_reducible rfl
 rotate_left
 ·simp only [Act.put, List.setIfInBounds_toArray, List.set_cons_zero, List.set_cons_succ, zg, zh]
  rfl
 refine zl (i := 22) (N := some 37) (v := ?_) (a' := ?_) (bm 25 8388607) rfl rfl (by kernel_rfl) (fun _ _ _ h => h) (Or.inl ⟨by rfl, ?_⟩) ?_ ?_
 rotate_left
 ·intro w'
  go_simp
  with_reducible rfl
 rotate_left
 ·simp only [Act.put, List.setIfInBounds_toArray, List.set_cons_zero, List.set_cons_succ, zg, zh]
  rfl
 refine zl (i := 23) (N := some 38) (v := ?_) (a' := ?_) (bm 25 16777215) rfl rfl (by kernel_rfl) (fun _ _ _ h => h) (Or.inl ⟨by rfl, ?_⟩) ?_ ?_
 rotate_left
 ·intro w'
  go_simp
  with_reducible rfl
 rotate_left
 ·simp only [Act.put, List.setIfInBounds_toArray, List.set_cons_zero, List.set_cons_succ, zg, zh]
  rfl
 refine yR (i := 24) (N := none) (bm 25 33554431) rfl rfl (by kernel_rfl) (by decide) (fun K hK => ?_)
 refine yQ (w1 := ?_) (by rfl) rfl ?_ ?_
 rotate_left
 ·go_simp
  rfl
 refine hK.out _ _ ?_
 clear hK K
 refine yt (by kernel_rfl) ?_
 have h2 : zS w0 (wc.setCell ⟨g, 5, none⟩ (.slice Ac (σ.L ++ [σ.entry k when_]).length cc)) g vp0 vp1 (σ.logged k when_) :=
  ⟨_, _, _, _, _, (HV.out.below HBb.out).logput HBb.out.size HRc.out HGc.out HBc.out, HE.out⟩
 have e2 : wc.setCell ⟨g, 5, none⟩ (.slice Ac (σ.L.length + 1) cc) = wc.setCell ⟨g, 5, none⟩ (.slice Ac (σ.L ++ [σ.entry k when_]).length cc) := by rw [List.length_append]; rfl
 rw [e2]
 have x1 : (wc.setCell ⟨g, 5, none⟩ (.slice Ac (σ.L ++ [σ.entry k when_]).length cc)).cell? ⟨w.heap.size, 1, none⟩ = some (.int .i64 (σ.t k).f1) := yo HSc.out.2.1 (fun e => by rw [Addr.mk.injEq] at e; have := HB.out.2.2.2; omega)
 have L2 := zb.mk (show k < ((σ.logged k when_).T.length : Int) from H1.out)
 obtain ⟨W2, hW2⟩ : ∃ W2, W2 = wc.setCell ⟨g, 5, none⟩ (.slice Ac (σ.L ++ [σ.entry k when_]).length cc) := ⟨_, rfl⟩
 rw [← hW2] at h2 x1 ⊢
 obtain ⟨bx, hbx⟩ : ∃ bx, bx = w.heap.size := ⟨_, rfl⟩
 rw [← hbx] at x1 ⊢
 have e1 : wrap64 ((σ.t k).f1 + 1) = (σ.t k).f1 + 1 := by have := HP.out; unfold wrap64; omega
 clear e2 hW2 hbx HSc HRc HGc HBc fC5 HRa HBa HRb HBb HRa2 HSG HS HV HX HBV HR HE HT H1' hf HB HC3 HC8 HC9 HC10 hHeld HBs
 obtain ⟨σ2, hσ2⟩ : ∃ σ2, σ2 = σ.logged k when_ := ⟨_, rfl⟩
 have E2 := zb.mk hσ2
 rw [← hσ2] at h2 L2
 clear hσ2
 obtain ⟨gT2, cap2, T2, vC2, vL2, HR, HE, HT, H1', a3, hc, hf, HB⟩ := h2.open1 k h0 L2.out
 clear h2
 have k1 := hc.out 1 _ rfl
 have z1 := hf.out 1
 have p1 : k < (σ2.T.length : Int) := L2.out
 go_upto_region 2 with (fail)
 refine yc (n := 12) (S := fun w' => w'.cell? ⟨g, 3, none⟩ = some (.slice (some ⟨gT2, 0, none⟩) σ2.T.length cap2) ∧ w'.cell? ⟨bx, 1, none⟩ = some (.int .i64 (σ.t k).f1)) (ds := [11]) (bm 12 0) (by kernel_rfl) rfl rfl ⟨(za (ze (Below.refl _ _)) a3), (za (ze (Below.refl _ _)) x1)⟩ (fun hHeld => ?_)
 refine zl (i := 0) (N := some 39) (v := ?_) (a' := ?_) (bm 12 1) rfl rfl (by kernel_rfl) (fun _ _ _ h => h) (Or.inl ⟨by rfl, ?_⟩) ?_ ?_
 rotate_left
 ·intro w'
  go_simp
  with_reducible rfl
 rotate_left
 ·simp only [Act.put, List.setIfInBounds_toArray, List.set_cons_zero, List.set_cons_succ, zg, zh]
  rfl
 refine zl (i := 1) (N := some 40) (v := ?_) (a' := ?_) (bm 12 3) rfl rfl (by kernel_rfl) (fun _ _ _ h => h) (Or.inl ⟨by rfl, ?_⟩) ?_ ?_
 rotate_left
 ·intro w'
  go_simp
  with_reducible rfl
 rotate_left
 ·simp only [Act.put, List.setIfInBounds_toArray, List.set_cons_zero, List.set_cons_succ, zg, zh]
  rfl
 refine zl (i := 2) (N := some 41) (v := ?_) (a' := ?_) (bm 12 7) rfl rfl (by kernel_rfl) (fun _ _ _ h => h) (Or.inl ⟨by rfl, ?_⟩) ?_ ?_
 rotate_left
 ·intro w'
  go_simp
  with_reducible rfl
 rotate_left
 ·simp only [Act.put, List.setIfInBounds_toArray, List.set_cons_zero, List.set_cons_succ, zg, zh]
  rfl
 refine zl (i := 3) (N := some 42) (v := ?_) (a' := ?_) (bm 12 15) rfl rfl (by kernel_rfl) (fun _ _ _ h => h) (Or.inl ⟨by rfl, ?_⟩) ?_ ?_
 rotate_left
 ·intro w'
  go_simp
  with_reducible rfl
 rotate_left
 ·simp only [Act.put, List.setIfInBounds_toArray, List.set_cons_zero, List.set_cons_succ, zg, zh]
  rfl
 refine zl (i := 5) (N := some 44) (v := ?_) (a' := ?_) (bm 12 47) rfl rfl (by kernel_rfl) (fun _ _ _ h => h) (Or.inl ⟨by rfl, ?_⟩) ?_ ?_
 rotate_left
 ·intro w'
  go_simp
  with_reducible rfl
 rotate_left
 ·simp only [Act.put, List.setIfInBounds_toArray, List.set_cons_zero, List.set_cons_succ, zg, zh]
  rfl
 refine zl (i := 6) (N := some 45) (v := ?_) (a' := ?_) (bm 12 111) rfl rfl (by kernel_rfl) (fun _ _ _ h => h) (Or.inl ⟨by rfl, ?_⟩) ?_ ?_
 rotate_left
 ·intro w'
  go_simp
  with_reducible rfl
 rotate_left
 ·simp only [Act.put, List.setIfInBounds_toArray, List.set_cons_zero, List.set_cons_succ, zg, zh]
  rfl
 refine zA (i := 4) (N := some 43) (v := ?_) (a' := ?_) (bm 12 127) rfl rfl (by kernel_rfl) (fun _ _ _ h => h) (Or.inl ⟨by rfl, ?_⟩) hHeld ?_ ?_
 rotate_left
 ·rintro w' ⟨s0, s1⟩
  go_simp
  with_reducible rfl
 rotate_left
 ·simp only [Act.put, List.setIfInBounds_toArray, List.set_cons_zero, List.set_cons_succ, zg, zh]
  rfl
 refine zA (i := 7) (N := some 46) (v := ?_) (a' := ?_) (bm 12 255) rfl rfl (by kernel_rfl) (fun _ _ _ h => h) (Or.inl ⟨by rfl, ?_⟩) hHeld ?_ ?_
 rotate_left
 ·rintro w' ⟨s0, s1⟩
  go_simp
  with_reducible rfl
 rotate_left
 ·simp only [Act.put, List.setIfInBounds_toArray, List.set_cons_zero, List.set_cons_succ, zg, zh]
  rfl
 refine zl (i := 8) (N := some 47) (v := ?_) (a' := ?_) (bm 12 511) rfl rfl (by kernel_rfl) (fun _ _ _ h => h) (Or.inl ⟨by rfl, ?_⟩) ?_ ?_
 rotate_left
 ·intro w'
  go_simp
  with_reducible rfl
 rotate_left
 ·simp only [Act.put, List.setIfInBounds_toArray, List.set_cons_zero, List.set_cons_succ, zg, zh]
  rfl
 refine zl (i := 9) (N := some 48) (v := ?_) (a' := ?_) (bm 12 1023) rfl rfl (by kernel_rfl) (fun _ _ _ h => h) (Or.inl ⟨by rfl, ?_⟩) ?_ ?_
 rotate_left
 ·intro w'
  go_simp
  with_reducible rfl
 rotate_left
 ·simp only [Act.put, List.setIfInBounds_toArray, List.set_cons_zero, List.set_cons_succ, zg, zh]
  rfl
 refine zl (i := 10) (N := some 49) (v := ?_) (a' := ?_) (bm 12 2047) rfl rfl (by kernel_rfl) (fun _ _ _ h => h) (Or.inl ⟨by rfl, ?_⟩) ?_ ?_
 rotate_left
 ·intro w'
  go_simp
  with_reducible rfl
 rotate_left
 ·simp only [Act.put, List.setIfInBounds_toArray, List.set_cons_zero, List.set_cons_succ, zg, zh]
  rfl
 refine yR (i := 11) (N := none) (bm 12 4095) rfl rfl (by kernel_rfl) (by decide) (fun K hK => ?_)
 refine yQ (w1 := ?_) (by rfl) rfl ?_ ?_
 rotate_left
 ·go_simp
  rfl
 refine hK.out _ _ ?_
 clear hK K
 refine yt (by kernel_rfl) ?_
 have h2 : zS w0 (W2.setCell ⟨gT2, k.toNat * 13 + 1, none⟩ (.int .i64 ((σ.t k).f1 + 1))) g vp0 vp1 (σ2.upd k fun t => { t with f1 := t.f1 + 1 }) := by
  have ht : (σ2.t k).f1 = (σ.t k).f1 := by rw [E2.out]; rfl
  have r := HR.out.numf k h0 H1'.out (fun t => { t with f1 := (σ.t k).f1 + 1 }) 1 ((σ.t k).f1 + 1) (by decide) (fun _ => rfl) (fun _ => rfl) (fun _ => rfl) (fun _ => rfl) (fun _ => rfl)
  have e : (σ2.upd k fun t => { t with f1 := t.f1 + 1 }) = σ2.upd k fun t => { t with f1 := (σ.t k).f1 + 1 } := by unfold St.upd; simp only [ht]
  rw [e]
  exact ⟨_, _, _, _, _, r, map_upd HE.out k (F := fun t => t.w { t.s with f1 := (σ.t k).f1 + 1 }) (fun _ => rfl)⟩
 obtain ⟨W3, hW3⟩ : ∃ W3, W3 = W2.setCell ⟨gT2, k.toNat * 13 + 1, none⟩ (.int .i64 ((σ.t k).f1 + 1)) := ⟨_, rfl⟩
 rw [← hW3] at h2 ⊢
 clear hW3 HR HE HT H1' a3 hc hf HB k1 z1 p1 x1 hHeld
 obtain ⟨σ3, hσ3⟩ : ∃ σ3, σ3 = σ2.upd k fun t => { t with f1 := t.f1 + 1 } := ⟨_, rfl⟩
 rw [← hσ3] at h2
 have L3 := zb.mk (show k < (σ3.T.length : Int) by rw [hσ3, St.len_upd]; exact L2.out)
 have E3 := zb.mk hσ3
 clear hσ3 L2
 obtain ⟨gT3, cap3, T3, vC3, vL3, HR, HE, HT, H1', a3, hc, hf, HB⟩ := h2.open1 k h0 L3.out
 clear h2
 have p1 : k < (σ3.T.length : Int) := L3.out
 have k9 := hc.out 9 _ rfl
 have z9 := hf.out 9
 have k10 := hc.out 10 _ rfl
 have z10 := hf.out 10
 have k7 := hc.out 7 _ rfl
 have z7 := hf.out 7
 have k11 := hc.out 11 _ rfl
 have z11 := hf.out 11
 have k12 := hc.out 12 _ rfl
 have z12 := hf.out 12
 have ne := HB.out.2.1
 have b1 := HB.out.1
 have b2 : gT3 < W3.heap.size + 1 := by omega
 have bg := HB.out.2.2.2
 have bg2 : g < W3.heap.size + 1 := by omega
 go_wp2_with fail
 refine (xw (w0 := w0) (vp0 := vp0) (vp1 := vp1) (σ := ((((σ3.upd k fun t => { t with f9 := [] }).upd k fun t => { t with f10 := [] }).upd k fun t => { t with f7 := 0 }).upd k fun t => { t with f11 := 0 }).upd k fun t => { t with f12 := 0 }) k 0 ?_ h0 (by rw [St.len_upd, St.len_upd, St.len_upd, St.len_upd, St.len_upd]; exact L3.out)).mono ?_
 ·rw [swap5 _ _ _ _ _ _ _ _ _ _ _ _ _ _ b1]
  have r2 := (show yL w0 W3 g W3.heap.size vp0 vp1 gT3 cap3 σ3 from ⟨_, _, _, _, HR.out, HE.out⟩).two k h0 L3.out
  have r3 := r2.num k h0 (by rw [St.len_upd, St.len_upd]; exact L3.out) (fun t => { t with f7 := 0 }) 7 0 (by decide) (fun _ => rfl) (fun _ => rfl) (fun _ => rfl) (fun _ => rfl) (fun _ => rfl)
  have r4 := r3.num k h0 (by rw [St.len_upd, St.len_upd, St.len_upd]; exact L3.out) (fun t => { t with f11 := 0 }) 11 0 (by decide) (fun _ => rfl) (fun _ => rfl) (fun _ => rfl) (fun _ => rfl) (fun _ => rfl)
  exact (r4.num k h0 (by rw [St.len_upd, St.len_upd, St.len_upd, St.len_upd]; exact L3.out) (fun t => { t with f12 := 0 }) 12 0 (by decide) (fun _ => rfl) (fun _ => rfl) (fun _ => rfl) (fun _ => rfl) (fun _ => rfl)).S.below (ze (Below.refl _ _))
 ·rintro e w3 ⟨rfl, h3⟩
  go_wp2
  go_end0
  rw [E3.out, E2.out] at h3
  exact ⟨rfl, h3⟩
end Go.Proofs.Ytppapibjbjmmbaa.QSY
set_option linter.unusedVariables false
set_option linter.unusedSimpArgs false
namespace Go.Proofs.Ytppapibjbjmmbaa.QSY
open Go.RowKit Go.Proofs.YtppapibjbjmmbaaW.PrintWords Go.Proofs.YtppapibjbjmmbaaW.PrintLast Go.Proofs.YtppapibjbjmmbaaW.PrintMore
def St.next (σ : St) (k at_ : Int) : St := σ.upd k fun t => { t with f6 := at_ + 1 }
theorem St.len_next {σ : St} {k a : Int} : (σ.next k a).T.length = σ.T.length := St.len_upd
theorem zS.next {w0 w : World} {g gT cap : Nat} {vp0 vp1 : Value} {σ : St} (h : yL w0 w g w.heap.size vp0 vp1 gT cap σ) (k at_ : Int) (h0 : 0 ≤ k) (h1 : k < σ.T.length) : zS w0 (w.setCell ⟨gT, k.toNat * 13 + 6, none⟩ (.int .i64 (at_ + 1))) g vp0 vp1 (σ.next k at_) :=
 (h.num k h0 h1 (fun t => { t with f6 := at_ + 1 }) 6 (at_ + 1) (by decide) (fun _ => rfl) (fun _ => rfl) (fun _ => rfl) (fun _ => rfl) (fun _ => rfl)).S
def putAt (l : List S45) (i : Int) : S45 := zw l i
def St.held (σ : St) (k c : Int) : St := { σ with C := σ.C.set c.toNat { cg σ.C c with f2 := k } }
def St.lock (σ : St) (k : Int) : St := if 0 ≤ (cg σ.C (putAt (σ.t k).f10 (σ.t k).f6).f0).f2 then σ.again k else if (σ.t k).f6 + 1 = (σ.t k).f10.length then ((σ.held k (putAt (σ.t k).f10 (σ.t k).f6).f0).next k (σ.t k).f6).stage k 3 else (σ.held k (putAt (σ.t k).f10 (σ.t k).f6).f0).next k (σ.t k).f6
set_option maxHeartbeats 4000000 in
set_option maxRecDepth 100000 in
theorem lock_calls {w0 w : World} {g : Nat} {vp0 vp1 : Value} {σ : St} (k : Int) (h : zS w0 w g vp0 vp1 σ) (h0 : 0 ≤ k) (h1 : k < σ.T.length) (h8 : (σ.t k).f8.length ≤ 1000) (h10 : (σ.t k).f10.length ≤ 1000) (ha0 : 0 ≤ (σ.t k).f6) (ha1 : (σ.t k).f6 < (σ.t k).f10.length)
  (hc0 : 0 ≤ (putAt (σ.t k).f10 (σ.t k).f6).f0) (hc1 : (putAt (σ.t k).f10 (σ.t k).f6).f0 < σ.C.length) :
  Calls Try.prog 130 #[.pointer (some ⟨g, 0, none⟩), .int .i64 k] w fun e w' => e = .returned (.tuple #[]) ∧ zS w0 w' g vp0 vp1 (σ.lock k) := by
 have H1 := zb.mk h1
 have H8 := zb.mk h8
 have H10 := zb.mk h10
 clear h1 h8 h10
 obtain ⟨gT, cap, T, vC, vL, A3, c3, A8, c8, A9, c9, A10, c10, HR, HE, HT, H1', a3, ⟨k0, k1, k2, k3, k4, k5, k6, k7, k8, k9, k10, k11, k12⟩, hf, HB, HC3, HC8, HC9, HC10⟩ := h.open13 k h0 H1.out
 clear h
 obtain ⟨gC, capC, rfl, e0, e1, cc, hcc⟩ := HR.out.cform (by omega)
 obtain ⟨y0, y1, y2, yf⟩ := HR.out.celem (putAt (σ.t k).f10 (σ.t k).f6).f0 hc0 hc1
 have yf2 := yf 2
 have a2 := HR.out.c2
 have hu := Try.underlying43
 have p1 : k < (σ.T.length : Int) := H1.out
 have b1 := HB.out.1
 have bg := HB.out.2.2.2
 obtain ⟨ad, rfl, x0, x1⟩ := yK HC10.out.1 (σ.t k).f6 ha0 ha1
 have HPA := zb.mk (show zw (σ.t k).f10 (σ.t k).f6 = putAt (σ.t k).f10 (σ.t k).f6 from rfl)
 rw [HPA.out] at x0 x1
 obtain ⟨pc, hpc⟩ : ∃ pc, pc = (putAt (σ.t k).f10 (σ.t k).f6).f0 := ⟨_, rfl⟩
 have HPC := zb.mk hpc
 rw [← hpc] at x0 hc0 hc1 y0 y1 y2 yf2
 clear hpc x1 y0 y1 yf hcc cc
 go_enter Try.func130, Try.ntmps130
 go_upto_region 1 with (fail)
 obtain ⟨V, hV⟩ : ∃ V, V = w.alloc (.cells #[.int .i64 (σ.t k).f0, .int .i64 (σ.t k).f1, .int .i64 (σ.t k).f2, .slice A3 (σ.t k).f3.length c3, .int .i64 (σ.t k).f4, .int .i64 (σ.t k).f5, .int .i64 (σ.t k).f6, .int .i64 (σ.t k).f7, .slice A8 (σ.t k).f8.length c8, .slice A9 (σ.t k).f9.length c9, .slice (some ad) (σ.t k).f10.length c10, .int .i64 (σ.t k).f11, .int .i64 (σ.t k).f12] 43) := ⟨_, rfl⟩
 have HBV := zb.mk (show Below w.heap.size w V by rw [hV]; exact zc (Below.refl _ _) _)
 have HVS := zb.mk (show w.heap.size < V.heap.size by rw [hV]; simp)
 have HX := zb.mk (show V.heap[w.heap.size]? = some (.cells #[.int .i64 (σ.t k).f0, .int .i64 (σ.t k).f1, .int .i64 (σ.t k).f2, .slice A3 (σ.t k).f3.length c3, .int .i64 (σ.t k).f4, .int .i64 (σ.t k).f5, .int .i64 (σ.t k).f6, .int .i64 (σ.t k).f7, .slice A8 (σ.t k).f8.length c8, .slice A9 (σ.t k).f9.length c9, .slice (some ad) (σ.t k).f10.length c10, .int .i64 (σ.t k).f11, .int .i64 (σ.t k).f12] 43 (0, 0)) by rw [hV]; exact heap_alloc_new _ _)
 rw [← hV]
 clear hV k0 k1 k2 k3 k4 k5 k6 k7 k8 k9 k10 k11 k12
 have HRV := zb.mk (HR.out.below HBV.out)
 have x0 := za HBV.out x0
 have w10 := (zd HX.out 10).trans rfl
 have w6 := (zd HX.out 6).trans rfl
 have q0 := ha0
 have q1 := ha1
 have a2 := za HBV.out a2
 have y2 := za HBV.out y2
 have yf2 : V.frozen? ⟨gC, pc.toNat * 3 + 2, none⟩ = false := (HBV.out.frozen (p := ⟨gC, _, none⟩) e1).trans yf2
 obtain ⟨lk, hlk⟩ : ∃ lk, lk = (cg σ.C pc).f2 := ⟨_, rfl⟩
 rw [← hlk] at y2
 have HLK := zb.mk hlk
 clear hlk
 by_cases q : 0 ≤ lk
 ·have c1 : decide (lk ≥ 0) = true := decide_eq_true q
  have c1' : decide (0 ≤ lk) = true := decide_eq_true q
  have HQ := zb.mk (show σ.lock k = σ.again k by unfold St.lock; rw [if_pos (by rw [← HPC.out, ← HLK.out]; exact q)])
  have HS := zb.mk (show zS w0 V g vp0 vp1 σ from ⟨_, _, _, _, _, HRV.out, HE.out⟩)
  clear q
  go_wp2_with fail
  refine (wg k HS.out h0 H1.out H8.out).mono ?_
  rintro e w3 ⟨rfl, h3⟩
  go_wp2
  refine bodyPost_ret (results_none rfl _ _ _) rfl ?_
  rw [HQ.out]
  exact ⟨rfl, h3⟩
 ·have c1 : decide (lk ≥ 0) = false := decide_eq_false q
  have c1' : decide (0 ≤ lk) = false := decide_eq_false q
  have HQ := zb.mk (show σ.lock k = if (σ.t k).f6 + 1 = (σ.t k).f10.length then ((σ.held k pc).next k (σ.t k).f6).stage k 3 else (σ.held k pc).next k (σ.t k).f6 by unfold St.lock; rw [← HPC.out, ← HLK.out, if_neg q])
  clear q
  go_upto_region 5 with (fail)
  have HR2 := zb.mk (HRV.out.lockset pc hc0 hc1 k)
  have HX2 := zb.mk ((Below.heap_setCell V ⟨gC, pc.toNat * 3 + 2, none⟩ (.int .i64 k) w.heap.size (by show w.heap.size ≠ gC; omega)).trans HX.out)
  obtain ⟨W2, hW2⟩ : ∃ W2, W2 = V.setCell ⟨gC, pc.toNat * 3 + 2, none⟩ (.int .i64 k) := ⟨_, rfl⟩
  rw [← hW2] at HR2 HX2 ⊢
  have x6 := (zd HX2.out 6).trans rfl
  have x10 := (zd HX2.out 10).trans rfl
  obtain ⟨at_, hat⟩ : ∃ at_, at_ = (σ.t k).f6 := ⟨_, rfl⟩
  rw [← hat] at x6 HQ
  have HAT := zb.mk hat
  have HA1 := zb.mk (show at_ + 1 ≤ 1001 ∧ 0 ≤ at_ by have := H10.out; rw [hat]; omega)
  have e6 : wrap64 (at_ + 1) = at_ + 1 := yN (by have := HA1.out; omega) (by have := HA1.out; omega)
  have hne : gT ≠ w.heap.size := by have := HB.out.1; omega
  have a3 := HR2.out.c3
  have kz := HR2.out.elem k h0 H1'.out
  have k1 := kz.1 6 _ (by rw [HT.out]; rfl)
  have z1 := kz.2.1 6
  clear hW2 hat a2 y2 yf2 hf kz w10 w6 x0
  refine yc (n := 12) (S := fun w' => w'.cell? ⟨g, 3, none⟩ = some (.slice (some ⟨gT, 0, none⟩) σ.T.length cap) ∧ w'.cell? ⟨w.heap.size, 6, none⟩ = some (.int .i64 at_)) (ds := [11]) (bm 12 0) (by kernel_rfl) rfl rfl ⟨(za (ze (Below.refl _ _)) a3), (za (ze (Below.refl _ _)) x6)⟩ (fun hHeld => ?_)
  refine zl (i := 0) (N := some 43) (v := ?_) (a' := ?_) (bm 12 1) rfl rfl (by kernel_rfl) (fun _ _ _ h => h) (Or.inl ⟨by rfl, ?_⟩) ?_ ?_
  rotate_left
  ·intro w'
   go_simp
   with_reducible rfl
  rotate_left
  ·simp only [Act.put, List.setIfInBounds_toArray, List.set_cons_zero, List.set_cons_succ, zg, zh]
   rfl
  refine zl (i := 1) (N := some 44) (v := ?_) (a' := ?_) (bm 12 3) rfl rfl (by kernel_rfl) (fun _ _ _ h => h) (Or.inl ⟨by rfl, ?_⟩) ?_ ?_
  rotate_left
  ·intro w'
   go_simp
   with_reducible rfl
  rotate_left
  ·simp only [Act.put, List.setIfInBounds_toArray, List.set_cons_zero, List.set_cons_succ, zg, zh]
   rfl
  refine zl (i := 2) (N := some 45) (v := ?_) (a' := ?_) (bm 12 7) rfl rfl (by kernel_rfl) (fun _ _ _ h => h) (Or.inl ⟨by rfl, ?_⟩) ?_ ?_
  rotate_left
  ·intro w'
   go_simp
   with_reducible rfl
  rotate_left
  ·simp only [Act.put, List.setIfInBounds_toArray, List.set_cons_zero, List.set_cons_succ, zg, zh]
   rfl
  refine zl (i := 3) (N := some 46) (v := ?_) (a' := ?_) (bm 12 15) rfl rfl (by kernel_rfl) (fun _ _ _ h => h) (Or.inl ⟨by rfl, ?_⟩) ?_ ?_
  rotate_left
  ·intro w'
   go_simp
   with_reducible rfl
  rotate_left
  ·simp only [Act.put, List.setIfInBounds_toArray, List.set_cons_zero, List.set_cons_succ, zg, zh]
   rfl
  refine zl (i := 5) (N := some 48) (v := ?_) (a' := ?_) (bm 12 47) rfl rfl (by kernel_rfl) (fun _ _ _ h => h) (Or.inl ⟨by rfl, ?_⟩) ?_ ?_
  rotate_left
  ·intro w'
   go_simp
   with_reducible rfl
  rotate_left
  ·simp only [Act.put, List.setIfInBounds_toArray, List.set_cons_zero, List.set_cons_succ, zg, zh]
   rfl
  refine zl (i := 6) (N := some 49) (v := ?_) (a' := ?_) (bm 12 111) rfl rfl (by kernel_rfl) (fun _ _ _ h => h) (Or.inl ⟨by rfl, ?_⟩) ?_ ?_
  rotate_left
  ·intro w'
   go_simp
   with_reducible rfl
  rotate_left
  ·simp only [Act.put, List.setIfInBounds_toArray, List.set_cons_zero, List.set_cons_succ, zg, zh]
   rfl
  refine zA (i := 4) (N := some 47) (v := ?_) (a' := ?_) (bm 12 127) rfl rfl (by kernel_rfl) (fun _ _ _ h => h) (Or.inl ⟨by rfl, ?_⟩) hHeld ?_ ?_
  rotate_left
  ·rintro w' ⟨s0, s1⟩
   go_simp
   with_reducible rfl
  rotate_left
  ·simp only [Act.put, List.setIfInBounds_toArray, List.set_cons_zero, List.set_cons_succ, zg, zh]
   rfl
  refine zA (i := 7) (N := some 50) (v := ?_) (a' := ?_) (bm 12 255) rfl rfl (by kernel_rfl) (fun _ _ _ h => h) (Or.inl ⟨by rfl, ?_⟩) hHeld ?_ ?_
  rotate_left
  ·rintro w' ⟨s0, s1⟩
   go_simp
   with_reducible rfl
  rotate_left
  ·simp only [Act.put, List.setIfInBounds_toArray, List.set_cons_zero, List.set_cons_succ, zg, zh]
   rfl
  refine zl (i := 8) (N := some 51) (v := ?_) (a' := ?_) (bm 12 511) rfl rfl (by kernel_rfl) (fun _ _ _ h => h) (Or.inl ⟨by rfl, ?_⟩) ?_ ?_
  rotate_left
  ·intro w'
   go_simp
   with_reducible rfl
  rotate_left
  ·simp only [Act.put, List.setIfInBounds_toArray, List.set_cons_zero, List.set_cons_succ, zg, zh]
   rfl
  refine zl (i := 9) (N := some 52) (v := ?_) (a' := ?_) (bm 12 1023) rfl rfl (by kernel_rfl) (fun _ _ _ h => h) (Or.inl ⟨by rfl, ?_⟩) ?_ ?_
  rotate_left
  ·intro w'
   go_simp
   with_reducible rfl
  rotate_left
  ·simp only [Act.put, List.setIfInBounds_toArray, List.set_cons_zero, List.set_cons_succ, zg, zh]
   rfl
  refine zl (i := 10) (N := some 53) (v := ?_) (a' := ?_) (bm 12 2047) rfl rfl (by kernel_rfl) (fun _ _ _ h => h) (Or.inl ⟨by rfl, ?_⟩) ?_ ?_
  rotate_left
  ·intro w'
   go_simp
   with_reducible rfl
  rotate_left
  ·simp only [Act.put, List.setIfInBounds_toArray, List.set_cons_zero, List.set_cons_succ, zg, zh]
   rfl
  refine yR (i := 11) (N := none) (bm 12 4095) rfl rfl (by kernel_rfl) (by decide) (fun K hK => ?_)
  refine yQ (w1 := ?_) (by rfl) rfl ?_ ?_
  rotate_left
  ·go_simp
   rfl
  refine hK.out _ _ ?_
  clear hK K
  refine yt (by kernel_rfl) ?_
  obtain ⟨ln, hln⟩ : ∃ ln, ln = (σ.t k).f10.length := ⟨_, rfl⟩
  rw [← hln] at x10 HQ
  have h3 : zS w0 (W2.setCell ⟨gT, k.toNat * 13 + 6, none⟩ (.int .i64 (at_ + 1))) g vp0 vp1 ((σ.held k pc).next k at_) := zS.next (σ := σ.held k pc) ⟨_, _, _, _, HR2.out.now, HE.out⟩ k at_ h0 H1.out
  have x6 := yo (b := ⟨gT, k.toNat * 13 + 6, none⟩) (u := .int .i64 (at_ + 1)) x6 (fun e => hne (by rw [Addr.mk.injEq] at e; exact e.1.symm))
  have x10 := yo (b := ⟨gT, k.toNat * 13 + 6, none⟩) (u := .int .i64 (at_ + 1)) x10 (fun e => hne (by rw [Addr.mk.injEq] at e; exact e.1.symm))
  obtain ⟨W3, hW3⟩ : ∃ W3, W3 = W2.setCell ⟨gT, k.toNat * 13 + 6, none⟩ (.int .i64 (at_ + 1)) := ⟨_, rfl⟩
  rw [← hW3] at h3 x6 x10 ⊢
  have HS := zb.mk h3
  clear hW3 h3 a3 k1 z1 hln hHeld
  by_cases qe : at_ + 1 = (ln : Int)
  ·have ce : (at_ + 1 == (ln : Int)) = true := by simp [qe]
   have HQ := zb.mk (HQ.out.trans (if_pos qe))
   clear qe
   go_wp2_with fail
   refine (xw k 3 (HS.out.below (ze (Below.refl _ _))) h0 (by rw [St.len_next]; exact H1.out)).mono ?_
   rintro e w3 ⟨rfl, h3⟩
   go_wp2
   go_end0
   rw [HQ.out]
   exact ⟨rfl, h3⟩
  ·have ce : (at_ + 1 == (ln : Int)) = false := by simp [qe]
   have HQ := zb.mk (HQ.out.trans (if_neg qe))
   clear qe
   go_wp2
   go_end0
   rw [HQ.out]
   exact ⟨rfl, HS.out.below (ze (Below.refl _ _))⟩
end Go.Proofs.Ytppapibjbjmmbaa.QSY
set_option linter.unusedVariables false
set_option linter.unusedSimpArgs false
namespace Go.Proofs.Ytppapibjbjmmbaa.QSY
open Go.RowKit Go.Proofs.YtppapibjbjmmbaaW.PrintWords Go.Proofs.YtppapibjbjmmbaaW.PrintLast Go.Proofs.YtppapibjbjmmbaaW.PrintMore
def St.check (σ : St) (k : Int) : St := if ((σ.t k).f9.length : Int) ≤ (σ.t k).f6 then σ.stage k 5 else if xq (cg σ.C (putAt (σ.t k).f9 (σ.t k).f6).f0) k (σ.t k).f7 = true then σ.again k else σ.next k (σ.t k).f6
set_option maxHeartbeats 4000000 in
set_option maxRecDepth 100000 in
theorem check_calls {w0 w : World} {g : Nat} {vp0 vp1 : Value} {σ : St} (k : Int) (h : zS w0 w g vp0 vp1 σ) (h0 : 0 ≤ k) (h1 : k < σ.T.length) (h8 : (σ.t k).f8.length ≤ 1000) (h9 : (σ.t k).f9.length ≤ 1000) (ha0 : 0 ≤ (σ.t k).f6)
  (hc : (σ.t k).f6 < (σ.t k).f9.length → 0 ≤ (putAt (σ.t k).f9 (σ.t k).f6).f0 ∧ (putAt (σ.t k).f9 (σ.t k).f6).f0 < σ.C.length) :
  Calls Try.prog 132 #[.pointer (some ⟨g, 0, none⟩), .int .i64 k] w fun e w' => e = .returned (.tuple #[]) ∧ zS w0 w' g vp0 vp1 (σ.check k) := by
 have H1 := zb.mk h1
 have H8 := zb.mk h8
 have H9 := zb.mk h9
 have HCC := zb.mk hc
 have HS0 := zb.mk h
 clear h1 h8 h9 hc
 obtain ⟨gT, cap, T, vC, vL, A3, c3, A8, c8, A9, c9, A10, c10, HR, HE, HT, H1', a3, ⟨k0, k1, k2, k3, k4, k5, k6, k7, k8, k9, k10, k11, k12⟩, hf, HB, HC3, HC8, HC9, HC10⟩ := h.open13 k h0 H1.out
 clear h
 have hu := Try.underlying43
 have p1 : k < (σ.T.length : Int) := H1.out
 have b1 := HB.out.1
 have bg := HB.out.2.2.2
 go_enter Try.func132, Try.ntmps132
 go_upto_region 1 with (fail)
 obtain ⟨V, hV⟩ : ∃ V, V = w.alloc (.cells #[.int .i64 (σ.t k).f0, .int .i64 (σ.t k).f1, .int .i64 (σ.t k).f2, .slice A3 (σ.t k).f3.length c3, .int .i64 (σ.t k).f4, .int .i64 (σ.t k).f5, .int .i64 (σ.t k).f6, .int .i64 (σ.t k).f7, .slice A8 (σ.t k).f8.length c8, .slice A9 (σ.t k).f9.length c9, .slice A10 (σ.t k).f10.length c10, .int .i64 (σ.t k).f11, .int .i64 (σ.t k).f12] 43) := ⟨_, rfl⟩
 have HBV := zb.mk (show Below w.heap.size w V by rw [hV]; exact zc (Below.refl _ _) _)
 have HVS := zb.mk (show w.heap.size < V.heap.size by rw [hV]; simp)
 have HX := zb.mk (show V.heap[w.heap.size]? = some (.cells #[.int .i64 (σ.t k).f0, .int .i64 (σ.t k).f1, .int .i64 (σ.t k).f2, .slice A3 (σ.t k).f3.length c3, .int .i64 (σ.t k).f4, .int .i64 (σ.t k).f5, .int .i64 (σ.t k).f6, .int .i64 (σ.t k).f7, .slice A8 (σ.t k).f8.length c8, .slice A9 (σ.t k).f9.length c9, .slice A10 (σ.t k).f10.length c10, .int .i64 (σ.t k).f11, .int .i64 (σ.t k).f12] 43 (0, 0)) by rw [hV]; exact heap_alloc_new _ _)
 rw [← hV]
 clear hV k0 k1 k2 k3 k4 k5 k6 k7 k8 k9 k10 k11 k12
 have HSV := zb.mk (HS0.out.below HBV.out)
 have w6 := (zd HX.out 6).trans rfl
 have w9 := (zd HX.out 9).trans rfl
 have HC9 := zb.mk (Kd.zt HC9.out.1 HBV.out)
 by_cases q : ((σ.t k).f9.length : Int) ≤ (σ.t k).f6
 ·have c1 : decide ((σ.t k).f6 ≥ ((σ.t k).f9.length : Int)) = true := decide_eq_true q
  have c1' : decide (((σ.t k).f9.length : Int) ≤ (σ.t k).f6) = true := decide_eq_true q
  have HQ := zb.mk (show σ.check k = σ.stage k 5 by unfold St.check; rw [if_pos q])
  clear q
  go_wp2_with fail
  refine (xw k 5 HSV.out h0 H1.out).mono ?_
  rintro e w3 ⟨rfl, h3⟩
  go_wp2
  refine bodyPost_ret (results_none rfl _ _ _) rfl ?_
  rw [HQ.out]
  exact ⟨rfl, h3⟩
 ·have c1 : decide ((σ.t k).f6 ≥ ((σ.t k).f9.length : Int)) = false := decide_eq_false q
  have c1' : decide (((σ.t k).f9.length : Int) ≤ (σ.t k).f6) = false := decide_eq_false q
  have hlt : (σ.t k).f6 < ((σ.t k).f9.length : Int) := by omega
  have HQ := zb.mk (show σ.check k = if xq (cg σ.C (putAt (σ.t k).f9 (σ.t k).f6).f0) k (σ.t k).f7 = true then σ.again k else σ.next k (σ.t k).f6 by unfold St.check; rw [if_neg q])
  obtain ⟨hc0, hc1⟩ := HCC.out hlt
  obtain ⟨ad, eA, x0, x1⟩ := yK HC9.out (σ.t k).f6 ha0 hlt
  have HPA := zb.mk (show zw (σ.t k).f9 (σ.t k).f6 = putAt (σ.t k).f9 (σ.t k).f6 from rfl)
  rw [HPA.out] at x0
  rw [eA] at w9
  obtain ⟨pc, hpc⟩ : ∃ pc, pc = (putAt (σ.t k).f9 (σ.t k).f6).f0 := ⟨_, rfl⟩
  rw [← hpc] at x0 hc0 hc1 HQ
  have HC0 := zb.mk (And.intro hc0 hc1)
  clear hpc x1 q eA hc0 hc1
  obtain ⟨bl, hbl⟩ : ∃ bl, bl = xq (cg σ.C pc) k (σ.t k).f7 := ⟨_, rfl⟩
  have HBL := zb.mk (show Calls Try.prog 141 #[.pointer (some ⟨g, 0, none⟩), .int .i64 k, .int .i64 pc] V fun e w' => e = .returned (.bool bl) ∧ Below V.heap.size V w' from by rw [hbl]; exact blind_calls k pc HSV.out h0 H1.out HC0.out.1 HC0.out.2)
  rw [← hbl] at HQ
  clear hbl
  cases bl with
  | true =>
   have HQ := zb.mk (HQ.out.trans (if_pos rfl))
   go_wp2_with fail
   refine HBL.out.mono ?_
   rintro e w2 ⟨rfl, hb2⟩
   have HS2 := zb.mk (HSV.out.below hb2)
   go_wp2_with fail
   refine (wg k HS2.out h0 H1.out H8.out).mono ?_
   rintro e w3 ⟨rfl, h3⟩
   go_wp2
   refine bodyPost_ret (results_none rfl _ _ _) rfl ?_
   rw [HQ.out]
   exact ⟨rfl, h3⟩
  | false =>
   have HQ := zb.mk (HQ.out.trans (if_neg (by decide)))
   go_wp2_with fail
   refine HBL.out.mono ?_
   rintro e W2 ⟨rfl, hb2⟩
   have HR2 := zb.mk ((HR.out.below HBV.out).below hb2)
   have HX2 := zb.mk ((hb2.block _ (zo HX.out)).trans HX.out)
   have x6 := (zd HX2.out 6).trans rfl
   obtain ⟨at_, hat⟩ : ∃ at_, at_ = (σ.t k).f6 := ⟨_, rfl⟩
   rw [← hat] at x6 HQ
   have HA1 := zb.mk (show at_ + 1 ≤ 1001 ∧ 0 ≤ at_ by have := H9.out; rw [hat]; omega)
   have e6 : wrap64 (at_ + 1) = at_ + 1 := yN (by have := HA1.out; omega) (by have := HA1.out; omega)
   have a3 := HR2.out.c3
   have kz := HR2.out.elem k h0 H1'.out
   have k1 := kz.1 6 _ (by rw [HT.out]; rfl)
   have z1 := kz.2.1 6
   clear hat w6 w9 x0 hf kz hlt hb2
   go_upto_region 5 with (fail)
   refine yc (n := 12) (S := fun w' => w'.cell? ⟨g, 3, none⟩ = some (.slice (some ⟨gT, 0, none⟩) σ.T.length cap) ∧ w'.cell? ⟨w.heap.size, 6, none⟩ = some (.int .i64 at_)) (ds := [11]) (bm 12 0) (by kernel_rfl) rfl rfl ⟨(za (ze (Below.refl _ _)) a3), (za (ze (Below.refl _ _)) x6)⟩ (fun hHeld => ?_)
   refine zl (i := 0) (N := some 35) (v := ?_) (a' := ?_) (bm 12 1) rfl rfl (by kernel_rfl) (fun _ _ _ h => h) (Or.inl ⟨by rfl, ?_⟩) ?_ ?_
   rotate_left
   ·intro w'
    go_simp
    with_reducible rfl
   rotate_left
   ·simp only [Act.put, List.setIfInBounds_toArray, List.set_cons_zero, List.set_cons_succ, zg, zh]
    rfl
   refine zl (i := 1) (N := some 36) (v := ?_) (a' := ?_) (bm 12 3) rfl rfl (by kernel_rfl) (fun _ _ _ h => h) (Or.inl ⟨by rfl, ?_⟩) ?_ ?_
   rotate_left
   ·intro w'
    go_simp
    with_reducible rfl
   rotate_left
   ·simp only [Act.put, List.setIfInBounds_toArray, List.set_cons_zero, List.set_cons_succ, zg, zh]
    rfl
   refine zl (i := 2) (N := some 37) (v := ?_) (a' := ?_) (bm 12 7) rfl rfl (by kernel_rfl) (fun _ _ _ h => h) (Or.inl ⟨by rfl, ?_⟩) ?_ ?_
   rotate_left
   ·intro w'
    go_simp
    with_reducible rfl
   rotate_left
   ·simp only [Act.put, List.setIfInBounds_toArray, List.set_cons_zero, List.set_cons_succ, zg, zh]
    rfl
   refine zl (i := 3) (N := some 38) (v := ?_) (a' := ?_) (bm 12 15) rfl rfl (by kernel_rfl) (fun _ _ _ h => h) (Or.inl ⟨by rfl, ?_⟩) ?_ ?_
   rotate_left
   ·intro w'
    go_simp
    with_reducible rfl
   rotate_left
   ·simp only [Act.put, List.setIfInBounds_toArray, List.set_cons_zero, List.set_cons_succ, zg, zh]
    rfl
   refine zl (i := 5) (N := some 40) (v := ?_) (a' := ?_) (bm 12 47) rfl rfl (by kernel_rfl) (fun _ _ _ h => h) (Or.inl ⟨by rfl, ?_⟩) ?_ ?_
   rotate_left
   ·intro w'
    go_simp
    with_reducible rfl
   rotate_left
   ·simp only [Act.put, List.setIfInBounds_toArray, List.set_cons_zero, List.set_cons_succ, zg, zh]
    rfl
   refine zl (i := 6) (N := some 41) (v := ?_) (a' := ?_) (bm 12 111) rfl rfl (by kernel_rfl) (fun _ _ _ h => h) (Or.inl ⟨by rfl, ?_⟩) ?_ ?_
   rotate_left
   ·intro w'
    go_simp
    with_reducible rfl
   rotate_left
   ·simp only [Act.put, List.setIfInBounds_toArray, List.set_cons_zero, List.set_cons_succ, zg, zh]
    rfl
   refine zA (i := 4) (N := some 39) (v := ?_) (a' := ?_) (bm 12 127) rfl rfl (by kernel_rfl) (fun _ _ _ h => h) (Or.inl ⟨by rfl, ?_⟩) hHeld ?_ ?_
   rotate_left
   ·rintro w' ⟨s0, s1⟩
    go_simp
    with_reducible rfl
   rotate_left
   ·simp only [Act.put, List.setIfInBounds_toArray, List.set_cons_zero, List.set_cons_succ, zg, zh]
    rfl
   refine zA (i := 7) (N := some 42) (v := ?_) (a' := ?_) (bm 12 255) rfl rfl (by kernel_rfl) (fun _ _ _ h => h) (Or.inl ⟨by rfl, ?_⟩) hHeld ?_ ?_
   rotate_left
   ·rintro w' ⟨s0, s1⟩
    go_simp
    with_reducible rfl
   rotate_left
   ·simp only [Act.put, List.setIfInBounds_toArray, List.set_cons_zero, List.set_cons_succ, zg, zh]
    rfl
   refine zl (i := 8) (N := some 43) (v := ?_) (a' := ?_) (bm 12 511) rfl rfl (by kernel_rfl) (fun _ _ _ h => h) (Or.inl ⟨by rfl, ?_⟩) ?_ ?_
   rotate_left
   ·intro w'
    go_simp
    with_reducible rfl
   rotate_left
   ·simp only [Act.put, List.setIfInBounds_toArray, List.set_cons_zero, List.set_cons_succ, zg, zh]
    rfl
   refine zl (i := 9) (N := some 44) (v := ?_) (a' := ?_) (bm 12 1023) rfl rfl (by kernel_rfl) (fun _ _ _ h => h) (Or.inl ⟨by rfl, ?_⟩) ?_ ?_
   rotate_left
   ·intro w'
    go_simp
    with_reducible rfl
   rotate_left
   ·simp only [Act.put, List.setIfInBounds_toArray, List.set_cons_zero, List.set_cons_succ, zg, zh]
    rfl
   refine zl (i := 10) (N := some 45) (v := ?_) (a' := ?_) (bm 12 2047) rfl rfl (by kernel_rfl) (fun _ _ _ h => h) (Or.inl ⟨by rfl, ?_⟩) ?_ ?_
   rotate_left
   ·intro w'
    go_simp
    with_reducible rfl
   rotate_left
   ·simp only [Act.put, List.setIfInBounds_toArray, List.set_cons_zero, List.set_cons_succ, zg, zh]
    rfl
   refine yR (i := 11) (N := none) (bm 12 4095) rfl rfl (by kernel_rfl) (by decide) (fun K hK => ?_)
   refine yQ (w1 := ?_) (by rfl) rfl ?_ ?_
   rotate_left
   ·go_simp
    rfl
   refine hK.out _ _ ?_
   clear hK K
   refine yt (by kernel_rfl) ?_
   go_wp2
   go_end0
   rw [HQ.out]
   exact ⟨rfl, (zS.next (σ := σ) ⟨_, _, _, _, HR2.out.now, HE.out⟩ k at_ h0 H1.out).below (ze (Below.refl _ _))⟩
end Go.Proofs.Ytppapibjbjmmbaa.QSY
set_option linter.unusedVariables false
set_option linter.unusedSimpArgs false
namespace Go.Proofs.Ytppapibjbjmmbaa.QSY
open Go.RowKit Go.Proofs.YtppapibjbjmmbaaW.PrintWords Go.Proofs.YtppapibjbjmmbaaW.PrintLast Go.Proofs.YtppapibjbjmmbaaW.PrintMore
def St.wrote (σ : St) (p : S45) (when_ : Int) : St := { σ with C := σ.C.set p.f0.toNat ⟨p.f1, when_, -1⟩ }
def St.write (σ : St) (k : Int) : St := if (σ.t k).f6 + 1 = (σ.t k).f10.length then ((σ.wrote (putAt (σ.t k).f10 (σ.t k).f6) (σ.t k).f11).next k (σ.t k).f6).end_ k (σ.t k).f11 else (σ.wrote (putAt (σ.t k).f10 (σ.t k).f6) (σ.t k).f11).next k (σ.t k).f6
set_option maxHeartbeats 4000000 in
set_option maxRecDepth 100000 in
theorem write_calls {w0 w : World} {g : Nat} {vp0 vp1 : Value} {σ : St} (k : Int) (h : zS w0 w g vp0 vp1 σ) (h0 : 0 ≤ k) (h1 : k < σ.T.length) (hp : 0 ≤ (σ.t k).f1 ∧ (σ.t k).f1 ≤ 1000) (h9 : (σ.t k).f9.length ≤ 1000) (h10 : (σ.t k).f10.length ≤ 1000) (hL : σ.L.length ≤ 1000000000) (ha0 : 0 ≤ (σ.t k).f6) (ha1 : (σ.t k).f6 < (σ.t k).f10.length)
  (hc0 : 0 ≤ (putAt (σ.t k).f10 (σ.t k).f6).f0) (hc1 : (putAt (σ.t k).f10 (σ.t k).f6).f0 < σ.C.length) :
  Calls Try.prog 133 #[.pointer (some ⟨g, 0, none⟩), .int .i64 k] w fun e w' => e = .returned (.tuple #[]) ∧ zS w0 w' g vp0 vp1 (σ.write k) := by
 have H1 := zb.mk h1
 have HP := zb.mk hp
 have H9 := zb.mk h9
 have H10 := zb.mk h10
 have HL := zb.mk hL
 clear h1 h9 h10 hp hL
 obtain ⟨gT, cap, T, vC, vL, A3, c3, A8, c8, A9, c9, A10, c10, HR, HE, HT, H1', a3, ⟨k0, k1, k2, k3, k4, k5, k6, k7, k8, k9, k10, k11, k12⟩, hf, HB, HC3, HC8, HC9, HC10⟩ := h.open13 k h0 H1.out
 clear h
 obtain ⟨gC, capC, rfl, e0, e1, cc, hcc⟩ := HR.out.cform (by omega)
 obtain ⟨y0, y1, y2, yf⟩ := HR.out.celem (putAt (σ.t k).f10 (σ.t k).f6).f0 hc0 hc1
 have a2 := HR.out.c2
 have hu := Try.underlying43
 have hup := Try.underlying45
 have huc := Try.underlying33
 have p1 : k < (σ.T.length : Int) := H1.out
 have b1 := HB.out.1
 have bg := HB.out.2.2.2
 obtain ⟨ad, rfl, x0, x1⟩ := yK HC10.out.1 (σ.t k).f6 ha0 ha1
 have HPA := zb.mk (show zw (σ.t k).f10 (σ.t k).f6 = putAt (σ.t k).f10 (σ.t k).f6 from rfl)
 rw [HPA.out] at x0 x1
 obtain ⟨pp, hpp⟩ : ∃ pp, pp = putAt (σ.t k).f10 (σ.t k).f6 := ⟨_, rfl⟩
 have HQ := zb.mk (show σ.write k = if (σ.t k).f6 + 1 = (σ.t k).f10.length then ((σ.wrote pp (σ.t k).f11).next k (σ.t k).f6).end_ k (σ.t k).f11 else (σ.wrote pp (σ.t k).f11).next k (σ.t k).f6 by rw [hpp]; rfl)
 rw [← hpp] at x0 x1 hc0 hc1 y0 y1 y2
 obtain ⟨pc, hpc⟩ : ∃ pc, pc = pp.f0 := ⟨_, rfl⟩
 obtain ⟨pn, hpn⟩ : ∃ pn, pn = pp.f1 := ⟨_, rfl⟩
 have HPC := zb.mk hpc
 have HPN := zb.mk hpn
 rw [← hpc] at x0 hc0 hc1 y0 y1 y2
 rw [← hpn] at x1
 rw [← hpp, ← hpc] at yf
 clear hpp hpc hpn hcc cc
 go_enter Try.func133, Try.ntmps133
 go_upto_region 1 with (fail)
 obtain ⟨V, hV⟩ : ∃ V, V = w.alloc (.cells #[.int .i64 (σ.t k).f0, .int .i64 (σ.t k).f1, .int .i64 (σ.t k).f2, .slice A3 (σ.t k).f3.length c3, .int .i64 (σ.t k).f4, .int .i64 (σ.t k).f5, .int .i64 (σ.t k).f6, .int .i64 (σ.t k).f7, .slice A8 (σ.t k).f8.length c8, .slice A9 (σ.t k).f9.length c9, .slice (some ad) (σ.t k).f10.length c10, .int .i64 (σ.t k).f11, .int .i64 (σ.t k).f12] 43) := ⟨_, rfl⟩
 have HBV := zb.mk (show Below w.heap.size w V by rw [hV]; exact zc (Below.refl _ _) _)
 have HVS := zb.mk (show w.heap.size < V.heap.size by rw [hV]; simp)
 have VSZ := zb.mk (show V.heap.size = w.heap.size + 1 by rw [hV]; simp)
 have HX := zb.mk (show V.heap[w.heap.size]? = some (.cells #[.int .i64 (σ.t k).f0, .int .i64 (σ.t k).f1, .int .i64 (σ.t k).f2, .slice A3 (σ.t k).f3.length c3, .int .i64 (σ.t k).f4, .int .i64 (σ.t k).f5, .int .i64 (σ.t k).f6, .int .i64 (σ.t k).f7, .slice A8 (σ.t k).f8.length c8, .slice A9 (σ.t k).f9.length c9, .slice (some ad) (σ.t k).f10.length c10, .int .i64 (σ.t k).f11, .int .i64 (σ.t k).f12] 43 (0, 0)) by rw [hV]; exact heap_alloc_new _ _)
 rw [← hV]
 clear hV k0 k1 k2 k3 k4 k5 k6 k7 k8 k9 k10 k11 k12
 have x0 := za HBV.out x0
 have x1 := za HBV.out x1
 have w10 := (zd HX.out 10).trans rfl
 have w6 := (zd HX.out 6).trans rfl
 have q0 := ha0
 have q1 := ha1
 have hVS : V.heap.size = w.heap.size + 1 := VSZ.out
 go_upto_region 2 with (fail)
 (try rw [hVS])
 obtain ⟨V2, hV2⟩ : ∃ V2, V2 = V.alloc (.cells #[.int .i64 pc, .int .i64 pn] 45) := ⟨_, rfl⟩
 have HBV2 := zb.mk (show Below w.heap.size w V2 by rw [hV2]; exact zi HBV.out (zc (Below.refl _ _) _))
 have HX2 := zb.mk (show V2.heap[w.heap.size]? = some (.cells #[.int .i64 (σ.t k).f0, .int .i64 (σ.t k).f1, .int .i64 (σ.t k).f2, .slice A3 (σ.t k).f3.length c3, .int .i64 (σ.t k).f4, .int .i64 (σ.t k).f5, .int .i64 (σ.t k).f6, .int .i64 (σ.t k).f7, .slice A8 (σ.t k).f8.length c8, .slice A9 (σ.t k).f9.length c9, .slice (some ad) (σ.t k).f10.length c10, .int .i64 (σ.t k).f11, .int .i64 (σ.t k).f12] 43 (0, 0)) by rw [hV2]; exact (Below.heap_alloc _ _ _ HVS.out).trans HX.out)
 have HU := zb.mk (show V2.heap[w.heap.size + 1]? = some (.cells #[.int .i64 pc, .int .i64 pn] 45 (0, 0)) by rw [hV2, ← hVS]; exact heap_alloc_new _ _)
 have HRV := zb.mk (HR.out.below HBV2.out)
 rw [← hV2]
 have a2 := za HBV2.out a2
 have y0 := za HBV2.out y0
 have y1 := za HBV2.out y1
 have y2 := za HBV2.out y2
 have yf0 : V2.frozen? ⟨gC, pc.toNat * 3, none⟩ = false := (HBV2.out.frozen (p := ⟨gC, _, none⟩) e1).trans (yf 0)
 have yf1 : V2.frozen? ⟨gC, pc.toNat * 3 + 1, none⟩ = false := (HBV2.out.frozen (p := ⟨gC, _, none⟩) e1).trans (yf 1)
 have yf2 : V2.frozen? ⟨gC, pc.toNat * 3 + 2, none⟩ = false := (HBV2.out.frozen (p := ⟨gC, _, none⟩) e1).trans (yf 2)
 have u0 := (zd HU.out 0).trans rfl
 have u1 := (zd HU.out 1).trans rfl
 have w11 := (zd HX2.out 11).trans rfl
 clear hV2 x0 x1 w10 w6 yf hVS HX HBV
 refine yc (n := 14) (S := fun w' => w'.cell? ⟨g, 2, none⟩ = some (.slice (some ⟨gC, 0, none⟩) σ.C.length capC) ∧ w'.cell? ⟨w.heap.size + 1, 0, none⟩ = some (.int .i64 pc) ∧ w'.cell? ⟨w.heap.size + 1, 1, none⟩ = some (.int .i64 pn) ∧ w'.cell? ⟨w.heap.size, 11, none⟩ = some (.int .i64 (σ.t k).f11)) (ds := [13]) (bm 14 0) (by kernel_rfl) rfl rfl ⟨(za (ze (Below.refl _ _)) a2), (za (ze (Below.refl _ _)) u0), (za (ze (Below.refl _ _)) u1), (za (ze (Below.refl _ _)) w11)⟩ (fun hHeld => ?_)
 refine zl (i := 0) (N := some 20) (v := ?_) (a' := ?_) (bm 14 1) rfl rfl (by kernel_rfl) (fun _ _ _ h => h) (Or.inl ⟨by rfl, ?_⟩) ?_ ?_
 rotate_left
 ·intro w'
  go_simp
  with_reducible rfl
 rotate_left
 ·simp only [Act.put, List.setIfInBounds_toArray, List.set_cons_zero, List.set_cons_succ, zg, zh]
  rfl
 refine zl (i := 1) (N := some 21) (v := ?_) (a' := ?_) (bm 14 3) rfl rfl (by kernel_rfl) (fun _ _ _ h => h) (Or.inl ⟨by rfl, ?_⟩) ?_ ?_
 rotate_left
 ·intro w'
  go_simp
  with_reducible rfl
 rotate_left
 ·simp only [Act.put, List.setIfInBounds_toArray, List.set_cons_zero, List.set_cons_succ, zg, zh]
  rfl
 refine zl (i := 2) (N := some 22) (v := ?_) (a' := ?_) (bm 14 7) rfl rfl (by kernel_rfl) (fun _ _ _ h => h) (Or.inl ⟨by rfl, ?_⟩) ?_ ?_
 rotate_left
 ·intro w'
  go_simp
  with_reducible rfl
 rotate_left
 ·simp only [Act.put, List.setIfInBounds_toArray, List.set_cons_zero, List.set_cons_succ, zg, zh]
  rfl
 refine zl (i := 3) (N := some 23) (v := ?_) (a' := ?_) (bm 14 15) rfl rfl (by kernel_rfl) (fun _ _ _ h => h) (Or.inl ⟨by rfl, ?_⟩) ?_ ?_
 rotate_left
 ·intro w'
  go_simp
  with_reducible rfl
 rotate_left
 ·simp only [Act.put, List.setIfInBounds_toArray, List.set_cons_zero, List.set_cons_succ, zg, zh]
  rfl
 refine zl (i := 5) (N := some 25) (v := ?_) (a' := ?_) (bm 14 47) rfl rfl (by kernel_rfl) (fun _ _ _ h => h) (Or.inl ⟨by rfl, ?_⟩) ?_ ?_
 rotate_left
 ·intro w'
  go_simp
  with_reducible rfl
 rotate_left
 ·simp only [Act.put, List.setIfInBounds_toArray, List.set_cons_zero, List.set_cons_succ, zg, zh]
  rfl
 refine zl (i := 7) (N := some 27) (v := ?_) (a' := ?_) (bm 14 175) rfl rfl (by kernel_rfl) (fun _ _ _ h => h) (Or.inl ⟨by rfl, ?_⟩) ?_ ?_
 rotate_left
 ·intro w'
  go_simp
  with_reducible rfl
 rotate_left
 ·simp only [Act.put, List.setIfInBounds_toArray, List.set_cons_zero, List.set_cons_succ, zg, zh]
  rfl
 refine zl (i := 9) (N := some 29) (v := ?_) (a' := ?_) (bm 14 687) rfl rfl (by kernel_rfl) (fun _ _ _ h => h) (Or.inl ⟨by rfl, ?_⟩) ?_ ?_
 rotate_left
 ·intro w'
  go_simp
  with_reducible rfl
 rotate_left
 ·simp only [Act.put, List.setIfInBounds_toArray, List.set_cons_zero, List.set_cons_succ, zg, zh]
  rfl
 refine zA (i := 4) (N := some 24) (v := ?_) (a' := ?_) (bm 14 703) rfl rfl (by kernel_rfl) (fun _ _ _ h => h) (Or.inl ⟨by rfl, ?_⟩) hHeld ?_ ?_
 rotate_left
 ·rintro w' ⟨s0, s1, s2, s3⟩
  go_simp
  with_reducible rfl
 rotate_left
 ·simp only [Act.put, List.setIfInBounds_toArray, List.set_cons_zero, List.set_cons_succ, zg, zh]
  rfl
 refine zA (i := 6) (N := some 26) (v := ?_) (a' := ?_) (bm 14 767) rfl rfl (by kernel_rfl) (fun _ _ _ h => h) (Or.inl ⟨by rfl, ?_⟩) hHeld ?_ ?_
 rotate_left
 ·rintro w' ⟨s0, s1, s2, s3⟩
  go_simp
  with_reducible rfl
 rotate_left
 ·simp only [Act.put, List.setIfInBounds_toArray, List.set_cons_zero, List.set_cons_succ, zg, zh]
  rfl
 refine zA (i := 8) (N := some 28) (v := ?_) (a' := ?_) (bm 14 1023) rfl rfl (by kernel_rfl) (fun _ _ _ h => h) (Or.inl ⟨by rfl, ?_⟩) hHeld ?_ ?_
 rotate_left
 ·rintro w' ⟨s0, s1, s2, s3⟩
  go_simp
  with_reducible rfl
 rotate_left
 ·simp only [Act.put, List.setIfInBounds_toArray, List.set_cons_zero, List.set_cons_succ, zg, zh]
  rfl
 refine zA (i := 10) (N := some 30) (v := ?_) (a' := ?_) (bm 14 2047) rfl rfl (by kernel_rfl) (fun _ _ _ h => h) (Or.inl ⟨by rfl, ?_⟩) hHeld ?_ ?_
 rotate_left
 ·rintro w' ⟨s0, s1, s2, s3⟩
  go_simp
  with_reducible rfl
 rotate_left
 ·simp only [Act.put, List.setIfInBounds_toArray, List.set_cons_zero, List.set_cons_succ, zg, zh]
  rfl
 refine zl (i := 11) (N := some 31) (v := ?_) (a' := ?_) (bm 14 4095) rfl rfl (by kernel_rfl) (fun _ _ _ h => h) (Or.inl ⟨by rfl, ?_⟩) ?_ ?_
 rotate_left
 ·intro w'
  go_simp
  with_reducible rfl
 rotate_left
 ·simp only [Act.put, List.setIfInBounds_toArray, List.set_cons_zero, List.set_cons_succ, zg, zh]
  rfl
 refine zl (i := 12) (N := some 32) (v := ?_) (a' := ?_) (bm 14 8191) rfl rfl (by kernel_rfl) (fun _ _ _ h => h) (Or.inl ⟨by rfl, ?_⟩) ?_ ?_
 rotate_left
 ·intro w'
  go_simp
  with_reducible rfl
 rotate_left
 ·simp only [Act.put, List.setIfInBounds_toArray, List.set_cons_zero, List.set_cons_succ, zg, zh]
  rfl
 refine yR (i := 13) (N := none) (bm 14 16383) rfl rfl (by kernel_rfl) (by decide) (fun K hK => ?_)
 refine yQ (w1 := ?_) (by rfl) rfl ?_ ?_
 rotate_left
 ·go_simp
  rfl
 refine hK.out _ _ ?_
 clear hK K
 refine yt (by kernel_rfl) ?_
 have HR2 := zb.mk (HRV.out.cset pc hc0 hc1 ⟨pn, (σ.t k).f11, -1⟩ [.int .i64 pn, .int .i64 (σ.t k).f11, .int .i64 (-1)] 0 (Nat.le_refl 3) rfl)
 have HX3 := zb.mk ((setCells_far [.int .i64 pn, .int .i64 (σ.t k).f11, .int .i64 (-1)] (pc.toNat * 3 + 0) w.heap.size (show w.heap.size ≠ gC by omega)).trans HX2.out)
 obtain ⟨W2, hW2⟩ : ∃ W2, W2 = V2.setCells gC (pc.toNat * 3 + 0) [.int .i64 pn, .int .i64 (σ.t k).f11, .int .i64 (-1)] := ⟨_, rfl⟩
 have eW : ((V2.setCell ⟨gC, pc.toNat * 3, none⟩ (.int .i64 pn)).setCell ⟨gC, pc.toNat * 3 + 1, none⟩ (.int .i64 (σ.t k).f11)).setCell ⟨gC, pc.toNat * 3 + 2, none⟩ (.int .i64 (-1)) = W2 := by rw [hW2]; rfl
 rw [← hW2] at HR2 HX3
 rw [eW]
 have HWR := zb.mk (show σ.wrote pp (σ.t k).f11 = { σ with C := σ.C.set pc.toNat ⟨pn, (σ.t k).f11, -1⟩ } by rw [HPC.out, HPN.out]; rfl)
 have x6 := (zd HX3.out 6).trans rfl
 have x10 := (zd HX3.out 10).trans rfl
 have x11 := (zd HX3.out 11).trans rfl
 obtain ⟨at_, hat⟩ : ∃ at_, at_ = (σ.t k).f6 := ⟨_, rfl⟩
 rw [← hat] at x6 HQ
 have HA1 := zb.mk (show at_ + 1 ≤ 1001 ∧ 0 ≤ at_ by have := H10.out; rw [hat]; omega)
 have e6 : wrap64 (at_ + 1) = at_ + 1 := yN (by have := HA1.out; omega) (by have := HA1.out; omega)
 have hne : gT ≠ w.heap.size := by have := HB.out.1; omega
 have a3 := HR2.out.c3
 have kz := HR2.out.elem k h0 H1'.out
 have k1 := kz.1 6 _ (by rw [HT.out]; rfl)
 have z1 := kz.2.1 6
 clear hW2 eW hat a2 y0 y1 y2 yf0 yf1 yf2 hf kz u0 u1 w11 hHeld
 go_upto_region 3 with (fail)
 refine yc (n := 12) (S := fun w' => w'.cell? ⟨g, 3, none⟩ = some (.slice (some ⟨gT, 0, none⟩) σ.T.length cap) ∧ w'.cell? ⟨w.heap.size, 6, none⟩ = some (.int .i64 at_)) (ds := [11]) (bm 12 0) (by kernel_rfl) rfl rfl ⟨(za (ze (Below.refl _ _)) a3), (za (ze (Below.refl _ _)) x6)⟩ (fun hHeld => ?_)
 refine zl (i := 0) (N := some 33) (v := ?_) (a' := ?_) (bm 12 1) rfl rfl (by kernel_rfl) (fun _ _ _ h => h) (Or.inl ⟨by rfl, ?_⟩) ?_ ?_
 rotate_left
 ·intro w'
  go_simp
  with_reducible rfl
 rotate_left
 ·simp only [Act.put, List.setIfInBounds_toArray, List.set_cons_zero, List.set_cons_succ, zg, zh]
  rfl
 refine zl (i := 1) (N := some 34) (v := ?_) (a' := ?_) (bm 12 3) rfl rfl (by kernel_rfl) (fun _ _ _ h => h) (Or.inl ⟨by rfl, ?_⟩) ?_ ?_
 rotate_left
 ·intro w'
  go_simp
  with_reducible rfl
 rotate_left
 ·simp only [Act.put, List.setIfInBounds_toArray, List.set_cons_zero, List.set_cons_succ, zg, zh]
  rfl
 refine zl (i := 2) (N := some 35) (v := ?_) (a' := ?_) (bm 12 7) rfl rfl (by kernel_rfl) (fun _ _ _ h => h) (Or.inl ⟨by rfl, ?_⟩) ?_ ?_
 rotate_left
 ·intro w'
  go_simp
  with_reducible rfl
 rotate_left
 ·simp only [Act.put, List.setIfInBounds_toArray, List.set_cons_zero, List.set_cons_succ, zg, zh]
  rfl
 refine zl (i := 3) (N := some 36) (v := ?_) (a' := ?_) (bm 12 15) rfl rfl (by kernel_rfl) (fun _ _ _ h => h) (Or.inl ⟨by rfl, ?_⟩) ?_ ?_
 rotate_left
 ·intro w'
  go_simp
  with_reducible rfl
 rotate_left
 ·simp only [Act.put, List.setIfInBounds_toArray, List.set_cons_zero, List.set_cons_succ, zg, zh]
  rfl
 refine zl (i := 5) (N := some 38) (v := ?_) (a' := ?_) (bm 12 47) rfl rfl (by kernel_rfl) (fun _ _ _ h => h) (Or.inl ⟨by rfl, ?_⟩) ?_ ?_
 rotate_left
 ·intro w'
  go_simp
  with_reducible rfl
 rotate_left
 ·simp only [Act.put, List.setIfInBounds_toArray, List.set_cons_zero, List.set_cons_succ, zg, zh]
  rfl
 refine zl (i := 6) (N := some 39) (v := ?_) (a' := ?_) (bm 12 111) rfl rfl (by kernel_rfl) (fun _ _ _ h => h) (Or.inl ⟨by rfl, ?_⟩) ?_ ?_
 rotate_left
 ·intro w'
  go_simp
  with_reducible rfl
 rotate_left
 ·simp only [Act.put, List.setIfInBounds_toArray, List.set_cons_zero, List.set_cons_succ, zg, zh]
  rfl
 refine zA (i := 4) (N := some 37) (v := ?_) (a' := ?_) (bm 12 127) rfl rfl (by kernel_rfl) (fun _ _ _ h => h) (Or.inl ⟨by rfl, ?_⟩) hHeld ?_ ?_
 rotate_left
 ·rintro w' ⟨s0, s1⟩
  go_simp
  with_reducible rfl
 rotate_left
 ·simp only [Act.put, List.setIfInBounds_toArray, List.set_cons_zero, List.set_cons_succ, zg, zh]
  rfl
 refine zA (i := 7) (N := some 40) (v := ?_) (a' := ?_) (bm 12 255) rfl rfl (by kernel_rfl) (fun _ _ _ h => h) (Or.inl ⟨by rfl, ?_⟩) hHeld ?_ ?_
 rotate_left
 ·rintro w' ⟨s0, s1⟩
  go_simp
  with_reducible rfl
 rotate_left
 ·simp only [Act.put, List.setIfInBounds_toArray, List.set_cons_zero, List.set_cons_succ, zg, zh]
  rfl
 refine zl (i := 8) (N := some 41) (v := ?_) (a' := ?_) (bm 12 511) rfl rfl (by kernel_rfl) (fun _ _ _ h => h) (Or.inl ⟨by rfl, ?_⟩) ?_ ?_
 rotate_left
 ·intro w'
  go_simp
  with_reducible rfl
 rotate_left
 ·simp only [Act.put, List.setIfInBounds_toArray, List.set_cons_zero, List.set_cons_succ, zg, zh]
  rfl
 refine zl (i := 9) (N := some 42) (v := ?_) (a' := ?_) (bm 12 1023) rfl rfl (by kernel_rfl) (fun _ _ _ h => h) (Or.inl ⟨by rfl, ?_⟩) ?_ ?_
 rotate_left
 ·intro w'
  go_simp
  with_reducible rfl
 rotate_left
 ·simp only [Act.put, List.setIfInBounds_toArray, List.set_cons_zero, List.set_cons_succ, zg, zh]
  rfl
 refine zl (i := 10) (N := some 43) (v := ?_) (a' := ?_) (bm 12 2047) rfl rfl (by kernel_rfl) (fun _ _ _ h => h) (Or.inl ⟨by rfl, ?_⟩) ?_ ?_
 rotate_left
 ·intro w'
  go_simp
  with_reducible rfl
 rotate_left
 ·simp only [Act.put, List.setIfInBounds_toArray, List.set_cons_zero, List.set_cons_succ, zg, zh]
  rfl
 refine yR (i := 11) (N := none) (bm 12 4095) rfl rfl (by kernel_rfl) (by decide) (fun K hK => ?_)
 refine yQ (w1 := ?_) (by rfl) rfl ?_ ?_
 rotate_left
 ·go_simp
  rfl
 refine hK.out _ _ ?_
 clear hK K
 refine yt (by kernel_rfl) ?_
 obtain ⟨ln, hln⟩ : ∃ ln, ln = (σ.t k).f10.length := ⟨_, rfl⟩
 rw [← hln] at x10 HQ
 have h3 : zS w0 (W2.setCell ⟨gT, k.toNat * 13 + 6, none⟩ (.int .i64 (at_ + 1))) g vp0 vp1 ((σ.wrote pp (σ.t k).f11).next k at_) := by
  rw [HWR.out]
  exact zS.next (σ := { σ with C := σ.C.set pc.toNat ⟨pn, (σ.t k).f11, -1⟩ }) ⟨_, _, _, _, HR2.out.now, HE.out⟩ k at_ h0 H1.out
 have x6 := yo (b := ⟨gT, k.toNat * 13 + 6, none⟩) (u := .int .i64 (at_ + 1)) x6 (fun e => hne (by rw [Addr.mk.injEq] at e; exact e.1.symm))
 have x10 := yo (b := ⟨gT, k.toNat * 13 + 6, none⟩) (u := .int .i64 (at_ + 1)) x10 (fun e => hne (by rw [Addr.mk.injEq] at e; exact e.1.symm))
 have x11 := yo (b := ⟨gT, k.toNat * 13 + 6, none⟩) (u := .int .i64 (at_ + 1)) x11 (fun e => hne (by rw [Addr.mk.injEq] at e; exact e.1.symm))
 obtain ⟨W3, hW3⟩ : ∃ W3, W3 = W2.setCell ⟨gT, k.toNat * 13 + 6, none⟩ (.int .i64 (at_ + 1)) := ⟨_, rfl⟩
 rw [← hW3] at h3 x6 x10 x11 ⊢
 have HS := zb.mk h3
 clear hW3 h3 a3 k1 z1 hln hHeld
 by_cases qe : at_ + 1 = (ln : Int)
 ·have ce : (at_ + 1 == (ln : Int)) = true := by simp [qe]
  have HQ := zb.mk (HQ.out.trans (if_pos qe))
  clear qe
  have ht : (((σ.wrote pp (σ.t k).f11).next k at_).t k) = { σ.t k with f6 := at_ + 1 } := St.t_set h0 H1.out
  have HT2 := zb.mk ht
  clear ht
  go_wp2_with fail
  refine (end_calls k (σ.t k).f11 (HS.out.below (ze (ze (Below.refl _ _)))) h0 (by rw [St.len_next]; exact H1.out) (by rw [HT2.out]; exact HP.out) (by rw [HT2.out]; exact H9.out) (by rw [HT2.out]; exact H10.out) HL.out).mono ?_
  rintro e w3 ⟨rfl, h3⟩
  go_wp2
  go_end0
  rw [HQ.out]
  exact ⟨rfl, h3⟩
 ·have ce : (at_ + 1 == (ln : Int)) = false := by simp [qe]
  have HQ := zb.mk (HQ.out.trans (if_neg qe))
  clear qe
  go_wp2
  go_end0
  rw [HQ.out]
  exact ⟨rfl, HS.out.below (ze (ze (Below.refl _ _)))⟩
end Go.Proofs.Ytppapibjbjmmbaa.QSY
namespace Go.Proofs.Ytppapibjbjmmbaa.QSY
open Go.RowKit Go.Proofs.YtppapibjbjmmbaaW.PrintWords Go.Proofs.YtppapibjbjmmbaaW.PrintLast Go.Proofs.YtppapibjbjmmbaaW.PrintMore
attribute [local go_sem] max2_int min2_int max_two min_two we xZ max_four min_four   -- for this text's walks alone
set_option linter.unusedVariables false
set_option linter.unusedSimpArgs false
mutual
def zC.l0 : Nat → List (S45) → List (S45) → Bool → Int → Int → Int → Option ((List (S45)))
 | 0, _, _, _, _, _, _ => none
 | k + 1, x0, x5, x6, x7, x415000, x415001 => if x7 < (x0.length : Int) then (if x6 = true then (zC.j1 k x0 x5 x6 x7 false x415000 x415001) else (if 0 ≤ x7 then (zC.j1 k x0 x5 x6 x7 (decide (((zw x0 x7).f0) ≥ x415000)) x415000 x415001) else (none))) else (if x6 = true then (some x5) else (if x5.length < 8796093022208 then (some (x5 ++ [(⟨x415000, x415001⟩ : S45)])) else (none)))
def zC.j1 : Nat → List (S45) → List (S45) → Bool → Int → Bool → Int → Int → Option ((List (S45)))
 | 0, _, _, _, _, _, _, _ => none
 | k + 1, x0, x5, x6, x7, x26, x415000, x415001 => if x26 = true then (if x5.length < 8796093022208 then ((some (x5 ++ [(⟨x415000, x415001⟩ : S45)] : List (S45))).bind fun y422 => (if 0 ≤ x7 then (if x7 < (x0.length : Int) then (if ((zw x0 x7).f0) = x415000 then (zC.l0 k x0 y422 true (wrap64 (x7 + 1)) x415000 x415001) else (if y422.length < 8796093022208 then (zC.l0 k x0 (y422 ++ [(⟨(zw x0 x7).f0, (zw x0 x7).f1⟩ : S45)]) true (wrap64 (x7 + 1)) x415000 x415001) else (none))) else (none)) else (none))) else (none)) else (if 0 ≤ x7 then (if x7 < (x0.length : Int) then (if ((zw x0 x7).f0) = x415000 then (zC.l0 k x0 x5 x6 (wrap64 (x7 + 1)) x415000 x415001) else (if x5.length < 8796093022208 then (zC.l0 k x0 (x5 ++ [(⟨(zw x0 x7).f0, (zw x0 x7).f1⟩ : S45)]) x6 (wrap64 (x7 + 1)) x415000 x415001) else (none))) else (none)) else (none))
end
def zC.f (k : Nat) (l0 : List (S45)) (a1_0 : Int) (a1_1 : Int) : Option ((List (S45))) := zC.l0 k l0 (([] : List (S45))) false 0 a1_0 a1_1
set_option maxHeartbeats 8000000 in
set_option maxRecDepth 100000 in
theorem zC.calls (k : Nat) (A0 : Option Addr) (c0 : Nat) (l0 : List (S45)) (a1_0 : Int) (a1_1 : Int) (r : List (S45)) (w : World) (hr0 : Kd.C k45 w A0 l0.length l0) (hc0 : l0.length ≤ c0) (h : zC.f k l0 a1_0 a1_1 = some r) :
  Calls Try.prog 139 #[.slice A0 l0.length c0, .agg #[.int .i64 a1_0, .int .i64 a1_1]] w fun e w' => ∃ v0_ : Value, e = .returned (v0_) ∧ Kd.R k45 45 w' w.heap.size (fun _ => True) v0_ r ∧ Below w.heap.size w w' := by
 have hu45 := Try.underlying45
 have HR0 := zb.mk hr0
 have HC0 := zb.mk hc0
 clear hr0 hc0
 have HB := zb.mk (Below.refl w.heap.size w)
 have H : (zC.l0 k l0 (([] : List (S45))) false 0 a1_0 a1_1) = some r := h
 clear h
 obtain ⟨y415, hy415⟩ : ∃ y_ : List (S45), y_ = (([] : List (S45))) := ⟨_, rfl⟩
 replace H : (zC.l0 k l0 y415 false 0 a1_0 a1_1) = some r := by first | (rw [hy415]; with_reducible exact H) | (have H2_ := (Option.bind_some _ _).symm.trans H; rw [hy415]; with_reducible exact H2_) | (have H2_ := (Option.bind_some _ _).symm.trans H; with_reducible exact H2_) | with_reducible exact H | (rw [hy415]; exact H) | exact H
 have Ny415 := zb.mk hy415
 clear hy415
 have H' := zb.mk H
 clear H
 go_enter Try.func139, Try.ntmps139
 go_wp2_with (first | ((with_reducible refine xR (N := 3) rfl ?_); refine box_event ?hg (N := 3) ?hd (cs := #[.int .i64 a1_0, .int .i64 a1_1]) (t := 45) ?hr ?_; (case hd => rfl); (case hg => rfl); (case hr => first | (go_simp; done) | (go_simp; rfl)); intro gb414 hg w3 hbox hb; have n0_ := zb.mk (zi (by repeat (with_reducible first | exact HB.out | apply zc | apply zj | apply zn)) hb); have n1_ := zb.mk (hbox); have n2_ := zb.mk ((by rw [hg]; exact (zL (by repeat (with_reducible first | exact HB.out | apply zc | apply zj | apply zn))) : w.heap.size ≤ gb414)); have n3_ := zb.mk ((by rw [hg]; exact (zL (by repeat (with_reducible first | exact HB.out | apply zc | apply zj | apply zn))) : w.heap.size ≤ gb414)); clear HB; have HB := n0_; have BK414 := n1_; have GW414 := n2_; have GE414 := n3_; clear n0_ n1_ n2_ n3_; clear hb hbox hg) | ((with_reducible refine xR (N := 8) rfl ?_); refine Kd.R_lit k45 _ 45 ?hg (N := 8) ?hd (xs := ([] : List (S45))) (inner := []) (ok := fun _ => True) (okp := fun _ => True) ?hr ?hp (fun _ hk => hk) trivial (Below.refl _ _) (Nat.le_refl _) (by simp) ?_; (case hd => rfl); (case hg => rfl); (case hr => first | (go_simp; done) | (go_simp; rfl)); (case hp => exact (yh.none _ _)); intro v416 w4 ho5 hb hg_ hnew_; clear hg_ hnew_; (first | rw [← Ny415.out] at ho5 | (simp only [Int.reduceToNat] at ho5; rw [← Ny415.out] at ho5)); have n0_ := zb.mk (Kd.zP (Kd.R_newB ho5 (g := gb414) (o := .cells #[.int .i64 a1_0, .int .i64 a1_1] 45 (0, 0)) (by (with_reducible repeat (first | refine zE ?_ _ | refine zD ?_ | refine zm ?_ _)); exact BK414.out)) (zL (by repeat (with_reducible first | exact HB.out | apply zc | apply zj | apply zn | refine zv ?_ GE414.out)))); have n1_ := zb.mk (blk_below (g := gb414) (o := .cells #[.int .i64 a1_0, .int .i64 a1_1] 45 (0, 0)) (by (with_reducible repeat (first | refine zE ?_ _ | refine zD ?_ | refine zm ?_ _)); exact BK414.out) hb); have n2_ := zb.mk (zi (by repeat (with_reducible first | exact HB.out | apply zc | apply zj | apply zn | refine zv ?_ GE414.out)) hb); clear BK414; clear HB; have HO417 := n0_; have BK414 := n1_; have HB := n2_; clear n0_ n1_ n2_; clear hb ho5))
 repeat (go_quiet (first | ((with_reducible refine xR (N := 3) rfl ?_); refine box_event ?hg (N := 3) ?hd (cs := #[.int .i64 a1_0, .int .i64 a1_1]) (t := 45) ?hr ?_; (case hd => rfl); (case hg => rfl); (case hr => first | (go_simp; done) | (go_simp; rfl)); intro gb414 hg w3 hbox hb; have n0_ := zb.mk (zi (by repeat (with_reducible first | exact HB.out | apply zc | apply zj | apply zn)) hb); have n1_ := zb.mk (hbox); have n2_ := zb.mk ((by rw [hg]; exact (zL (by repeat (with_reducible first | exact HB.out | apply zc | apply zj | apply zn))) : w.heap.size ≤ gb414)); have n3_ := zb.mk ((by rw [hg]; exact (zL (by repeat (with_reducible first | exact HB.out | apply zc | apply zj | apply zn))) : w.heap.size ≤ gb414)); clear HB; have HB := n0_; have BK414 := n1_; have GW414 := n2_; have GE414 := n3_; clear n0_ n1_ n2_ n3_; clear hb hbox hg) | ((with_reducible refine xR (N := 8) rfl ?_); refine Kd.R_lit k45 _ 45 ?hg (N := 8) ?hd (xs := ([] : List (S45))) (inner := []) (ok := fun _ => True) (okp := fun _ => True) ?hr ?hp (fun _ hk => hk) trivial (Below.refl _ _) (Nat.le_refl _) (by simp) ?_; (case hd => rfl); (case hg => rfl); (case hr => first | (go_simp; done) | (go_simp; rfl)); (case hp => exact (yh.none _ _)); intro v416 w4 ho5 hb hg_ hnew_; clear hg_ hnew_; (first | rw [← Ny415.out] at ho5 | (simp only [Int.reduceToNat] at ho5; rw [← Ny415.out] at ho5)); have n0_ := zb.mk (Kd.zP (Kd.R_newB ho5 (g := gb414) (o := .cells #[.int .i64 a1_0, .int .i64 a1_1] 45 (0, 0)) (by (with_reducible repeat (first | refine zE ?_ _ | refine zD ?_ | refine zm ?_ _)); exact BK414.out)) (zL (by repeat (with_reducible first | exact HB.out | apply zc | apply zj | apply zn | refine zv ?_ GE414.out)))); have n1_ := zb.mk (blk_below (g := gb414) (o := .cells #[.int .i64 a1_0, .int .i64 a1_1] 45 (0, 0)) (by (with_reducible repeat (first | refine zE ?_ _ | refine zD ?_ | refine zm ?_ _)); exact BK414.out) hb); have n2_ := zb.mk (zi (by repeat (with_reducible first | exact HB.out | apply zc | apply zj | apply zn | refine zv ?_ GE414.out)) hb); clear BK414; clear HB; have HO417 := n0_; have BK414 := n1_; have HB := n2_; clear n0_ n1_ n2_; clear hb ho5)); try go_wp2_with (first | ((with_reducible refine xR (N := 3) rfl ?_); refine box_event ?hg (N := 3) ?hd (cs := #[.int .i64 a1_0, .int .i64 a1_1]) (t := 45) ?hr ?_; (case hd => rfl); (case hg => rfl); (case hr => first | (go_simp; done) | (go_simp; rfl)); intro gb414 hg w3 hbox hb; have n0_ := zb.mk (zi (by repeat (with_reducible first | exact HB.out | apply zc | apply zj | apply zn)) hb); have n1_ := zb.mk (hbox); have n2_ := zb.mk ((by rw [hg]; exact (zL (by repeat (with_reducible first | exact HB.out | apply zc | apply zj | apply zn))) : w.heap.size ≤ gb414)); have n3_ := zb.mk ((by rw [hg]; exact (zL (by repeat (with_reducible first | exact HB.out | apply zc | apply zj | apply zn))) : w.heap.size ≤ gb414)); clear HB; have HB := n0_; have BK414 := n1_; have GW414 := n2_; have GE414 := n3_; clear n0_ n1_ n2_ n3_; clear hb hbox hg) | ((with_reducible refine xR (N := 8) rfl ?_); refine Kd.R_lit k45 _ 45 ?hg (N := 8) ?hd (xs := ([] : List (S45))) (inner := []) (ok := fun _ => True) (okp := fun _ => True) ?hr ?hp (fun _ hk => hk) trivial (Below.refl _ _) (Nat.le_refl _) (by simp) ?_; (case hd => rfl); (case hg => rfl); (case hr => first | (go_simp; done) | (go_simp; rfl)); (case hp => exact (yh.none _ _)); intro v416 w4 ho5 hb hg_ hnew_; clear hg_ hnew_; (first | rw [← Ny415.out] at ho5 | (simp only [Int.reduceToNat] at ho5; rw [← Ny415.out] at ho5)); have n0_ := zb.mk (Kd.zP (Kd.R_newB ho5 (g := gb414) (o := .cells #[.int .i64 a1_0, .int .i64 a1_1] 45 (0, 0)) (by (with_reducible repeat (first | refine zE ?_ _ | refine zD ?_ | refine zm ?_ _)); exact BK414.out)) (zL (by repeat (with_reducible first | exact HB.out | apply zc | apply zj | apply zn | refine zv ?_ GE414.out)))); have n1_ := zb.mk (blk_below (g := gb414) (o := .cells #[.int .i64 a1_0, .int .i64 a1_1] 45 (0, 0)) (by (with_reducible repeat (first | refine zE ?_ _ | refine zD ?_ | refine zm ?_ _)); exact BK414.out) hb); have n2_ := zb.mk (zi (by repeat (with_reducible first | exact HB.out | apply zc | apply zj | apply zn | refine zv ?_ GE414.out)) hb); clear BK414; clear HB; have HO417 := n0_; have BK414 := n1_; have HB := n2_; clear n0_ n1_ n2_; clear hb ho5)))
 go_loopg [5, 6, 7] k (fun kq v5 v6 v7 w' => ∃ (x5_1 : List (S45)) (x6_1 : Bool) (x7_1 : Int), v6 = .bool x6_1 ∧ v7 = .int .i64 x7_1 ∧ zb (zC.l0 kq l0 x5_1 x6_1 x7_1 a1_0 a1_1 = some r) ∧ zb (kq ≤ k) ∧ zb (Kd.R k45 45 w' w.heap.size (fun k_ => k_ ≠ gb414) v5 x5_1) ∧ zb (w'.heap[gb414]? = some (.cells #[.int .i64 a1_0, .int .i64 a1_1] 45 (0, 0))) ∧ zb (Below w.heap.size w w'))
 case atStart => exact ⟨(y415), (false), (0), (by first | rfl | (simp; done) | (simp [*]; done)), (by first | rfl | (simp; done) | (simp [*]; done)), H', ⟨Nat.le_refl _⟩, ⟨by (with_reducible repeat (first | apply Kd.zX | apply Kd.zU | apply Kd.ym)); exact Kd.zT HO417.out (fun _ hk => hk.2)⟩, ⟨by (with_reducible repeat (first | refine zE ?_ _ | refine zD ?_ | refine zm ?_ _)); exact BK414.out⟩, ⟨by repeat (with_reducible first | exact HB.out | apply zc | apply zj | apply zn | refine zv ?_ GE414.out)⟩⟩
 case round =>
  clear H'
  try clear c1
  try clear p2
  obtain ⟨x5_1, x6_1, x7_1, rfl, rfl, HA, HK1, HO_5, BK414, HB⟩ := hrel
  cases gk with
  | zero => exact absurd HA.out (by simp [zC.l0])
  | succ k1 =>
   have H := HA.out
   clear HA
   simp only [zC.l0] at H
   by_cases c6 : x7_1 < (l0.length : Int)
   ·rw [if_pos c6] at H
    have c6b0 : decide (x7_1 < (l0.length : Int)) = true := decide_eq_true c6
    clear c6
    have HC7 := zb.mk H
    clear H
    go_upto_region 6 with (fail)
    repeat (go_quiet (fail); go_upto_region 6 with (fail))
    go_cut [26] (fun v26 wc => ∃ (kq : Nat) (x26_6 : Bool), v26 = .bool x26_6 ∧ zb (zC.j1 kq l0 x5_1 x6_1 x7_1 x26_6 a1_0 a1_1 = some r) ∧ zb (kq ≤ k1) ∧ zb (Kd.R k45 45 wc w.heap.size (fun k_ => k_ ≠ gb414) u5 x5_1) ∧ zb (wc.heap[gb414]? = some (.cells #[.int .i64 a1_0, .int .i64 a1_1] 45 (0, 0))) ∧ zb (Below w.heap.size w wc))
    case first =>
     have H := HC7.out
     clear HC7
     by_cases c8 : x6_1 = true
     ·subst c8
      have H1 : (zC.j1 k1 l0 x5_1 true x7_1 false a1_0 a1_1) = some r := by rw [if_pos rfl] at H; exact H
      clear H
      have H := H1
      clear H1
      have H' := zb.mk H
      clear H
      go_wp2
      repeat (go_quiet (fail); try go_wp2)
      go_meet
      case rel => exact ⟨_, (false), (by first | rfl | (simp; done) | (simp [*]; done)), H', ⟨by have := HK1.out; first | omega | exact Nat.le_refl _⟩, ⟨by (with_reducible repeat (first | apply Kd.zX | apply Kd.zU | apply Kd.ym)); exact HO_5.out⟩, ⟨by (with_reducible repeat (first | refine zE ?_ _ | refine zD ?_ | refine zm ?_ _)); exact BK414.out⟩, ⟨by repeat (with_reducible first | exact HB.out | apply zc | apply zj | apply zn | refine zv ?_ GE414.out)⟩⟩
     ·replace c8 := Bool.eq_false_iff.mpr c8
      subst c8
      have H1 : (if 0 ≤ x7_1 then (zC.j1 k1 l0 x5_1 false x7_1 (decide (((zw l0 x7_1).f0) ≥ a1_0)) a1_0 a1_1) else (none)) = some r := by rw [if_neg (show ¬ (false = true) by decide)] at H; exact H
      clear H
      have H := H1
      clear H1
      by_cases c9 : 0 ≤ x7_1
      ·rw [if_pos c9] at H
       have c9b0 : decide (0 ≤ x7_1) = true := decide_eq_true c9
       clear c9
       (first | rw [c9b0] | (simp only [zg, zh]; rw [c9b0]) | skip)
       have H' := zb.mk H
       clear H
       have p421 : 0 ≤ (x7_1 : Int) := of_decide_eq_true (by first | (with_reducible assumption) | assumption)
       have q421 : x7_1 < (l0.length : Int) := of_decide_eq_true (by first | (with_reducible assumption) | assumption)
       obtain ⟨ad421, e421, hx421_0, hx421_1⟩ := yK HR0.out x7_1 p421 q421
       cases e421
       replace hx421_0 := (HB.out.cell (World.block_lt_of_cell? w _ hx421_0)).trans hx421_0
       replace hx421_1 := (HB.out.cell (World.block_lt_of_cell? w _ hx421_1)).trans hx421_1
       replace p421 := eq_true p421
       replace q421 := eq_true q421
       have hcz10_0 : wr.cell? ⟨gb414, 0, none⟩ = some (.int .i64 a1_0) := (zd BK414.out 0).trans rfl
       have hcz10_1 : wr.cell? ⟨gb414, 1, none⟩ = some (.int .i64 a1_1) := (zd BK414.out 1).trans rfl
       have hfz10_0 := zk BK414.out 0
       have hfz10_1 := zk BK414.out 1
       go_wp2
       repeat (go_quiet (fail); try go_wp2)
       go_meet
       case rel => exact ⟨_, (decide (((zw l0 x7_1).f0) ≥ a1_0)), (by first | rfl | (simp; done) | (simp [*]; done)), H', ⟨by have := HK1.out; first | omega | exact Nat.le_refl _⟩, ⟨by (with_reducible repeat (first | apply Kd.zX | apply Kd.zU | apply Kd.ym)); exact HO_5.out⟩, ⟨by (with_reducible repeat (first | refine zE ?_ _ | refine zD ?_ | refine zm ?_ _)); exact BK414.out⟩, ⟨by repeat (with_reducible first | exact HB.out | apply zc | apply zj | apply zn | refine zv ?_ GE414.out)⟩⟩
      ·rw [if_neg c9] at H
       exact absurd H (by simp)
    case rest =>
     clear HC7
     try clear c1
     try clear p2
     try clear p4
     try clear q4
     try clear hx4
     try clear c6
     try clear c6b0
     try clear c8
     try clear c9
     try clear c9b0
     try clear hcz10_0
     try clear hcz10_1
     try clear hfz10_0
     try clear hfz10_1
     try clear hx421_0
     try clear hx421_1
     try clear p2
     try clear p421
     try clear q421
     obtain ⟨kq, x26_6, rfl, HA, HJ6, HO_5, BK414, HB⟩ := hcut
     cases kq with
     | zero => exact absurd HA.out (by simp [zC.j1])
     | succ kj6 =>
      have H := HA.out
      clear HA
      simp only [zC.j1] at H
      by_cases c11 : x26_6 = true
      ·subst c11
       have H1 : (if x5_1.length < 8796093022208 then ((some (x5_1 ++ [(⟨a1_0, a1_1⟩ : S45)] : List (S45))).bind fun y422 => (if 0 ≤ x7_1 then (if x7_1 < (l0.length : Int) then (if ((zw l0 x7_1).f0) = a1_0 then (zC.l0 kj6 l0 y422 true (wrap64 (x7_1 + 1)) a1_0 a1_1) else (if y422.length < 8796093022208 then (zC.l0 kj6 l0 (y422 ++ [(⟨(zw l0 x7_1).f0, (zw l0 x7_1).f1⟩ : S45)]) true (wrap64 (x7_1 + 1)) a1_0 a1_1) else (none))) else (none)) else (none))) else (none)) = some r := by rw [if_pos rfl] at H; exact H
       clear H
       have H := H1
       clear H1
       by_cases c12 : x5_1.length < 8796093022208
       ·rw [if_pos c12] at H
        have LMc12 := zb.mk c12
        clear c12
        obtain ⟨y422, hy422⟩ : ∃ y_ : List (S45), y_ = (x5_1 ++ [(⟨a1_0, a1_1⟩ : S45)]) := ⟨_, rfl⟩
        replace H : (if 0 ≤ x7_1 then (if x7_1 < (l0.length : Int) then (if ((zw l0 x7_1).f0) = a1_0 then (zC.l0 kj6 l0 y422 true (wrap64 (x7_1 + 1)) a1_0 a1_1) else (if y422.length < 8796093022208 then (zC.l0 kj6 l0 (y422 ++ [(⟨(zw l0 x7_1).f0, (zw l0 x7_1).f1⟩ : S45)]) true (wrap64 (x7_1 + 1)) a1_0 a1_1) else (none))) else (none)) else (none)) = some r := by first | (rw [hy422]; with_reducible exact H) | (have H2_ := (Option.bind_some _ _).symm.trans H; rw [hy422]; with_reducible exact H2_) | (have H2_ := (Option.bind_some _ _).symm.trans H; with_reducible exact H2_) | with_reducible exact H | (rw [hy422]; exact H) | exact H
        have Ny422 := zb.mk hy422
        clear hy422
        by_cases c13 : 0 ≤ x7_1
        ·rw [if_pos c13] at H
         have c13b0 : decide (0 ≤ x7_1) = true := decide_eq_true c13
         clear c13
         by_cases c14 : x7_1 < (l0.length : Int)
         ·rw [if_pos c14] at H
          have c14b0 : decide (x7_1 < (l0.length : Int)) = true := decide_eq_true c14
          clear c14
          by_cases c15 : ((zw l0 x7_1).f0) = a1_0
          ·rw [if_pos c15] at H
           have c15b0 : (((zw l0 x7_1).f0) == a1_0) = true := beq_iff_eq.mpr c15
           have c15b1 : (((zw l0 x7_1).f0) != a1_0) = false := bne_eq_false_iff_eq.mpr c15
           clear c15
           have H' := zb.mk H
           clear H
           have hcz16_0 : wc.cell? ⟨gb414, 0, none⟩ = some (.int .i64 a1_0) := (zd BK414.out 0).trans rfl
           have hcz16_1 : wc.cell? ⟨gb414, 1, none⟩ = some (.int .i64 a1_1) := (zd BK414.out 1).trans rfl
           have hfz16_0 := zk BK414.out 0
           have hfz16_1 := zk BK414.out 1
           go_wp2_with (first | ((with_reducible refine zG (b := .append) (xs := #[.tmp 27, .tmp 29]) rfl ?_); at_builtin; refine Kd.yi k45 (w0 := w) w.heap.size rfl (.tmp 27) (.tmp 29) 41 45 (.agg #[(.int .i64 0), (.int .i64 0)]) 16 rfl Try.underlying41 xM rfl (by decide) (by omega) u5 x5_1 (⟨a1_0, a1_1⟩ : S45) [.int .i64 a1_0, .int .i64 a1_1] (fun k_ => k_ ≠ gb414) (fun _ => False) rfl rfl ?aP (fun _ hk => hk.elim) ?aF ?aO ?aB ?aS ?aL ?_; (case aP => exact yZ _ _ _ (⟨a1_0, a1_1⟩ : S45)); (case aB => exact (by repeat (with_reducible first | exact HB.out | apply zc | apply zj | apply zn | refine zv ?_ GE414.out))); (case aF => exact (fun k_ hk => Kd.xN (g := gb414) (o := .cells #[.int .i64 a1_0, .int .i64 a1_1] 45 (0, 0)) (by (with_reducible repeat (first | refine zE ?_ _ | refine zD ?_ | refine zm ?_ _)); exact BK414.out) k_ hk)); (case aO => exact (by (with_reducible repeat (first | apply Kd.zX | apply Kd.zU | apply Kd.ym)); exact HO_5.out)); (case aS => exact (zL (by repeat (with_reducible first | exact HB.out | apply zc | apply zj | apply zn | refine zv ?_ GE414.out)))); (case aL => have := LMc12.out; omega); intro v423 w17 ho hb hg hat; rw [← Ny422.out] at ho; have n0_ := zb.mk (yv (g := gb414) (o := .cells #[.int .i64 a1_0, .int .i64 a1_1] 45 (0, 0)) (by (with_reducible repeat (first | refine zE ?_ _ | refine zD ?_ | refine zm ?_ _)); exact BK414.out) hg (Kd.xU HO_5.out (fun _ hk => hk))); have n1_ := zb.mk (hb); have n2_ := zb.mk (ho); clear BK414; clear HB; clear HO_5; have BK414 := n0_; have HB := n1_; have HO424 := n2_; clear n0_ n1_ n2_; clear ho hb hg hat; have p425 : 0 ≤ (x7_1 : Int) := of_decide_eq_true (by first | (with_reducible assumption) | assumption); have q425 : x7_1 < (l0.length : Int) := of_decide_eq_true (by first | (with_reducible assumption) | assumption); obtain ⟨ad425, e425, hx425_0, hx425_1⟩ := yK HR0.out x7_1 p425 q425; cases e425; replace hx425_0 := (HB.out.cell (World.block_lt_of_cell? w _ hx425_0)).trans hx425_0; replace hx425_1 := (HB.out.cell (World.block_lt_of_cell? w _ hx425_1)).trans hx425_1; replace p425 := eq_true p425; replace q425 := eq_true q425; have hcz18_0 : w17.cell? ⟨gb414, 0, none⟩ = some (.int .i64 a1_0) := (zd BK414.out 0).trans rfl; have hcz18_1 : w17.cell? ⟨gb414, 1, none⟩ = some (.int .i64 a1_1) := (zd BK414.out 1).trans rfl; have hfz18_0 := zk BK414.out 0; have hfz18_1 := zk BK414.out 1))
           repeat (go_quiet (first | ((with_reducible refine zG (b := .append) (xs := #[.tmp 27, .tmp 29]) rfl ?_); at_builtin; refine Kd.yi k45 (w0 := w) w.heap.size rfl (.tmp 27) (.tmp 29) 41 45 (.agg #[(.int .i64 0), (.int .i64 0)]) 16 rfl Try.underlying41 xM rfl (by decide) (by omega) u5 x5_1 (⟨a1_0, a1_1⟩ : S45) [.int .i64 a1_0, .int .i64 a1_1] (fun k_ => k_ ≠ gb414) (fun _ => False) rfl rfl ?aP (fun _ hk => hk.elim) ?aF ?aO ?aB ?aS ?aL ?_; (case aP => exact yZ _ _ _ (⟨a1_0, a1_1⟩ : S45)); (case aB => exact (by repeat (with_reducible first | exact HB.out | apply zc | apply zj | apply zn | refine zv ?_ GE414.out))); (case aF => exact (fun k_ hk => Kd.xN (g := gb414) (o := .cells #[.int .i64 a1_0, .int .i64 a1_1] 45 (0, 0)) (by (with_reducible repeat (first | refine zE ?_ _ | refine zD ?_ | refine zm ?_ _)); exact BK414.out) k_ hk)); (case aO => exact (by (with_reducible repeat (first | apply Kd.zX | apply Kd.zU | apply Kd.ym)); exact HO_5.out)); (case aS => exact (zL (by repeat (with_reducible first | exact HB.out | apply zc | apply zj | apply zn | refine zv ?_ GE414.out)))); (case aL => have := LMc12.out; omega); intro v423 w17 ho hb hg hat; rw [← Ny422.out] at ho; have n0_ := zb.mk (yv (g := gb414) (o := .cells #[.int .i64 a1_0, .int .i64 a1_1] 45 (0, 0)) (by (with_reducible repeat (first | refine zE ?_ _ | refine zD ?_ | refine zm ?_ _)); exact BK414.out) hg (Kd.xU HO_5.out (fun _ hk => hk))); have n1_ := zb.mk (hb); have n2_ := zb.mk (ho); clear BK414; clear HB; clear HO_5; have BK414 := n0_; have HB := n1_; have HO424 := n2_; clear n0_ n1_ n2_; clear ho hb hg hat; have p425 : 0 ≤ (x7_1 : Int) := of_decide_eq_true (by first | (with_reducible assumption) | assumption); have q425 : x7_1 < (l0.length : Int) := of_decide_eq_true (by first | (with_reducible assumption) | assumption); obtain ⟨ad425, e425, hx425_0, hx425_1⟩ := yK HR0.out x7_1 p425 q425; cases e425; replace hx425_0 := (HB.out.cell (World.block_lt_of_cell? w _ hx425_0)).trans hx425_0; replace hx425_1 := (HB.out.cell (World.block_lt_of_cell? w _ hx425_1)).trans hx425_1; replace p425 := eq_true p425; replace q425 := eq_true q425; have hcz18_0 : w17.cell? ⟨gb414, 0, none⟩ = some (.int .i64 a1_0) := (zd BK414.out 0).trans rfl; have hcz18_1 : w17.cell? ⟨gb414, 1, none⟩ = some (.int .i64 a1_1) := (zd BK414.out 1).trans rfl; have hfz18_0 := zk BK414.out 0; have hfz18_1 := zk BK414.out 1)); try go_wp2_with (first | ((with_reducible refine zG (b := .append) (xs := #[.tmp 27, .tmp 29]) rfl ?_); at_builtin; refine Kd.yi k45 (w0 := w) w.heap.size rfl (.tmp 27) (.tmp 29) 41 45 (.agg #[(.int .i64 0), (.int .i64 0)]) 16 rfl Try.underlying41 xM rfl (by decide) (by omega) u5 x5_1 (⟨a1_0, a1_1⟩ : S45) [.int .i64 a1_0, .int .i64 a1_1] (fun k_ => k_ ≠ gb414) (fun _ => False) rfl rfl ?aP (fun _ hk => hk.elim) ?aF ?aO ?aB ?aS ?aL ?_; (case aP => exact yZ _ _ _ (⟨a1_0, a1_1⟩ : S45)); (case aB => exact (by repeat (with_reducible first | exact HB.out | apply zc | apply zj | apply zn | refine zv ?_ GE414.out))); (case aF => exact (fun k_ hk => Kd.xN (g := gb414) (o := .cells #[.int .i64 a1_0, .int .i64 a1_1] 45 (0, 0)) (by (with_reducible repeat (first | refine zE ?_ _ | refine zD ?_ | refine zm ?_ _)); exact BK414.out) k_ hk)); (case aO => exact (by (with_reducible repeat (first | apply Kd.zX | apply Kd.zU | apply Kd.ym)); exact HO_5.out)); (case aS => exact (zL (by repeat (with_reducible first | exact HB.out | apply zc | apply zj | apply zn | refine zv ?_ GE414.out)))); (case aL => have := LMc12.out; omega); intro v423 w17 ho hb hg hat; rw [← Ny422.out] at ho; have n0_ := zb.mk (yv (g := gb414) (o := .cells #[.int .i64 a1_0, .int .i64 a1_1] 45 (0, 0)) (by (with_reducible repeat (first | refine zE ?_ _ | refine zD ?_ | refine zm ?_ _)); exact BK414.out) hg (Kd.xU HO_5.out (fun _ hk => hk))); have n1_ := zb.mk (hb); have n2_ := zb.mk (ho); clear BK414; clear HB; clear HO_5; have BK414 := n0_; have HB := n1_; have HO424 := n2_; clear n0_ n1_ n2_; clear ho hb hg hat; have p425 : 0 ≤ (x7_1 : Int) := of_decide_eq_true (by first | (with_reducible assumption) | assumption); have q425 : x7_1 < (l0.length : Int) := of_decide_eq_true (by first | (with_reducible assumption) | assumption); obtain ⟨ad425, e425, hx425_0, hx425_1⟩ := yK HR0.out x7_1 p425 q425; cases e425; replace hx425_0 := (HB.out.cell (World.block_lt_of_cell? w _ hx425_0)).trans hx425_0; replace hx425_1 := (HB.out.cell (World.block_lt_of_cell? w _ hx425_1)).trans hx425_1; replace p425 := eq_true p425; replace q425 := eq_true q425; have hcz18_0 : w17.cell? ⟨gb414, 0, none⟩ = some (.int .i64 a1_0) := (zd BK414.out 0).trans rfl; have hcz18_1 : w17.cell? ⟨gb414, 1, none⟩ = some (.int .i64 a1_1) := (zd BK414.out 1).trans rfl; have hfz18_0 := zk BK414.out 0; have hfz18_1 := zk BK414.out 1)))
           go_roundg kj6
           case measure => have := HK1.out; have := HJ6.out; omega
           case rel => exact ⟨(y422), (true), (wrap64 (x7_1 + 1)), (by first | rfl | (simp; done) | (simp [*]; done)), (by first | rfl | (simp; done) | (simp [*]; done)), H', ⟨by have := HK1.out; have := HJ6.out; omega⟩, ⟨by (with_reducible repeat (first | apply Kd.zX | apply Kd.zU | apply Kd.ym)); exact HO424.out⟩, ⟨by (with_reducible repeat (first | refine zE ?_ _ | refine zD ?_ | refine zm ?_ _)); exact BK414.out⟩, ⟨by repeat (with_reducible first | exact HB.out | apply zc | apply zj | apply zn | refine zv ?_ GE414.out)⟩⟩
          ·rw [if_neg c15] at H
           have c15b0 : (((zw l0 x7_1).f0) == a1_0) = false := beq_eq_false_iff_ne.mpr c15
           have c15b1 : (((zw l0 x7_1).f0) != a1_0) = true := bne_iff_ne.mpr c15
           by_cases c19 : y422.length < 8796093022208
           ·rw [if_pos c19] at H
            have LMc19 := zb.mk c19
            clear c19
            obtain ⟨y427, hy427⟩ : ∃ y_ : List (S45), y_ = (y422 ++ [(⟨(zw l0 x7_1).f0, (zw l0 x7_1).f1⟩ : S45)]) := ⟨_, rfl⟩
            replace H : (zC.l0 kj6 l0 y427 true (wrap64 (x7_1 + 1)) a1_0 a1_1) = some r := by first | (rw [hy427]; with_reducible exact H) | (have H2_ := (Option.bind_some _ _).symm.trans H; rw [hy427]; with_reducible exact H2_) | (have H2_ := (Option.bind_some _ _).symm.trans H; with_reducible exact H2_) | with_reducible exact H | (rw [hy427]; exact H) | exact H
            have Ny427 := zb.mk hy427
            clear hy427
            have H' := zb.mk H
            clear H
            have hcz20_0 : wc.cell? ⟨gb414, 0, none⟩ = some (.int .i64 a1_0) := (zd BK414.out 0).trans rfl
            have hcz20_1 : wc.cell? ⟨gb414, 1, none⟩ = some (.int .i64 a1_1) := (zd BK414.out 1).trans rfl
            have hfz20_0 := zk BK414.out 0
            have hfz20_1 := zk BK414.out 1
            go_wp2_with (first | ((with_reducible refine zG (b := .append) (xs := #[.tmp 27, .tmp 29]) rfl ?_); at_builtin; refine Kd.yi k45 (w0 := w) w.heap.size rfl (.tmp 27) (.tmp 29) 41 45 (.agg #[(.int .i64 0), (.int .i64 0)]) 16 rfl Try.underlying41 xM rfl (by decide) (by omega) u5 x5_1 (⟨a1_0, a1_1⟩ : S45) [.int .i64 a1_0, .int .i64 a1_1] (fun k_ => k_ ≠ gb414) (fun _ => False) rfl rfl ?aP (fun _ hk => hk.elim) ?aF ?aO ?aB ?aS ?aL ?_; (case aP => exact yZ _ _ _ (⟨a1_0, a1_1⟩ : S45)); (case aB => exact (by repeat (with_reducible first | exact HB.out | apply zc | apply zj | apply zn | refine zv ?_ GE414.out))); (case aF => exact (fun k_ hk => Kd.xN (g := gb414) (o := .cells #[.int .i64 a1_0, .int .i64 a1_1] 45 (0, 0)) (by (with_reducible repeat (first | refine zE ?_ _ | refine zD ?_ | refine zm ?_ _)); exact BK414.out) k_ hk)); (case aO => exact (by (with_reducible repeat (first | apply Kd.zX | apply Kd.zU | apply Kd.ym)); exact HO_5.out)); (case aS => exact (zL (by repeat (with_reducible first | exact HB.out | apply zc | apply zj | apply zn | refine zv ?_ GE414.out)))); (case aL => have := LMc12.out; omega); intro v423 w21 ho hb hg hat; rw [← Ny422.out] at ho; have n0_ := zb.mk (yv (g := gb414) (o := .cells #[.int .i64 a1_0, .int .i64 a1_1] 45 (0, 0)) (by (with_reducible repeat (first | refine zE ?_ _ | refine zD ?_ | refine zm ?_ _)); exact BK414.out) hg (Kd.xU HO_5.out (fun _ hk => hk))); have n1_ := zb.mk (hb); have n2_ := zb.mk (ho); clear BK414; clear HB; clear HO_5; have BK414 := n0_; have HB := n1_; have HO424 := n2_; clear n0_ n1_ n2_; clear ho hb hg hat; have p425 : 0 ≤ (x7_1 : Int) := of_decide_eq_true (by first | (with_reducible assumption) | assumption); have q425 : x7_1 < (l0.length : Int) := of_decide_eq_true (by first | (with_reducible assumption) | assumption); obtain ⟨ad425, e425, hx425_0, hx425_1⟩ := yK HR0.out x7_1 p425 q425; cases e425; replace hx425_0 := (HB.out.cell (World.block_lt_of_cell? w _ hx425_0)).trans hx425_0; replace hx425_1 := (HB.out.cell (World.block_lt_of_cell? w _ hx425_1)).trans hx425_1; replace p425 := eq_true p425; replace q425 := eq_true q425; have hcz22_0 : w21.cell? ⟨gb414, 0, none⟩ = some (.int .i64 a1_0) := (zd BK414.out 0).trans rfl; have hcz22_1 : w21.cell? ⟨gb414, 1, none⟩ = some (.int .i64 a1_1) := (zd BK414.out 1).trans rfl; have hfz22_0 := zk BK414.out 0; have hfz22_1 := zk BK414.out 1; have p426 : 0 ≤ (x7_1 : Int) := of_decide_eq_true (by first | (with_reducible assumption) | assumption); have q426 : x7_1 < (l0.length : Int) := of_decide_eq_true (by first | (with_reducible assumption) | assumption); obtain ⟨ad426, e426, hx426_0, hx426_1⟩ := yK HR0.out x7_1 p426 q426; obtain rfl : ad425 = ad426 := (by injection e426); replace hx426_0 := (HB.out.cell (World.block_lt_of_cell? w _ hx426_0)).trans hx426_0; replace hx426_1 := (HB.out.cell (World.block_lt_of_cell? w _ hx426_1)).trans hx426_1; replace p426 := eq_true p426; replace q426 := eq_true q426) | ((with_reducible refine zG (b := .append) (xs := #[.tmp 39, .tmp 44]) rfl ?_); at_builtin; refine Kd.yi k45 (w0 := w) w.heap.size rfl (.tmp 39) (.tmp 44) 41 45 (.agg #[(.int .i64 0), (.int .i64 0)]) 16 rfl Try.underlying41 xM rfl (by decide) (by omega) v423 y422 (⟨(zw l0 x7_1).f0, (zw l0 x7_1).f1⟩ : S45) [.int .i64 ((zw l0 x7_1).f0), .int .i64 ((zw l0 x7_1).f1)] (fun k_ => k_ ≠ gb414) (fun _ => False) rfl rfl ?aP (fun _ hk => hk.elim) ?aF ?aO ?aB ?aS ?aL ?_; (case aP => exact yZ _ _ _ (⟨(zw l0 x7_1).f0, (zw l0 x7_1).f1⟩ : S45)); (case aB => exact (by repeat (with_reducible first | exact HB.out | apply zc | apply zj | apply zn | refine zv ?_ GE414.out))); (case aF => exact (fun k_ hk => Kd.xN (g := gb414) (o := .cells #[.int .i64 a1_0, .int .i64 a1_1] 45 (0, 0)) (by (with_reducible repeat (first | refine zE ?_ _ | refine zD ?_ | refine zm ?_ _)); exact BK414.out) k_ hk)); (case aO => exact (by (with_reducible repeat (first | apply Kd.zX | apply Kd.zU | apply Kd.ym)); exact HO424.out)); (case aS => exact (zL (by repeat (with_reducible first | exact HB.out | apply zc | apply zj | apply zn | refine zv ?_ GE414.out)))); (case aL => have := LMc19.out; omega); intro v428 w23 ho hb hg hat; rw [← Ny427.out] at ho; have n0_ := zb.mk (yv (g := gb414) (o := .cells #[.int .i64 a1_0, .int .i64 a1_1] 45 (0, 0)) (by (with_reducible repeat (first | refine zE ?_ _ | refine zD ?_ | refine zm ?_ _)); exact BK414.out) hg (Kd.xU HO424.out (fun _ hk => hk))); have n1_ := zb.mk (hb); have n2_ := zb.mk (ho); clear BK414; clear HB; clear HO424; have BK414 := n0_; have HB := n1_; have HO429 := n2_; clear n0_ n1_ n2_; clear ho hb hg hat))
            repeat (go_quiet (first | ((with_reducible refine zG (b := .append) (xs := #[.tmp 27, .tmp 29]) rfl ?_); at_builtin; refine Kd.yi k45 (w0 := w) w.heap.size rfl (.tmp 27) (.tmp 29) 41 45 (.agg #[(.int .i64 0), (.int .i64 0)]) 16 rfl Try.underlying41 xM rfl (by decide) (by omega) u5 x5_1 (⟨a1_0, a1_1⟩ : S45) [.int .i64 a1_0, .int .i64 a1_1] (fun k_ => k_ ≠ gb414) (fun _ => False) rfl rfl ?aP (fun _ hk => hk.elim) ?aF ?aO ?aB ?aS ?aL ?_; (case aP => exact yZ _ _ _ (⟨a1_0, a1_1⟩ : S45)); (case aB => exact (by repeat (with_reducible first | exact HB.out | apply zc | apply zj | apply zn | refine zv ?_ GE414.out))); (case aF => exact (fun k_ hk => Kd.xN (g := gb414) (o := .cells #[.int .i64 a1_0, .int .i64 a1_1] 45 (0, 0)) (by (with_reducible repeat (first | refine zE ?_ _ | refine zD ?_ | refine zm ?_ _)); exact BK414.out) k_ hk)); (case aO => exact (by (with_reducible repeat (first | apply Kd.zX | apply Kd.zU | apply Kd.ym)); exact HO_5.out)); (case aS => exact (zL (by repeat (with_reducible first | exact HB.out | apply zc | apply zj | apply zn | refine zv ?_ GE414.out)))); (case aL => have := LMc12.out; omega); intro v423 w21 ho hb hg hat; rw [← Ny422.out] at ho; have n0_ := zb.mk (yv (g := gb414) (o := .cells #[.int .i64 a1_0, .int .i64 a1_1] 45 (0, 0)) (by (with_reducible repeat (first | refine zE ?_ _ | refine zD ?_ | refine zm ?_ _)); exact BK414.out) hg (Kd.xU HO_5.out (fun _ hk => hk))); have n1_ := zb.mk (hb); have n2_ := zb.mk (ho); clear BK414; clear HB; clear HO_5; have BK414 := n0_; have HB := n1_; have HO424 := n2_; clear n0_ n1_ n2_; clear ho hb hg hat; have p425 : 0 ≤ (x7_1 : Int) := of_decide_eq_true (by first | (with_reducible assumption) | assumption); have q425 : x7_1 < (l0.length : Int) := of_decide_eq_true (by first | (with_reducible assumption) | assumption); obtain ⟨ad425, e425, hx425_0, hx425_1⟩ := yK HR0.out x7_1 p425 q425; cases e425; replace hx425_0 := (HB.out.cell (World.block_lt_of_cell? w _ hx425_0)).trans hx425_0; replace hx425_1 := (HB.out.cell (World.block_lt_of_cell? w _ hx425_1)).trans hx425_1; replace p425 := eq_true p425; replace q425 := eq_true q425; have hcz22_0 : w21.cell? ⟨gb414, 0, none⟩ = some (.int .i64 a1_0) := (zd BK414.out 0).trans rfl; have hcz22_1 : w21.cell? ⟨gb414, 1, none⟩ = some (.int .i64 a1_1) := (zd BK414.out 1).trans rfl; have hfz22_0 := zk BK414.out 0; have hfz22_1 := zk BK414.out 1; have p426 : 0 ≤ (x7_1 : Int) := of_decide_eq_true (by first | (with_reducible assumption) | assumption); have q426 : x7_1 < (l0.length : Int) := of_decide_eq_true (by first | (with_reducible assumption) | assumption); obtain ⟨ad426, e426, hx426_0, hx426_1⟩ := yK HR0.out x7_1 p426 q426; obtain rfl : ad425 = ad426 := (by injection e426); replace hx426_0 := (HB.out.cell (World.block_lt_of_cell? w _ hx426_0)).trans hx426_0; replace hx426_1 := (HB.out.cell (World.block_lt_of_cell? w _ hx426_1)).trans hx426_1; replace p426 := eq_true p426; replace q426 := eq_true q426) | ((with_reducible refine zG (b := .append) (xs := #[.tmp 39, .tmp 44]) rfl ?_); at_builtin; refine Kd.yi k45 (w0 := w) w.heap.size rfl (.tmp 39) (.tmp 44) 41 45 (.agg #[(.int .i64 0), (.int .i64 0)]) 16 rfl Try.underlying41 xM rfl (by decide) (by omega) v423 y422 (⟨(zw l0 x7_1).f0, (zw l0 x7_1).f1⟩ : S45) [.int .i64 ((zw l0 x7_1).f0), .int .i64 ((zw l0 x7_1).f1)] (fun k_ => k_ ≠ gb414) (fun _ => False) rfl rfl ?aP (fun _ hk => hk.elim) ?aF ?aO ?aB ?aS ?aL ?_; (case aP => exact yZ _ _ _ (⟨(zw l0 x7_1).f0, (zw l0 x7_1).f1⟩ : S45)); (case aB => exact (by repeat (with_reducible first | exact HB.out | apply zc | apply zj | apply zn | refine zv ?_ GE414.out))); (case aF => exact (fun k_ hk => Kd.xN (g := gb414) (o := .cells #[.int .i64 a1_0, .int .i64 a1_1] 45 (0, 0)) (by (with_reducible repeat (first | refine zE ?_ _ | refine zD ?_ | refine zm ?_ _)); exact BK414.out) k_ hk)); (case aO => exact (by (with_reducible repeat (first | apply Kd.zX | apply Kd.zU | apply Kd.ym)); exact HO424.out)); (case aS => exact (zL (by repeat (with_reducible first | exact HB.out | apply zc | apply zj | apply zn | refine zv ?_ GE414.out)))); (case aL => have := LMc19.out; omega); intro v428 w23 ho hb hg hat; rw [← Ny427.out] at ho; have n0_ := zb.mk (yv (g := gb414) (o := .cells #[.int .i64 a1_0, .int .i64 a1_1] 45 (0, 0)) (by (with_reducible repeat (first | refine zE ?_ _ | refine zD ?_ | refine zm ?_ _)); exact BK414.out) hg (Kd.xU HO424.out (fun _ hk => hk))); have n1_ := zb.mk (hb); have n2_ := zb.mk (ho); clear BK414; clear HB; clear HO424; have BK414 := n0_; have HB := n1_; have HO429 := n2_; clear n0_ n1_ n2_; clear ho hb hg hat)); try go_wp2_with (first | ((with_reducible refine zG (b := .append) (xs := #[.tmp 27, .tmp 29]) rfl ?_); at_builtin; refine Kd.yi k45 (w0 := w) w.heap.size rfl (.tmp 27) (.tmp 29) 41 45 (.agg #[(.int .i64 0), (.int .i64 0)]) 16 rfl Try.underlying41 xM rfl (by decide) (by omega) u5 x5_1 (⟨a1_0, a1_1⟩ : S45) [.int .i64 a1_0, .int .i64 a1_1] (fun k_ => k_ ≠ gb414) (fun _ => False) rfl rfl ?aP (fun _ hk => hk.elim) ?aF ?aO ?aB ?aS ?aL ?_; (case aP => exact yZ _ _ _ (⟨a1_0, a1_1⟩ : S45)); (case aB => exact (by repeat (with_reducible first | exact HB.out | apply zc | apply zj | apply zn | refine zv ?_ GE414.out))); (case aF => exact (fun k_ hk => Kd.xN (g := gb414) (o := .cells #[.int .i64 a1_0, .int .i64 a1_1] 45 (0, 0)) (by (with_reducible repeat (first | refine zE ?_ _ | refine zD ?_ | refine zm ?_ _)); exact BK414.out) k_ hk)); (case aO => exact (by (with_reducible repeat (first | apply Kd.zX | apply Kd.zU | apply Kd.ym)); exact HO_5.out)); (case aS => exact (zL (by repeat (with_reducible first | exact HB.out | apply zc | apply zj | apply zn | refine zv ?_ GE414.out)))); (case aL => have := LMc12.out; omega); intro v423 w21 ho hb hg hat; rw [← Ny422.out] at ho; have n0_ := zb.mk (yv (g := gb414) (o := .cells #[.int .i64 a1_0, .int .i64 a1_1] 45 (0, 0)) (by (with_reducible repeat (first | refine zE ?_ _ | refine zD ?_ | refine zm ?_ _)); exact BK414.out) hg (Kd.xU HO_5.out (fun _ hk => hk))); have n1_ := zb.mk (hb); have n2_ := zb.mk (ho); clear BK414; clear HB; clear HO_5; have BK414 := n0_; have HB := n1_; have HO424 := n2_; clear n0_ n1_ n2_; clear ho hb hg hat; have p425 : 0 ≤ (x7_1 : Int) := of_decide_eq_true (by first | (with_reducible assumption) | assumption); have q425 : x7_1 < (l0.length : Int) := of_decide_eq_true (by first | (with_reducible assumption) | assumption); obtain ⟨ad425, e425, hx425_0, hx425_1⟩ := yK HR0.out x7_1 p425 q425; cases e425; replace hx425_0 := (HB.out.cell (World.block_lt_of_cell? w _ hx425_0)).trans hx425_0; replace hx425_1 := (HB.out.cell (World.block_lt_of_cell? w _ hx425_1)).trans hx425_1; replace p425 := eq_true p425; replace q425 := eq_true q425; have hcz22_0 : w21.cell? ⟨gb414, 0, none⟩ = some (.int .i64 a1_0) := (zd BK414.out 0).trans rfl; have hcz22_1 : w21.cell? ⟨gb414, 1, none⟩ = some (.int .i64 a1_1) := (zd BK414.out 1).trans rfl; have hfz22_0 := zk BK414.out 0; have hfz22_1 := zk BK414.out 1; have p426 : 0 ≤ (x7_1 : Int) := of_decide_eq_true (by first | (with_reducible assumption) | assumption); have q426 : x7_1 < (l0.length : Int) := of_decide_eq_true (by first | (with_reducible assumption) | assumption); obtain ⟨ad426, e426, hx426_0, hx426_1⟩ := yK HR0.out x7_1 p426 q426; obtain rfl : ad425 = ad426 := (by injection e426); replace hx426_0 := (HB.out.cell (World.block_lt_of_cell? w _ hx426_0)).trans hx426_0; replace hx426_1 := (HB.out.cell (World.block_lt_of_cell? w _ hx426_1)).trans hx426_1; replace p426 := eq_true p426; replace q426 := eq_true q426) | ((with_reducible refine zG (b := .append) (xs := #[.tmp 39, .tmp 44]) rfl ?_); at_builtin; refine Kd.yi k45 (w0 := w) w.heap.size rfl (.tmp 39) (.tmp 44) 41 45 (.agg #[(.int .i64 0), (.int .i64 0)]) 16 rfl Try.underlying41 xM rfl (by decide) (by omega) v423 y422 (⟨(zw l0 x7_1).f0, (zw l0 x7_1).f1⟩ : S45) [.int .i64 ((zw l0 x7_1).f0), .int .i64 ((zw l0 x7_1).f1)] (fun k_ => k_ ≠ gb414) (fun _ => False) rfl rfl ?aP (fun _ hk => hk.elim) ?aF ?aO ?aB ?aS ?aL ?_; (case aP => exact yZ _ _ _ (⟨(zw l0 x7_1).f0, (zw l0 x7_1).f1⟩ : S45)); (case aB => exact (by repeat (with_reducible first | exact HB.out | apply zc | apply zj | apply zn | refine zv ?_ GE414.out))); (case aF => exact (fun k_ hk => Kd.xN (g := gb414) (o := .cells #[.int .i64 a1_0, .int .i64 a1_1] 45 (0, 0)) (by (with_reducible repeat (first | refine zE ?_ _ | refine zD ?_ | refine zm ?_ _)); exact BK414.out) k_ hk)); (case aO => exact (by (with_reducible repeat (first | apply Kd.zX | apply Kd.zU | apply Kd.ym)); exact HO424.out)); (case aS => exact (zL (by repeat (with_reducible first | exact HB.out | apply zc | apply zj | apply zn | refine zv ?_ GE414.out)))); (case aL => have := LMc19.out; omega); intro v428 w23 ho hb hg hat; rw [← Ny427.out] at ho; have n0_ := zb.mk (yv (g := gb414) (o := .cells #[.int .i64 a1_0, .int .i64 a1_1] 45 (0, 0)) (by (with_reducible repeat (first | refine zE ?_ _ | refine zD ?_ | refine zm ?_ _)); exact BK414.out) hg (Kd.xU HO424.out (fun _ hk => hk))); have n1_ := zb.mk (hb); have n2_ := zb.mk (ho); clear BK414; clear HB; clear HO424; have BK414 := n0_; have HB := n1_; have HO429 := n2_; clear n0_ n1_ n2_; clear ho hb hg hat)))
            go_roundg kj6
            case measure => have := HK1.out; have := HJ6.out; omega
            case rel => exact ⟨(y427), (true), (wrap64 (x7_1 + 1)), (by first | rfl | (simp; done) | (simp [*]; done)), (by first | rfl | (simp; done) | (simp [*]; done)), H', ⟨by have := HK1.out; have := HJ6.out; omega⟩, ⟨by (with_reducible repeat (first | apply Kd.zX | apply Kd.zU | apply Kd.ym)); exact HO429.out⟩, ⟨by (with_reducible repeat (first | refine zE ?_ _ | refine zD ?_ | refine zm ?_ _)); exact BK414.out⟩, ⟨by repeat (with_reducible first | exact HB.out | apply zc | apply zj | apply zn | refine zv ?_ GE414.out)⟩⟩
           ·rw [if_neg c19] at H
            exact absurd H (by simp)
         ·rw [if_neg c14] at H
          exact absurd H (by simp)
        ·rw [if_neg c13] at H
         exact absurd H (by simp)
       ·rw [if_neg c12] at H
        exact absurd H (by simp)
      ·replace c11 := Bool.eq_false_iff.mpr c11
       subst c11
       have H1 : (if 0 ≤ x7_1 then (if x7_1 < (l0.length : Int) then (if ((zw l0 x7_1).f0) = a1_0 then (zC.l0 kj6 l0 x5_1 x6_1 (wrap64 (x7_1 + 1)) a1_0 a1_1) else (if x5_1.length < 8796093022208 then (zC.l0 kj6 l0 (x5_1 ++ [(⟨(zw l0 x7_1).f0, (zw l0 x7_1).f1⟩ : S45)]) x6_1 (wrap64 (x7_1 + 1)) a1_0 a1_1) else (none))) else (none)) else (none)) = some r := by rw [if_neg (show ¬ (false = true) by decide)] at H; exact H
       clear H
       have H := H1
       clear H1
       by_cases c24 : 0 ≤ x7_1
       ·rw [if_pos c24] at H
        have c24b0 : decide (0 ≤ x7_1) = true := decide_eq_true c24
        clear c24
        by_cases c25 : x7_1 < (l0.length : Int)
        ·rw [if_pos c25] at H
         have c25b0 : decide (x7_1 < (l0.length : Int)) = true := decide_eq_true c25
         clear c25
         by_cases c26 : ((zw l0 x7_1).f0) = a1_0
         ·rw [if_pos c26] at H
          have c26b0 : (((zw l0 x7_1).f0) == a1_0) = true := beq_iff_eq.mpr c26
          have c26b1 : (((zw l0 x7_1).f0) != a1_0) = false := bne_eq_false_iff_eq.mpr c26
          clear c26
          have H' := zb.mk H
          clear H
          have p430 : 0 ≤ (x7_1 : Int) := of_decide_eq_true (by first | (with_reducible assumption) | assumption)
          have q430 : x7_1 < (l0.length : Int) := of_decide_eq_true (by first | (with_reducible assumption) | assumption)
          obtain ⟨ad430, e430, hx430_0, hx430_1⟩ := yK HR0.out x7_1 p430 q430
          cases e430
          replace hx430_0 := (HB.out.cell (World.block_lt_of_cell? w _ hx430_0)).trans hx430_0
          replace hx430_1 := (HB.out.cell (World.block_lt_of_cell? w _ hx430_1)).trans hx430_1
          replace p430 := eq_true p430
          replace q430 := eq_true q430
          have hcz27_0 : wc.cell? ⟨gb414, 0, none⟩ = some (.int .i64 a1_0) := (zd BK414.out 0).trans rfl
          have hcz27_1 : wc.cell? ⟨gb414, 1, none⟩ = some (.int .i64 a1_1) := (zd BK414.out 1).trans rfl
          have hfz27_0 := zk BK414.out 0
          have hfz27_1 := zk BK414.out 1
          go_wp2
          repeat (go_quiet (fail); try go_wp2)
          go_roundg kj6
          case measure => have := HK1.out; have := HJ6.out; omega
          case rel => exact ⟨(x5_1), (x6_1), (wrap64 (x7_1 + 1)), (by first | rfl | (simp; done) | (simp [*]; done)), (by first | rfl | (simp; done) | (simp [*]; done)), H', ⟨by have := HK1.out; have := HJ6.out; omega⟩, ⟨by (with_reducible repeat (first | apply Kd.zX | apply Kd.zU | apply Kd.ym)); exact HO_5.out⟩, ⟨by (with_reducible repeat (first | refine zE ?_ _ | refine zD ?_ | refine zm ?_ _)); exact BK414.out⟩, ⟨by repeat (with_reducible first | exact HB.out | apply zc | apply zj | apply zn | refine zv ?_ GE414.out)⟩⟩
         ·rw [if_neg c26] at H
          have c26b0 : (((zw l0 x7_1).f0) == a1_0) = false := beq_eq_false_iff_ne.mpr c26
          have c26b1 : (((zw l0 x7_1).f0) != a1_0) = true := bne_iff_ne.mpr c26
          by_cases c28 : x5_1.length < 8796093022208
          ·rw [if_pos c28] at H
           have LMc28 := zb.mk c28
           clear c28
           obtain ⟨y432, hy432⟩ : ∃ y_ : List (S45), y_ = (x5_1 ++ [(⟨(zw l0 x7_1).f0, (zw l0 x7_1).f1⟩ : S45)]) := ⟨_, rfl⟩
           replace H : (zC.l0 kj6 l0 y432 x6_1 (wrap64 (x7_1 + 1)) a1_0 a1_1) = some r := by first | (rw [hy432]; with_reducible exact H) | (have H2_ := (Option.bind_some _ _).symm.trans H; rw [hy432]; with_reducible exact H2_) | (have H2_ := (Option.bind_some _ _).symm.trans H; with_reducible exact H2_) | with_reducible exact H | (rw [hy432]; exact H) | exact H
           have Ny432 := zb.mk hy432
           clear hy432
           have H' := zb.mk H
           clear H
           have p430 : 0 ≤ (x7_1 : Int) := of_decide_eq_true (by first | (with_reducible assumption) | assumption)
           have q430 : x7_1 < (l0.length : Int) := of_decide_eq_true (by first | (with_reducible assumption) | assumption)
           obtain ⟨ad430, e430, hx430_0, hx430_1⟩ := yK HR0.out x7_1 p430 q430
           cases e430
           replace hx430_0 := (HB.out.cell (World.block_lt_of_cell? w _ hx430_0)).trans hx430_0
           replace hx430_1 := (HB.out.cell (World.block_lt_of_cell? w _ hx430_1)).trans hx430_1
           replace p430 := eq_true p430
           replace q430 := eq_true q430
           have hcz29_0 : wc.cell? ⟨gb414, 0, none⟩ = some (.int .i64 a1_0) := (zd BK414.out 0).trans rfl
           have hcz29_1 : wc.cell? ⟨gb414, 1, none⟩ = some (.int .i64 a1_1) := (zd BK414.out 1).trans rfl
           have hfz29_0 := zk BK414.out 0
           have hfz29_1 := zk BK414.out 1
           have p431 : 0 ≤ (x7_1 : Int) := of_decide_eq_true (by first | (with_reducible assumption) | assumption)
           have q431 : x7_1 < (l0.length : Int) := of_decide_eq_true (by first | (with_reducible assumption) | assumption)
           obtain ⟨ad431, e431, hx431_0, hx431_1⟩ := yK HR0.out x7_1 p431 q431
           obtain rfl : ad430 = ad431 := (by injection e431)
           replace hx431_0 := (HB.out.cell (World.block_lt_of_cell? w _ hx431_0)).trans hx431_0
           replace hx431_1 := (HB.out.cell (World.block_lt_of_cell? w _ hx431_1)).trans hx431_1
           replace p431 := eq_true p431
           replace q431 := eq_true q431
           go_wp2_with (first | ((with_reducible refine zG (b := .append) (xs := #[.tmp 39, .tmp 44]) rfl ?_); at_builtin; refine Kd.yi k45 (w0 := w) w.heap.size rfl (.tmp 39) (.tmp 44) 41 45 (.agg #[(.int .i64 0), (.int .i64 0)]) 16 rfl Try.underlying41 xM rfl (by decide) (by omega) u5 x5_1 (⟨(zw l0 x7_1).f0, (zw l0 x7_1).f1⟩ : S45) [.int .i64 ((zw l0 x7_1).f0), .int .i64 ((zw l0 x7_1).f1)] (fun k_ => k_ ≠ gb414) (fun _ => False) rfl rfl ?aP (fun _ hk => hk.elim) ?aF ?aO ?aB ?aS ?aL ?_; (case aP => exact yZ _ _ _ (⟨(zw l0 x7_1).f0, (zw l0 x7_1).f1⟩ : S45)); (case aB => exact (by repeat (with_reducible first | exact HB.out | apply zc | apply zj | apply zn | refine zv ?_ GE414.out))); (case aF => exact (fun k_ hk => Kd.xN (g := gb414) (o := .cells #[.int .i64 a1_0, .int .i64 a1_1] 45 (0, 0)) (by (with_reducible repeat (first | refine zE ?_ _ | refine zD ?_ | refine zm ?_ _)); exact BK414.out) k_ hk)); (case aO => exact (by (with_reducible repeat (first | apply Kd.zX | apply Kd.zU | apply Kd.ym)); exact HO_5.out)); (case aS => exact (zL (by repeat (with_reducible first | exact HB.out | apply zc | apply zj | apply zn | refine zv ?_ GE414.out)))); (case aL => have := LMc28.out; omega); intro v433 w30 ho hb hg hat; rw [← Ny432.out] at ho; have n0_ := zb.mk (yv (g := gb414) (o := .cells #[.int .i64 a1_0, .int .i64 a1_1] 45 (0, 0)) (by (with_reducible repeat (first | refine zE ?_ _ | refine zD ?_ | refine zm ?_ _)); exact BK414.out) hg (Kd.xU HO_5.out (fun _ hk => hk))); have n1_ := zb.mk (hb); have n2_ := zb.mk (ho); clear BK414; clear HB; clear HO_5; have BK414 := n0_; have HB := n1_; have HO434 := n2_; clear n0_ n1_ n2_; clear ho hb hg hat))
           repeat (go_quiet (first | ((with_reducible refine zG (b := .append) (xs := #[.tmp 39, .tmp 44]) rfl ?_); at_builtin; refine Kd.yi k45 (w0 := w) w.heap.size rfl (.tmp 39) (.tmp 44) 41 45 (.agg #[(.int .i64 0), (.int .i64 0)]) 16 rfl Try.underlying41 xM rfl (by decide) (by omega) u5 x5_1 (⟨(zw l0 x7_1).f0, (zw l0 x7_1).f1⟩ : S45) [.int .i64 ((zw l0 x7_1).f0), .int .i64 ((zw l0 x7_1).f1)] (fun k_ => k_ ≠ gb414) (fun _ => False) rfl rfl ?aP (fun _ hk => hk.elim) ?aF ?aO ?aB ?aS ?aL ?_; (case aP => exact yZ _ _ _ (⟨(zw l0 x7_1).f0, (zw l0 x7_1).f1⟩ : S45)); (case aB => exact (by repeat (with_reducible first | exact HB.out | apply zc | apply zj | apply zn | refine zv ?_ GE414.out))); (case aF => exact (fun k_ hk => Kd.xN (g := gb414) (o := .cells #[.int .i64 a1_0, .int .i64 a1_1] 45 (0, 0)) (by (with_reducible repeat (first | refine zE ?_ _ | refine zD ?_ | refine zm ?_ _)); exact BK414.out) k_ hk)); (case aO => exact (by (with_reducible repeat (first | apply Kd.zX | apply Kd.zU | apply Kd.ym)); exact HO_5.out)); (case aS => exact (zL (by repeat (with_reducible first | exact HB.out | apply zc | apply zj | apply zn | refine zv ?_ GE414.out)))); (case aL => have := LMc28.out; omega); intro v433 w30 ho hb hg hat; rw [← Ny432.out] at ho; have n0_ := zb.mk (yv (g := gb414) (o := .cells #[.int .i64 a1_0, .int .i64 a1_1] 45 (0, 0)) (by (with_reducible repeat (first | refine zE ?_ _ | refine zD ?_ | refine zm ?_ _)); exact BK414.out) hg (Kd.xU HO_5.out (fun _ hk => hk))); have n1_ := zb.mk (hb); have n2_ := zb.mk (ho); clear BK414; clear HB; clear HO_5; have BK414 := n0_; have HB := n1_; have HO434 := n2_; clear n0_ n1_ n2_; clear ho hb hg hat)); try go_wp2_with (first | ((with_reducible refine zG (b := .append) (xs := #[.tmp 39, .tmp 44]) rfl ?_); at_builtin; refine Kd.yi k45 (w0 := w) w.heap.size rfl (.tmp 39) (.tmp 44) 41 45 (.agg #[(.int .i64 0), (.int .i64 0)]) 16 rfl Try.underlying41 xM rfl (by decide) (by omega) u5 x5_1 (⟨(zw l0 x7_1).f0, (zw l0 x7_1).f1⟩ : S45) [.int .i64 ((zw l0 x7_1).f0), .int .i64 ((zw l0 x7_1).f1)] (fun k_ => k_ ≠ gb414) (fun _ => False) rfl rfl ?aP (fun _ hk => hk.elim) ?aF ?aO ?aB ?aS ?aL ?_; (case aP => exact yZ _ _ _ (⟨(zw l0 x7_1).f0, (zw l0 x7_1).f1⟩ : S45)); (case aB => exact (by repeat (with_reducible first | exact HB.out | apply zc | apply zj | apply zn | refine zv ?_ GE414.out))); (case aF => exact (fun k_ hk => Kd.xN (g := gb414) (o := .cells #[.int .i64 a1_0, .int .i64 a1_1] 45 (0, 0)) (by (with_reducible repeat (first | refine zE ?_ _ | refine zD ?_ | refine zm ?_ _)); exact BK414.out) k_ hk)); (case aO => exact (by (with_reducible repeat (first | apply Kd.zX | apply Kd.zU | apply Kd.ym)); exact HO_5.out)); (case aS => exact (zL (by repeat (with_reducible first | exact HB.out | apply zc | apply zj | apply zn | refine zv ?_ GE414.out)))); (case aL => have := LMc28.out; omega); intro v433 w30 ho hb hg hat; rw [← Ny432.out] at ho; have n0_ := zb.mk (yv (g := gb414) (o := .cells #[.int .i64 a1_0, .int .i64 a1_1] 45 (0, 0)) (by (with_reducible repeat (first | refine zE ?_ _ | refine zD ?_ | refine zm ?_ _)); exact BK414.out) hg (Kd.xU HO_5.out (fun _ hk => hk))); have n1_ := zb.mk (hb); have n2_ := zb.mk (ho); clear BK414; clear HB; clear HO_5; have BK414 := n0_; have HB := n1_; have HO434 := n2_; clear n0_ n1_ n2_; clear ho hb hg hat)))
           go_roundg kj6
           case measure => have := HK1.out; have := HJ6.out; omega
           case rel => exact ⟨(y432), (x6_1), (wrap64 (x7_1 + 1)), (by first | rfl | (simp; done) | (simp [*]; done)), (by first | rfl | (simp; done) | (simp [*]; done)), H', ⟨by have := HK1.out; have := HJ6.out; omega⟩, ⟨by (with_reducible repeat (first | apply Kd.zX | apply Kd.zU | apply Kd.ym)); exact HO434.out⟩, ⟨by (with_reducible repeat (first | refine zE ?_ _ | refine zD ?_ | refine zm ?_ _)); exact BK414.out⟩, ⟨by repeat (with_reducible first | exact HB.out | apply zc | apply zj | apply zn | refine zv ?_ GE414.out)⟩⟩
          ·rw [if_neg c28] at H
           exact absurd H (by simp)
        ·rw [if_neg c25] at H
         exact absurd H (by simp)
       ·rw [if_neg c24] at H
        exact absurd H (by simp)
   ·rw [if_neg c6] at H
    have c6b0 : decide (x7_1 < (l0.length : Int)) = false := decide_eq_false c6
    clear c6
    by_cases c31 : x6_1 = true
    ·subst c31
     have H1 : (some x5_1) = some r := by rw [if_pos rfl] at H; exact H
     clear H
     have H := H1
     clear H1
     obtain rfl := Option.some.inj H
     go_wp2
     repeat (go_quiet (fail); try go_wp2)
     go_ret
     exact ⟨_, by first | rfl | (simp [yX, yW] <;> rfl) | (simp [*, yX, yW] <;> rfl), by (with_reducible repeat (first | apply Kd.zX | apply Kd.zU | apply Kd.ym)); exact Kd.zT HO_5.out (fun _ hk => trivial), by repeat (with_reducible first | exact HB.out | apply zc | apply zj | apply zn | refine zv ?_ GE414.out)⟩
    ·replace c31 := Bool.eq_false_iff.mpr c31
     subst c31
     have H1 : (if x5_1.length < 8796093022208 then (some (x5_1 ++ [(⟨a1_0, a1_1⟩ : S45)])) else (none)) = some r := by rw [if_neg (show ¬ (false = true) by decide)] at H; exact H
     clear H
     have H := H1
     clear H1
     by_cases c32 : x5_1.length < 8796093022208
     ·rw [if_pos c32] at H
      have LMc32 := zb.mk c32
      clear c32
      obtain ⟨y418, hy418⟩ : ∃ y_ : List (S45), y_ = (x5_1 ++ [(⟨a1_0, a1_1⟩ : S45)]) := ⟨_, rfl⟩
      replace H : (some y418) = some r := by first | (rw [hy418]; with_reducible exact H) | (have H2_ := (Option.bind_some _ _).symm.trans H; rw [hy418]; with_reducible exact H2_) | (have H2_ := (Option.bind_some _ _).symm.trans H; with_reducible exact H2_) | with_reducible exact H | (rw [hy418]; exact H) | exact H
      have Ny418 := zb.mk hy418
      clear hy418
      obtain rfl := Option.some.inj H
      have hcz33_0 : wr.cell? ⟨gb414, 0, none⟩ = some (.int .i64 a1_0) := (zd BK414.out 0).trans rfl
      have hcz33_1 : wr.cell? ⟨gb414, 1, none⟩ = some (.int .i64 a1_1) := (zd BK414.out 1).trans rfl
      have hfz33_0 := zk BK414.out 0
      have hfz33_1 := zk BK414.out 1
      go_wp2_with (first | ((with_reducible refine zG (b := .append) (xs := #[.tmp 48, .tmp 50]) rfl ?_); at_builtin; refine Kd.yi k45 (w0 := w) w.heap.size rfl (.tmp 48) (.tmp 50) 41 45 (.agg #[(.int .i64 0), (.int .i64 0)]) 16 rfl Try.underlying41 xM rfl (by decide) (by omega) u5 x5_1 (⟨a1_0, a1_1⟩ : S45) [.int .i64 a1_0, .int .i64 a1_1] (fun k_ => k_ ≠ gb414) (fun _ => False) rfl rfl ?aP (fun _ hk => hk.elim) ?aF ?aO ?aB ?aS ?aL ?_; (case aP => exact yZ _ _ _ (⟨a1_0, a1_1⟩ : S45)); (case aB => exact (by repeat (with_reducible first | exact HB.out | apply zc | apply zj | apply zn | refine zv ?_ GE414.out))); (case aF => exact (fun k_ hk => Kd.xN (g := gb414) (o := .cells #[.int .i64 a1_0, .int .i64 a1_1] 45 (0, 0)) (by (with_reducible repeat (first | refine zE ?_ _ | refine zD ?_ | refine zm ?_ _)); exact BK414.out) k_ hk)); (case aO => exact (by (with_reducible repeat (first | apply Kd.zX | apply Kd.zU | apply Kd.ym)); exact HO_5.out)); (case aS => exact (zL (by repeat (with_reducible first | exact HB.out | apply zc | apply zj | apply zn | refine zv ?_ GE414.out)))); (case aL => have := LMc32.out; omega); intro v419 w34 ho hb hg hat; rw [← Ny418.out] at ho; have n0_ := zb.mk (yv (g := gb414) (o := .cells #[.int .i64 a1_0, .int .i64 a1_1] 45 (0, 0)) (by (with_reducible repeat (first | refine zE ?_ _ | refine zD ?_ | refine zm ?_ _)); exact BK414.out) hg (Kd.xU HO_5.out (fun _ hk => hk))); have n1_ := zb.mk (hb); have n2_ := zb.mk (ho); clear BK414; clear HB; clear HO_5; have BK414 := n0_; have HB := n1_; have HO420 := n2_; clear n0_ n1_ n2_; clear ho hb hg hat))
      repeat (go_quiet (first | ((with_reducible refine zG (b := .append) (xs := #[.tmp 48, .tmp 50]) rfl ?_); at_builtin; refine Kd.yi k45 (w0 := w) w.heap.size rfl (.tmp 48) (.tmp 50) 41 45 (.agg #[(.int .i64 0), (.int .i64 0)]) 16 rfl Try.underlying41 xM rfl (by decide) (by omega) u5 x5_1 (⟨a1_0, a1_1⟩ : S45) [.int .i64 a1_0, .int .i64 a1_1] (fun k_ => k_ ≠ gb414) (fun _ => False) rfl rfl ?aP (fun _ hk => hk.elim) ?aF ?aO ?aB ?aS ?aL ?_; (case aP => exact yZ _ _ _ (⟨a1_0, a1_1⟩ : S45)); (case aB => exact (by repeat (with_reducible first | exact HB.out | apply zc | apply zj | apply zn | refine zv ?_ GE414.out))); (case aF => exact (fun k_ hk => Kd.xN (g := gb414) (o := .cells #[.int .i64 a1_0, .int .i64 a1_1] 45 (0, 0)) (by (with_reducible repeat (first | refine zE ?_ _ | refine zD ?_ | refine zm ?_ _)); exact BK414.out) k_ hk)); (case aO => exact (by (with_reducible repeat (first | apply Kd.zX | apply Kd.zU | apply Kd.ym)); exact HO_5.out)); (case aS => exact (zL (by repeat (with_reducible first | exact HB.out | apply zc | apply zj | apply zn | refine zv ?_ GE414.out)))); (case aL => have := LMc32.out; omega); intro v419 w34 ho hb hg hat; rw [← Ny418.out] at ho; have n0_ := zb.mk (yv (g := gb414) (o := .cells #[.int .i64 a1_0, .int .i64 a1_1] 45 (0, 0)) (by (with_reducible repeat (first | refine zE ?_ _ | refine zD ?_ | refine zm ?_ _)); exact BK414.out) hg (Kd.xU HO_5.out (fun _ hk => hk))); have n1_ := zb.mk (hb); have n2_ := zb.mk (ho); clear BK414; clear HB; clear HO_5; have BK414 := n0_; have HB := n1_; have HO420 := n2_; clear n0_ n1_ n2_; clear ho hb hg hat)); try go_wp2_with (first | ((with_reducible refine zG (b := .append) (xs := #[.tmp 48, .tmp 50]) rfl ?_); at_builtin; refine Kd.yi k45 (w0 := w) w.heap.size rfl (.tmp 48) (.tmp 50) 41 45 (.agg #[(.int .i64 0), (.int .i64 0)]) 16 rfl Try.underlying41 xM rfl (by decide) (by omega) u5 x5_1 (⟨a1_0, a1_1⟩ : S45) [.int .i64 a1_0, .int .i64 a1_1] (fun k_ => k_ ≠ gb414) (fun _ => False) rfl rfl ?aP (fun _ hk => hk.elim) ?aF ?aO ?aB ?aS ?aL ?_; (case aP => exact yZ _ _ _ (⟨a1_0, a1_1⟩ : S45)); (case aB => exact (by repeat (with_reducible first | exact HB.out | apply zc | apply zj | apply zn | refine zv ?_ GE414.out))); (case aF => exact (fun k_ hk => Kd.xN (g := gb414) (o := .cells #[.int .i64 a1_0, .int .i64 a1_1] 45 (0, 0)) (by (with_reducible repeat (first | refine zE ?_ _ | refine zD ?_ | refine zm ?_ _)); exact BK414.out) k_ hk)); (case aO => exact (by (with_reducible repeat (first | apply Kd.zX | apply Kd.zU | apply Kd.ym)); exact HO_5.out)); (case aS => exact (zL (by repeat (with_reducible first | exact HB.out | apply zc | apply zj | apply zn | refine zv ?_ GE414.out)))); (case aL => have := LMc32.out; omega); intro v419 w34 ho hb hg hat; rw [← Ny418.out] at ho; have n0_ := zb.mk (yv (g := gb414) (o := .cells #[.int .i64 a1_0, .int .i64 a1_1] 45 (0, 0)) (by (with_reducible repeat (first | refine zE ?_ _ | refine zD ?_ | refine zm ?_ _)); exact BK414.out) hg (Kd.xU HO_5.out (fun _ hk => hk))); have n1_ := zb.mk (hb); have n2_ := zb.mk (ho); clear BK414; clear HB; clear HO_5; have BK414 := n0_; have HB := n1_; have HO420 := n2_; clear n0_ n1_ n2_; clear ho hb hg hat)))
      go_ret
      exact ⟨_, by first | rfl | (simp [yX, yW] <;> rfl) | (simp [*, yX, yW] <;> rfl), by (with_reducible repeat (first | apply Kd.zX | apply Kd.zU | apply Kd.ym)); exact Kd.zT HO420.out (fun _ hk => trivial), by repeat (with_reducible first | exact HB.out | apply zc | apply zj | apply zn | refine zv ?_ GE414.out)⟩
     ·rw [if_neg c32] at H
      exact absurd H (by simp)
end Go.Proofs.Ytppapibjbjmmbaa.QSY
set_option linter.unusedVariables false
set_option linter.unusedSimpArgs false
namespace Go.Proofs.Ytppapibjbjmmbaa.QSY
open Go.RowKit Go.Proofs.YtppapibjbjmmbaaW.PrintWords Go.Proofs.YtppapibjbjmmbaaW.PrintLast Go.Proofs.YtppapibjbjmmbaaW.PrintMore
theorem add_go (l : List S45) (c n : Int) (hl : l.length ≤ 1000) : ∀ (d : Nat) (i : Nat) (acc : List S45) (done : Bool) (k : Nat), l.length - i = d → i ≤ l.length → 2 * d + 2 ≤ k → acc.length ≤ 2 * i + 1 →
  zC.l0 k l acc done i c n = some (acc ++ xG ⟨c, n⟩ (l.drop i) done) := by
 intro d
 induction d with
 | zero =>
  intro i acc done k hd hi hk ha
  obtain ⟨k, rfl⟩ : ∃ m, k = m + 1 := ⟨k - 1, by omega⟩
  have hi' : i = l.length := by omega
  subst hi'
  rw [List.drop_length]
  simp only [zC.l0]
  rw [if_neg (by omega)]
  cases done with
  | true => simp [xG]
  | false =>
   rw [if_neg (by decide), if_pos (by omega)]
   simp [xG]
 | succ d ih =>
  intro i acc done k hd hi hk ha
  obtain ⟨k, rfl⟩ : ∃ m, k = m + 2 := ⟨k - 2, by omega⟩
  have hlt : i < l.length := by omega
  have hdr : l.drop i = zw l (i : Int) :: l.drop (i + 1) := by
   rw [List.drop_eq_getElem_cons hlt]
   congr 1
   unfold zw
   rw [Int.toNat_natCast, List.getD_eq_getElem?_getD, List.getElem?_eq_getElem hlt]
   rfl
  have hw : wrap64 ((i : Int) + 1) = ((i + 1 : Nat) : Int) := by unfold wrap64; omega
  obtain ⟨p, hp⟩ : ∃ p, p = zw l (i : Int) := ⟨_, rfl⟩
  have ihn := fun acc done h => ih (i + 1) acc done k (by omega) (by omega) (by omega) h
  rw [hdr, ← hp]
  simp only [zC.l0]
  rw [if_pos (by omega)]
  cases done with
  | true =>
   rw [if_pos rfl]
   simp only [zC.j1]
   rw [if_neg (by decide), if_pos (by omega), if_pos (by omega), ← hp]
   by_cases e : p.f0 = c
   ·rw [if_pos e, hw, ihn acc true (by omega)]
    simp [xG, e]
   ·rw [if_neg e, if_pos (by omega), hw, ihn (acc ++ [S45.mk p.f0 p.f1]) true (by simp; omega)]
    simp [xG, e]
  | false =>
   rw [if_neg (by decide), if_pos (by omega), ← hp]
   simp only [zC.j1]
   by_cases g : p.f0 ≥ c
   ·rw [decide_eq_true g, if_pos rfl, if_pos (by omega)]
    simp only [Option.bind_some]
    rw [if_pos (by omega), if_pos (by omega), ← hp]
    by_cases e : p.f0 = c
    ·rw [if_pos e, hw, ihn (acc ++ [S45.mk c n]) true (by simp; omega)]
     simp [xG, e]
    ·rw [if_neg e, if_pos (by simp; omega), hw, ihn ((acc ++ [S45.mk c n]) ++ [S45.mk p.f0 p.f1]) true (by simp; omega)]
     simp [xG, e, g]
   ·rw [decide_eq_false g, if_neg (by decide), if_pos (by omega), if_pos (by omega), ← hp]
    have e : ¬ p.f0 = c := by omega
    rw [if_neg e, if_pos (by omega), hw, ihn (acc ++ [S45.mk p.f0 p.f1]) false (by simp; omega)]
    simp [xG, e, g]
theorem add_calls (A : Option Addr) (cc : Nat) (l : List S45) (c n : Int) (w : World) (hr : Kd.C k45 w A l.length l) (hc : l.length ≤ cc) (hl : l.length ≤ 1000) :
  Calls Try.prog 139 #[.slice A l.length cc, .agg #[.int .i64 c, .int .i64 n]] w fun e w' => ∃ v : Value, e = .returned v ∧ Kd.R k45 45 w' w.heap.size (fun _ => True) v (xG ⟨c, n⟩ l false) ∧ Below w.heap.size w w' :=
 zC.calls (2 * l.length + 2) A cc l c n _ w hr hc (by
  have := add_go l c n hl l.length 0 [] false (2 * l.length + 2) (by omega) (Nat.zero_le _) (Nat.le_refl _) (Nat.zero_le _)
  exact this)
end Go.Proofs.Ytppapibjbjmmbaa.QSY
