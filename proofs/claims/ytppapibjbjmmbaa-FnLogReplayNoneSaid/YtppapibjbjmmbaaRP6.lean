import Derived.Test.YtppapibjbjmmbaaRP0
import Derived.Test.YtppapibjbjmmbaaRP1
import Derived.Test.YtppapibjbjmmbaaRP2
import Derived.Test.YtppapibjbjmmbaaRP3
import Derived.Test.YtppapibjbjmmbaaRP4
import Derived.Test.YtppapibjbjmmbaaRP5
set_option linter.unusedVariables false
set_option linter.unusedSimpArgs false
namespace Go.Proofs.Ytppapibjbjmmbaa.QSY
open Go.RowKit Go.Proofs.YtppapibjbjmmbaaW.PrintWords Go.Proofs.YtppapibjbjmmbaaW.PrintLast Go.Proofs.YtppapibjbjmmbaaW.PrintMore
set_option maxHeartbeats 8000000 in
set_option maxRecDepth 100000 in
theorem replayCut_law (A : Option Addr) (c : Nat) (b : List Int) (AM : Option Addr) (nm cM : Nat) (w : World) (h : Kd.C (Kd.int .u8) w A b.length b) (hc : b.length ≤ c) (hb : ∀ x ∈ b, (0 : Int) ≤ x ∧ x ≤ 255) :
  Calls Try.prog 9 #[.slice A b.length c, .slice AM nm cM] w fun e w' => e = .returned (.bool true) ∧ Below w.heap.size w w' := by
 have HD := za.mk (fun hl => drawReplay_calls A c b h hc hb hl)
 obtain ⟨nb, hnb⟩ : ∃ n, n = b.length := ⟨_, rfl⟩
 rw [← hnb] at HD ⊢
 obtain ⟨Post, hPost⟩ : ∃ P, P = fun (e : Ending) (w' : World) => e = .returned (.bool true) ∧ Below w.heap.size w w' := ⟨_, rfl⟩
 have HP := za.mk (show ∀ e w', Post e w' ↔ (e = .returned (.bool true) ∧ Below w.heap.size w w') from fun _ _ => by rw [hPost])
 rw [← hPost]
 clear h hc hb hnb hPost
 go_enter Try.func9, Try.ntmps9
 by_cases hbig : (nb : Int) > 1048576
 ·go_wp2
  (try refine bodyPost_ret (results_tmp rfl _ _ _) rfl ?_)
  rw [HP.out]
  exact ⟨rfl, Below.refl _ _⟩
 by_cases hbig2 : (nm : Int) > 1048576
 ·go_wp2
  (try refine bodyPost_ret (results_tmp rfl _ _ _) rfl ?_)
  rw [HP.out]
  exact ⟨rfl, Below.refl _ _⟩
 have HNM := za.mk (show nm ≤ 1048576 by omega)
 have HD2 := za.mk (HD.out (by omega))
 clear HD
 go_upto_region 4 with (go_at_call 32; refine HD2.out.mono ?_; rintro e w1 ⟨A0, c0, Cs, AL, cL, L, rfl, hb, h1, h2⟩; have HB1 := za.mk hb; have HR1 := za.mk (show Rp w1 w1 A0 Cs AL cL L from ⟨Below.refl _ _, h1.1, h1.2.2, h2.1, h2.2.1, h2.2.2.1, h2.2.2.2⟩); clear hb h1 h2)
 have KS := za.mk (fun (W : World) (hW : Below w1.heap.size w1 W) => specReplay_calls A0 Cs c0 AL L cL W (Kd.zp HR1.out.c hW) (by have := HR1.out.n; omega) (Kd.zp HR1.out.l hW))
 have KI := za.mk (fun (W : World) (hW : Below w1.heap.size w1 W) => xa A0 Cs c0 AL L cL W (Kd.zp HR1.out.c hW) (by have := HR1.out.n; omega) (Kd.zp HR1.out.l hW))
 obtain ⟨nL, hnL⟩ : ∃ n, n = L.length := ⟨_, rfl⟩
 have HT := za.mk (tmod_in (a := (nm : Int)) (n := (nL : Int) + 1) (by omega) (by omega))
 obtain ⟨t, ht⟩ : ∃ t : Nat, Int.tmod (nm : Int) ((nL : Int) + 1) = (t : Int) := ⟨(Int.tmod (nm : Int) ((nL : Int) + 1)).toNat, by have := HT.out.1; omega⟩
 have htn : t ≤ nL := by have := HT.out.2; omega
 have HTL := za.mk (show t ≤ L.length by omega)
 have htc : t ≤ cL := by have := HR1.out.lc; omega
 have hlc : nL ≤ cL := by have := HR1.out.lc; omega
 have e1 : wrap64 ((nL : Int) + 1) = (nL : Int) + 1 := by have := HR1.out.ll; unfold wrap64; omega
 have e2 : ¬ (nL : Int) + 1 = 0 := by omega
 have e3 : wrap64 (t : Int) = (t : Int) := by have := HR1.out.ll; unfold wrap64; omega
 have KT := za.mk (fun (W : World) (hW : Below w1.heap.size w1 W) => xa A0 Cs c0 AL (L.take t) cL W (Kd.zp HR1.out.c hW) (by have := HR1.out.n; omega) (Kd.zp (Kd.C_take HR1.out.l HTL.out) hW))
 rw [show (L.take t).length = t by rw [List.length_take]; have := HTL.out; omega] at KT
 have HSPL := za.mk (show zT Cs L = (zT Cs (L.take t)).bind (fun c' => zT c' (L.drop t)) by rw [← replay_append, List.take_append_drop])
 have KD := za.mk (fun (W : World) (hW : Below w1.heap.size w1 W) (A7 : Option Addr) (y : List Int) (c7 : Nat) (hy : Kd.C (Kd.int .i64) W A7 y.length y) (hl : y.length ≤ 3) => xa A7 y c7 (if cL = t then AL else AL.map (·.add (t * 6))) (L.drop t) (cL - t) W hy (by omega) (show Kd.C k50 W (if cL = t then AL else AL.map (·.add (t * 6))) (L.drop t).length (L.drop t) from Kd.C_drop (Kd.zp HR1.out.l hW) HTL.out HR1.out.lc))
 rw [show (L.drop t).length = nL - t by rw [List.length_drop, ← hnL]] at KD
 obtain ⟨n0, hn0⟩ : ∃ n, n = Cs.length := ⟨_, rfl⟩
 rw [← hn0] at KS KI KT ⊢
 rw [← hnL] at KS KI ⊢
 have HN0 := za.mk hn0
 clear hn0 hnL hbig hbig2
 rcases hT : zT Cs (L.take t) with _ | y
 ·have HRT := za.mk hT
  have HR := za.mk (show zT Cs L = none by rw [HSPL.out, hT]; rfl)
  clear hT
  have KS2 := za.mk (fun (W : World) (hW : Below w1.heap.size w1 W) => show Calls Try.prog 33 #[.slice A0 n0 c0, .slice AL nL cL] W (RepP W false 0 []) from (KS.out W hW).mono (fun e w' h => h.none_ HR.out))
  have KI2 := za.mk (fun (W : World) (hW : Below w1.heap.size w1 W) => show Calls Try.prog 34 #[.slice A0 n0 c0, .slice AL nL cL] W (RepP W false 0 []) from (KI.out W hW).mono (fun e w' h => h.none_ HR.out))
  clear KS KI
  go_wp2_with (fail)
  with_reducible refine (KS2.out _ (Below.refl _ _)).mono ?_
  rintro e w2 ⟨A5, c5, rfl, h5, hr5, hb⟩
  have HB2 := za.mk hb
  have H5 := za.mk hr5
  have L5 := za.mk h5
  clear hb hr5 h5
  go_wp2_with (fail)
  with_reducible refine (KI2.out _ HB2.out).mono ?_
  rintro e w3 ⟨A6, c6, rfl, h6, hr6, hb⟩
  have HB3 := za.mk (zg HB2.out hb)
  have H5b := za.mk (Kd.zF H5.out hb)
  have H6 := za.mk hr6
  clear hb hr6 h6 HB2
  go_wp2_with (fail)
  with_reducible refine (yL A6 [] 0 c6 A5 0 c5 w3 (Kd.zz H6.out).2.2 (Kd.zz H5b.out).2.2 L5.out L5.out).mono ?_
  rintro e w4 ⟨rfl, hb⟩
  have HB4 := za.mk (zg HB3.out hb)
  have H6c := za.mk (Kd.zF H6.out hb)
  clear hb
  have KT2 := za.mk (fun (W : World) (hW : Below w1.heap.size w1 W) => show Calls Try.prog 34 #[.slice A0 n0 c0, .slice AL t cL] W (RepP W false 0 []) from (KT.out W hW).mono (fun e w' h => h.none_ HRT.out))
  clear KT KD
  go_wp2_with (fail)
  with_reducible refine (KT2.out _ HB4.out).mono ?_
  rintro e w5 ⟨A7, c7, rfl, h7, hr7, hb⟩
  have HB5 := za.mk (zg HB4.out hb)
  clear hb hr7 h7
  go_wp2
  (try refine bodyPost_ret (results_tmp rfl _ _ _) rfl ?_)
  rw [HP.out]
  exact ⟨rfl, zg HB1.out HB5.out⟩
 ·have HRT := za.mk hT
  have HRR := za.mk (show zT Cs L = zT y (L.drop t) by rw [HSPL.out, hT]; rfl)
  clear hT
  rcases hR : zT Cs L with _ | r0
  ·have HR := za.mk hR
   have HRD := za.mk (show zT y (L.drop t) = none by rw [← HRR.out, hR])
   clear hR
   have KS2 := za.mk (fun (W : World) (hW : Below w1.heap.size w1 W) => show Calls Try.prog 33 #[.slice A0 n0 c0, .slice AL nL cL] W (RepP W false 0 []) from (KS.out W hW).mono (fun e w' h => h.none_ HR.out))
   have KI2 := za.mk (fun (W : World) (hW : Below w1.heap.size w1 W) => show Calls Try.prog 34 #[.slice A0 n0 c0, .slice AL nL cL] W (RepP W false 0 []) from (KI.out W hW).mono (fun e w' h => h.none_ HR.out))
   clear KS KI
   go_wp2_with (fail)
   with_reducible refine (KS2.out _ (Below.refl _ _)).mono ?_
   rintro e w2 ⟨A5, c5, rfl, h5, hr5, hb⟩
   have HB2 := za.mk hb
   have H5 := za.mk hr5
   have L5 := za.mk h5
   clear hb hr5 h5
   go_wp2_with (fail)
   with_reducible refine (KI2.out _ HB2.out).mono ?_
   rintro e w3 ⟨A6, c6, rfl, h6, hr6, hb⟩
   have HB3 := za.mk (zg HB2.out hb)
   have H5b := za.mk (Kd.zF H5.out hb)
   have H6 := za.mk hr6
   clear hb hr6 h6 HB2
   go_wp2_with (fail)
   with_reducible refine (yL A6 [] 0 c6 A5 0 c5 w3 (Kd.zz H6.out).2.2 (Kd.zz H5b.out).2.2 L5.out L5.out).mono ?_
   rintro e w4 ⟨rfl, hb⟩
   have HB4 := za.mk (zg HB3.out hb)
   have H6c := za.mk (Kd.zF H6.out hb)
   clear hb
   have KT2 := za.mk (fun (W : World) (hW : Below w1.heap.size w1 W) => show Calls Try.prog 34 #[.slice A0 n0 c0, .slice AL t cL] W (RepP W true n0 y) from (KT.out W hW).mono (fun e w' h => h.some_ HRT.out HN0.out))
   clear KT
   go_wp2_with (fail)
   with_reducible refine (KT2.out _ HB4.out).mono ?_
   rintro e w5 ⟨A7, c7, rfl, h7, hr7, hb⟩
   have HB5 := za.mk (zg HB4.out hb)
   have H6d := za.mk (Kd.zF H6c.out hb)
   have H7 := za.mk hr7
   have HY0 := za.mk h7
   have KD2 := za.mk (show Calls Try.prog 34 #[.slice A7 n0 c7, .slice (if cL = t then AL else AL.map (·.add (t * 6))) (nL - t) (cL - t)] w5 (RepP w5 false 0 []) from by
    have k := (KD.out w5 HB5.out A7 y c7 (Kd.zz hr7).2.2 (by rw [← h7, HN0.out]; exact HR1.out.n)).mono (fun e w' h => h.none_ HRD.out)
    rwa [← h7] at k)
   clear hb hr7 h7 KD
   go_wp2_with (fail)
   all_goals
    first | (rename cL = t => hct) | (rename ¬ cL = t => hct)
    obtain ⟨AD, hAD⟩ : ∃ AD, AD = (if cL = t then AL else AL.map (·.add (t * 6))) := ⟨_, rfl⟩
    have KD3 := KD2
    rw [← hAD] at KD3
    have hAE := hAD
    first | rw [if_pos hct] at hAE | rw [if_neg hct] at hAE
    subst hAE
    clear hAD
    first | rw [Nat.sub_eq_zero_of_le (Nat.le_of_eq hct)] at KD3 | skip
    with_reducible refine KD3.out.mono ?_
    rintro e w6 ⟨A8, c8, rfl, h8, hr8, hb⟩
    have HB6 := za.mk (zg HB5.out hb)
    have H6e := za.mk (Kd.zF H6d.out hb)
    have H8 := za.mk hr8
    clear hb hr8 h8 KD2 KD3
    go_wp2_with (fail)
    with_reducible refine (yL A8 [] 0 c8 A6 0 c6 w6 (Kd.zz H8.out).2.2 (Kd.zz H6e.out).2.2 L5.out L5.out).mono ?_
    rintro e w7 ⟨rfl, hb⟩
    have HB7 := za.mk (zg HB6.out hb)
    clear hb
    go_wp2
    (try refine bodyPost_ret (results_tmp rfl _ _ _) rfl ?_)
    rw [HP.out]
    exact ⟨rfl, zg HB1.out HB7.out⟩
  ·have HR := za.mk hR
   have HRD := za.mk (show zT y (L.drop t) = some r0 by rw [← HRR.out, hR])
   clear hR
   have KS2 := za.mk (fun (W : World) (hW : Below w1.heap.size w1 W) => show Calls Try.prog 33 #[.slice A0 n0 c0, .slice AL nL cL] W (RepP W true n0 r0) from (KS.out W hW).mono (fun e w' h => h.some_ HR.out HN0.out))
   have KI2 := za.mk (fun (W : World) (hW : Below w1.heap.size w1 W) => show Calls Try.prog 34 #[.slice A0 n0 c0, .slice AL nL cL] W (RepP W true n0 r0) from (KI.out W hW).mono (fun e w' h => h.some_ HR.out HN0.out))
   clear KS KI
   go_wp2_with (fail)
   with_reducible refine (KS2.out _ (Below.refl _ _)).mono ?_
   rintro e w2 ⟨A5, c5, rfl, h5, hr5, hb⟩
   have HB2 := za.mk hb
   have H5 := za.mk hr5
   have L5 := za.mk h5
   clear hb hr5 h5
   go_wp2_with (fail)
   with_reducible refine (KI2.out _ HB2.out).mono ?_
   rintro e w3 ⟨A6, c6, rfl, h6, hr6, hb⟩
   have HB3 := za.mk (zg HB2.out hb)
   have H5b := za.mk (Kd.zF H5.out hb)
   have H6 := za.mk hr6
   clear hb hr6 h6 HB2
   go_wp2_with (fail)
   with_reducible refine (yL A6 r0 n0 c6 A5 n0 c5 w3 (Kd.zz H6.out).2.2 (Kd.zz H5b.out).2.2 L5.out L5.out).mono ?_
   rintro e w4 ⟨rfl, hb⟩
   have HB4 := za.mk (zg HB3.out hb)
   have H6c := za.mk (Kd.zF H6.out hb)
   clear hb
   have KT2 := za.mk (fun (W : World) (hW : Below w1.heap.size w1 W) => show Calls Try.prog 34 #[.slice A0 n0 c0, .slice AL t cL] W (RepP W true n0 y) from (KT.out W hW).mono (fun e w' h => h.some_ HRT.out HN0.out))
   clear KT
   go_wp2_with (fail)
   with_reducible refine (KT2.out _ HB4.out).mono ?_
   rintro e w5 ⟨A7, c7, rfl, h7, hr7, hb⟩
   have HB5 := za.mk (zg HB4.out hb)
   have H6d := za.mk (Kd.zF H6c.out hb)
   have H7 := za.mk hr7
   have HY0 := za.mk h7
   have KD2 := za.mk (show Calls Try.prog 34 #[.slice A7 n0 c7, .slice (if cL = t then AL else AL.map (·.add (t * 6))) (nL - t) (cL - t)] w5 (RepP w5 true n0 r0) from by
    have k := (KD.out w5 HB5.out A7 y c7 (Kd.zz hr7).2.2 (by rw [← h7, HN0.out]; exact HR1.out.n)).mono (fun e w' h => h.some_ HRD.out HY0.out)
    rwa [← h7] at k)
   clear hb hr7 h7 KD
   go_wp2_with (fail)
   all_goals
    first | (rename cL = t => hct) | (rename ¬ cL = t => hct)
    obtain ⟨AD, hAD⟩ : ∃ AD, AD = (if cL = t then AL else AL.map (·.add (t * 6))) := ⟨_, rfl⟩
    have KD3 := KD2
    rw [← hAD] at KD3
    have hAE := hAD
    first | rw [if_pos hct] at hAE | rw [if_neg hct] at hAE
    subst hAE
    clear hAD
    first | rw [Nat.sub_eq_zero_of_le (Nat.le_of_eq hct)] at KD3 | skip
    with_reducible refine KD3.out.mono ?_
    rintro e w6 ⟨A8, c8, rfl, h8, hr8, hb⟩
    have HB6 := za.mk (zg HB5.out hb)
    have H6e := za.mk (Kd.zF H6d.out hb)
    have H8 := za.mk hr8
    clear hb hr8 h8 KD2 KD3
    go_wp2_with (fail)
    with_reducible refine (yL A8 r0 n0 c8 A6 n0 c6 w6 (Kd.zz H8.out).2.2 (Kd.zz H6e.out).2.2 L5.out L5.out).mono ?_
    rintro e w7 ⟨rfl, hb⟩
    have HB7 := za.mk (zg HB6.out hb)
    clear hb
    go_wp2
    (try refine bodyPost_ret (results_tmp rfl _ _ _) rfl ?_)
    rw [HP.out]
    exact ⟨rfl, zg HB1.out HB7.out⟩
theorem laws_FnLogReplayCut.walk (a0 : Option Addr) (len0 cap0 : Nat) (z0 : List Int) (a1 : Option Addr) (len1 cap1 : Nat) (z1 : List Int) (w : World) (w0 : (a0 = none ∧ len0 = 0 ∧ cap0 = 0 ∧ z0 = []) ∨ ∃ x, a0 = some x ∧ len0 ≤ cap0 ∧ cap0 ≤ maxLen ∧ z0.length = cap0 ∧ (∀ i, i < z0.length → w.cell? (x.add i) = some (.int .u8 (z0.getD i 0))) ∧ ∀ n ∈ z0, (Lit.int .u8 n).wf = true) (w1 : (a1 = none ∧ len1 = 0 ∧ cap1 = 0 ∧ z1 = []) ∨ ∃ x, a1 = some x ∧ len1 ≤ cap1 ∧ cap1 ≤ maxLen ∧ z1.length = cap1 ∧ (∀ i, i < z1.length → w.cell? (x.add i) = some (.int .u8 (z1.getD i 0))) ∧ ∀ n ∈ z1, (Lit.int .u8 n).wf = true) :
  Calls Try.prog 9 #[.slice a0 len0 cap0, .slice a1 len1 cap1] w fun e w' => e = .returned (.bool true) ∧ Below w.heap.size w w' := by
 obtain ⟨l0, rfl, hr0, hm0, hw0, hc0⟩ := yq.ofRowC w0
 exact replayCut_law _ _ l0 a1 len1 cap1 w (Kd.C_of_reads (d := (0 : Int)) (h1 := fun _ => rfl) hr0) hc0 (fun x hx => byte_ok (hw0 x hx))
theorem laws_FnLogReplayNone.walk (a0 : Option Addr) (len0 cap0 : Nat) (z0 : List Int) (w : World) (w0 : (a0 = none ∧ len0 = 0 ∧ cap0 = 0 ∧ z0 = []) ∨ ∃ x, a0 = some x ∧ len0 ≤ cap0 ∧ cap0 ≤ maxLen ∧ z0.length = cap0 ∧ (∀ i, i < z0.length → w.cell? (x.add i) = some (.int .u8 (z0.getD i 0))) ∧ ∀ n ∈ z0, (Lit.int .u8 n).wf = true) :
  Calls Try.prog 10 #[.slice a0 len0 cap0] w fun e w' => e = .returned (.bool true) ∧ Below w.heap.size w w' := by
 obtain ⟨l0, rfl, hr0, hm0, hw0, hc0⟩ := yq.ofRowC w0
 exact replayNone_law _ _ l0 w (Kd.C_of_reads (d := (0 : Int)) (h1 := fun _ => rfl) hr0) hc0 (fun x hx => byte_ok (hw0 x hx))
end Go.Proofs.Ytppapibjbjmmbaa.QSY
