import Derived.Laws.BitsAllLaws
import Derived.Test.YtppapibjbjmmbaaRR0
import Derived.Test.YtppapibjbjmmbaaRR1
import Derived.Test.YtppapibjbjmmbaaRR2
import Derived.Test.YtppapibjbjmmbaaRR3
set_option linter.unusedVariables false
set_option linter.unusedSimpArgs false
namespace Go.Proofs.Ytppapibjbjmmbaa.QSY
open Go.RowKit Go.Proofs.YtppapibjbjmmbaaW.PrintWords Go.Proofs.YtppapibjbjmmbaaW.PrintLast Go.Proofs.YtppapibjbjmmbaaW.PrintMore
set_option maxHeartbeats 4000000 in
set_option maxRecDepth 100000 in
theorem awaits_calls {w0 w : World} {g : Nat} {vp0 vp1 : Value} {Bs : List (List zO)} {nC : Nat} {σ : St} (k : Int) (h : zS w0 w g vp0 vp1 σ) (hI : Inv Bs nC σ) (h0 : 0 ≤ k) (h1 : k < σ.T.length) (h4 : (σ.t k).f4 = 1) :
  Calls Try.prog 120 #[.pointer (some ⟨g, 0, none⟩), .int .i64 k] w fun e w' => e = .returned (.tuple #[]) ∧ ∃ σ', At w0 w' g vp0 vp1 Bs nC σ.T.length σ' := by
 have H1 := zb.mk h1
 have HS0 := zb.mk h
 have HI := zb.mk hI
 have h5 : (σ.t k).f5 = 0 := by
  by_cases e : (σ.t k).f5 = 0
  ·exact e
  ·have := (hI.t k h0 h1).run e; omega
 have H5 := zb.mk h5
 have HPC := zb.mk ((hI.t k h0 h1).wait h4)
 have HPC0 := zb.mk ((hI.t k h0 h1).pc)
 have HPCB := zb.mk (hI.tb h0 h1).p
 have HN := zb.mk hI.len
 obtain ⟨Post, hPost⟩ : ∃ P, P = fun (e : Ending) (w' : World) => e = .returned (.tuple #[]) ∧ ∃ σ', At w0 w' g vp0 vp1 Bs nC σ.T.length σ' := ⟨_, rfl⟩
 have HP := zb.mk (show ∀ e w', Post e w' ↔ (e = .returned (.tuple #[]) ∧ ∃ σ', At w0 w' g vp0 vp1 Bs nC σ.T.length σ') from fun _ _ => by rw [hPost])
 have hL := zb.mk h.look
 rw [← hPost]
 clear h hI h1 h5 h4 hPost
 go_enter Try.func120, Try.ntmps120
 go_wp2_with fail
 refine (xB k 3 hL.out).mono ?_
 rintro e w1 ⟨rfl, rfl⟩
 obtain ⟨nk, hnk⟩ : ∃ n, n = yG σ.T k 3 := ⟨_, rfl⟩
 rw [← hnk]
 clear hnk
 by_cases hz : nk = 0
 ·have cz : ((nk : Int) == 0) = true := by simp [hz]
  have cz2 : (nk == 0) = true := by simp [hz]
  clear hz
  obtain ⟨gT, cap, T, vC, vL, HR, HE, HT, H1', a3, hc, hf, HB⟩ := HS0.out.open1 k h0 H1.out
  have k4 := hc.out 4 _ rfl
  have z4 := hf.out 4
  have p1 : k < (σ.T.length : Int) := H1.out
  clear hc hf
  go_upto_region 2 with (fail)
  have HR5 := zb.mk ((show yL w0 w g w.heap.size vp0 vp1 gT cap σ from ⟨_, _, _, _, HR.out, HE.out⟩).num k h0 H1.out (fun t => { t with f4 := 0 }) 4 0 (by decide) (fun _ => rfl) (fun _ => rfl) (fun _ => rfl) (fun _ => rfl) (fun _ => rfl))
  have a3 := yo (b := ⟨gT, k.toNat * 13 + 4, none⟩) (u := .int .i64 0) a3 (fun e => by rw [Addr.mk.injEq] at e; exact HB.out.2.1 e.1)
  obtain ⟨W2, hW2⟩ : ∃ W2, W2 = w.setCell ⟨gT, k.toNat * 13 + 4, none⟩ (.int .i64 0) := ⟨_, rfl⟩
  rw [← hW2] at HR5 a3 ⊢
  have I2 := zb.mk (HI.out.way h0 H1.out H5.out 0 ⟨by decide, by decide⟩ (fun e => absurd e (by decide)))
  have T2e := zb.mk (show (σ.upd k fun t => { t with f4 := 0 }).t k = { σ.t k with f4 := 0 } by rw [St.t_upd σ k k _ h0 H1.out h0, if_pos rfl])
  have L2 := zb.mk (show k < ((σ.upd k fun t => { t with f4 := 0 }).T.length : Int) by rw [St.len_upd]; exact H1.out)
  have N2 := zb.mk (show (σ.upd k fun t => { t with f4 := 0 }).T.length = σ.T.length from St.len_upd)
  obtain ⟨σ2, hσ2⟩ : ∃ s, s = σ.upd k fun t => { t with f4 := 0 } := ⟨_, rfl⟩
  rw [← hσ2] at HR5 I2 T2e L2 N2
  clear hW2 hσ2 k4 z4 HR HE HT H1' HS0
  obtain ⟨n5, vC5, vL5, T5, HR5, HE5⟩ := HR5.out
  have HR5 := zb.mk HR5
  have HE5 := zb.mk HE5
  have h15 := zb.mk (show k < (T5.length : Int) by rw [len_of HE5.out]; exact L2.out)
  have kz := HR5.out.elem k h0 h15.out
  have k1 := kz.1 1 _ rfl
  have z1 := kz.2.1 1
  rw [tg_s HE5.out k, T2e.out] at k1
  have k1 : W2.cell? ⟨gT, k.toNat * 13 + 1, none⟩ = some (.int .i64 (σ.t k).f1) := k1
  obtain ⟨pc, hpc⟩ : ∃ x, x = (σ.t k).f1 := ⟨_, rfl⟩
  have PC := zb.mk hpc
  rw [← hpc] at k1 HPCB
  have e1 : wrap64 (pc + 1) = pc + 1 := yN (by have := HPCB.out; omega) (by have := HPCB.out; omega)
  clear kz hpc
  refine yc (n := 19) (S := fun w' => w'.cell? ⟨g, 3, none⟩ = some (.slice (some ⟨gT, 0, none⟩) σ.T.length cap) ∧ w'.cell? ⟨gT, k.toNat * 13 + 1, none⟩ = some (.int .i64 pc)) (ds := [18]) (bm 19 0) (by kernel_rfl) rfl rfl ⟨(za (ze (Below.refl _ _)) a3), (za (ze (Below.refl _ _)) k1)⟩ (fun hHeld => ?_)
  refine zl (i := 0) (N := some 17) (v := ?_) (a' := ?_) (bm 19 1) rfl rfl (by kernel_rfl) (fun _ _ _ h => h) (Or.inl ⟨by rfl, ?_⟩) ?_ ?_
  rotate_left
  ·intro w'
   go_simp
   with_reducible rfl
  rotate_left
  ·simp only [Act.put, List.setIfInBounds_toArray, List.set_cons_zero, List.set_cons_succ, zg, zh]
   rfl
  refine zl (i := 1) (N := some 18) (v := ?_) (a' := ?_) (bm 19 3) rfl rfl (by kernel_rfl) (fun _ _ _ h => h) (Or.inl ⟨by rfl, ?_⟩) ?_ ?_
  rotate_left
  ·intro w'
   go_simp
   with_reducible rfl
  rotate_left
  ·simp only [Act.put, List.setIfInBounds_toArray, List.set_cons_zero, List.set_cons_succ, zg, zh]
   rfl
  refine zl (i := 2) (N := some 19) (v := ?_) (a' := ?_) (bm 19 7) rfl rfl (by kernel_rfl) (fun _ _ _ h => h) (Or.inl ⟨by rfl, ?_⟩) ?_ ?_
  rotate_left
  ·intro w'
   go_simp
   with_reducible rfl
  rotate_left
  ·simp only [Act.put, List.setIfInBounds_toArray, List.set_cons_zero, List.set_cons_succ, zg, zh]
   rfl
  refine zl (i := 3) (N := some 20) (v := ?_) (a' := ?_) (bm 19 15) rfl rfl (by kernel_rfl) (fun _ _ _ h => h) (Or.inl ⟨by rfl, ?_⟩) ?_ ?_
  rotate_left
  ·intro w'
   go_simp
   with_reducible rfl
  rotate_left
  ·simp only [Act.put, List.setIfInBounds_toArray, List.set_cons_zero, List.set_cons_succ, zg, zh]
   rfl
  refine zl (i := 5) (N := some 22) (v := ?_) (a' := ?_) (bm 19 47) rfl rfl (by kernel_rfl) (fun _ _ _ h => h) (Or.inl ⟨by rfl, ?_⟩) ?_ ?_
  rotate_left
  ·intro w'
   go_simp
   with_reducible rfl
  rotate_left
  ·simp only [Act.put, List.setIfInBounds_toArray, List.set_cons_zero, List.set_cons_succ, zg, zh]
   rfl
  refine zl (i := 6) (N := some 23) (v := ?_) (a' := ?_) (bm 19 111) rfl rfl (by kernel_rfl) (fun _ _ _ h => h) (Or.inl ⟨by rfl, ?_⟩) ?_ ?_
  rotate_left
  ·intro w'
   go_simp
   with_reducible rfl
  rotate_left
  ·simp only [Act.put, List.setIfInBounds_toArray, List.set_cons_zero, List.set_cons_succ, zg, zh]
   rfl
  refine zl (i := 7) (N := some 24) (v := ?_) (a' := ?_) (bm 19 239) rfl rfl (by kernel_rfl) (fun _ _ _ h => h) (Or.inl ⟨by rfl, ?_⟩) ?_ ?_
  rotate_left
  ·intro w'
   go_simp
   with_reducible rfl
  rotate_left
  ·simp only [Act.put, List.setIfInBounds_toArray, List.set_cons_zero, List.set_cons_succ, zg, zh]
   rfl
  refine zl (i := 8) (N := some 25) (v := ?_) (a' := ?_) (bm 19 495) rfl rfl (by kernel_rfl) (fun _ _ _ h => h) (Or.inl ⟨by rfl, ?_⟩) ?_ ?_
  rotate_left
  ·intro w'
   go_simp
   with_reducible rfl
  rotate_left
  ·simp only [Act.put, List.setIfInBounds_toArray, List.set_cons_zero, List.set_cons_succ, zg, zh]
   rfl
  refine zl (i := 9) (N := some 26) (v := ?_) (a' := ?_) (bm 19 1007) rfl rfl (by kernel_rfl) (fun _ _ _ h => h) (Or.inl ⟨by rfl, ?_⟩) ?_ ?_
  rotate_left
  ·intro w'
   go_simp
   with_reducible rfl
  rotate_left
  ·simp only [Act.put, List.setIfInBounds_toArray, List.set_cons_zero, List.set_cons_succ, zg, zh]
   rfl
  refine zl (i := 11) (N := some 28) (v := ?_) (a' := ?_) (bm 19 3055) rfl rfl (by kernel_rfl) (fun _ _ _ h => h) (Or.inl ⟨by rfl, ?_⟩) ?_ ?_
  rotate_left
  ·intro w'
   go_simp
   with_reducible rfl
  rotate_left
  ·simp only [Act.put, List.setIfInBounds_toArray, List.set_cons_zero, List.set_cons_succ, zg, zh]
   rfl
  refine zA (i := 4) (N := some 21) (v := ?_) (a' := ?_) (bm 19 3071) rfl rfl (by kernel_rfl) (fun _ _ _ h => h) (Or.inl ⟨by rfl, ?_⟩) hHeld ?_ ?_
  rotate_left
  ·rintro w' ⟨s0, s1⟩
   go_simp
   with_reducible rfl
  rotate_left
  ·simp only [Act.put, List.setIfInBounds_toArray, List.set_cons_zero, List.set_cons_succ, zg, zh]
   rfl
  refine zA (i := 10) (N := some 27) (v := ?_) (a' := ?_) (bm 19 4095) rfl rfl (by kernel_rfl) (fun _ _ _ h => h) (Or.inl ⟨by rfl, ?_⟩) hHeld ?_ ?_
  rotate_left
  ·rintro w' ⟨s0, s1⟩
   go_simp
   with_reducible rfl
  rotate_left
  ·simp only [Act.put, List.setIfInBounds_toArray, List.set_cons_zero, List.set_cons_succ, zg, zh]
   rfl
  refine zl (i := 12) (N := some 29) (v := ?_) (a' := ?_) (bm 19 8191) rfl rfl (by kernel_rfl) (fun _ _ _ h => h) (Or.inl ⟨by rfl, ?_⟩) ?_ ?_
  rotate_left
  ·intro w'
   go_simp
   with_reducible rfl
  rotate_left
  ·simp only [Act.put, List.setIfInBounds_toArray, List.set_cons_zero, List.set_cons_succ, zg, zh]
   rfl
  refine zl (i := 13) (N := some 30) (v := ?_) (a' := ?_) (bm 19 16383) rfl rfl (by kernel_rfl) (fun _ _ _ h => h) (Or.inl ⟨by rfl, ?_⟩) ?_ ?_
  rotate_left
  ·intro w'
   go_simp
   with_reducible rfl
  rotate_left
  ·simp only [Act.put, List.setIfInBounds_toArray, List.set_cons_zero, List.set_cons_succ, zg, zh]
   rfl
  refine zA (i := 14) (N := some 31) (v := ?_) (a' := ?_) (bm 19 32767) rfl rfl (by kernel_rfl) (fun _ _ _ h => h) (Or.inl ⟨by rfl, ?_⟩) hHeld ?_ ?_
  rotate_left
  ·rintro w' ⟨s0, s1⟩
   go_simp
   with_reducible rfl
  rotate_left
  ·simp only [Act.put, List.setIfInBounds_toArray, List.set_cons_zero, List.set_cons_succ, zg, zh]
   rfl
  refine zl (i := 15) (N := some 32) (v := ?_) (a' := ?_) (bm 19 65535) rfl rfl (by kernel_rfl) (fun _ _ _ h => h) (Or.inl ⟨by rfl, ?_⟩) ?_ ?_
  rotate_left
  ·intro w'
   go_simp
   with_reducible rfl
  rotate_left
  ·simp only [Act.put, List.setIfInBounds_toArray, List.set_cons_zero, List.set_cons_succ, zg, zh]
   rfl
  refine zl (i := 16) (N := some 33) (v := ?_) (a' := ?_) (bm 19 131071) rfl rfl (by kernel_rfl) (fun _ _ _ h => h) (Or.inl ⟨by rfl, ?_⟩) ?_ ?_
  rotate_left
  ·intro w'
   go_simp
   with_reducible rfl
  rotate_left
  ·simp only [Act.put, List.setIfInBounds_toArray, List.set_cons_zero, List.set_cons_succ, zg, zh]
   rfl
  refine zl (i := 17) (N := some 34) (v := ?_) (a' := ?_) (bm 19 262143) rfl rfl (by kernel_rfl) (fun _ _ _ h => h) (Or.inl ⟨by rfl, ?_⟩) ?_ ?_
  rotate_left
  ·intro w'
   go_simp
   with_reducible rfl
  rotate_left
  ·simp only [Act.put, List.setIfInBounds_toArray, List.set_cons_zero, List.set_cons_succ, zg, zh]
   rfl
  refine yR (i := 18) (N := none) (bm 19 524287) rfl rfl (by kernel_rfl) (by decide) (fun K hK => ?_)
  refine yQ (w1 := ?_) (by rfl) rfl ?_ ?_
  rotate_left
  ·go_simp
   rfl
  refine hK.out _ _ ?_
  clear hK K
  refine yt (by kernel_rfl) ?_
  go_wp2
  refine bodyPost_ret (results_none rfl _ _ _) rfl ?_
  rw [HP.out]
  have hq := I2.out.more h0 L2.out (by rw [T2e.out]; exact H5.out) (by rw [T2e.out]; exact HPC.out) (by rw [T2e.out]; exact (show ¬ (0 : Int) = 1 by decide))
  have hr := ((show yL w0 W2 g W2.heap.size vp0 vp1 gT cap σ2 from ⟨_, _, _, _, HR5.out.now, HE5.out⟩).num k h0 L2.out (fun t => { t with f1 := pc + 1 }) 1 (pc + 1) (by decide) (fun _ => rfl) (fun _ => rfl) (fun _ => rfl) (fun _ => rfl) (fun _ => rfl)).S
  rw [show (σ2.t k).f1 = pc by rw [T2e.out]; exact PC.out.symm] at hq
  exact ⟨rfl, _, ⟨hr.below (by first | exact ze (ze (Below.refl _ _)) | exact ze (Below.refl _ _) | exact Below.refl _ _), hq, St.len_upd.trans N2.out⟩⟩
 ·have cz : ((nk : Int) == 0) = false := by simp; omega
  have cz2 : (nk == 0) = false := by simp [hz]
  clear hz
  have HA := zb.mk (show At w0 w g vp0 vp1 Bs nC σ.T.length σ from ⟨HS0.out, HI.out, rfl⟩)
  obtain ⟨n, hn⟩ : ∃ n, n = σ.T.length := ⟨_, rfl⟩
  rw [← hn] at HA HP H1 HN
  clear hn hL HS0 HI
  go_wp2
  go_loopw [4] (fun v4 wr => ∃ (i : Nat) (V : World) (σ1 : St), V = wr ∧ v4 = .int .i64 i ∧ zb (i ≤ n) ∧ zb (At w0 V g vp0 vp1 Bs nC n σ1 ∧ (∀ j : Int, 0 ≤ j → j ≤ k → σ1.t j = σ.t j))) (fun v4 _ => n - (intOf v4).toNat)
  case atStart => exact ⟨0, w, σ, rfl, rfl, ⟨Nat.zero_le _⟩, ⟨HA.out, fun _ _ _ => rfl⟩⟩
  case round =>
   clear HA
   obtain ⟨i, V, σ1, rfl, rfl, hi, HA⟩ := hrel
   by_cases hlt : i < n
   ·have cb : decide ((i : Int) < (n : Int)) = true := decide_eq_true (by omega)
    have cb2 : decide (i < n) = true := decide_eq_true hlt
    have HLT := zb.mk hlt
    have ei : wrap64 ((i : Int) + 1) = ((i + 1 : Nat) : Int) := by have := HN.out; unfold wrap64; omega
    have EI := zb.mk ei
    have p0 : (0 : Int) ≤ (i : Int) := by omega
    have p1 : (i : Int) < (n : Int) := by omega
    obtain ⟨gT, cap, a3, u2, u4, u5⟩ := HA.out.1.fact (i : Int) p0 p1
    rw [Int.toNat_natCast] at u2 u4 u5
    have TU := zb.mk ((HA.out.1.i.t (i : Int) p0 (by rw [HA.out.1.n]; exact p1)).up)
    obtain ⟨up, hup⟩ : ∃ x, x = (σ1.t i).f2 := ⟨_, rfl⟩
    rw [← hup] at u2 TU
    clear hlt ei hup u4 u5
    by_cases hk : up = k
    ·have ck : (up == k) = true := by simp [hk]
     have HK := zb.mk hk
     clear hk
     go_wp2_with fail
     refine (off_calls n V σ1 (i : Int) HA.out.1.r HA.out.1.i (by omega) (by rw [HA.out.1.n]; omega) (by rw [HA.out.1.n]; omega)).mono ?_
     rintro e W ⟨rfl, σ2, h2, h3⟩
     have HA2 := zb.mk (show At w0 W g vp0 vp1 Bs nC n σ2 ∧ (∀ j : Int, 0 ≤ j → j ≤ k → σ2.t j = σ.t j) from ⟨⟨h2.r, h2.i, h2.n.trans HA.out.1.n⟩, fun j j0 j1 => (h3 j j0 (by have h2 := TU.out; have h3 := HK.out; omega)).trans (HA.out.2 j j0 j1)⟩)
     clear h2 h3 a3 u2
     go_wp2
     go_roundw
     case rel => exact ⟨i + 1, W, σ2, rfl, by rw [EI.out], ⟨HLT.out⟩, HA2⟩
     case measure => rw [EI.out]; have := HLT.out; simp [intOf]; omega
    ·have ck : (up == k) = false := by simp [hk]
     clear hk
     go_wp2
     go_roundw
     case rel => exact ⟨i + 1, V, σ1, rfl, by rw [EI.out], ⟨HLT.out⟩, HA⟩
     case measure => rw [EI.out]; have := HLT.out; simp [intOf]; omega
   ·have cb : decide ((i : Int) < (n : Int)) = false := decide_eq_false (by omega)
    have cb2 : decide (i < n) = false := decide_eq_false hlt
    clear hlt hi
    obtain ⟨A, c, a3⟩ := HA.out.1.len
    have H1n := zb.mk (show k < (σ1.T.length : Int) by rw [HA.out.1.n]; exact H1.out)
    go_wp2_with fail
    refine (fails_calls k HA.out.1.r h0 H1n.out).mono ?_
    rintro e W ⟨rfl, h3⟩
    go_wp2
    go_end0
    rw [HP.out]
    exact ⟨rfl, _, ⟨h3, HA.out.1.i.way h0 H1n.out (by rw [HA.out.2 k h0 (Int.le_refl _)]; exact H5.out) 3 ⟨by decide, by decide⟩ (fun e => absurd e (by decide)), St.len_upd.trans HA.out.1.n⟩⟩
end Go.Proofs.Ytppapibjbjmmbaa.QSY
set_option linter.unusedVariables false
set_option linter.unusedSimpArgs false
namespace Go.Proofs.Ytppapibjbjmmbaa.QSY
open Go.RowKit Go.Proofs.YtppapibjbjmmbaaW.PrintWords Go.Proofs.YtppapibjbjmmbaaW.PrintLast Go.Proofs.YtppapibjbjmmbaaW.PrintMore
def Stepped (w0 : World) (g : Nat) (vp0 vp1 : Value) (Bs : List (List zO)) (nC : Nat) (σ : St) (w' : World) : Prop := ∃ σ' n', At w0 w' g vp0 vp1 Bs nC n' σ' ∧ n' ≤ σ.T.length + 2
theorem Stepped.same {w0 w' : World} {g : Nat} {vp0 vp1 : Value} {Bs : List (List zO)} {nC : Nat} {σ : St} (σ' : St) (r : zS w0 w' g vp0 vp1 σ') (i : Inv Bs nC σ') (n : σ'.T.length = σ.T.length) : Stepped w0 g vp0 vp1 Bs nC σ w' := ⟨σ', _, ⟨r, i, n⟩, by omega⟩
set_option maxHeartbeats 4000000 in
set_option maxRecDepth 100000 in
theorem step_calls {w0 w : World} {g : Nat} {vp0 : Value} {A1 : Option Addr} {c1 : Nat} {Bs : List (List zO)} {nC : Nat} {σ : St} (k : Int) (h : zS w0 w g vp0 (.slice A1 Bs.length c1) σ) (hP : Kd.C (Kd.slice 110 xK) w0 A1 Bs.length Bs) (hI : Inv Bs nC σ) (h0 : 0 ≤ k) (h1 : k < σ.T.length) (h4 : (σ.t k).f4 = 0 ∨ (σ.t k).f4 = 1) (hc : σ.clk < 200) (hT : σ.T.length + 2 ≤ 2500) :
  Calls Try.prog 110 #[.pointer (some ⟨g, 0, none⟩), .int .i64 k] w fun e w' => e = .returned (.tuple #[]) ∧ Stepped w0 g vp0 (.slice A1 Bs.length c1) Bs nC σ w' := by
 have H1 := zb.mk h1
 have HS0 := zb.mk h
 have HI := zb.mk hI
 have HC := zb.mk hc
 have HTT := zb.mk hT
 have H5 := zb.mk (show (σ.t k).f5 ≠ 0 → (σ.t k).f4 = 0 ∧ (σ.t k).f1 < (bd Bs (σ.t k).f0).length ∧ (yH Bs (σ.t k)).f0 = 1 from (hI.t k h0 h1).run)
 have HB := zb.mk (hI.t k h0 h1).b
 have HPC := zb.mk (hI.t k h0 h1).pc
 have HPP := zb.mk hP
 have H4 := zb.mk h4
 obtain ⟨Post, hPost⟩ : ∃ P, P = fun (e : Ending) (w' : World) => e = .returned (.tuple #[]) ∧ Stepped w0 g vp0 (.slice A1 Bs.length c1) Bs nC σ w' := ⟨_, rfl⟩
 have HP := zb.mk (show ∀ e w', Post e w' ↔ (e = .returned (.tuple #[]) ∧ Stepped w0 g vp0 (.slice A1 Bs.length c1) Bs nC σ w') from fun _ _ => by rw [hPost])
 rw [← hPost]
 clear h hI h1 hc hT hP h4 hPost
 go_enter Try.func110, Try.ntmps110
 go_wp2_with fail
 refine (act_calls k HS0.out h0 H1.out HPP.out HB.out HPC.out.1).mono ?_
 rintro e w1 (⟨hlt, B1, d1, B2, d2, rfl, hb, C1, C2⟩ | ⟨hlt, rfl, hb⟩)
 ·have HLT := zb.mk hlt
  have HC1 := zb.mk C1
  have HC2 := zb.mk C2
  have HWF := zb.mk (act_wf HI.out h0 H1.out hlt)
  obtain ⟨aa, haa⟩ : ∃ x, x = yH Bs (σ.t k) := ⟨_, rfl⟩
  have HAA := zb.mk haa
  rw [← haa] at HC1 HC2 HWF ⊢
  clear haa C1 C2 hlt
  go_upto_region 2 with (fail)
  obtain ⟨V, hV⟩ : ∃ V, V = w1.alloc (.cells #[.int .i64 aa.f0, .slice B1 aa.f1.length d1, .slice B2 aa.f2.length d2, .int .i64 aa.f3] 110) := ⟨_, rfl⟩
  have HBV := zb.mk (show Below w.heap.size w V by rw [hV]; exact zi hb (zc (Below.refl _ _) _))
  have HX := zb.mk (show V.heap[w1.heap.size]? = some (.cells #[.int .i64 aa.f0, .slice B1 aa.f1.length d1, .slice B2 aa.f2.length d2, .int .i64 aa.f3] 110 (0, 0)) by rw [hV]; exact heap_alloc_new _ _)
  rw [← hV]
  have HSV := zb.mk (HS0.out.below HBV.out)
  obtain ⟨gT, cap, T, vC, vL, HR, HE, HT, H1', a3, hc, hf, HBB⟩ := HSV.out.open1 k h0 H1.out
  have k4q := (hc.out 4 _ rfl).trans (by rw [HT.out])
  have z4 := hf.out 4
  have p1 : k < (σ.T.length : Int) := H1.out
  clear hV hb
  have x0 := (zd HX.out 0).trans rfl
  have x1 := (zd HX.out 1).trans rfl
  have x2 := (zd HX.out 2).trans rfl
  have x3 := (zd HX.out 3).trans rfl
  by_cases hw : (σ.t k).f4 = 1
  ·have k4 : V.cell? ⟨gT, k.toNat * 13 + 4, none⟩ = some (.int .i64 1) := by rw [← hw]; exact k4q
   have HW := zb.mk hw
   clear hw hc hf k4q
   go_wp2_with fail
   refine (awaits_calls k HSV.out HI.out h0 H1.out HW.out).mono ?_
   rintro e W ⟨rfl, h3⟩
   go_wp2
   go_end0
   rw [HP.out]
   exact ⟨rfl, h3.elim fun σ2 a => Stepped.same σ2 a.r a.i a.n⟩
  ·have k4 : V.cell? ⟨gT, k.toNat * 13 + 4, none⟩ = some (.int .i64 0) := by rw [← (show (σ.t k).f4 = 0 by have := H4.out; omega)]; exact k4q
   have HW := zb.mk (show (σ.t k).f4 = 0 by have := H4.out; omega)
   clear hw k4q
   obtain ⟨kd, hkd⟩ : ∃ x, x = aa.f0 := ⟨_, rfl⟩
   have HKD := zb.mk hkd
   rw [← hkd] at x0
   clear hkd
   by_cases q1 : kd = 1
   ·have c1' : (kd == 1) = true := by simp [q1]
    have HK := zb.mk (show (yH Bs (σ.t k)).f0 = 1 by rw [← HAA.out, ← HKD.out]; exact q1)
    clear q1 hc hf
    have HCV := zb.mk (show Kd.C xu V B1 aa.f1.length aa.f1 from Kd.zt HC1.out.1 HSV.out.hb)
    have HTO := zb.mk (show tryOk σ k aa.f1 by rw [HAA.out]; exact HI.out.tryOk h0 H1.out)
    go_wp2_with fail
    refine (try_calls k B1 d1 aa.f1 HSV.out h0 H1.out HCV.out HTO.out).mono ?_
    rintro e W ⟨rfl, h3⟩
    go_wp2
    go_end0
    rw [HP.out]
    exact ⟨rfl, Stepped.same _ h3 (by rw [HAA.out]; exact HI.out.try_ h0 H1.out ⟨HW.out, HLT.out, HK.out⟩ HC.out) (len_try σ k _)⟩
   ·have c1' : (kd == 1) = false := by simp [q1]
    have HK1 := zb.mk q1
    have h50 : (σ.t k).f5 = 0 := by
     by_cases e : (σ.t k).f5 = 0
     ·exact e
     ·have := (H5.out e).2.2; rw [← HAA.out, ← HKD.out] at this; exact absurd this q1
    have H50 := zb.mk h50
    clear q1 h50
    by_cases q2 : kd = 2
    ·have c2' : (kd == 2) = true := by simp [q2]
     have HK := zb.mk (show aa.f0 = 2 by rw [← HKD.out]; exact q2)
     clear q2 hc hf
     have HKK := zb.mk (HWF.out.k HK.out)
     have HLL := zb.mk (show aa.f2.length ≤ 1000 ∧ σ.T.length ≤ 1000 + 1500 by have := HKK.out.1; have := HTT.out; omega)
     go_wp2_with fail
     refine (fork_calls k B2 d2 aa.f2 HSV.out h0 H1.out HC2.out.1 HLL.out.1 (by have := HTT.out; omega)).mono ?_
     rintro e W ⟨rfl, h3⟩
     go_wp2
     go_end0
     rw [HP.out]
     exact ⟨rfl, ⟨_, _, ⟨h3, HI.out.fork h0 H1.out H50.out aa.f2 HKK.out.2 (by have := HKK.out.1; have := HTT.out; omega) HLT.out, rfl⟩, by unfold St.fork; rw [St.len_upd, xD]; have := HKK.out.1; omega⟩⟩
    ·have c2' : (kd == 2) = false := by simp [q2]
     have HK2 := zb.mk q2
     clear q2
     have HQ3 := zb.mk (show Inv Bs nC (σ.fails k) from HI.out.way h0 H1.out H50.out 3 ⟨by decide, by decide⟩ (fun e => absurd e (by decide)))
     by_cases q3 : kd = 3
     ·have c3' : (kd == 3) = true := by simp [q3]
      clear q3 hc hf
      go_upto_region 10 with (fail)
      refine yc (n := 20) (S := fun w' => w'.cell? ⟨w1.heap.size, 0, none⟩ = some (.int .i64 kd)) (ds := []) (bm 20 0) (by kernel_rfl) rfl rfl ((za (ze (Below.refl _ _)) x0)) (fun hHeld => ?_)
      refine zl (i := 0) (N := some 74) (v := ?_) (a' := ?_) (bm 20 1) rfl rfl (by kernel_rfl) (fun _ _ _ h => h) (Or.inl ⟨by rfl, ?_⟩) ?_ ?_
      rotate_left
      ·intro w'
       go_simp
       with_reducible rfl
      rotate_left
      ·simp only [Act.put, List.setIfInBounds_toArray, List.set_cons_zero, List.set_cons_succ, zg, zh]
       rfl
      refine zA (i := 1) (N := some 75) (v := ?_) (a' := ?_) (bm 20 3) rfl rfl (by kernel_rfl) (fun _ _ _ h => h) (Or.inl ⟨by rfl, ?_⟩) hHeld ?_ ?_
      rotate_left
      ·intro w' s0
       go_simp
       with_reducible rfl
      rotate_left
      ·simp only [Act.put, List.setIfInBounds_toArray, List.set_cons_zero, List.set_cons_succ, zg, zh]
       rfl
      refine zl (i := 2) (N := some 76) (v := ?_) (a' := ?_) (bm 20 7) rfl rfl (by kernel_rfl) (fun _ _ _ h => h) (Or.inl ⟨by rfl, ?_⟩) ?_ ?_
      rotate_left
      ·intro w'
       go_simp
       with_reducible rfl
      rotate_left
      ·simp only [Act.put, List.setIfInBounds_toArray, List.set_cons_zero, List.set_cons_succ, zg, zh]
       rfl
      refine zl (i := 3) (N := some 77) (v := ?_) (a' := ?_) (bm 20 15) rfl rfl (by kernel_rfl) (fun _ _ _ h => h) (Or.inl ⟨by rfl, ?_⟩) ?_ ?_
      rotate_left
      ·intro w'
       go_simp
       with_reducible rfl
      rotate_left
      ·simp only [Act.put, List.setIfInBounds_toArray, List.set_cons_zero, List.set_cons_succ, zg, zh]
       rfl
      refine zl (i := 4) (N := some 78) (v := undef) (a' := ?_) (bm 20 31) rfl rfl (by kernel_rfl) (fun _ _ _ h => h) (Or.inr ⟨by rfl, rfl⟩) ?_ ?_
      rotate_left
      ·simp only [Act.put, List.setIfInBounds_toArray, List.set_cons_zero, List.set_cons_succ, zg, zh]
       rfl
      refine zl (i := 5) (N := some 79) (v := undef) (a' := ?_) (bm 20 63) rfl rfl (by kernel_rfl) (fun _ _ _ h => h) (Or.inr ⟨by rfl, rfl⟩) ?_ ?_
      rotate_left
      ·simp only [Act.put, List.setIfInBounds_toArray, List.set_cons_zero, List.set_cons_succ, zg, zh]
       rfl
      refine zl (i := 6) (N := some 80) (v := undef) (a' := ?_) (bm 20 127) rfl rfl (by kernel_rfl) (fun _ _ _ h => h) (Or.inr ⟨by rfl, rfl⟩) ?_ ?_
      rotate_left
      ·simp only [Act.put, List.setIfInBounds_toArray, List.set_cons_zero, List.set_cons_succ, zg, zh]
       rfl
      refine zl (i := 7) (N := some 81) (v := undef) (a' := ?_) (bm 20 255) rfl rfl (by kernel_rfl) (fun _ _ _ h => h) (Or.inr ⟨by rfl, rfl⟩) ?_ ?_
      rotate_left
      ·simp only [Act.put, List.setIfInBounds_toArray, List.set_cons_zero, List.set_cons_succ, zg, zh]
       rfl
      refine zl (i := 8) (N := some 82) (v := undef) (a' := ?_) (bm 20 511) rfl rfl (by kernel_rfl) (fun _ _ _ h => h) (Or.inr ⟨by rfl, rfl⟩) ?_ ?_
      rotate_left
      ·simp only [Act.put, List.setIfInBounds_toArray, List.set_cons_zero, List.set_cons_succ, zg, zh]
       rfl
      refine zl (i := 9) (N := some 83) (v := undef) (a' := ?_) (bm 20 1023) rfl rfl (by kernel_rfl) (fun _ _ _ h => h) (Or.inr ⟨by rfl, rfl⟩) ?_ ?_
      rotate_left
      ·simp only [Act.put, List.setIfInBounds_toArray, List.set_cons_zero, List.set_cons_succ, zg, zh]
       rfl
      refine zl (i := 10) (N := some 84) (v := undef) (a' := ?_) (bm 20 2047) rfl rfl (by kernel_rfl) (fun _ _ _ h => h) (Or.inr ⟨by rfl, rfl⟩) ?_ ?_
      rotate_left
      ·simp only [Act.put, List.setIfInBounds_toArray, List.set_cons_zero, List.set_cons_succ, zg, zh]
       rfl
      refine zl (i := 11) (N := some 85) (v := undef) (a' := ?_) (bm 20 4095) rfl rfl (by kernel_rfl) (fun _ _ _ h => h) (Or.inr ⟨by rfl, rfl⟩) ?_ ?_
      rotate_left
      ·simp only [Act.put, List.setIfInBounds_toArray, List.set_cons_zero, List.set_cons_succ, zg, zh]
       rfl
      refine zl (i := 12) (N := some 86) (v := undef) (a' := ?_) (bm 20 8191) rfl rfl (by kernel_rfl) (fun _ _ _ h => h) (Or.inr ⟨by rfl, rfl⟩) ?_ ?_
      rotate_left
      ·simp only [Act.put, List.setIfInBounds_toArray, List.set_cons_zero, List.set_cons_succ, zg, zh]
       rfl
      refine zl (i := 13) (N := some 87) (v := undef) (a' := ?_) (bm 20 16383) rfl rfl (by kernel_rfl) (fun _ _ _ h => h) (Or.inr ⟨by rfl, rfl⟩) ?_ ?_
      rotate_left
      ·simp only [Act.put, List.setIfInBounds_toArray, List.set_cons_zero, List.set_cons_succ, zg, zh]
       rfl
      refine zl (i := 14) (N := some 88) (v := undef) (a' := ?_) (bm 20 32767) rfl rfl (by kernel_rfl) (fun _ _ _ h => h) (Or.inr ⟨by rfl, rfl⟩) ?_ ?_
      rotate_left
      ·simp only [Act.put, List.setIfInBounds_toArray, List.set_cons_zero, List.set_cons_succ, zg, zh]
       rfl
      refine zl (i := 15) (N := some 89) (v := undef) (a' := ?_) (bm 20 65535) rfl rfl (by kernel_rfl) (fun _ _ _ h => h) (Or.inr ⟨by rfl, rfl⟩) ?_ ?_
      rotate_left
      ·simp only [Act.put, List.setIfInBounds_toArray, List.set_cons_zero, List.set_cons_succ, zg, zh]
       rfl
      refine zl (i := 16) (N := some 90) (v := undef) (a' := ?_) (bm 20 131071) rfl rfl (by kernel_rfl) (fun _ _ _ h => h) (Or.inr ⟨by rfl, rfl⟩) ?_ ?_
      rotate_left
      ·simp only [Act.put, List.setIfInBounds_toArray, List.set_cons_zero, List.set_cons_succ, zg, zh]
       rfl
      refine zl (i := 17) (N := some 91) (v := undef) (a' := ?_) (bm 20 262143) rfl rfl (by kernel_rfl) (fun _ _ _ h => h) (Or.inr ⟨by rfl, rfl⟩) ?_ ?_
      rotate_left
      ·simp only [Act.put, List.setIfInBounds_toArray, List.set_cons_zero, List.set_cons_succ, zg, zh]
       rfl
      refine zl (i := 18) (N := some 92) (v := ?_) (a' := ?_) (bm 20 524287) rfl rfl (by kernel_rfl) (fun _ _ _ h => h) (Or.inl ⟨by rfl, ?_⟩) ?_ ?_
      rotate_left
      ·intro w'
       go_simp
       with_reducible rfl
      rotate_left
      ·simp only [Act.put, List.setIfInBounds_toArray, List.set_cons_zero, List.set_cons_succ, zg, zh]
       rfl
      refine zl (i := 19) (N := some 73) (v := ?_) (a' := ?_) (bm 20 1048575) rfl rfl (by kernel_rfl) (fun _ _ _ h => h) (Or.inl ⟨by rfl, ?_⟩) ?_ ?_
      rotate_left
      ·intro w'
       go_simp
       with_reducible rfl
      rotate_left
      ·simp only [Act.put, List.setIfInBounds_toArray, List.set_cons_zero, List.set_cons_succ, zg, zh]
       rfl
      refine yt (by kernel_rfl) ?_
      go_wp2_with fail
      refine (fails_calls k (HSV.out.below (by first | exact ze (ze (Below.refl _ _)) | exact ze (Below.refl _ _))) h0 H1.out).mono ?_
      rintro e W ⟨rfl, h3⟩
      go_wp2
      go_end0
      rw [HP.out]
      exact ⟨rfl, Stepped.same _ h3 HQ3.out St.len_upd⟩
     ·have c3' : (kd == 3) = false := by simp [q3]
      have HRG := zb.mk (HWF.out.r (by rw [← HKD.out]; exact HK1.out) (by rw [← HKD.out]; exact HK2.out) (by rw [← HKD.out]; exact q3))
      have HR3 := zb.mk (HI.out.t k h0 H1.out).r3
      clear q3
      have r3 := (HR.out.V.rows _ (yF h0 H1'.out)).r3
      have k3 := hc.out 3 _ rfl
      rw [HT.out] at r3
      obtain ⟨A3, c3, hv3, l3, C3⟩ := Kd.yP r3
      rw [hv3] at k3
      have k3 : V.cell? ⟨gT, k.toNat * 13 + 3, none⟩ = some (.slice A3 (σ.t k).f3.length c3) := k3
      obtain ⟨rg, hrg⟩ : ∃ x, x = aa.f3 := ⟨_, rfl⟩
      rw [← hrg] at x3 HRG
      have b0 := HRG.out.1
      have b1 : rg < ((σ.t k).f3.length : Int) := by rw [HR3.out.1]; exact HRG.out.2
      obtain ⟨ad, rfl, xr⟩ := at_ints C3 rg.toNat (by omega)
      obtain ⟨rn, hrn⟩ : ∃ x, x = (σ.t k).f3.getD rg.toNat 0 := ⟨_, rfl⟩
      rw [← hrn] at xr
      have k1 := (hc.out 1 _ rfl).trans (by rw [HT.out])
      have z1 := hf.out 1
      have HRC := zb.mk (And.intro C3 l3)
      clear r3 hv3 hrg hrn C3 l3 hc hf
      by_cases qz : rn = 0
      ·have cz : (rn != 0) = false := by simp [qz]
       clear qz
       go_upto_region 10 with (fail)
       refine yc (n := 20) (S := fun w' => w'.cell? ⟨w1.heap.size, 0, none⟩ = some (.int .i64 kd) ∧ w'.cell? ⟨w1.heap.size, 3, none⟩ = some (.int .i64 rg) ∧ w'.cell? ⟨g, 3, none⟩ = some (.slice (some ⟨gT, 0, none⟩) σ.T.length cap) ∧ w'.cell? ⟨gT, k.toNat * 13 + 3, none⟩ = some (.slice (some ad) (σ.t k).f3.length c3) ∧ w'.cell? (ad.add rg.toNat) = some (.int .i64 rn)) (ds := []) (bm 20 0) (by kernel_rfl) rfl rfl ⟨(za (ze (Below.refl _ _)) x0), (za (ze (Below.refl _ _)) x3), (za (ze (Below.refl _ _)) a3), (za (ze (Below.refl _ _)) k3), (za (ze (Below.refl _ _)) xr)⟩ (fun hHeld => ?_)
       refine zl (i := 0) (N := some 74) (v := ?_) (a' := ?_) (bm 20 1) rfl rfl (by kernel_rfl) (fun _ _ _ h => h) (Or.inl ⟨by rfl, ?_⟩) ?_ ?_
       rotate_left
       ·intro w'
        go_simp
        with_reducible rfl
       rotate_left
       ·simp only [Act.put, List.setIfInBounds_toArray, List.set_cons_zero, List.set_cons_succ, zg, zh]
        rfl
       refine zA (i := 1) (N := some 75) (v := ?_) (a' := ?_) (bm 20 3) rfl rfl (by kernel_rfl) (fun _ _ _ h => h) (Or.inl ⟨by rfl, ?_⟩) hHeld ?_ ?_
       rotate_left
       ·rintro w' ⟨s0, s1, s2, s3, s4⟩
        go_simp
        with_reducible rfl
       rotate_left
       ·simp only [Act.put, List.setIfInBounds_toArray, List.set_cons_zero, List.set_cons_succ, zg, zh]
        rfl
       refine zl (i := 2) (N := some 76) (v := ?_) (a' := ?_) (bm 20 7) rfl rfl (by kernel_rfl) (fun _ _ _ h => h) (Or.inl ⟨by rfl, ?_⟩) ?_ ?_
       rotate_left
       ·intro w'
        go_simp
        with_reducible rfl
       rotate_left
       ·simp only [Act.put, List.setIfInBounds_toArray, List.set_cons_zero, List.set_cons_succ, zg, zh]
        rfl
       refine zl (i := 3) (N := some 77) (v := ?_) (a' := ?_) (bm 20 15) rfl rfl (by kernel_rfl) (fun _ _ _ h => h) (Or.inl ⟨by rfl, ?_⟩) ?_ ?_
       rotate_left
       ·intro w'
        go_simp
        with_reducible rfl
       rotate_left
       ·simp only [Act.put, List.setIfInBounds_toArray, List.set_cons_zero, List.set_cons_succ, zg, zh]
        rfl
       refine zl (i := 4) (N := some 78) (v := ?_) (a' := ?_) (bm 20 31) rfl rfl (by kernel_rfl) (fun _ _ _ h => h) (Or.inl ⟨by rfl, ?_⟩) ?_ ?_
       rotate_left
       ·intro w'
        go_simp
        with_reducible rfl
       rotate_left
       ·simp only [Act.put, List.setIfInBounds_toArray, List.set_cons_zero, List.set_cons_succ, zg, zh]
        rfl
       refine zl (i := 5) (N := some 79) (v := ?_) (a' := ?_) (bm 20 63) rfl rfl (by kernel_rfl) (fun _ _ _ h => h) (Or.inl ⟨by rfl, ?_⟩) ?_ ?_
       rotate_left
       ·intro w'
        go_simp
        with_reducible rfl
       rotate_left
       ·simp only [Act.put, List.setIfInBounds_toArray, List.set_cons_zero, List.set_cons_succ, zg, zh]
        rfl
       refine zl (i := 6) (N := some 80) (v := ?_) (a' := ?_) (bm 20 127) rfl rfl (by kernel_rfl) (fun _ _ _ h => h) (Or.inl ⟨by rfl, ?_⟩) ?_ ?_
       rotate_left
       ·intro w'
        go_simp
        with_reducible rfl
       rotate_left
       ·simp only [Act.put, List.setIfInBounds_toArray, List.set_cons_zero, List.set_cons_succ, zg, zh]
        rfl
       refine zl (i := 7) (N := some 81) (v := ?_) (a' := ?_) (bm 20 255) rfl rfl (by kernel_rfl) (fun _ _ _ h => h) (Or.inl ⟨by rfl, ?_⟩) ?_ ?_
       rotate_left
       ·intro w'
        go_simp
        with_reducible rfl
       rotate_left
       ·simp only [Act.put, List.setIfInBounds_toArray, List.set_cons_zero, List.set_cons_succ, zg, zh]
        rfl
       refine zl (i := 9) (N := some 83) (v := ?_) (a' := ?_) (bm 20 767) rfl rfl (by kernel_rfl) (fun _ _ _ h => h) (Or.inl ⟨by rfl, ?_⟩) ?_ ?_
       rotate_left
       ·intro w'
        go_simp
        with_reducible rfl
       rotate_left
       ·simp only [Act.put, List.setIfInBounds_toArray, List.set_cons_zero, List.set_cons_succ, zg, zh]
        rfl
       refine zl (i := 13) (N := some 87) (v := ?_) (a' := ?_) (bm 20 8959) rfl rfl (by kernel_rfl) (fun _ _ _ h => h) (Or.inl ⟨by rfl, ?_⟩) ?_ ?_
       rotate_left
       ·intro w'
        go_simp
        with_reducible rfl
       rotate_left
       ·simp only [Act.put, List.setIfInBounds_toArray, List.set_cons_zero, List.set_cons_succ, zg, zh]
        rfl
       refine zA (i := 8) (N := some 82) (v := ?_) (a' := ?_) (bm 20 9215) rfl rfl (by kernel_rfl) (fun _ _ _ h => h) (Or.inl ⟨by rfl, ?_⟩) hHeld ?_ ?_
       rotate_left
       ·rintro w' ⟨s0, s1, s2, s3, s4⟩
        go_simp
        with_reducible rfl
       rotate_left
       ·simp only [Act.put, List.setIfInBounds_toArray, List.set_cons_zero, List.set_cons_succ, zg, zh]
        rfl
       refine zl (i := 10) (N := some 84) (v := ?_) (a' := ?_) (bm 20 10239) rfl rfl (by kernel_rfl) (fun _ _ _ h => h) (Or.inl ⟨by rfl, ?_⟩) ?_ ?_
       rotate_left
       ·intro w'
        go_simp
        with_reducible rfl
       rotate_left
       ·simp only [Act.put, List.setIfInBounds_toArray, List.set_cons_zero, List.set_cons_succ, zg, zh]
        rfl
       refine zl (i := 11) (N := some 85) (v := ?_) (a' := ?_) (bm 20 12287) rfl rfl (by kernel_rfl) (fun _ _ _ h => h) (Or.inl ⟨by rfl, ?_⟩) ?_ ?_
       rotate_left
       ·intro w'
        go_simp
        with_reducible rfl
       rotate_left
       ·simp only [Act.put, List.setIfInBounds_toArray, List.set_cons_zero, List.set_cons_succ, zg, zh]
        rfl
       refine zA (i := 12) (N := some 86) (v := ?_) (a' := ?_) (bm 20 16383) rfl rfl (by kernel_rfl) (fun _ _ _ h => h) (Or.inl ⟨by rfl, ?_⟩) hHeld ?_ ?_
       rotate_left
       ·rintro w' ⟨s0, s1, s2, s3, s4⟩
        go_simp
        with_reducible rfl
       rotate_left
       ·simp only [Act.put, List.setIfInBounds_toArray, List.set_cons_zero, List.set_cons_succ, zg, zh]
        rfl
       refine zA (i := 14) (N := some 88) (v := ?_) (a' := ?_) (bm 20 32767) rfl rfl (by kernel_rfl) (fun _ _ _ h => h) (Or.inl ⟨by rfl, ?_⟩) hHeld ?_ ?_
       rotate_left
       ·rintro w' ⟨s0, s1, s2, s3, s4⟩
        go_simp
        with_reducible rfl
       rotate_left
       ·simp only [Act.put, List.setIfInBounds_toArray, List.set_cons_zero, List.set_cons_succ, zg, zh]
        rfl
       refine zl (i := 15) (N := some 89) (v := ?_) (a' := ?_) (bm 20 65535) rfl rfl (by kernel_rfl) (fun _ _ _ h => h) (Or.inl ⟨by rfl, ?_⟩) ?_ ?_
       rotate_left
       ·intro w'
        go_simp
        with_reducible rfl
       rotate_left
       ·simp only [Act.put, List.setIfInBounds_toArray, List.set_cons_zero, List.set_cons_succ, zg, zh]
        rfl
       refine zA (i := 16) (N := some 90) (v := ?_) (a' := ?_) (bm 20 131071) rfl rfl (by kernel_rfl) (fun _ _ _ h => h) (Or.inl ⟨by rfl, ?_⟩) hHeld ?_ ?_
       rotate_left
       ·rintro w' ⟨s0, s1, s2, s3, s4⟩
        go_simp
        with_reducible rfl
       rotate_left
       ·simp only [Act.put, List.setIfInBounds_toArray, List.set_cons_zero, List.set_cons_succ, zg, zh]
        rfl
       refine zl (i := 17) (N := some 91) (v := ?_) (a' := ?_) (bm 20 262143) rfl rfl (by kernel_rfl) (fun _ _ _ h => h) (Or.inl ⟨by rfl, ?_⟩) ?_ ?_
       rotate_left
       ·intro w'
        go_simp
        with_reducible rfl
       rotate_left
       ·simp only [Act.put, List.setIfInBounds_toArray, List.set_cons_zero, List.set_cons_succ, zg, zh]
        rfl
       refine zl (i := 18) (N := some 92) (v := ?_) (a' := ?_) (bm 20 524287) rfl rfl (by kernel_rfl) (fun _ _ _ h => h) (Or.inl ⟨by rfl, ?_⟩) ?_ ?_
       rotate_left
       ·intro w'
        go_simp
        with_reducible rfl
       rotate_left
       ·simp only [Act.put, List.setIfInBounds_toArray, List.set_cons_zero, List.set_cons_succ, zg, zh]
        rfl
       refine zl (i := 19) (N := some 73) (v := ?_) (a' := ?_) (bm 20 1048575) rfl rfl (by kernel_rfl) (fun _ _ _ h => h) (Or.inl ⟨by rfl, ?_⟩) ?_ ?_
       rotate_left
       ·intro w'
        go_simp
        with_reducible rfl
       rotate_left
       ·simp only [Act.put, List.setIfInBounds_toArray, List.set_cons_zero, List.set_cons_succ, zg, zh]
        rfl
       refine yt (by kernel_rfl) ?_
       go_upto_region 1 with (fail)
       obtain ⟨W2, hW2⟩ : ∃ W2, W2 = V.drew := ⟨_, rfl⟩
       have HBW := zb.mk (show Below V.heap.size V W2 by rw [hW2]; exact ze (Below.refl _ _))
       (try rw [← hW2])
       have HR2 := zb.mk (HR.out.below HBW.out)
       have a3 := za HBW.out a3
       obtain ⟨pc, hpc⟩ : ∃ x, x = (σ.t k).f1 := ⟨_, rfl⟩
       have PC := zb.mk hpc
       have HPB := zb.mk (HI.out.tb h0 H1.out).p
       rw [← hpc] at HPB
       have e1 : wrap64 (pc + 1) = pc + 1 := yN (by have := HPB.out; omega) (by have := HPB.out; omega)
       have kz := HR2.out.elem k h0 H1'.out
       have k1 : W2.cell? ⟨gT, k.toNat * 13 + 1, none⟩ = some (.int .i64 pc) := (kz.1 1 _ rfl).trans (by rw [HT.out, ← hpc])
       have z1 := kz.2.1 1
       clear kz hpc hW2 k3 xr x0 x1 x2 x3 k4 z4 hHeld
       refine yc (n := 19) (S := fun w' => w'.cell? ⟨g, 3, none⟩ = some (.slice (some ⟨gT, 0, none⟩) σ.T.length cap) ∧ w'.cell? ⟨gT, k.toNat * 13 + 1, none⟩ = some (.int .i64 pc)) (ds := [18]) (bm 19 0) (by kernel_rfl) rfl rfl ⟨(za (ze (Below.refl _ _)) a3), (za (ze (Below.refl _ _)) k1)⟩ (fun hHeld => ?_)
       refine zl (i := 0) (N := some 12) (v := ?_) (a' := ?_) (bm 19 1) rfl rfl (by kernel_rfl) (fun _ _ _ h => h) (Or.inl ⟨by rfl, ?_⟩) ?_ ?_
       rotate_left
       ·intro w'
        go_simp
        with_reducible rfl
       rotate_left
       ·simp only [Act.put, List.setIfInBounds_toArray, List.set_cons_zero, List.set_cons_succ, zg, zh]
        rfl
       refine zl (i := 1) (N := some 13) (v := ?_) (a' := ?_) (bm 19 3) rfl rfl (by kernel_rfl) (fun _ _ _ h => h) (Or.inl ⟨by rfl, ?_⟩) ?_ ?_
       rotate_left
       ·intro w'
        go_simp
        with_reducible rfl
       rotate_left
       ·simp only [Act.put, List.setIfInBounds_toArray, List.set_cons_zero, List.set_cons_succ, zg, zh]
        rfl
       refine zl (i := 2) (N := some 14) (v := ?_) (a' := ?_) (bm 19 7) rfl rfl (by kernel_rfl) (fun _ _ _ h => h) (Or.inl ⟨by rfl, ?_⟩) ?_ ?_
       rotate_left
       ·intro w'
        go_simp
        with_reducible rfl
       rotate_left
       ·simp only [Act.put, List.setIfInBounds_toArray, List.set_cons_zero, List.set_cons_succ, zg, zh]
        rfl
       refine zl (i := 3) (N := some 15) (v := ?_) (a' := ?_) (bm 19 15) rfl rfl (by kernel_rfl) (fun _ _ _ h => h) (Or.inl ⟨by rfl, ?_⟩) ?_ ?_
       rotate_left
       ·intro w'
        go_simp
        with_reducible rfl
       rotate_left
       ·simp only [Act.put, List.setIfInBounds_toArray, List.set_cons_zero, List.set_cons_succ, zg, zh]
        rfl
       refine zl (i := 5) (N := some 17) (v := ?_) (a' := ?_) (bm 19 47) rfl rfl (by kernel_rfl) (fun _ _ _ h => h) (Or.inl ⟨by rfl, ?_⟩) ?_ ?_
       rotate_left
       ·intro w'
        go_simp
        with_reducible rfl
       rotate_left
       ·simp only [Act.put, List.setIfInBounds_toArray, List.set_cons_zero, List.set_cons_succ, zg, zh]
        rfl
       refine zl (i := 6) (N := some 18) (v := ?_) (a' := ?_) (bm 19 111) rfl rfl (by kernel_rfl) (fun _ _ _ h => h) (Or.inl ⟨by rfl, ?_⟩) ?_ ?_
       rotate_left
       ·intro w'
        go_simp
        with_reducible rfl
       rotate_left
       ·simp only [Act.put, List.setIfInBounds_toArray, List.set_cons_zero, List.set_cons_succ, zg, zh]
        rfl
       refine zl (i := 7) (N := some 19) (v := ?_) (a' := ?_) (bm 19 239) rfl rfl (by kernel_rfl) (fun _ _ _ h => h) (Or.inl ⟨by rfl, ?_⟩) ?_ ?_
       rotate_left
       ·intro w'
        go_simp
        with_reducible rfl
       rotate_left
       ·simp only [Act.put, List.setIfInBounds_toArray, List.set_cons_zero, List.set_cons_succ, zg, zh]
        rfl
       refine zl (i := 8) (N := some 20) (v := ?_) (a' := ?_) (bm 19 495) rfl rfl (by kernel_rfl) (fun _ _ _ h => h) (Or.inl ⟨by rfl, ?_⟩) ?_ ?_
       rotate_left
       ·intro w'
        go_simp
        with_reducible rfl
       rotate_left
       ·simp only [Act.put, List.setIfInBounds_toArray, List.set_cons_zero, List.set_cons_succ, zg, zh]
        rfl
       refine zl (i := 9) (N := some 21) (v := ?_) (a' := ?_) (bm 19 1007) rfl rfl (by kernel_rfl) (fun _ _ _ h => h) (Or.inl ⟨by rfl, ?_⟩) ?_ ?_
       rotate_left
       ·intro w'
        go_simp
        with_reducible rfl
       rotate_left
       ·simp only [Act.put, List.setIfInBounds_toArray, List.set_cons_zero, List.set_cons_succ, zg, zh]
        rfl
       refine zl (i := 11) (N := some 23) (v := ?_) (a' := ?_) (bm 19 3055) rfl rfl (by kernel_rfl) (fun _ _ _ h => h) (Or.inl ⟨by rfl, ?_⟩) ?_ ?_
       rotate_left
       ·intro w'
        go_simp
        with_reducible rfl
       rotate_left
       ·simp only [Act.put, List.setIfInBounds_toArray, List.set_cons_zero, List.set_cons_succ, zg, zh]
        rfl
       refine zA (i := 4) (N := some 16) (v := ?_) (a' := ?_) (bm 19 3071) rfl rfl (by kernel_rfl) (fun _ _ _ h => h) (Or.inl ⟨by rfl, ?_⟩) hHeld ?_ ?_
       rotate_left
       ·rintro w' ⟨s0, s1⟩
        go_simp
        with_reducible rfl
       rotate_left
       ·simp only [Act.put, List.setIfInBounds_toArray, List.set_cons_zero, List.set_cons_succ, zg, zh]
        rfl
       refine zA (i := 10) (N := some 22) (v := ?_) (a' := ?_) (bm 19 4095) rfl rfl (by kernel_rfl) (fun _ _ _ h => h) (Or.inl ⟨by rfl, ?_⟩) hHeld ?_ ?_
       rotate_left
       ·rintro w' ⟨s0, s1⟩
        go_simp
        with_reducible rfl
       rotate_left
       ·simp only [Act.put, List.setIfInBounds_toArray, List.set_cons_zero, List.set_cons_succ, zg, zh]
        rfl
       refine zl (i := 12) (N := some 24) (v := ?_) (a' := ?_) (bm 19 8191) rfl rfl (by kernel_rfl) (fun _ _ _ h => h) (Or.inl ⟨by rfl, ?_⟩) ?_ ?_
       rotate_left
       ·intro w'
        go_simp
        with_reducible rfl
       rotate_left
       ·simp only [Act.put, List.setIfInBounds_toArray, List.set_cons_zero, List.set_cons_succ, zg, zh]
        rfl
       refine zl (i := 13) (N := some 25) (v := ?_) (a' := ?_) (bm 19 16383) rfl rfl (by kernel_rfl) (fun _ _ _ h => h) (Or.inl ⟨by rfl, ?_⟩) ?_ ?_
       rotate_left
       ·intro w'
        go_simp
        with_reducible rfl
       rotate_left
       ·simp only [Act.put, List.setIfInBounds_toArray, List.set_cons_zero, List.set_cons_succ, zg, zh]
        rfl
       refine zA (i := 14) (N := some 26) (v := ?_) (a' := ?_) (bm 19 32767) rfl rfl (by kernel_rfl) (fun _ _ _ h => h) (Or.inl ⟨by rfl, ?_⟩) hHeld ?_ ?_
       rotate_left
       ·rintro w' ⟨s0, s1⟩
        go_simp
        with_reducible rfl
       rotate_left
       ·simp only [Act.put, List.setIfInBounds_toArray, List.set_cons_zero, List.set_cons_succ, zg, zh]
        rfl
       refine zl (i := 15) (N := some 27) (v := ?_) (a' := ?_) (bm 19 65535) rfl rfl (by kernel_rfl) (fun _ _ _ h => h) (Or.inl ⟨by rfl, ?_⟩) ?_ ?_
       rotate_left
       ·intro w'
        go_simp
        with_reducible rfl
       rotate_left
       ·simp only [Act.put, List.setIfInBounds_toArray, List.set_cons_zero, List.set_cons_succ, zg, zh]
        rfl
       refine zl (i := 16) (N := some 28) (v := ?_) (a' := ?_) (bm 19 131071) rfl rfl (by kernel_rfl) (fun _ _ _ h => h) (Or.inl ⟨by rfl, ?_⟩) ?_ ?_
       rotate_left
       ·intro w'
        go_simp
        with_reducible rfl
       rotate_left
       ·simp only [Act.put, List.setIfInBounds_toArray, List.set_cons_zero, List.set_cons_succ, zg, zh]
        rfl
       refine zl (i := 17) (N := some 29) (v := ?_) (a' := ?_) (bm 19 262143) rfl rfl (by kernel_rfl) (fun _ _ _ h => h) (Or.inl ⟨by rfl, ?_⟩) ?_ ?_
       rotate_left
       ·intro w'
        go_simp
        with_reducible rfl
       rotate_left
       ·simp only [Act.put, List.setIfInBounds_toArray, List.set_cons_zero, List.set_cons_succ, zg, zh]
        rfl
       refine yR (i := 18) (N := none) (bm 19 524287) rfl rfl (by kernel_rfl) (by decide) (fun K hK => ?_)
       refine yQ (w1 := ?_) (by rfl) rfl ?_ ?_
       rotate_left
       ·go_simp
        rfl
       refine hK.out _ _ ?_
       clear hK K
       refine yt (by kernel_rfl) ?_
       go_wp2
       go_end0
       rw [HP.out]
       have hq := HI.out.more h0 H1.out H50.out HLT.out (by rw [HW.out]; decide)
       rw [show (σ.t k).f1 = pc from PC.out.symm] at hq
       exact ⟨rfl, Stepped.same _ (((show yL w0 W2 g W2.heap.size vp0 (.slice A1 Bs.length c1) gT cap σ from ⟨_, _, _, _, HR2.out.now, HE.out⟩).num k h0 H1.out (fun t => { t with f1 := pc + 1 }) 1 (pc + 1) (by decide) (fun _ => rfl) (fun _ => rfl) (fun _ => rfl) (fun _ => rfl) (fun _ => rfl)).S.below (by first | exact ze (ze (Below.refl _ _)) | exact ze (Below.refl _ _) | exact Below.refl _ _)) hq St.len_upd⟩
      ·have cz : (rn != 0) = true := by simp [qz]
       clear qz
       go_upto_region 10 with (fail)
       refine yc (n := 20) (S := fun w' => w'.cell? ⟨w1.heap.size, 0, none⟩ = some (.int .i64 kd) ∧ w'.cell? ⟨w1.heap.size, 3, none⟩ = some (.int .i64 rg) ∧ w'.cell? ⟨g, 3, none⟩ = some (.slice (some ⟨gT, 0, none⟩) σ.T.length cap) ∧ w'.cell? ⟨gT, k.toNat * 13 + 3, none⟩ = some (.slice (some ad) (σ.t k).f3.length c3) ∧ w'.cell? (ad.add rg.toNat) = some (.int .i64 rn)) (ds := []) (bm 20 0) (by kernel_rfl) rfl rfl ⟨(za (ze (Below.refl _ _)) x0), (za (ze (Below.refl _ _)) x3), (za (ze (Below.refl _ _)) a3), (za (ze (Below.refl _ _)) k3), (za (ze (Below.refl _ _)) xr)⟩ (fun hHeld => ?_)
       refine zl (i := 0) (N := some 74) (v := ?_) (a' := ?_) (bm 20 1) rfl rfl (by kernel_rfl) (fun _ _ _ h => h) (Or.inl ⟨by rfl, ?_⟩) ?_ ?_
       rotate_left
       ·intro w'
        go_simp
        with_reducible rfl
       rotate_left
       ·simp only [Act.put, List.setIfInBounds_toArray, List.set_cons_zero, List.set_cons_succ, zg, zh]
        rfl
       refine zA (i := 1) (N := some 75) (v := ?_) (a' := ?_) (bm 20 3) rfl rfl (by kernel_rfl) (fun _ _ _ h => h) (Or.inl ⟨by rfl, ?_⟩) hHeld ?_ ?_
       rotate_left
       ·rintro w' ⟨s0, s1, s2, s3, s4⟩
        go_simp
        with_reducible rfl
       rotate_left
       ·simp only [Act.put, List.setIfInBounds_toArray, List.set_cons_zero, List.set_cons_succ, zg, zh]
        rfl
       refine zl (i := 2) (N := some 76) (v := ?_) (a' := ?_) (bm 20 7) rfl rfl (by kernel_rfl) (fun _ _ _ h => h) (Or.inl ⟨by rfl, ?_⟩) ?_ ?_
       rotate_left
       ·intro w'
        go_simp
        with_reducible rfl
       rotate_left
       ·simp only [Act.put, List.setIfInBounds_toArray, List.set_cons_zero, List.set_cons_succ, zg, zh]
        rfl
       refine zl (i := 3) (N := some 77) (v := ?_) (a' := ?_) (bm 20 15) rfl rfl (by kernel_rfl) (fun _ _ _ h => h) (Or.inl ⟨by rfl, ?_⟩) ?_ ?_
       rotate_left
       ·intro w'
        go_simp
        with_reducible rfl
       rotate_left
       ·simp only [Act.put, List.setIfInBounds_toArray, List.set_cons_zero, List.set_cons_succ, zg, zh]
        rfl
       refine zl (i := 4) (N := some 78) (v := ?_) (a' := ?_) (bm 20 31) rfl rfl (by kernel_rfl) (fun _ _ _ h => h) (Or.inl ⟨by rfl, ?_⟩) ?_ ?_
       rotate_left
       ·intro w'
        go_simp
        with_reducible rfl
       rotate_left
       ·simp only [Act.put, List.setIfInBounds_toArray, List.set_cons_zero, List.set_cons_succ, zg, zh]
        rfl
       refine zl (i := 5) (N := some 79) (v := ?_) (a' := ?_) (bm 20 63) rfl rfl (by kernel_rfl) (fun _ _ _ h => h) (Or.inl ⟨by rfl, ?_⟩) ?_ ?_
       rotate_left
       ·intro w'
        go_simp
        with_reducible rfl
       rotate_left
       ·simp only [Act.put, List.setIfInBounds_toArray, List.set_cons_zero, List.set_cons_succ, zg, zh]
        rfl
       refine zl (i := 6) (N := some 80) (v := ?_) (a' := ?_) (bm 20 127) rfl rfl (by kernel_rfl) (fun _ _ _ h => h) (Or.inl ⟨by rfl, ?_⟩) ?_ ?_
       rotate_left
       ·intro w'
        go_simp
        with_reducible rfl
       rotate_left
       ·simp only [Act.put, List.setIfInBounds_toArray, List.set_cons_zero, List.set_cons_succ, zg, zh]
        rfl
       refine zl (i := 7) (N := some 81) (v := ?_) (a' := ?_) (bm 20 255) rfl rfl (by kernel_rfl) (fun _ _ _ h => h) (Or.inl ⟨by rfl, ?_⟩) ?_ ?_
       rotate_left
       ·intro w'
        go_simp
        with_reducible rfl
       rotate_left
       ·simp only [Act.put, List.setIfInBounds_toArray, List.set_cons_zero, List.set_cons_succ, zg, zh]
        rfl
       refine zl (i := 9) (N := some 83) (v := ?_) (a' := ?_) (bm 20 767) rfl rfl (by kernel_rfl) (fun _ _ _ h => h) (Or.inl ⟨by rfl, ?_⟩) ?_ ?_
       rotate_left
       ·intro w'
        go_simp
        with_reducible rfl
       rotate_left
       ·simp only [Act.put, List.setIfInBounds_toArray, List.set_cons_zero, List.set_cons_succ, zg, zh]
        rfl
       refine zl (i := 13) (N := some 87) (v := ?_) (a' := ?_) (bm 20 8959) rfl rfl (by kernel_rfl) (fun _ _ _ h => h) (Or.inl ⟨by rfl, ?_⟩) ?_ ?_
       rotate_left
       ·intro w'
        go_simp
        with_reducible rfl
       rotate_left
       ·simp only [Act.put, List.setIfInBounds_toArray, List.set_cons_zero, List.set_cons_succ, zg, zh]
        rfl
       refine zA (i := 8) (N := some 82) (v := ?_) (a' := ?_) (bm 20 9215) rfl rfl (by kernel_rfl) (fun _ _ _ h => h) (Or.inl ⟨by rfl, ?_⟩) hHeld ?_ ?_
       rotate_left
       ·rintro w' ⟨s0, s1, s2, s3, s4⟩
        go_simp
        with_reducible rfl
       rotate_left
       ·simp only [Act.put, List.setIfInBounds_toArray, List.set_cons_zero, List.set_cons_succ, zg, zh]
        rfl
       refine zl (i := 10) (N := some 84) (v := ?_) (a' := ?_) (bm 20 10239) rfl rfl (by kernel_rfl) (fun _ _ _ h => h) (Or.inl ⟨by rfl, ?_⟩) ?_ ?_
       rotate_left
       ·intro w'
        go_simp
        with_reducible rfl
       rotate_left
       ·simp only [Act.put, List.setIfInBounds_toArray, List.set_cons_zero, List.set_cons_succ, zg, zh]
        rfl
       refine zl (i := 11) (N := some 85) (v := ?_) (a' := ?_) (bm 20 12287) rfl rfl (by kernel_rfl) (fun _ _ _ h => h) (Or.inl ⟨by rfl, ?_⟩) ?_ ?_
       rotate_left
       ·intro w'
        go_simp
        with_reducible rfl
       rotate_left
       ·simp only [Act.put, List.setIfInBounds_toArray, List.set_cons_zero, List.set_cons_succ, zg, zh]
        rfl
       refine zA (i := 12) (N := some 86) (v := ?_) (a' := ?_) (bm 20 16383) rfl rfl (by kernel_rfl) (fun _ _ _ h => h) (Or.inl ⟨by rfl, ?_⟩) hHeld ?_ ?_
       rotate_left
       ·rintro w' ⟨s0, s1, s2, s3, s4⟩
        go_simp
        with_reducible rfl
       rotate_left
       ·simp only [Act.put, List.setIfInBounds_toArray, List.set_cons_zero, List.set_cons_succ, zg, zh]
        rfl
       refine zA (i := 14) (N := some 88) (v := ?_) (a' := ?_) (bm 20 32767) rfl rfl (by kernel_rfl) (fun _ _ _ h => h) (Or.inl ⟨by rfl, ?_⟩) hHeld ?_ ?_
       rotate_left
       ·rintro w' ⟨s0, s1, s2, s3, s4⟩
        go_simp
        with_reducible rfl
       rotate_left
       ·simp only [Act.put, List.setIfInBounds_toArray, List.set_cons_zero, List.set_cons_succ, zg, zh]
        rfl
       refine zl (i := 15) (N := some 89) (v := ?_) (a' := ?_) (bm 20 65535) rfl rfl (by kernel_rfl) (fun _ _ _ h => h) (Or.inl ⟨by rfl, ?_⟩) ?_ ?_
       rotate_left
       ·intro w'
        go_simp
        with_reducible rfl
       rotate_left
       ·simp only [Act.put, List.setIfInBounds_toArray, List.set_cons_zero, List.set_cons_succ, zg, zh]
        rfl
       refine zA (i := 16) (N := some 90) (v := ?_) (a' := ?_) (bm 20 131071) rfl rfl (by kernel_rfl) (fun _ _ _ h => h) (Or.inl ⟨by rfl, ?_⟩) hHeld ?_ ?_
       rotate_left
       ·rintro w' ⟨s0, s1, s2, s3, s4⟩
        go_simp
        with_reducible rfl
       rotate_left
       ·simp only [Act.put, List.setIfInBounds_toArray, List.set_cons_zero, List.set_cons_succ, zg, zh]
        rfl
       refine zl (i := 17) (N := some 91) (v := ?_) (a' := ?_) (bm 20 262143) rfl rfl (by kernel_rfl) (fun _ _ _ h => h) (Or.inl ⟨by rfl, ?_⟩) ?_ ?_
       rotate_left
       ·intro w'
        go_simp
        with_reducible rfl
       rotate_left
       ·simp only [Act.put, List.setIfInBounds_toArray, List.set_cons_zero, List.set_cons_succ, zg, zh]
        rfl
       refine zl (i := 18) (N := some 92) (v := ?_) (a' := ?_) (bm 20 524287) rfl rfl (by kernel_rfl) (fun _ _ _ h => h) (Or.inl ⟨by rfl, ?_⟩) ?_ ?_
       rotate_left
       ·intro w'
        go_simp
        with_reducible rfl
       rotate_left
       ·simp only [Act.put, List.setIfInBounds_toArray, List.set_cons_zero, List.set_cons_succ, zg, zh]
        rfl
       refine zl (i := 19) (N := some 73) (v := ?_) (a' := ?_) (bm 20 1048575) rfl rfl (by kernel_rfl) (fun _ _ _ h => h) (Or.inl ⟨by rfl, ?_⟩) ?_ ?_
       rotate_left
       ·intro w'
        go_simp
        with_reducible rfl
       rotate_left
       ·simp only [Act.put, List.setIfInBounds_toArray, List.set_cons_zero, List.set_cons_succ, zg, zh]
        rfl
       refine yt (by kernel_rfl) ?_
       go_wp2_with fail
       refine (fails_calls k (HSV.out.below (by first | exact ze (ze (Below.refl _ _)) | exact ze (Below.refl _ _))) h0 H1.out).mono ?_
       rintro e W ⟨rfl, h3⟩
       go_wp2
       go_end0
       rw [HP.out]
       exact ⟨rfl, Stepped.same _ h3 HQ3.out St.len_upd⟩
 ·have HLT := zb.mk hlt
  have h50 : (σ.t k).f5 = 0 := by
   by_cases e : (σ.t k).f5 = 0
   ·exact e
   ·exact absurd (H5.out e).2.1 hlt
  have hw : (σ.t k).f4 = 0 := by
   rcases H4.out with e | e
   ·exact e
   ·exact absurd ((HI.out.t k h0 H1.out).wait e) hlt
  have H50 := zb.mk h50
  have HW := zb.mk hw
  clear hlt h50 hw
  go_upto_region 2 with (fail)
  obtain ⟨V, hV⟩ : ∃ V, V = w1.alloc (.cells #[.int .i64 0, .slice none 0 0, .slice none 0 0, .int .i64 0] 110) := ⟨_, rfl⟩
  have HBV := zb.mk (show Below w.heap.size w V by rw [hV]; exact zi hb (zc (Below.refl _ _) _))
  have HX := zb.mk (show V.heap[w1.heap.size]? = some (.cells #[.int .i64 0, .slice none 0 0, .slice none 0 0, .int .i64 0] 110 (0, 0)) by rw [hV]; exact heap_alloc_new _ _)
  rw [← hV]
  have HSV := zb.mk (HS0.out.below HBV.out)
  obtain ⟨gT, cap, T, vC, vL, HR, HE, HT, H1', a3, hc, hf, HBB⟩ := HSV.out.open1 k h0 H1.out
  have k4q := (hc.out 4 _ rfl).trans (by rw [HT.out])
  have z4 := hf.out 4
  have p1 : k < (σ.T.length : Int) := H1.out
  clear hV hb
  have k4 : V.cell? ⟨gT, k.toNat * 13 + 4, none⟩ = some (.int .i64 0) := by rw [← HW.out]; exact k4q
  clear hc hf k4q
  go_wp2
  go_end0
  rw [HP.out]
  exact ⟨rfl, Stepped.same _ ((show yL w0 V g V.heap.size vp0 (.slice A1 Bs.length c1) gT cap σ from ⟨_, _, _, _, HR.out, HE.out⟩).num k h0 H1.out (fun t => { t with f4 := 2 }) 4 2 (by decide) (fun _ => rfl) (fun _ => rfl) (fun _ => rfl) (fun _ => rfl) (fun _ => rfl)).S (HI.out.way h0 H1.out H50.out 2 ⟨by decide, by decide⟩ (fun e => absurd e (by decide))) St.len_upd⟩
end Go.Proofs.Ytppapibjbjmmbaa.QSY
set_option linter.unusedVariables false
set_option linter.unusedSimpArgs false
namespace Go.Proofs.Ytppapibjbjmmbaa.QSY
open Go.RowKit Go.Proofs.YtppapibjbjmmbaaW.PrintWords Go.Proofs.YtppapibjbjmmbaaW.PrintLast Go.Proofs.YtppapibjbjmmbaaW.PrintMore
structure Sees (w : World) (AC : Option Addr) (cC : Nat) (AT : Option Addr) (cT : Nat) (AL : Option Addr) (cL : Nat) (σ : St) : Prop where
 C : Kd.C k33 w AC σ.C.length σ.C
 hC : σ.C.length ≤ cC
 T : Kd.C k43 w AT σ.T.length σ.T
 hT : σ.T.length ≤ cT
 L : Kd.C k50 w AL σ.L.length σ.L
 hL : σ.L.length ≤ cL
theorem Sees.below {w w1 : World} {AC : Option Addr} {cC : Nat} {AT : Option Addr} {cT : Nat} {AL : Option Addr} {cL : Nat} {σ : St} (h : Sees w AC cC AT cT AL cL σ) (hb : Below w.heap.size w w1) : Sees w1 AC cC AT cT AL cL σ :=
 ⟨Kd.zt h.C hb, h.hC, Kd.zt h.T hb, h.hT, Kd.zt h.L hb, h.hL⟩
structure Small (σ : St) : Prop where
 c : σ.C.length ≤ 1000
 t : σ.T.length ≤ 2500
 l : σ.L.length ≤ 1000000000
 rows : ∀ t ∈ σ.T, t.f3.length ≤ 1000 ∧ t.f8.length ≤ 1000 ∧ t.f9.length ≤ 1000 ∧ t.f10.length ≤ 1000
 ents : ∀ e ∈ σ.L, e.f3.length ≤ 1000 ∧ e.f4.length ≤ 1000
section
variable {w w1 : World} {B N : Nat} {vC vT vL v1 : Value} {C : List S33} {T : List TG} {L L' : List S50}
theorem xv.taskput (h : xv w B N vC vT vL C T L) (hN : N ≤ w.heap.size) {t' : TG} (hr : Kd.R kTG 43 w1 B (fun _ => True) v1 (T ++ [t'])) (hg : w.grownBy w1 vT.ownBlock) (ht : TRow w B t') (hd : t'.blocks.Nodup) (hf : ∀ b ∈ t'.blocks, N ≤ b ∧ b < w.heap.size) :
  xv w1 B w1.heap.size vC v1 vL C (T ++ [t']) L := by
 have hbl := zK h.rT hg
 have hrow : ∀ t, TRow w B t → TRow w1 B t := fun t ht => ht.keep (fun k q cells _ _ hq hc' => hbl k q cells (by rcases hq with rfl | rfl <;> decide) hc')
 have hE : ∀ q, q ∈ 50 :: k50.E → q ≠ 43 := by decide
 have hsz := hg.size
 refine ⟨zR h.rC (fun k q cells _ _ hq hc' => hbl k q cells (by rw [List.mem_singleton.1 hq]; decide) hc'), hr, fun t ht' => ?_, ?_, fun b hb' => ?_, Kd.zT (zR h.rL (fun k q cells _ _ hq hc' => hbl k q cells (hE q hq) hc')) (fun k hk => ⟨fun hm => ?_, by have := hk.2; omega⟩)⟩
 ·rcases List.mem_append.1 ht' with ht' | ht'
  ·exact hrow t (h.rows t ht')
  ·rw [List.mem_singleton.1 ht']; exact hrow _ ht
 ·rw [List.flatMap_append, List.nodup_append]
  refine ⟨h.ap, by simpa using hd, fun b hb1 c hc1 hbc => ?_⟩
  subst hbc
  have h1 := h.lt b hb1
  have h2 := hf b (by simpa using hc1)
  omega
 ·rw [List.flatMap_append] at hb'
  rcases List.mem_append.1 hb' with hb' | hb'
  ·have := h.lt b hb'; omega
  ·have := hf b (by simpa using hb'); omega
 ·rw [List.flatMap_append] at hm
  rcases List.mem_append.1 hm with hm | hm
  ·exact hk.1 hm
  ·have h1 := hf k (by simpa using hm)
   have h2 := hk.2
   omega
theorem xv.logput (h : xv w B N vC vT vL C T L) (hN : N ≤ w.heap.size) (hr : Kd.R k50 50 w1 B (fun k => k ∉ T.flatMap TG.blocks) v1 L') (hg : w.grownBy w1 vL.ownBlock) : xv w1 B w1.heap.size vC vT v1 C T L' := by
 have hbl := zK h.rL hg
 refine ⟨zR h.rC (fun k q cells _ _ hq hc' => hbl k q cells (by rw [List.mem_singleton.1 hq]; decide) hc'), zR h.rT (fun k q cells _ _ hq hc' => hbl k q cells (by rw [List.mem_singleton.1 hq]; decide) hc'), fun t ht => (h.rows t ht).keep (fun k q cells _ _ hq hc' => hbl k q cells (by rcases hq with rfl | rfl <;> decide) hc'), h.ap, fun b hb' => ?_, Kd.zT (Kd.yI hr) (fun k hk => ⟨hk.1, hk.2.2.1⟩)⟩
 have := h.lt b hb'
 have := hg.size
 omega
end
structure Out (w0 w : World) (D N : Nat) (vC vT vL : Value) (C : List S33) (T : List TG) (clk : Int) (L : List S50) (X X2 : Array Value) : Prop where
 hb : Below w0.heap.size w0 w
 gB : w0.heap.size + 2 ≤ D
 blk : w.heap[D]? = some (.cells #[vC, vT, .int .i64 clk, vL] 27 (0, 0))
 V : xv w w0.heap.size N vC vT vL C T L
 x : w.heap[w0.heap.size]? = some (.cells X 27 (0, 0))
 x2 : w.heap[w0.heap.size + 1]? = some (.cells X2 27 (0, 0))
section
variable {w0 w w1 : World} {D N : Nat} {vC vT vL v1 : Value} {C : List S33} {T : List TG} {clk : Int} {L L' : List S50} {X X2 : Array Value}
theorem Out.below (h : Out w0 w D N vC vT vL C T clk L X X2) (hb : Below w.heap.size w w1) : Out w0 w1 D N vC vT vL C T clk L X X2 :=
 ⟨h.hb.trans (zM hb h.hb.size), h.gB, (hb.block _ (zo h.blk)).trans h.blk, h.V.below hb, (hb.block _ (zo h.x)).trans h.x, (hb.block _ (zo h.x2)).trans h.x2⟩
theorem Out.now (h : Out w0 w D N vC vT vL C T clk L X X2) : Out w0 w D w.heap.size vC vT vL C T clk L X X2 := ⟨h.hb, h.gB, h.blk, h.V.now, h.x, h.x2⟩
theorem Out.taskput (h : Out w0 w D N vC vT vL C T clk L X X2) (hN : N ≤ w.heap.size) {t' : TG} (hr : Kd.R kTG 43 w1 w0.heap.size (fun _ => True) v1 (T ++ [t'])) (hg : w.grownBy w1 vT.ownBlock) (hb : Below w0.heap.size w w1) (ht : TRow w w0.heap.size t') (hd : t'.blocks.Nodup) (hf : ∀ b ∈ t'.blocks, N ≤ b ∧ b < w.heap.size) :
  Out w0 (w1.setCell ⟨D, 1, none⟩ v1) D w1.heap.size vC v1 vL C (T ++ [t']) clk L X X2 := by
 have hbl := zK h.V.rT hg
 have hD := h.gB
 have hblk := (hbl D _ _ (by decide) h.blk).trans h.blk
 have V1 := h.V.taskput hN hr hg ht hd hf
 refine ⟨(h.hb.trans hb).setCell (p := ⟨D, 1, none⟩) (by show w0.heap.size ≤ D; omega) _, h.gB, zu hblk 1 v1, V1.far hblk (by decide) 1 v1, ?_, ?_⟩
 ·exact (Below.heap_setCell w1 ⟨D, 1, none⟩ v1 w0.heap.size (by show w0.heap.size ≠ D; omega)).trans ((hbl _ _ _ (by decide) h.x).trans h.x)
 ·exact (Below.heap_setCell w1 ⟨D, 1, none⟩ v1 (w0.heap.size + 1) (by show w0.heap.size + 1 ≠ D; omega)).trans ((hbl _ _ _ (by decide) h.x2).trans h.x2)
theorem Out.logput (h : Out w0 w D N vC vT vL C T clk L X X2) (hN : N ≤ w.heap.size) (hr : Kd.R k50 50 w1 w0.heap.size (fun k => k ∉ T.flatMap TG.blocks) v1 L') (hg : w.grownBy w1 vL.ownBlock) (hb : Below w0.heap.size w w1) :
  Out w0 (w1.setCell ⟨D, 3, none⟩ v1) D w1.heap.size vC vT v1 C T clk L' X X2 := by
 have hbl := zK h.V.rL hg
 have hD := h.gB
 have hblk := (hbl D _ _ (by decide) h.blk).trans h.blk
 have V1 := h.V.logput hN hr hg
 refine ⟨(h.hb.trans hb).setCell (p := ⟨D, 3, none⟩) (by show w0.heap.size ≤ D; omega) _, h.gB, zu hblk 3 v1, V1.far hblk (by decide) 3 v1, ?_, ?_⟩
 ·exact (Below.heap_setCell w1 ⟨D, 3, none⟩ v1 w0.heap.size (by show w0.heap.size ≠ D; omega)).trans ((hbl _ _ _ (by decide) h.x).trans h.x)
 ·exact (Below.heap_setCell w1 ⟨D, 3, none⟩ v1 (w0.heap.size + 1) (by show w0.heap.size + 1 ≠ D; omega)).trans ((hbl _ _ _ (by decide) h.x2).trans h.x2)
theorem Out.start {V W : World} {b4 b7 b9 cc : Nat} {aC : Option Addr} (hV : Below w0.heap.size w0 V) (hVS : V.heap.size = w0.heap.size + 2) (hB : Below V.heap.size V W) (h3 : Kd.R k33 33 W V.heap.size (fun _ => True) (.slice aC C.length cc) C)
  (h4 : V.heap.size ≤ b4 ∧ W.heap[b4]? = some (.cells #[] 43 (0, 0))) (h7 : V.heap.size ≤ b7 ∧ W.heap[b7]? = some (.cells #[] 50 (0, 0))) (h9 : V.heap.size ≤ b9 ∧ W.heap[b9]? = some (.cells #[.slice none 0 0, .slice none 0 0, .int .i64 0, .slice none 0 0] 27 (0, 0)))
  (hx : V.heap[w0.heap.size]? = some (.cells X 27 (0, 0))) (hx2 : V.heap[w0.heap.size + 1]? = some (.cells X2 27 (0, 0))) :
  Out w0 ((((W.setCell ⟨b9, 0, none⟩ (.slice aC C.length cc)).setCell ⟨b9, 1, none⟩ (.slice (some ⟨b4, 0, none⟩) 0 0)).setCell ⟨b9, 2, none⟩ (.int .i64 clk)).setCell ⟨b9, 3, none⟩ (.slice (some ⟨b7, 0, none⟩) 0 0)) b9 W.heap.size (.slice aC C.length cc) (.slice (some ⟨b4, 0, none⟩) 0 0) (.slice (some ⟨b7, 0, none⟩) 0 0) C [] clk [] X X2 := by
 have k0 : xv W w0.heap.size W.heap.size (.slice aC C.length cc) (.slice (some ⟨b4, 0, none⟩) 0 0) (.slice (some ⟨b7, 0, none⟩) 0 0) C [] [] :=
  ⟨Kd.zP h3 (by omega), yz h4.2 (by have := h4.1; omega) trivial, fun t ht => absurd ht (by simp), by simp, fun b hb => absurd hb (by simp), yz h7.2 (by have := h7.1; omega) ⟨by simp, zo h7.2⟩⟩
 have e0 := h9.2
 have e1 := zu e0 0 (.slice aC C.length cc)
 have e2 := zu e1 1 (.slice (some ⟨b4, 0, none⟩) 0 0)
 have e3 := zu e2 2 (.int .i64 clk)
 have e4 := zu e3 3 (.slice (some ⟨b7, 0, none⟩) 0 0)
 have hb9 : w0.heap.size ≤ b9 := by have := h9.1; omega
 have ot : ∀ (U : World) (j : Nat) (v : Value) (b : Nat), b < V.heap.size → (U.setCell ⟨b9, j, none⟩ v).heap[b]? = U.heap[b]? := fun U j v b hb => Below.heap_setCell U ⟨b9, j, none⟩ v b (by show b ≠ b9; have := h9.1; omega)
 refine ⟨?_, by have := h9.1; omega, e4, (((k0.far e0 (by decide) 0 _).far e1 (by decide) 1 _).far e2 (by decide) 2 _).far e3 (by decide) 3 _, ?_, ?_⟩
 ·exact ((((hV.trans (zM hB hV.size)).setCell (p := ⟨b9, 0, none⟩) hb9 _).setCell (p := ⟨b9, 1, none⟩) hb9 _).setCell (p := ⟨b9, 2, none⟩) hb9 _).setCell (p := ⟨b9, 3, none⟩) hb9 _
 ·rw [ot _ _ _ _ (by omega), ot _ _ _ _ (by omega), ot _ _ _ _ (by omega), ot _ _ _ _ (by omega)]
  exact (hB.block _ (zo hx)).trans hx
 ·rw [ot _ _ _ _ (by omega), ot _ _ _ _ (by omega), ot _ _ _ _ (by omega), ot _ _ _ _ (by omega)]
  exact (hB.block _ (zo hx2)).trans hx2
end
end Go.Proofs.Ytppapibjbjmmbaa.QSY
set_option linter.unusedVariables false
set_option linter.unusedSimpArgs false
namespace Go.Proofs.Ytppapibjbjmmbaa.QSY
open Go.RowKit Go.Proofs.YtppapibjbjmmbaaW.PrintWords Go.Proofs.YtppapibjbjmmbaaW.PrintLast Go.Proofs.YtppapibjbjmmbaaW.PrintMore
theorem xd {α : Type} {d : Kd α} {e : Nat} {w : World} {B : Nat} {ok : Nat → Prop} {v : Value} {xs : List α} (h : d.R e w B ok v xs) {bx : Nat} (hb : bx < B) (j : Nat) (u : Value) : d.R e (w.setCell ⟨bx, j, none⟩ u) B ok v xs :=
 zR h (fun k q cells _ hk _ _ => Below.heap_setCell w ⟨bx, j, none⟩ u k (by show k ≠ bx; omega))
def Lies (v : Value) (a b : Nat) : Prop := ∀ k, v.ownBlock = some k → a ≤ k ∧ k < b
theorem lies {α : Type} {d : Kd α} {e : Nat} {w : World} {B : Nat} {ok : Nat → Prop} {v : Value} {xs : List α} (h : d.R e w B ok v xs) : Lies v B w.heap.size := fun k hk => ⟨Kd.yV h k hk, Kd.R_lt h k hk⟩
theorem new_row2 {w : World} {B N s1 s2 s3 B3 B8 B9 B10 : Nat} {t : S43} {v3 v8 v9 v10 : Value} (h0 : B ≤ N) (h1 : N ≤ s1) (h2 : s1 ≤ s2) (h3 : s2 ≤ s3) (h4 : s3 ≤ w.heap.size) (b3 : B ≤ B3) (b8 : B ≤ B8) (b9 : B ≤ B9) (b10 : B ≤ B10)
  (r3 : Kd.R (Kd.int .i64) 3 w B3 (fun _ => True) v3 t.f3) (r8 : Kd.R (Kd.int .i64) 3 w B8 (fun _ => True) v8 t.f8) (r9 : Kd.R k45 45 w B9 (fun _ => True) v9 t.f9) (r10 : Kd.R k45 45 w B10 (fun _ => True) v10 t.f10)
  (i3 : Lies v3 N s1) (i8 : Lies v8 s1 s2) (i9 : Lies v9 s2 s3) (i10 : Lies v10 s3 w.heap.size) :
  TRow w B ⟨t, v3, v8, v9, v10⟩ ∧ (TG.blocks ⟨t, v3, v8, v9, v10⟩).Nodup ∧ ∀ c ∈ TG.blocks ⟨t, v3, v8, v9, v10⟩, N ≤ c ∧ c < w.heap.size := by
 have mem : ∀ {v : Value} {a b c : Nat}, Lies v a b → c ∈ v.ownBlock.toList → a ≤ c ∧ c < b := fun h hc => h _ (by simpa using hc)
 refine ⟨⟨Kd.zP r3 b3, Kd.zP r8 b8, Kd.zP r9 b9, Kd.zP r10 b10⟩, ?_, fun c hc => ?_⟩
 ·have nd : ∀ o : Option Nat, o.toList.Nodup := fun o => by cases o <;> simp
  show (v3.ownBlock.toList ++ v8.ownBlock.toList ++ v9.ownBlock.toList ++ v10.ownBlock.toList).Nodup
  rw [List.nodup_append, List.nodup_append, List.nodup_append]
  refine ⟨⟨⟨nd _, nd _, fun a ha b hb e => ?_⟩, nd _, fun a ha b hb e => ?_⟩, nd _, fun a ha b hb e => ?_⟩ <;> subst e
  ·have x := mem i3 ha; have y := mem i8 hb; omega
  ·have y := mem i9 hb
   rcases List.mem_append.1 ha with ha | ha
   ·have x := mem i3 ha; omega
   ·have x := mem i8 ha; omega
  ·have y := mem i10 hb
   rcases List.mem_append.1 ha with ha | ha
   ·rcases List.mem_append.1 ha with ha | ha
    ·have x := mem i3 ha; omega
    ·have x := mem i8 ha; omega
   ·have x := mem i9 ha; omega
 ·have hc : c ∈ v3.ownBlock.toList ++ v8.ownBlock.toList ++ v9.ownBlock.toList ++ v10.ownBlock.toList := hc
  simp only [List.mem_append] at hc
  rcases hc with ((hc | hc) | hc) | hc
  ·have x := mem i3 hc; omega
  ·have x := mem i8 hc; omega
  ·have x := mem i9 hc; omega
  ·have x := mem i10 hc; omega
def XIn (AC : Option Addr) (cC : Nat) (AT : Option Addr) (cT : Nat) (AL : Option Addr) (cL : Nat) (σ : St) : Array Value := #[.slice AC σ.C.length cC, .slice AT σ.T.length cT, .int .i64 σ.clk, .slice AL σ.L.length cL]
def XRes : Array Value := #[.slice none 0 0, .slice none 0 0, .int .i64 0, .slice none 0 0]
def Copied (w : World) (σ : St) (e : Ending) (w' : World) : Prop := ∃ AC cC AT cT AL cL N T, e = .returned (.agg #[.slice AC σ.C.length cC, .slice AT σ.T.length cT, .int .i64 σ.clk, .slice AL σ.L.length cL]) ∧
 Below w.heap.size w w' ∧ xv w' w.heap.size N (.slice AC σ.C.length cC) (.slice AT σ.T.length cT) (.slice AL σ.L.length cL) σ.C T σ.L ∧ T.map TG.s = σ.T
set_option maxHeartbeats 8000000 in
set_option maxRecDepth 100000 in
theorem copy_calls {w : World} {σ : St} (AC : Option Addr) (cC : Nat) (AT : Option Addr) (cT : Nat) (AL : Option Addr) (cL : Nat) (h : Sees w AC cC AT cT AL cL σ) (hs : Small σ) :
  Calls Try.prog 86 #[.agg #[.slice AC σ.C.length cC, .slice AT σ.T.length cT, .int .i64 σ.clk, .slice AL σ.L.length cL]] w (Copied w σ) := by
 have HW := zb.mk h
 have HS := zb.mk hs
 have HLC := zb.mk hs.c
 have hus := Try.underlying27
 obtain ⟨Post, hPost⟩ : ∃ P, P = Copied w σ := ⟨_, rfl⟩
 have HP := zb.mk hPost
 rw [← hPost]
 clear h hs hPost
 go_enter Try.func86, Try.ntmps86
 go_upto_region 1 with (fail)
 obtain ⟨V, hV⟩ : ∃ V, V = (w.alloc (.cells #[.slice AC σ.C.length cC, .slice AT σ.T.length cT, .int .i64 σ.clk, .slice AL σ.L.length cL] 27)).alloc (.cells #[.slice none 0 0, .slice none 0 0, .int .i64 0, .slice none 0 0] 27) := ⟨_, rfl⟩
 have HBV := zb.mk (show Below w.heap.size w V by rw [hV]; exact zc (zc (Below.refl _ _) _) _)
 have VSZ := zb.mk (show V.heap.size = w.heap.size + 2 by rw [hV]; simp)
 have HX := zb.mk (show V.heap[w.heap.size]? = some (.cells #[.slice AC σ.C.length cC, .slice AT σ.T.length cT, .int .i64 σ.clk, .slice AL σ.L.length cL] 27 (0, 0)) by rw [hV]; exact zm (heap_alloc_new _ _) _)
 have HX2 := zb.mk (show V.heap[w.heap.size + 1]? = some (.cells #[.slice none 0 0, .slice none 0 0, .int .i64 0, .slice none 0 0] 27 (0, 0)) by rw [hV, show w.heap.size + 1 = (w.alloc (.cells #[.slice AC σ.C.length cC, .slice AT σ.T.length cT, .int .i64 σ.clk, .slice AL σ.L.length cL] 27)).heap.size by simp]; exact heap_alloc_new _ _)
 rw [← hV]
 have x0 := (zd HX.out 0).trans rfl
 have x2 := (zd HX.out 2).trans rfl
 have HSC := zb.mk (Kd.zt HW.out.C HBV.out)
 clear hV
 refine yc (n := 11) (S := fun w' => w'.cell? ⟨w.heap.size, 0, none⟩ = some (.slice AC σ.C.length cC) ∧ w'.cell? ⟨w.heap.size, 2, none⟩ = some (.int .i64 σ.clk)) (ds := [10]) (bm 11 0) (by kernel_rfl) rfl rfl ⟨(za (ze (Below.refl _ _)) x0), (za (ze (Below.refl _ _)) x2)⟩ (fun hHeld => ?_)
 refine zl (i := 1) (N := some 9) (v := ?_) (a' := ?_) (bm 11 2) rfl rfl (by kernel_rfl) (fun _ _ _ h => h) (Or.inl ⟨by rfl, ?_⟩) ?_ ?_
 rotate_left
 ·intro w'
  go_simp
  with_reducible rfl
 rotate_left
 ·simp only [Act.put, List.setIfInBounds_toArray, List.set_cons_zero, List.set_cons_succ, zg, zh]
  rfl
 refine zl (i := 5) (N := some 13) (v := ?_) (a' := ?_) (bm 11 34) rfl rfl (by kernel_rfl) (fun _ _ _ h => h) (Or.inl ⟨by rfl, ?_⟩) ?_ ?_
 rotate_left
 ·intro w'
  go_simp
  with_reducible rfl
 rotate_left
 ·simp only [Act.put, List.setIfInBounds_toArray, List.set_cons_zero, List.set_cons_succ, zg, zh]
  rfl
 refine zA (i := 2) (N := some 10) (v := ?_) (a' := ?_) (bm 11 38) rfl rfl (by kernel_rfl) (fun _ _ _ h => h) (Or.inl ⟨by rfl, ?_⟩) hHeld ?_ ?_
 rotate_left
 ·rintro w' ⟨s0, s1⟩
  go_simp
  with_reducible rfl
 rotate_left
 ·simp only [Act.put, List.setIfInBounds_toArray, List.set_cons_zero, List.set_cons_succ, zg, zh]
  rfl
 refine zA (i := 6) (N := some 14) (v := ?_) (a' := ?_) (bm 11 102) rfl rfl (by kernel_rfl) (fun _ _ _ h => h) (Or.inl ⟨by rfl, ?_⟩) hHeld ?_ ?_
 rotate_left
 ·rintro w' ⟨s0, s1⟩
  go_simp
  with_reducible rfl
 rotate_left
 ·simp only [Act.put, List.setIfInBounds_toArray, List.set_cons_zero, List.set_cons_succ, zg, zh]
  rfl
 refine xc (σ := Nat × Option Addr × Nat × Nat × Nat × Nat) 1 (bm 11 1023) (fun s => [(8, .slice (some ⟨s.1, 0, none⟩) 0 0), (11, .slice s.2.1 σ.C.length s.2.2.1), (12, .slice (some ⟨s.2.2.2.1, 0, none⟩) 0 0), (15, .slice (some ⟨s.2.2.2.2.1, 0, none⟩) 0 0), (3, .pointer (some ⟨s.2.2.2.2.2, 0, none⟩)), (16, .agg #[.slice s.2.1 σ.C.length s.2.2.1, .slice (some ⟨s.2.2.2.1, 0, none⟩) 0 0, .int .i64 σ.clk, .slice (some ⟨s.2.2.2.2.1, 0, none⟩) 0 0])]) (fun s w' => Below V.heap.size V w' ∧ Kd.R k33 33 w' V.heap.size (fun _ => True) (.slice s.2.1 σ.C.length s.2.2.1) σ.C ∧ (V.heap.size ≤ s.2.2.2.1 ∧ w'.heap[s.2.2.2.1]? = some (.cells #[] 43 (0, 0))) ∧ (V.heap.size ≤ s.2.2.2.2.1 ∧ w'.heap[s.2.2.2.2.1]? = some (.cells #[] 50 (0, 0))) ∧ (V.heap.size ≤ s.2.2.2.2.2 ∧ w'.heap[s.2.2.2.2.2]? = some (.cells #[.slice none 0 0, .slice none 0 0, .int .i64 0, .slice none 0 0] 27 (0, 0)))) ?_ ?_
 rotate_left
 ·intro hJ0_3_4_7_9
  refine xc (σ := Nat × Option Addr × Nat × Nat × Nat) 2 (bm 11 511) (fun s => [(8, .slice (some ⟨s.1, 0, none⟩) 0 0), (11, .slice s.2.1 σ.C.length s.2.2.1), (12, .slice (some ⟨s.2.2.2.1, 0, none⟩) 0 0), (15, .slice (some ⟨s.2.2.2.2, 0, none⟩) 0 0), (16, .agg #[.slice s.2.1 σ.C.length s.2.2.1, .slice (some ⟨s.2.2.2.1, 0, none⟩) 0 0, .int .i64 σ.clk, .slice (some ⟨s.2.2.2.2, 0, none⟩) 0 0])]) (fun s w' => Below V.heap.size V w' ∧ Kd.R k33 33 w' V.heap.size (fun _ => True) (.slice s.2.1 σ.C.length s.2.2.1) σ.C ∧ (V.heap.size ≤ s.2.2.2.1 ∧ w'.heap[s.2.2.2.1]? = some (.cells #[] 43 (0, 0))) ∧ (V.heap.size ≤ s.2.2.2.2 ∧ w'.heap[s.2.2.2.2]? = some (.cells #[] 50 (0, 0)))) ?_ ?_
  rotate_left
  ·intro hJ0_3_4_7
   refine xc (σ := Nat × Option Addr × Nat × Nat × Nat) 3 (bm 11 639) (fun s => [(8, .slice (some ⟨s.1, 0, none⟩) 0 0), (11, .slice s.2.1 σ.C.length s.2.2.1), (12, .slice (some ⟨s.2.2.2.1, 0, none⟩) 0 0), (3, .pointer (some ⟨s.2.2.2.2, 0, none⟩))]) (fun s w' => Below V.heap.size V w' ∧ Kd.R k33 33 w' V.heap.size (fun _ => True) (.slice s.2.1 σ.C.length s.2.2.1) σ.C ∧ (V.heap.size ≤ s.2.2.2.1 ∧ w'.heap[s.2.2.2.1]? = some (.cells #[] 43 (0, 0))) ∧ (V.heap.size ≤ s.2.2.2.2 ∧ w'.heap[s.2.2.2.2]? = some (.cells #[.slice none 0 0, .slice none 0 0, .int .i64 0, .slice none 0 0] 27 (0, 0)))) ?_ ?_
   rotate_left
   ·intro hJ0_3_4_9
    refine xc (σ := Nat × Option Addr × Nat × Nat × Nat) 3 (bm 11 751) (fun s => [(8, .slice (some ⟨s.1, 0, none⟩) 0 0), (11, .slice s.2.1 σ.C.length s.2.2.1), (15, .slice (some ⟨s.2.2.2.1, 0, none⟩) 0 0), (3, .pointer (some ⟨s.2.2.2.2, 0, none⟩))]) (fun s w' => Below V.heap.size V w' ∧ Kd.R k33 33 w' V.heap.size (fun _ => True) (.slice s.2.1 σ.C.length s.2.2.1) σ.C ∧ (V.heap.size ≤ s.2.2.2.1 ∧ w'.heap[s.2.2.2.1]? = some (.cells #[] 50 (0, 0))) ∧ (V.heap.size ≤ s.2.2.2.2 ∧ w'.heap[s.2.2.2.2]? = some (.cells #[.slice none 0 0, .slice none 0 0, .int .i64 0, .slice none 0 0] 27 (0, 0)))) ?_ ?_
    rotate_left
    ·intro hJ0_3_7_9
     refine xc (σ := Nat × Nat × Nat × Nat) 3 (bm 11 759) (fun s => [(8, .slice (some ⟨s.1, 0, none⟩) 0 0), (12, .slice (some ⟨s.2.1, 0, none⟩) 0 0), (15, .slice (some ⟨s.2.2.1, 0, none⟩) 0 0), (3, .pointer (some ⟨s.2.2.2, 0, none⟩))]) (fun s w' => Below V.heap.size V w' ∧ (V.heap.size ≤ s.1 ∧ w'.heap[s.1]? = some (.cells #[] 33 (0, 0))) ∧ (V.heap.size ≤ s.2.1 ∧ w'.heap[s.2.1]? = some (.cells #[] 43 (0, 0))) ∧ (V.heap.size ≤ s.2.2.1 ∧ w'.heap[s.2.2.1]? = some (.cells #[] 50 (0, 0))) ∧ (V.heap.size ≤ s.2.2.2 ∧ w'.heap[s.2.2.2]? = some (.cells #[.slice none 0 0, .slice none 0 0, .int .i64 0, .slice none 0 0] 27 (0, 0)))) ?_ ?_
     rotate_left
     ·intro hJ0_4_7_9
      refine xc (σ := Nat × Option Addr × Nat × Nat) 4 (bm 11 127) (fun s => [(8, .slice (some ⟨s.1, 0, none⟩) 0 0), (11, .slice s.2.1 σ.C.length s.2.2.1), (12, .slice (some ⟨s.2.2.2, 0, none⟩) 0 0)]) (fun s w' => Below V.heap.size V w' ∧ Kd.R k33 33 w' V.heap.size (fun _ => True) (.slice s.2.1 σ.C.length s.2.2.1) σ.C ∧ (V.heap.size ≤ s.2.2.2 ∧ w'.heap[s.2.2.2]? = some (.cells #[] 43 (0, 0)))) ?_ ?_
      rotate_left
      ·intro hJ0_3_4
       refine xc (σ := Nat × Option Addr × Nat × Nat) 4 (bm 11 239) (fun s => [(8, .slice (some ⟨s.1, 0, none⟩) 0 0), (11, .slice s.2.1 σ.C.length s.2.2.1), (15, .slice (some ⟨s.2.2.2, 0, none⟩) 0 0)]) (fun s w' => Below V.heap.size V w' ∧ Kd.R k33 33 w' V.heap.size (fun _ => True) (.slice s.2.1 σ.C.length s.2.2.1) σ.C ∧ (V.heap.size ≤ s.2.2.2 ∧ w'.heap[s.2.2.2]? = some (.cells #[] 50 (0, 0)))) ?_ ?_
       rotate_left
       ·intro hJ0_3_7
        refine xc (σ := Nat × Option Addr × Nat × Nat) 4 (bm 11 623) (fun s => [(8, .slice (some ⟨s.1, 0, none⟩) 0 0), (11, .slice s.2.1 σ.C.length s.2.2.1), (3, .pointer (some ⟨s.2.2.2, 0, none⟩))]) (fun s w' => Below V.heap.size V w' ∧ Kd.R k33 33 w' V.heap.size (fun _ => True) (.slice s.2.1 σ.C.length s.2.2.1) σ.C ∧ (V.heap.size ≤ s.2.2.2 ∧ w'.heap[s.2.2.2]? = some (.cells #[.slice none 0 0, .slice none 0 0, .int .i64 0, .slice none 0 0] 27 (0, 0)))) ?_ ?_
        rotate_left
        ·intro hJ0_3_9
         refine xc (σ := Nat × Nat × Nat) 4 (bm 11 247) (fun s => [(8, .slice (some ⟨s.1, 0, none⟩) 0 0), (12, .slice (some ⟨s.2.1, 0, none⟩) 0 0), (15, .slice (some ⟨s.2.2, 0, none⟩) 0 0)]) (fun s w' => Below V.heap.size V w' ∧ (V.heap.size ≤ s.1 ∧ w'.heap[s.1]? = some (.cells #[] 33 (0, 0))) ∧ (V.heap.size ≤ s.2.1 ∧ w'.heap[s.2.1]? = some (.cells #[] 43 (0, 0))) ∧ (V.heap.size ≤ s.2.2 ∧ w'.heap[s.2.2]? = some (.cells #[] 50 (0, 0)))) ?_ ?_
         rotate_left
         ·intro hJ0_4_7
          refine xc (σ := Nat × Nat × Nat) 4 (bm 11 631) (fun s => [(8, .slice (some ⟨s.1, 0, none⟩) 0 0), (12, .slice (some ⟨s.2.1, 0, none⟩) 0 0), (3, .pointer (some ⟨s.2.2, 0, none⟩))]) (fun s w' => Below V.heap.size V w' ∧ (V.heap.size ≤ s.1 ∧ w'.heap[s.1]? = some (.cells #[] 33 (0, 0))) ∧ (V.heap.size ≤ s.2.1 ∧ w'.heap[s.2.1]? = some (.cells #[] 43 (0, 0))) ∧ (V.heap.size ≤ s.2.2 ∧ w'.heap[s.2.2]? = some (.cells #[.slice none 0 0, .slice none 0 0, .int .i64 0, .slice none 0 0] 27 (0, 0)))) ?_ ?_
          rotate_left
          ·intro hJ0_4_9
           refine xc (σ := Nat × Nat × Nat) 4 (bm 11 743) (fun s => [(8, .slice (some ⟨s.1, 0, none⟩) 0 0), (15, .slice (some ⟨s.2.1, 0, none⟩) 0 0), (3, .pointer (some ⟨s.2.2, 0, none⟩))]) (fun s w' => Below V.heap.size V w' ∧ (V.heap.size ≤ s.1 ∧ w'.heap[s.1]? = some (.cells #[] 33 (0, 0))) ∧ (V.heap.size ≤ s.2.1 ∧ w'.heap[s.2.1]? = some (.cells #[] 50 (0, 0))) ∧ (V.heap.size ≤ s.2.2 ∧ w'.heap[s.2.2]? = some (.cells #[.slice none 0 0, .slice none 0 0, .int .i64 0, .slice none 0 0] 27 (0, 0)))) ?_ ?_
           rotate_left
           ·intro hJ0_7_9
            refine xc (σ := Nat × Nat × Nat) 4 (bm 11 758) (fun s => [(12, .slice (some ⟨s.1, 0, none⟩) 0 0), (15, .slice (some ⟨s.2.1, 0, none⟩) 0 0), (3, .pointer (some ⟨s.2.2, 0, none⟩))]) (fun s w' => Below V.heap.size V w' ∧ (V.heap.size ≤ s.1 ∧ w'.heap[s.1]? = some (.cells #[] 43 (0, 0))) ∧ (V.heap.size ≤ s.2.1 ∧ w'.heap[s.2.1]? = some (.cells #[] 50 (0, 0))) ∧ (V.heap.size ≤ s.2.2 ∧ w'.heap[s.2.2]? = some (.cells #[.slice none 0 0, .slice none 0 0, .int .i64 0, .slice none 0 0] 27 (0, 0)))) ?_ ?_
            rotate_left
            ·intro hJ4_7_9
             refine xc (σ := Nat × Option Addr × Nat) 5 (bm 11 111) (fun s => [(8, .slice (some ⟨s.1, 0, none⟩) 0 0), (11, .slice s.2.1 σ.C.length s.2.2)]) (fun s w' => Below V.heap.size V w' ∧ Kd.R k33 33 w' V.heap.size (fun _ => True) (.slice s.2.1 σ.C.length s.2.2) σ.C) ?_ ?_
             rotate_left
             ·intro hJ0_3
              refine xc (σ := Nat × Nat) 5 (bm 11 119) (fun s => [(8, .slice (some ⟨s.1, 0, none⟩) 0 0), (12, .slice (some ⟨s.2, 0, none⟩) 0 0)]) (fun s w' => Below V.heap.size V w' ∧ (V.heap.size ≤ s.1 ∧ w'.heap[s.1]? = some (.cells #[] 33 (0, 0))) ∧ (V.heap.size ≤ s.2 ∧ w'.heap[s.2]? = some (.cells #[] 43 (0, 0)))) ?_ ?_
              rotate_left
              ·intro hJ0_4
               refine xc (σ := Nat × Nat) 5 (bm 11 231) (fun s => [(8, .slice (some ⟨s.1, 0, none⟩) 0 0), (15, .slice (some ⟨s.2, 0, none⟩) 0 0)]) (fun s w' => Below V.heap.size V w' ∧ (V.heap.size ≤ s.1 ∧ w'.heap[s.1]? = some (.cells #[] 33 (0, 0))) ∧ (V.heap.size ≤ s.2 ∧ w'.heap[s.2]? = some (.cells #[] 50 (0, 0)))) ?_ ?_
               rotate_left
               ·intro hJ0_7
                refine xc (σ := Nat × Nat) 5 (bm 11 615) (fun s => [(8, .slice (some ⟨s.1, 0, none⟩) 0 0), (3, .pointer (some ⟨s.2, 0, none⟩))]) (fun s w' => Below V.heap.size V w' ∧ (V.heap.size ≤ s.1 ∧ w'.heap[s.1]? = some (.cells #[] 33 (0, 0))) ∧ (V.heap.size ≤ s.2 ∧ w'.heap[s.2]? = some (.cells #[.slice none 0 0, .slice none 0 0, .int .i64 0, .slice none 0 0] 27 (0, 0)))) ?_ ?_
                rotate_left
                ·intro hJ0_9
                 refine xc (σ := Nat × Nat) 5 (bm 11 246) (fun s => [(12, .slice (some ⟨s.1, 0, none⟩) 0 0), (15, .slice (some ⟨s.2, 0, none⟩) 0 0)]) (fun s w' => Below V.heap.size V w' ∧ (V.heap.size ≤ s.1 ∧ w'.heap[s.1]? = some (.cells #[] 43 (0, 0))) ∧ (V.heap.size ≤ s.2 ∧ w'.heap[s.2]? = some (.cells #[] 50 (0, 0)))) ?_ ?_
                 rotate_left
                 ·intro hJ4_7
                  refine xc (σ := Nat × Nat) 5 (bm 11 630) (fun s => [(12, .slice (some ⟨s.1, 0, none⟩) 0 0), (3, .pointer (some ⟨s.2, 0, none⟩))]) (fun s w' => Below V.heap.size V w' ∧ (V.heap.size ≤ s.1 ∧ w'.heap[s.1]? = some (.cells #[] 43 (0, 0))) ∧ (V.heap.size ≤ s.2 ∧ w'.heap[s.2]? = some (.cells #[.slice none 0 0, .slice none 0 0, .int .i64 0, .slice none 0 0] 27 (0, 0)))) ?_ ?_
                  rotate_left
                  ·intro hJ4_9
                   refine xc (σ := Nat × Nat) 5 (bm 11 742) (fun s => [(15, .slice (some ⟨s.1, 0, none⟩) 0 0), (3, .pointer (some ⟨s.2, 0, none⟩))]) (fun s w' => Below V.heap.size V w' ∧ (V.heap.size ≤ s.1 ∧ w'.heap[s.1]? = some (.cells #[] 50 (0, 0))) ∧ (V.heap.size ≤ s.2 ∧ w'.heap[s.2]? = some (.cells #[.slice none 0 0, .slice none 0 0, .int .i64 0, .slice none 0 0] 27 (0, 0)))) ?_ ?_
                   rotate_left
                   ·intro hJ7_9
                    refine xc (σ := Nat) 6 (bm 11 103) (fun s => [(8, .slice (some ⟨s, 0, none⟩) 0 0)]) (fun s w' => Below V.heap.size V w' ∧ (V.heap.size ≤ s ∧ w'.heap[s]? = some (.cells #[] 33 (0, 0)))) ?_ ?_
                    rotate_left
                    ·intro hJ0
                     refine xc (σ := Nat) 6 (bm 11 118) (fun s => [(12, .slice (some ⟨s, 0, none⟩) 0 0)]) (fun s w' => Below V.heap.size V w' ∧ (V.heap.size ≤ s ∧ w'.heap[s]? = some (.cells #[] 43 (0, 0)))) ?_ ?_
                     rotate_left
                     ·intro hJ4
                      refine xc (σ := Nat) 6 (bm 11 230) (fun s => [(15, .slice (some ⟨s, 0, none⟩) 0 0)]) (fun s w' => Below V.heap.size V w' ∧ (V.heap.size ≤ s ∧ w'.heap[s]? = some (.cells #[] 50 (0, 0)))) ?_ ?_
                      rotate_left
                      ·intro hJ7
                       refine xc (σ := Nat) 6 (bm 11 614) (fun s => [(3, .pointer (some ⟨s, 0, none⟩))]) (fun s w' => Below V.heap.size V w' ∧ (V.heap.size ≤ s ∧ w'.heap[s]? = some (.cells #[.slice none 0 0, .slice none 0 0, .int .i64 0, .slice none 0 0] 27 (0, 0)))) ?_ ?_
                       rotate_left
                       ·intro hJ9
                        refine four_ (i := 0) (j := 4) (k := 7) (m := 9) (Ni := some 8) (Nj := some 12) (Nk := some 15) (Nm := some 3) (bm 11 103) (bm 11 118) (bm 11 230) (bm 11 614) rfl rfl rfl rfl rfl rfl rfl rfl (by kernel_rfl) (by decide) (by decide) (by decide) (by decide) (fun K hK => ?_) (fun K hK => ?_) (fun K hK => ?_) (fun K hK => ?_)
                        ·skip
                         refine zI (w1 := ?_) (v := ?_) (by rfl) rfl ?_ ?_
                         rotate_left 2
                         ·go_simp
                          constructor
                          ·rfl
                          ·rfl
                         refine hK.out _ _ ⟨(za (zc (ze (Below.refl V.heap.size V)) _) x0), (za (zc (ze (Below.refl V.heap.size V)) _) x2)⟩ (fun hHeld => ?_)
                         clear hK K
                         refine zp (a' := ?_) ?_ ?_
                         rotate_left
                         ·show Act.put _ (some 8) _ = _
                          simp only [Act.put, List.setIfInBounds_toArray, List.set_cons_zero, List.set_cons_succ, zg, zh]
                          rfl
                         exact zp (by first | (simp only [zq, Act.put, List.setIfInBounds_toArray, List.set_cons_zero, List.set_cons_succ]; done) | (simp only [zq, Act.put, List.setIfInBounds_toArray, List.set_cons_zero, List.set_cons_succ]; rfl)) (hJ0 V.drew.heap.size _ ⟨zc (ze (Below.refl V.heap.size V)) _, ⟨(ze (Below.refl V.heap.size V)).size, heap_alloc_new _ _⟩⟩)
                        ·skip
                         refine zI (w1 := ?_) (v := ?_) (by rfl) rfl ?_ ?_
                         rotate_left 2
                         ·go_simp
                          constructor
                          ·rfl
                          ·rfl
                         refine hK.out _ _ ⟨(za (zc (ze (Below.refl V.heap.size V)) _) x0), (za (zc (ze (Below.refl V.heap.size V)) _) x2)⟩ (fun hHeld => ?_)
                         clear hK K
                         refine zp (a' := ?_) ?_ ?_
                         rotate_left
                         ·show Act.put _ (some 12) _ = _
                          simp only [Act.put, List.setIfInBounds_toArray, List.set_cons_zero, List.set_cons_succ, zg, zh]
                          rfl
                         exact zp (by first | (simp only [zq, Act.put, List.setIfInBounds_toArray, List.set_cons_zero, List.set_cons_succ]; done) | (simp only [zq, Act.put, List.setIfInBounds_toArray, List.set_cons_zero, List.set_cons_succ]; rfl)) (hJ4 V.drew.heap.size _ ⟨zc (ze (Below.refl V.heap.size V)) _, ⟨(ze (Below.refl V.heap.size V)).size, heap_alloc_new _ _⟩⟩)
                        ·skip
                         refine zI (w1 := ?_) (v := ?_) (by rfl) rfl ?_ ?_
                         rotate_left 2
                         ·go_simp
                          constructor
                          ·rfl
                          ·rfl
                         refine hK.out _ _ ⟨(za (zc (ze (Below.refl V.heap.size V)) _) x0), (za (zc (ze (Below.refl V.heap.size V)) _) x2)⟩ (fun hHeld => ?_)
                         clear hK K
                         refine zp (a' := ?_) ?_ ?_
                         rotate_left
                         ·show Act.put _ (some 15) _ = _
                          simp only [Act.put, List.setIfInBounds_toArray, List.set_cons_zero, List.set_cons_succ, zg, zh]
                          rfl
                         exact zp (by first | (simp only [zq, Act.put, List.setIfInBounds_toArray, List.set_cons_zero, List.set_cons_succ]; done) | (simp only [zq, Act.put, List.setIfInBounds_toArray, List.set_cons_zero, List.set_cons_succ]; rfl)) (hJ7 V.drew.heap.size _ ⟨zc (ze (Below.refl V.heap.size V)) _, ⟨(ze (Below.refl V.heap.size V)).size, heap_alloc_new _ _⟩⟩)
                        ·skip
                         refine zI (w1 := ?_) (v := ?_) (by rfl) rfl ?_ ?_
                         rotate_left 2
                         ·go_simp
                          constructor
                          ·rfl
                          ·rfl
                         refine hK.out _ _ ⟨(za (zc (ze (Below.refl V.heap.size V)) _) x0), (za (zc (ze (Below.refl V.heap.size V)) _) x2)⟩ (fun hHeld => ?_)
                         clear hK K
                         refine zp (a' := ?_) ?_ ?_
                         rotate_left
                         ·show Act.put _ (some 3) _ = _
                          simp only [Act.put, List.setIfInBounds_toArray, List.set_cons_zero, List.set_cons_succ, zg, zh]
                          rfl
                         exact zp (by first | (simp only [zq, Act.put, List.setIfInBounds_toArray, List.set_cons_zero, List.set_cons_succ]; done) | (simp only [zq, Act.put, List.setIfInBounds_toArray, List.set_cons_zero, List.set_cons_succ]; rfl)) (hJ9 V.drew.heap.size _ ⟨zc (ze (Below.refl V.heap.size V)) _, ⟨(ze (Below.refl V.heap.size V)).size, heap_alloc_new _ _⟩⟩)
                       ·skip
                        rintro b9 X9 ⟨HB, H9⟩
                        have hHeld : X9.cell? ⟨w.heap.size, 0, none⟩ = some (.slice AC σ.C.length cC) ∧ X9.cell? ⟨w.heap.size, 2, none⟩ = some (.int .i64 σ.clk) := ⟨za HB x0, za HB x2⟩
                        have hB := zb.mk HB
                        have h9 := zb.mk H9
                        clear HB H9
                        refine zp (a' := ?_) ?_ ?_
                        rotate_left
                        ·simp only [zq, Act.put, List.setIfInBounds_toArray, List.set_cons_zero, List.set_cons_succ]
                         rfl
                        refine three_ (i := 0) (j := 4) (k := 7) (Ni := some 8) (Nj := some 12) (Nk := some 15) (bm 11 615) (bm 11 630) (bm 11 742) rfl rfl rfl rfl rfl rfl (by kernel_rfl) (by decide) (by decide) (by decide) (fun K hK => ?_) (fun K hK => ?_) (fun K hK => ?_)
                        ·skip
                         refine zI (w1 := ?_) (v := ?_) (by rfl) rfl ?_ ?_
                         rotate_left 2
                         ·go_simp
                          constructor
                          ·rfl
                          ·rfl
                         refine hK.out _ _ ⟨(za (zc hB.out _) x0), (za (zc hB.out _) x2)⟩ (fun hHeld => ?_)
                         clear hK K
                         refine zp (a' := ?_) ?_ ?_
                         rotate_left
                         ·show Act.put _ (some 8) _ = _
                          simp only [Act.put, List.setIfInBounds_toArray, List.set_cons_zero, List.set_cons_succ, zg, zh]
                          rfl
                         exact zp (by first | (simp only [zq, Act.put, List.setIfInBounds_toArray, List.set_cons_zero, List.set_cons_succ]; done) | (simp only [zq, Act.put, List.setIfInBounds_toArray, List.set_cons_zero, List.set_cons_succ]; rfl)) (hJ0_9 (X9.heap.size, b9) _ ⟨zc hB.out _, ⟨hB.out.size, heap_alloc_new _ _⟩, ⟨h9.out.1, zm h9.out.2 _⟩⟩)
                        ·skip
                         refine zI (w1 := ?_) (v := ?_) (by rfl) rfl ?_ ?_
                         rotate_left 2
                         ·go_simp
                          constructor
                          ·rfl
                          ·rfl
                         refine hK.out _ _ ⟨(za (zc hB.out _) x0), (za (zc hB.out _) x2)⟩ (fun hHeld => ?_)
                         clear hK K
                         refine zp (a' := ?_) ?_ ?_
                         rotate_left
                         ·show Act.put _ (some 12) _ = _
                          simp only [Act.put, List.setIfInBounds_toArray, List.set_cons_zero, List.set_cons_succ, zg, zh]
                          rfl
                         exact zp (by first | (simp only [zq, Act.put, List.setIfInBounds_toArray, List.set_cons_zero, List.set_cons_succ]; done) | (simp only [zq, Act.put, List.setIfInBounds_toArray, List.set_cons_zero, List.set_cons_succ]; rfl)) (hJ4_9 (X9.heap.size, b9) _ ⟨zc hB.out _, ⟨hB.out.size, heap_alloc_new _ _⟩, ⟨h9.out.1, zm h9.out.2 _⟩⟩)
                        ·skip
                         refine zI (w1 := ?_) (v := ?_) (by rfl) rfl ?_ ?_
                         rotate_left 2
                         ·go_simp
                          constructor
                          ·rfl
                          ·rfl
                         refine hK.out _ _ ⟨(za (zc hB.out _) x0), (za (zc hB.out _) x2)⟩ (fun hHeld => ?_)
                         clear hK K
                         refine zp (a' := ?_) ?_ ?_
                         rotate_left
                         ·show Act.put _ (some 15) _ = _
                          simp only [Act.put, List.setIfInBounds_toArray, List.set_cons_zero, List.set_cons_succ, zg, zh]
                          rfl
                         exact zp (by first | (simp only [zq, Act.put, List.setIfInBounds_toArray, List.set_cons_zero, List.set_cons_succ]; done) | (simp only [zq, Act.put, List.setIfInBounds_toArray, List.set_cons_zero, List.set_cons_succ]; rfl)) (hJ7_9 (X9.heap.size, b9) _ ⟨zc hB.out _, ⟨hB.out.size, heap_alloc_new _ _⟩, ⟨h9.out.1, zm h9.out.2 _⟩⟩)
                      ·skip
                       rintro b7 X7 ⟨HB, H7⟩
                       have hHeld : X7.cell? ⟨w.heap.size, 0, none⟩ = some (.slice AC σ.C.length cC) ∧ X7.cell? ⟨w.heap.size, 2, none⟩ = some (.int .i64 σ.clk) := ⟨za HB x0, za HB x2⟩
                       have hB := zb.mk HB
                       have h7 := zb.mk H7
                       clear HB H7
                       refine zp (a' := ?_) ?_ ?_
                       rotate_left
                       ·simp only [zq, Act.put, List.setIfInBounds_toArray, List.set_cons_zero, List.set_cons_succ]
                        rfl
                       refine three_ (i := 0) (j := 4) (k := 9) (Ni := some 8) (Nj := some 12) (Nk := some 3) (bm 11 231) (bm 11 246) (bm 11 742) rfl rfl rfl rfl rfl rfl (by kernel_rfl) (by decide) (by decide) (by decide) (fun K hK => ?_) (fun K hK => ?_) (fun K hK => ?_)
                       ·skip
                        refine zI (w1 := ?_) (v := ?_) (by rfl) rfl ?_ ?_
                        rotate_left 2
                        ·go_simp
                         constructor
                         ·rfl
                         ·rfl
                        refine hK.out _ _ ⟨(za (zc hB.out _) x0), (za (zc hB.out _) x2)⟩ (fun hHeld => ?_)
                        clear hK K
                        refine zp (a' := ?_) ?_ ?_
                        rotate_left
                        ·show Act.put _ (some 8) _ = _
                         simp only [Act.put, List.setIfInBounds_toArray, List.set_cons_zero, List.set_cons_succ, zg, zh]
                         rfl
                        exact zp (by first | (simp only [zq, Act.put, List.setIfInBounds_toArray, List.set_cons_zero, List.set_cons_succ]; done) | (simp only [zq, Act.put, List.setIfInBounds_toArray, List.set_cons_zero, List.set_cons_succ]; rfl)) (hJ0_7 (X7.heap.size, b7) _ ⟨zc hB.out _, ⟨hB.out.size, heap_alloc_new _ _⟩, ⟨h7.out.1, zm h7.out.2 _⟩⟩)
                       ·skip
                        refine zI (w1 := ?_) (v := ?_) (by rfl) rfl ?_ ?_
                        rotate_left 2
                        ·go_simp
                         constructor
                         ·rfl
                         ·rfl
                        refine hK.out _ _ ⟨(za (zc hB.out _) x0), (za (zc hB.out _) x2)⟩ (fun hHeld => ?_)
                        clear hK K
                        refine zp (a' := ?_) ?_ ?_
                        rotate_left
                        ·show Act.put _ (some 12) _ = _
                         simp only [Act.put, List.setIfInBounds_toArray, List.set_cons_zero, List.set_cons_succ, zg, zh]
                         rfl
                        exact zp (by first | (simp only [zq, Act.put, List.setIfInBounds_toArray, List.set_cons_zero, List.set_cons_succ]; done) | (simp only [zq, Act.put, List.setIfInBounds_toArray, List.set_cons_zero, List.set_cons_succ]; rfl)) (hJ4_7 (X7.heap.size, b7) _ ⟨zc hB.out _, ⟨hB.out.size, heap_alloc_new _ _⟩, ⟨h7.out.1, zm h7.out.2 _⟩⟩)
                       ·skip
                        refine zI (w1 := ?_) (v := ?_) (by rfl) rfl ?_ ?_
                        rotate_left 2
                        ·go_simp
                         constructor
                         ·rfl
                         ·rfl
                        refine hK.out _ _ ⟨(za (zc hB.out _) x0), (za (zc hB.out _) x2)⟩ (fun hHeld => ?_)
                        clear hK K
                        refine zp (a' := ?_) ?_ ?_
                        rotate_left
                        ·show Act.put _ (some 3) _ = _
                         simp only [Act.put, List.setIfInBounds_toArray, List.set_cons_zero, List.set_cons_succ, zg, zh]
                         rfl
                        exact zp (by first | (simp only [zq, Act.put, List.setIfInBounds_toArray, List.set_cons_zero, List.set_cons_succ]; done) | (simp only [zq, Act.put, List.setIfInBounds_toArray, List.set_cons_zero, List.set_cons_succ]; rfl)) (hJ7_9 (b7, X7.heap.size) _ ⟨zc hB.out _, ⟨h7.out.1, zm h7.out.2 _⟩, ⟨hB.out.size, heap_alloc_new _ _⟩⟩)
                     ·skip
                      rintro b4 X4 ⟨HB, H4⟩
                      have hHeld : X4.cell? ⟨w.heap.size, 0, none⟩ = some (.slice AC σ.C.length cC) ∧ X4.cell? ⟨w.heap.size, 2, none⟩ = some (.int .i64 σ.clk) := ⟨za HB x0, za HB x2⟩
                      have hB := zb.mk HB
                      have h4 := zb.mk H4
                      clear HB H4
                      refine zp (a' := ?_) ?_ ?_
                      rotate_left
                      ·simp only [zq, Act.put, List.setIfInBounds_toArray, List.set_cons_zero, List.set_cons_succ]
                       rfl
                      refine three_ (i := 0) (j := 7) (k := 9) (Ni := some 8) (Nj := some 15) (Nk := some 3) (bm 11 119) (bm 11 246) (bm 11 630) rfl rfl rfl rfl rfl rfl (by kernel_rfl) (by decide) (by decide) (by decide) (fun K hK => ?_) (fun K hK => ?_) (fun K hK => ?_)
                      ·skip
                       refine zI (w1 := ?_) (v := ?_) (by rfl) rfl ?_ ?_
                       rotate_left 2
                       ·go_simp
                        constructor
                        ·rfl
                        ·rfl
                       refine hK.out _ _ ⟨(za (zc hB.out _) x0), (za (zc hB.out _) x2)⟩ (fun hHeld => ?_)
                       clear hK K
                       refine zp (a' := ?_) ?_ ?_
                       rotate_left
                       ·show Act.put _ (some 8) _ = _
                        simp only [Act.put, List.setIfInBounds_toArray, List.set_cons_zero, List.set_cons_succ, zg, zh]
                        rfl
                       exact zp (by first | (simp only [zq, Act.put, List.setIfInBounds_toArray, List.set_cons_zero, List.set_cons_succ]; done) | (simp only [zq, Act.put, List.setIfInBounds_toArray, List.set_cons_zero, List.set_cons_succ]; rfl)) (hJ0_4 (X4.heap.size, b4) _ ⟨zc hB.out _, ⟨hB.out.size, heap_alloc_new _ _⟩, ⟨h4.out.1, zm h4.out.2 _⟩⟩)
                      ·skip
                       refine zI (w1 := ?_) (v := ?_) (by rfl) rfl ?_ ?_
                       rotate_left 2
                       ·go_simp
                        constructor
                        ·rfl
                        ·rfl
                       refine hK.out _ _ ⟨(za (zc hB.out _) x0), (za (zc hB.out _) x2)⟩ (fun hHeld => ?_)
                       clear hK K
                       refine zp (a' := ?_) ?_ ?_
                       rotate_left
                       ·show Act.put _ (some 15) _ = _
                        simp only [Act.put, List.setIfInBounds_toArray, List.set_cons_zero, List.set_cons_succ, zg, zh]
                        rfl
                       exact zp (by first | (simp only [zq, Act.put, List.setIfInBounds_toArray, List.set_cons_zero, List.set_cons_succ]; done) | (simp only [zq, Act.put, List.setIfInBounds_toArray, List.set_cons_zero, List.set_cons_succ]; rfl)) (hJ4_7 (b4, X4.heap.size) _ ⟨zc hB.out _, ⟨h4.out.1, zm h4.out.2 _⟩, ⟨hB.out.size, heap_alloc_new _ _⟩⟩)
                      ·skip
                       refine zI (w1 := ?_) (v := ?_) (by rfl) rfl ?_ ?_
                       rotate_left 2
                       ·go_simp
                        constructor
                        ·rfl
                        ·rfl
                       refine hK.out _ _ ⟨(za (zc hB.out _) x0), (za (zc hB.out _) x2)⟩ (fun hHeld => ?_)
                       clear hK K
                       refine zp (a' := ?_) ?_ ?_
                       rotate_left
                       ·show Act.put _ (some 3) _ = _
                        simp only [Act.put, List.setIfInBounds_toArray, List.set_cons_zero, List.set_cons_succ, zg, zh]
                        rfl
                       exact zp (by first | (simp only [zq, Act.put, List.setIfInBounds_toArray, List.set_cons_zero, List.set_cons_succ]; done) | (simp only [zq, Act.put, List.setIfInBounds_toArray, List.set_cons_zero, List.set_cons_succ]; rfl)) (hJ4_9 (b4, X4.heap.size) _ ⟨zc hB.out _, ⟨h4.out.1, zm h4.out.2 _⟩, ⟨hB.out.size, heap_alloc_new _ _⟩⟩)
                    ·skip
                     rintro b0 X0 ⟨HB, H0⟩
                     have hHeld : X0.cell? ⟨w.heap.size, 0, none⟩ = some (.slice AC σ.C.length cC) ∧ X0.cell? ⟨w.heap.size, 2, none⟩ = some (.int .i64 σ.clk) := ⟨za HB x0, za HB x2⟩
                     have hB := zb.mk HB
                     have h0 := zb.mk H0
                     clear HB H0
                     refine zp (a' := ?_) ?_ ?_
                     rotate_left
                     ·simp only [zq, Act.put, List.setIfInBounds_toArray, List.set_cons_zero, List.set_cons_succ]
                      rfl
                     refine four_ (i := 3) (j := 4) (k := 7) (m := 9) (Ni := some 11) (Nj := some 12) (Nk := some 15) (Nm := some 3) (bm 11 111) (bm 11 119) (bm 11 231) (bm 11 615) rfl rfl rfl rfl rfl rfl rfl rfl (by kernel_rfl) (by decide) (by decide) (by decide) (by decide) (fun K hK => ?_) (fun K hK => ?_) (fun K hK => ?_) (fun K hK => ?_)
                     ·skip
                      refine Kd.zY k33 (w0 := V) V.heap.size (by rfl) (.tmp 8) (.tmp 10) 23 33 _ _ (by rfl) Try.underlying23 info33 (by rfl) (by decide) (by decide) (.slice (some ⟨b0, 0, none⟩) 0 0) [] σ.C AC σ.C.length cC (fun _ => True) (fun _ => False) (by rfl) (by rfl) (yz h0.out.2 h0.out.1 trivial) (Kd.zt HSC.out hB.out) (fun x cs h => by rw [wi h]; exact k33_mkM _ _ _ x) (fun _ h => h.elim) (fun _ _ => trivial) hB.out (by exact Nat.le_trans (show V.heap.size ≤ _ from hB.out.size) (Nat.le_refl _)) (by have := HLC.out; simp; omega) ?_
                      intro va wa hra hba hga hata
                      obtain ⟨AA, cA, rfl⟩ := Kd.zJ hra
                      refine hK.out _ _ ⟨(za hba x0), (za hba x2)⟩ (fun hHeld => ?_)
                      clear hK K
                      refine zp (a' := ?_) ?_ ?_
                      rotate_left
                      ·show Act.put _ (some 11) _ = _
                       simp only [Act.put, List.setIfInBounds_toArray, List.set_cons_zero, List.set_cons_succ, zg, zh]
                       rfl
                      exact zp (by first | (simp only [zq, Act.put, List.setIfInBounds_toArray, List.set_cons_zero, List.set_cons_succ]; done) | (simp only [zq, Act.put, List.setIfInBounds_toArray, List.set_cons_zero, List.set_cons_succ]; rfl)) (hJ0_3 (b0, AA, cA) _ ⟨hba, hra⟩)
                     ·skip
                      refine zI (w1 := ?_) (v := ?_) (by rfl) rfl ?_ ?_
                      rotate_left 2
                      ·go_simp
                       constructor
                       ·rfl
                       ·rfl
                      refine hK.out _ _ ⟨(za (zc hB.out _) x0), (za (zc hB.out _) x2)⟩ (fun hHeld => ?_)
                      clear hK K
                      refine zp (a' := ?_) ?_ ?_
                      rotate_left
                      ·show Act.put _ (some 12) _ = _
                       simp only [Act.put, List.setIfInBounds_toArray, List.set_cons_zero, List.set_cons_succ, zg, zh]
                       rfl
                      exact zp (by first | (simp only [zq, Act.put, List.setIfInBounds_toArray, List.set_cons_zero, List.set_cons_succ]; done) | (simp only [zq, Act.put, List.setIfInBounds_toArray, List.set_cons_zero, List.set_cons_succ]; rfl)) (hJ0_4 (b0, X0.heap.size) _ ⟨zc hB.out _, ⟨h0.out.1, zm h0.out.2 _⟩, ⟨hB.out.size, heap_alloc_new _ _⟩⟩)
                     ·skip
                      refine zI (w1 := ?_) (v := ?_) (by rfl) rfl ?_ ?_
                      rotate_left 2
                      ·go_simp
                       constructor
                       ·rfl
                       ·rfl
                      refine hK.out _ _ ⟨(za (zc hB.out _) x0), (za (zc hB.out _) x2)⟩ (fun hHeld => ?_)
                      clear hK K
                      refine zp (a' := ?_) ?_ ?_
                      rotate_left
                      ·show Act.put _ (some 15) _ = _
                       simp only [Act.put, List.setIfInBounds_toArray, List.set_cons_zero, List.set_cons_succ, zg, zh]
                       rfl
                      exact zp (by first | (simp only [zq, Act.put, List.setIfInBounds_toArray, List.set_cons_zero, List.set_cons_succ]; done) | (simp only [zq, Act.put, List.setIfInBounds_toArray, List.set_cons_zero, List.set_cons_succ]; rfl)) (hJ0_7 (b0, X0.heap.size) _ ⟨zc hB.out _, ⟨h0.out.1, zm h0.out.2 _⟩, ⟨hB.out.size, heap_alloc_new _ _⟩⟩)
                     ·skip
                      refine zI (w1 := ?_) (v := ?_) (by rfl) rfl ?_ ?_
                      rotate_left 2
                      ·go_simp
                       constructor
                       ·rfl
                       ·rfl
                      refine hK.out _ _ ⟨(za (zc hB.out _) x0), (za (zc hB.out _) x2)⟩ (fun hHeld => ?_)
                      clear hK K
                      refine zp (a' := ?_) ?_ ?_
                      rotate_left
                      ·show Act.put _ (some 3) _ = _
                       simp only [Act.put, List.setIfInBounds_toArray, List.set_cons_zero, List.set_cons_succ, zg, zh]
                       rfl
                      exact zp (by first | (simp only [zq, Act.put, List.setIfInBounds_toArray, List.set_cons_zero, List.set_cons_succ]; done) | (simp only [zq, Act.put, List.setIfInBounds_toArray, List.set_cons_zero, List.set_cons_succ]; rfl)) (hJ0_9 (b0, X0.heap.size) _ ⟨zc hB.out _, ⟨h0.out.1, zm h0.out.2 _⟩, ⟨hB.out.size, heap_alloc_new _ _⟩⟩)
                   ·skip
                    rintro ⟨b7, b9⟩ X7_9 ⟨HB, H7, H9⟩
                    have hHeld : X7_9.cell? ⟨w.heap.size, 0, none⟩ = some (.slice AC σ.C.length cC) ∧ X7_9.cell? ⟨w.heap.size, 2, none⟩ = some (.int .i64 σ.clk) := ⟨za HB x0, za HB x2⟩
                    have hB := zb.mk HB
                    have h7 := zb.mk H7
                    have h9 := zb.mk H9
                    clear HB H7 H9
                    refine zp (a' := ?_) ?_ ?_
                    rotate_left
                    ·simp only [zq, Act.put, List.setIfInBounds_toArray, List.set_cons_zero, List.set_cons_succ]
                     rfl
                    refine two_ (i := 0) (j := 4) (Ni := some 8) (Nj := some 12) (bm 11 743) (bm 11 758) rfl rfl rfl rfl (by kernel_rfl) (by decide) (by decide) (fun K hK => ?_) (fun K hK => ?_)
                    ·skip
                     refine zI (w1 := ?_) (v := ?_) (by rfl) rfl ?_ ?_
                     rotate_left 2
                     ·go_simp
                      constructor
                      ·rfl
                      ·rfl
                     refine hK.out _ _ ⟨(za (zc hB.out _) x0), (za (zc hB.out _) x2)⟩ (fun hHeld => ?_)
                     clear hK K
                     refine zp (a' := ?_) ?_ ?_
                     rotate_left
                     ·show Act.put _ (some 8) _ = _
                      simp only [Act.put, List.setIfInBounds_toArray, List.set_cons_zero, List.set_cons_succ, zg, zh]
                      rfl
                     exact zp (by first | (simp only [zq, Act.put, List.setIfInBounds_toArray, List.set_cons_zero, List.set_cons_succ]; done) | (simp only [zq, Act.put, List.setIfInBounds_toArray, List.set_cons_zero, List.set_cons_succ]; rfl)) (hJ0_7_9 (X7_9.heap.size, b7, b9) _ ⟨zc hB.out _, ⟨hB.out.size, heap_alloc_new _ _⟩, ⟨h7.out.1, zm h7.out.2 _⟩, ⟨h9.out.1, zm h9.out.2 _⟩⟩)
                    ·skip
                     refine zI (w1 := ?_) (v := ?_) (by rfl) rfl ?_ ?_
                     rotate_left 2
                     ·go_simp
                      constructor
                      ·rfl
                      ·rfl
                     refine hK.out _ _ ⟨(za (zc hB.out _) x0), (za (zc hB.out _) x2)⟩ (fun hHeld => ?_)
                     clear hK K
                     refine zp (a' := ?_) ?_ ?_
                     rotate_left
                     ·show Act.put _ (some 12) _ = _
                      simp only [Act.put, List.setIfInBounds_toArray, List.set_cons_zero, List.set_cons_succ, zg, zh]
                      rfl
                     exact zp (by first | (simp only [zq, Act.put, List.setIfInBounds_toArray, List.set_cons_zero, List.set_cons_succ]; done) | (simp only [zq, Act.put, List.setIfInBounds_toArray, List.set_cons_zero, List.set_cons_succ]; rfl)) (hJ4_7_9 (X7_9.heap.size, b7, b9) _ ⟨zc hB.out _, ⟨hB.out.size, heap_alloc_new _ _⟩, ⟨h7.out.1, zm h7.out.2 _⟩, ⟨h9.out.1, zm h9.out.2 _⟩⟩)
                  ·skip
                   rintro ⟨b4, b9⟩ X4_9 ⟨HB, H4, H9⟩
                   have hHeld : X4_9.cell? ⟨w.heap.size, 0, none⟩ = some (.slice AC σ.C.length cC) ∧ X4_9.cell? ⟨w.heap.size, 2, none⟩ = some (.int .i64 σ.clk) := ⟨za HB x0, za HB x2⟩
                   have hB := zb.mk HB
                   have h4 := zb.mk H4
                   have h9 := zb.mk H9
                   clear HB H4 H9
                   refine zp (a' := ?_) ?_ ?_
                   rotate_left
                   ·simp only [zq, Act.put, List.setIfInBounds_toArray, List.set_cons_zero, List.set_cons_succ]
                    rfl
                   refine two_ (i := 0) (j := 7) (Ni := some 8) (Nj := some 15) (bm 11 631) (bm 11 758) rfl rfl rfl rfl (by kernel_rfl) (by decide) (by decide) (fun K hK => ?_) (fun K hK => ?_)
                   ·skip
                    refine zI (w1 := ?_) (v := ?_) (by rfl) rfl ?_ ?_
                    rotate_left 2
                    ·go_simp
                     constructor
                     ·rfl
                     ·rfl
                    refine hK.out _ _ ⟨(za (zc hB.out _) x0), (za (zc hB.out _) x2)⟩ (fun hHeld => ?_)
                    clear hK K
                    refine zp (a' := ?_) ?_ ?_
                    rotate_left
                    ·show Act.put _ (some 8) _ = _
                     simp only [Act.put, List.setIfInBounds_toArray, List.set_cons_zero, List.set_cons_succ, zg, zh]
                     rfl
                    exact zp (by first | (simp only [zq, Act.put, List.setIfInBounds_toArray, List.set_cons_zero, List.set_cons_succ]; done) | (simp only [zq, Act.put, List.setIfInBounds_toArray, List.set_cons_zero, List.set_cons_succ]; rfl)) (hJ0_4_9 (X4_9.heap.size, b4, b9) _ ⟨zc hB.out _, ⟨hB.out.size, heap_alloc_new _ _⟩, ⟨h4.out.1, zm h4.out.2 _⟩, ⟨h9.out.1, zm h9.out.2 _⟩⟩)
                   ·skip
                    refine zI (w1 := ?_) (v := ?_) (by rfl) rfl ?_ ?_
                    rotate_left 2
                    ·go_simp
                     constructor
                     ·rfl
                     ·rfl
                    refine hK.out _ _ ⟨(za (zc hB.out _) x0), (za (zc hB.out _) x2)⟩ (fun hHeld => ?_)
                    clear hK K
                    refine zp (a' := ?_) ?_ ?_
                    rotate_left
                    ·show Act.put _ (some 15) _ = _
                     simp only [Act.put, List.setIfInBounds_toArray, List.set_cons_zero, List.set_cons_succ, zg, zh]
                     rfl
                    exact zp (by first | (simp only [zq, Act.put, List.setIfInBounds_toArray, List.set_cons_zero, List.set_cons_succ]; done) | (simp only [zq, Act.put, List.setIfInBounds_toArray, List.set_cons_zero, List.set_cons_succ]; rfl)) (hJ4_7_9 (b4, X4_9.heap.size, b9) _ ⟨zc hB.out _, ⟨h4.out.1, zm h4.out.2 _⟩, ⟨hB.out.size, heap_alloc_new _ _⟩, ⟨h9.out.1, zm h9.out.2 _⟩⟩)
                 ·skip
                  rintro ⟨b4, b7⟩ X4_7 ⟨HB, H4, H7⟩
                  have hHeld : X4_7.cell? ⟨w.heap.size, 0, none⟩ = some (.slice AC σ.C.length cC) ∧ X4_7.cell? ⟨w.heap.size, 2, none⟩ = some (.int .i64 σ.clk) := ⟨za HB x0, za HB x2⟩
                  have hB := zb.mk HB
                  have h4 := zb.mk H4
                  have h7 := zb.mk H7
                  clear HB H4 H7
                  refine zp (a' := ?_) ?_ ?_
                  rotate_left
                  ·simp only [zq, Act.put, List.setIfInBounds_toArray, List.set_cons_zero, List.set_cons_succ]
                   rfl
                  refine two_ (i := 0) (j := 9) (Ni := some 8) (Nj := some 3) (bm 11 247) (bm 11 758) rfl rfl rfl rfl (by kernel_rfl) (by decide) (by decide) (fun K hK => ?_) (fun K hK => ?_)
                  ·skip
                   refine zI (w1 := ?_) (v := ?_) (by rfl) rfl ?_ ?_
                   rotate_left 2
                   ·go_simp
                    constructor
                    ·rfl
                    ·rfl
                   refine hK.out _ _ ⟨(za (zc hB.out _) x0), (za (zc hB.out _) x2)⟩ (fun hHeld => ?_)
                   clear hK K
                   refine zp (a' := ?_) ?_ ?_
                   rotate_left
                   ·show Act.put _ (some 8) _ = _
                    simp only [Act.put, List.setIfInBounds_toArray, List.set_cons_zero, List.set_cons_succ, zg, zh]
                    rfl
                   exact zp (by first | (simp only [zq, Act.put, List.setIfInBounds_toArray, List.set_cons_zero, List.set_cons_succ]; done) | (simp only [zq, Act.put, List.setIfInBounds_toArray, List.set_cons_zero, List.set_cons_succ]; rfl)) (hJ0_4_7 (X4_7.heap.size, b4, b7) _ ⟨zc hB.out _, ⟨hB.out.size, heap_alloc_new _ _⟩, ⟨h4.out.1, zm h4.out.2 _⟩, ⟨h7.out.1, zm h7.out.2 _⟩⟩)
                  ·skip
                   refine zI (w1 := ?_) (v := ?_) (by rfl) rfl ?_ ?_
                   rotate_left 2
                   ·go_simp
                    constructor
                    ·rfl
                    ·rfl
                   refine hK.out _ _ ⟨(za (zc hB.out _) x0), (za (zc hB.out _) x2)⟩ (fun hHeld => ?_)
                   clear hK K
                   refine zp (a' := ?_) ?_ ?_
                   rotate_left
                   ·show Act.put _ (some 3) _ = _
                    simp only [Act.put, List.setIfInBounds_toArray, List.set_cons_zero, List.set_cons_succ, zg, zh]
                    rfl
                   exact zp (by first | (simp only [zq, Act.put, List.setIfInBounds_toArray, List.set_cons_zero, List.set_cons_succ]; done) | (simp only [zq, Act.put, List.setIfInBounds_toArray, List.set_cons_zero, List.set_cons_succ]; rfl)) (hJ4_7_9 (b4, b7, X4_7.heap.size) _ ⟨zc hB.out _, ⟨h4.out.1, zm h4.out.2 _⟩, ⟨h7.out.1, zm h7.out.2 _⟩, ⟨hB.out.size, heap_alloc_new _ _⟩⟩)
                ·skip
                 rintro ⟨b0, b9⟩ X0_9 ⟨HB, H0, H9⟩
                 have hHeld : X0_9.cell? ⟨w.heap.size, 0, none⟩ = some (.slice AC σ.C.length cC) ∧ X0_9.cell? ⟨w.heap.size, 2, none⟩ = some (.int .i64 σ.clk) := ⟨za HB x0, za HB x2⟩
                 have hB := zb.mk HB
                 have h0 := zb.mk H0
                 have h9 := zb.mk H9
                 clear HB H0 H9
                 refine zp (a' := ?_) ?_ ?_
                 rotate_left
                 ·simp only [zq, Act.put, List.setIfInBounds_toArray, List.set_cons_zero, List.set_cons_succ]
                  rfl
                 refine three_ (i := 3) (j := 4) (k := 7) (Ni := some 11) (Nj := some 12) (Nk := some 15) (bm 11 623) (bm 11 631) (bm 11 743) rfl rfl rfl rfl rfl rfl (by kernel_rfl) (by decide) (by decide) (by decide) (fun K hK => ?_) (fun K hK => ?_) (fun K hK => ?_)
                 ·skip
                  refine Kd.zY k33 (w0 := V) V.heap.size (by rfl) (.tmp 8) (.tmp 10) 23 33 _ _ (by rfl) Try.underlying23 info33 (by rfl) (by decide) (by decide) (.slice (some ⟨b0, 0, none⟩) 0 0) [] σ.C AC σ.C.length cC (fun _ => True) (fun _ => False) (by rfl) (by rfl) (yz h0.out.2 h0.out.1 trivial) (Kd.zt HSC.out hB.out) (fun x cs h => by rw [wi h]; exact k33_mkM _ _ _ x) (fun _ h => h.elim) (fun _ _ => trivial) hB.out (by exact Nat.le_trans (show V.heap.size ≤ _ from hB.out.size) (Nat.le_refl _)) (by have := HLC.out; simp; omega) ?_
                  intro va wa hra hba hga hata
                  obtain ⟨AA, cA, rfl⟩ := Kd.zJ hra
                  refine hK.out _ _ ⟨(za hba x0), (za hba x2)⟩ (fun hHeld => ?_)
                  clear hK K
                  refine zp (a' := ?_) ?_ ?_
                  rotate_left
                  ·show Act.put _ (some 11) _ = _
                   simp only [Act.put, List.setIfInBounds_toArray, List.set_cons_zero, List.set_cons_succ, zg, zh]
                   rfl
                  exact zp (by first | (simp only [zq, Act.put, List.setIfInBounds_toArray, List.set_cons_zero, List.set_cons_succ]; done) | (simp only [zq, Act.put, List.setIfInBounds_toArray, List.set_cons_zero, List.set_cons_succ]; rfl)) (hJ0_3_9 (b0, AA, cA, b9) _ ⟨hba, hra, ⟨h9.out.1, (zK (yz (d := k33) (base := V.heap.size) (ok := fun _ => True) h0.out.2 h0.out.1 trivial) hga _ _ _ (by decide) h9.out.2).trans h9.out.2⟩⟩)
                 ·skip
                  refine zI (w1 := ?_) (v := ?_) (by rfl) rfl ?_ ?_
                  rotate_left 2
                  ·go_simp
                   constructor
                   ·rfl
                   ·rfl
                  refine hK.out _ _ ⟨(za (zc hB.out _) x0), (za (zc hB.out _) x2)⟩ (fun hHeld => ?_)
                  clear hK K
                  refine zp (a' := ?_) ?_ ?_
                  rotate_left
                  ·show Act.put _ (some 12) _ = _
                   simp only [Act.put, List.setIfInBounds_toArray, List.set_cons_zero, List.set_cons_succ, zg, zh]
                   rfl
                  exact zp (by first | (simp only [zq, Act.put, List.setIfInBounds_toArray, List.set_cons_zero, List.set_cons_succ]; done) | (simp only [zq, Act.put, List.setIfInBounds_toArray, List.set_cons_zero, List.set_cons_succ]; rfl)) (hJ0_4_9 (b0, X0_9.heap.size, b9) _ ⟨zc hB.out _, ⟨h0.out.1, zm h0.out.2 _⟩, ⟨hB.out.size, heap_alloc_new _ _⟩, ⟨h9.out.1, zm h9.out.2 _⟩⟩)
                 ·skip
                  refine zI (w1 := ?_) (v := ?_) (by rfl) rfl ?_ ?_
                  rotate_left 2
                  ·go_simp
                   constructor
                   ·rfl
                   ·rfl
                  refine hK.out _ _ ⟨(za (zc hB.out _) x0), (za (zc hB.out _) x2)⟩ (fun hHeld => ?_)
                  clear hK K
                  refine zp (a' := ?_) ?_ ?_
                  rotate_left
                  ·show Act.put _ (some 15) _ = _
                   simp only [Act.put, List.setIfInBounds_toArray, List.set_cons_zero, List.set_cons_succ, zg, zh]
                   rfl
                  exact zp (by first | (simp only [zq, Act.put, List.setIfInBounds_toArray, List.set_cons_zero, List.set_cons_succ]; done) | (simp only [zq, Act.put, List.setIfInBounds_toArray, List.set_cons_zero, List.set_cons_succ]; rfl)) (hJ0_7_9 (b0, X0_9.heap.size, b9) _ ⟨zc hB.out _, ⟨h0.out.1, zm h0.out.2 _⟩, ⟨hB.out.size, heap_alloc_new _ _⟩, ⟨h9.out.1, zm h9.out.2 _⟩⟩)
               ·skip
                rintro ⟨b0, b7⟩ X0_7 ⟨HB, H0, H7⟩
                have hHeld : X0_7.cell? ⟨w.heap.size, 0, none⟩ = some (.slice AC σ.C.length cC) ∧ X0_7.cell? ⟨w.heap.size, 2, none⟩ = some (.int .i64 σ.clk) := ⟨za HB x0, za HB x2⟩
                have hB := zb.mk HB
                have h0 := zb.mk H0
                have h7 := zb.mk H7
                clear HB H0 H7
                refine zp (a' := ?_) ?_ ?_
                rotate_left
                ·simp only [zq, Act.put, List.setIfInBounds_toArray, List.set_cons_zero, List.set_cons_succ]
                 rfl
                refine three_ (i := 3) (j := 4) (k := 9) (Ni := some 11) (Nj := some 12) (Nk := some 3) (bm 11 239) (bm 11 247) (bm 11 743) rfl rfl rfl rfl rfl rfl (by kernel_rfl) (by decide) (by decide) (by decide) (fun K hK => ?_) (fun K hK => ?_) (fun K hK => ?_)
                ·skip
                 refine Kd.zY k33 (w0 := V) V.heap.size (by rfl) (.tmp 8) (.tmp 10) 23 33 _ _ (by rfl) Try.underlying23 info33 (by rfl) (by decide) (by decide) (.slice (some ⟨b0, 0, none⟩) 0 0) [] σ.C AC σ.C.length cC (fun _ => True) (fun _ => False) (by rfl) (by rfl) (yz h0.out.2 h0.out.1 trivial) (Kd.zt HSC.out hB.out) (fun x cs h => by rw [wi h]; exact k33_mkM _ _ _ x) (fun _ h => h.elim) (fun _ _ => trivial) hB.out (by exact Nat.le_trans (show V.heap.size ≤ _ from hB.out.size) (Nat.le_refl _)) (by have := HLC.out; simp; omega) ?_
                 intro va wa hra hba hga hata
                 obtain ⟨AA, cA, rfl⟩ := Kd.zJ hra
                 refine hK.out _ _ ⟨(za hba x0), (za hba x2)⟩ (fun hHeld => ?_)
                 clear hK K
                 refine zp (a' := ?_) ?_ ?_
                 rotate_left
                 ·show Act.put _ (some 11) _ = _
                  simp only [Act.put, List.setIfInBounds_toArray, List.set_cons_zero, List.set_cons_succ, zg, zh]
                  rfl
                 exact zp (by first | (simp only [zq, Act.put, List.setIfInBounds_toArray, List.set_cons_zero, List.set_cons_succ]; done) | (simp only [zq, Act.put, List.setIfInBounds_toArray, List.set_cons_zero, List.set_cons_succ]; rfl)) (hJ0_3_7 (b0, AA, cA, b7) _ ⟨hba, hra, ⟨h7.out.1, (zK (yz (d := k33) (base := V.heap.size) (ok := fun _ => True) h0.out.2 h0.out.1 trivial) hga _ _ _ (by decide) h7.out.2).trans h7.out.2⟩⟩)
                ·skip
                 refine zI (w1 := ?_) (v := ?_) (by rfl) rfl ?_ ?_
                 rotate_left 2
                 ·go_simp
                  constructor
                  ·rfl
                  ·rfl
                 refine hK.out _ _ ⟨(za (zc hB.out _) x0), (za (zc hB.out _) x2)⟩ (fun hHeld => ?_)
                 clear hK K
                 refine zp (a' := ?_) ?_ ?_
                 rotate_left
                 ·show Act.put _ (some 12) _ = _
                  simp only [Act.put, List.setIfInBounds_toArray, List.set_cons_zero, List.set_cons_succ, zg, zh]
                  rfl
                 exact zp (by first | (simp only [zq, Act.put, List.setIfInBounds_toArray, List.set_cons_zero, List.set_cons_succ]; done) | (simp only [zq, Act.put, List.setIfInBounds_toArray, List.set_cons_zero, List.set_cons_succ]; rfl)) (hJ0_4_7 (b0, X0_7.heap.size, b7) _ ⟨zc hB.out _, ⟨h0.out.1, zm h0.out.2 _⟩, ⟨hB.out.size, heap_alloc_new _ _⟩, ⟨h7.out.1, zm h7.out.2 _⟩⟩)
                ·skip
                 refine zI (w1 := ?_) (v := ?_) (by rfl) rfl ?_ ?_
                 rotate_left 2
                 ·go_simp
                  constructor
                  ·rfl
                  ·rfl
                 refine hK.out _ _ ⟨(za (zc hB.out _) x0), (za (zc hB.out _) x2)⟩ (fun hHeld => ?_)
                 clear hK K
                 refine zp (a' := ?_) ?_ ?_
                 rotate_left
                 ·show Act.put _ (some 3) _ = _
                  simp only [Act.put, List.setIfInBounds_toArray, List.set_cons_zero, List.set_cons_succ, zg, zh]
                  rfl
                 exact zp (by first | (simp only [zq, Act.put, List.setIfInBounds_toArray, List.set_cons_zero, List.set_cons_succ]; done) | (simp only [zq, Act.put, List.setIfInBounds_toArray, List.set_cons_zero, List.set_cons_succ]; rfl)) (hJ0_7_9 (b0, b7, X0_7.heap.size) _ ⟨zc hB.out _, ⟨h0.out.1, zm h0.out.2 _⟩, ⟨h7.out.1, zm h7.out.2 _⟩, ⟨hB.out.size, heap_alloc_new _ _⟩⟩)
              ·skip
               rintro ⟨b0, b4⟩ X0_4 ⟨HB, H0, H4⟩
               have hHeld : X0_4.cell? ⟨w.heap.size, 0, none⟩ = some (.slice AC σ.C.length cC) ∧ X0_4.cell? ⟨w.heap.size, 2, none⟩ = some (.int .i64 σ.clk) := ⟨za HB x0, za HB x2⟩
               have hB := zb.mk HB
               have h0 := zb.mk H0
               have h4 := zb.mk H4
               clear HB H0 H4
               refine zp (a' := ?_) ?_ ?_
               rotate_left
               ·simp only [zq, Act.put, List.setIfInBounds_toArray, List.set_cons_zero, List.set_cons_succ]
                rfl
               refine three_ (i := 3) (j := 7) (k := 9) (Ni := some 11) (Nj := some 15) (Nk := some 3) (bm 11 127) (bm 11 247) (bm 11 631) rfl rfl rfl rfl rfl rfl (by kernel_rfl) (by decide) (by decide) (by decide) (fun K hK => ?_) (fun K hK => ?_) (fun K hK => ?_)
               ·skip
                refine Kd.zY k33 (w0 := V) V.heap.size (by rfl) (.tmp 8) (.tmp 10) 23 33 _ _ (by rfl) Try.underlying23 info33 (by rfl) (by decide) (by decide) (.slice (some ⟨b0, 0, none⟩) 0 0) [] σ.C AC σ.C.length cC (fun _ => True) (fun _ => False) (by rfl) (by rfl) (yz h0.out.2 h0.out.1 trivial) (Kd.zt HSC.out hB.out) (fun x cs h => by rw [wi h]; exact k33_mkM _ _ _ x) (fun _ h => h.elim) (fun _ _ => trivial) hB.out (by exact Nat.le_trans (show V.heap.size ≤ _ from hB.out.size) (Nat.le_refl _)) (by have := HLC.out; simp; omega) ?_
                intro va wa hra hba hga hata
                obtain ⟨AA, cA, rfl⟩ := Kd.zJ hra
                refine hK.out _ _ ⟨(za hba x0), (za hba x2)⟩ (fun hHeld => ?_)
                clear hK K
                refine zp (a' := ?_) ?_ ?_
                rotate_left
                ·show Act.put _ (some 11) _ = _
                 simp only [Act.put, List.setIfInBounds_toArray, List.set_cons_zero, List.set_cons_succ, zg, zh]
                 rfl
                exact zp (by first | (simp only [zq, Act.put, List.setIfInBounds_toArray, List.set_cons_zero, List.set_cons_succ]; done) | (simp only [zq, Act.put, List.setIfInBounds_toArray, List.set_cons_zero, List.set_cons_succ]; rfl)) (hJ0_3_4 (b0, AA, cA, b4) _ ⟨hba, hra, ⟨h4.out.1, (zK (yz (d := k33) (base := V.heap.size) (ok := fun _ => True) h0.out.2 h0.out.1 trivial) hga _ _ _ (by decide) h4.out.2).trans h4.out.2⟩⟩)
               ·skip
                refine zI (w1 := ?_) (v := ?_) (by rfl) rfl ?_ ?_
                rotate_left 2
                ·go_simp
                 constructor
                 ·rfl
                 ·rfl
                refine hK.out _ _ ⟨(za (zc hB.out _) x0), (za (zc hB.out _) x2)⟩ (fun hHeld => ?_)
                clear hK K
                refine zp (a' := ?_) ?_ ?_
                rotate_left
                ·show Act.put _ (some 15) _ = _
                 simp only [Act.put, List.setIfInBounds_toArray, List.set_cons_zero, List.set_cons_succ, zg, zh]
                 rfl
                exact zp (by first | (simp only [zq, Act.put, List.setIfInBounds_toArray, List.set_cons_zero, List.set_cons_succ]; done) | (simp only [zq, Act.put, List.setIfInBounds_toArray, List.set_cons_zero, List.set_cons_succ]; rfl)) (hJ0_4_7 (b0, b4, X0_4.heap.size) _ ⟨zc hB.out _, ⟨h0.out.1, zm h0.out.2 _⟩, ⟨h4.out.1, zm h4.out.2 _⟩, ⟨hB.out.size, heap_alloc_new _ _⟩⟩)
               ·skip
                refine zI (w1 := ?_) (v := ?_) (by rfl) rfl ?_ ?_
                rotate_left 2
                ·go_simp
                 constructor
                 ·rfl
                 ·rfl
                refine hK.out _ _ ⟨(za (zc hB.out _) x0), (za (zc hB.out _) x2)⟩ (fun hHeld => ?_)
                clear hK K
                refine zp (a' := ?_) ?_ ?_
                rotate_left
                ·show Act.put _ (some 3) _ = _
                 simp only [Act.put, List.setIfInBounds_toArray, List.set_cons_zero, List.set_cons_succ, zg, zh]
                 rfl
                exact zp (by first | (simp only [zq, Act.put, List.setIfInBounds_toArray, List.set_cons_zero, List.set_cons_succ]; done) | (simp only [zq, Act.put, List.setIfInBounds_toArray, List.set_cons_zero, List.set_cons_succ]; rfl)) (hJ0_4_9 (b0, b4, X0_4.heap.size) _ ⟨zc hB.out _, ⟨h0.out.1, zm h0.out.2 _⟩, ⟨h4.out.1, zm h4.out.2 _⟩, ⟨hB.out.size, heap_alloc_new _ _⟩⟩)
             ·skip
              rintro ⟨b0, aC, cc⟩ X0_3 ⟨HB, H3⟩
              have hHeld : X0_3.cell? ⟨w.heap.size, 0, none⟩ = some (.slice AC σ.C.length cC) ∧ X0_3.cell? ⟨w.heap.size, 2, none⟩ = some (.int .i64 σ.clk) := ⟨za HB x0, za HB x2⟩
              have hB := zb.mk HB
              have h3 := zb.mk H3
              clear HB H3
              refine zp (a' := ?_) ?_ ?_
              rotate_left
              ·simp only [zq, Act.put, List.setIfInBounds_toArray, List.set_cons_zero, List.set_cons_succ]
               rfl
              refine three_ (i := 4) (j := 7) (k := 9) (Ni := some 12) (Nj := some 15) (Nk := some 3) (bm 11 127) (bm 11 239) (bm 11 623) rfl rfl rfl rfl rfl rfl (by kernel_rfl) (by decide) (by decide) (by decide) (fun K hK => ?_) (fun K hK => ?_) (fun K hK => ?_)
              ·skip
               refine zI (w1 := ?_) (v := ?_) (by rfl) rfl ?_ ?_
               rotate_left 2
               ·go_simp
                constructor
                ·rfl
                ·rfl
               refine hK.out _ _ ⟨(za (zc hB.out _) x0), (za (zc hB.out _) x2)⟩ (fun hHeld => ?_)
               clear hK K
               refine zp (a' := ?_) ?_ ?_
               rotate_left
               ·show Act.put _ (some 12) _ = _
                simp only [Act.put, List.setIfInBounds_toArray, List.set_cons_zero, List.set_cons_succ, zg, zh]
                rfl
               exact zp (by first | (simp only [zq, Act.put, List.setIfInBounds_toArray, List.set_cons_zero, List.set_cons_succ]; done) | (simp only [zq, Act.put, List.setIfInBounds_toArray, List.set_cons_zero, List.set_cons_succ]; rfl)) (hJ0_3_4 (b0, aC, cc, X0_3.heap.size) _ ⟨zc hB.out _, Kd.zN h3.out (zc (Below.refl _ _) _), ⟨hB.out.size, heap_alloc_new _ _⟩⟩)
              ·skip
               refine zI (w1 := ?_) (v := ?_) (by rfl) rfl ?_ ?_
               rotate_left 2
               ·go_simp
                constructor
                ·rfl
                ·rfl
               refine hK.out _ _ ⟨(za (zc hB.out _) x0), (za (zc hB.out _) x2)⟩ (fun hHeld => ?_)
               clear hK K
               refine zp (a' := ?_) ?_ ?_
               rotate_left
               ·show Act.put _ (some 15) _ = _
                simp only [Act.put, List.setIfInBounds_toArray, List.set_cons_zero, List.set_cons_succ, zg, zh]
                rfl
               exact zp (by first | (simp only [zq, Act.put, List.setIfInBounds_toArray, List.set_cons_zero, List.set_cons_succ]; done) | (simp only [zq, Act.put, List.setIfInBounds_toArray, List.set_cons_zero, List.set_cons_succ]; rfl)) (hJ0_3_7 (b0, aC, cc, X0_3.heap.size) _ ⟨zc hB.out _, Kd.zN h3.out (zc (Below.refl _ _) _), ⟨hB.out.size, heap_alloc_new _ _⟩⟩)
              ·skip
               refine zI (w1 := ?_) (v := ?_) (by rfl) rfl ?_ ?_
               rotate_left 2
               ·go_simp
                constructor
                ·rfl
                ·rfl
               refine hK.out _ _ ⟨(za (zc hB.out _) x0), (za (zc hB.out _) x2)⟩ (fun hHeld => ?_)
               clear hK K
               refine zp (a' := ?_) ?_ ?_
               rotate_left
               ·show Act.put _ (some 3) _ = _
                simp only [Act.put, List.setIfInBounds_toArray, List.set_cons_zero, List.set_cons_succ, zg, zh]
                rfl
               exact zp (by first | (simp only [zq, Act.put, List.setIfInBounds_toArray, List.set_cons_zero, List.set_cons_succ]; done) | (simp only [zq, Act.put, List.setIfInBounds_toArray, List.set_cons_zero, List.set_cons_succ]; rfl)) (hJ0_3_9 (b0, aC, cc, X0_3.heap.size) _ ⟨zc hB.out _, Kd.zN h3.out (zc (Below.refl _ _) _), ⟨hB.out.size, heap_alloc_new _ _⟩⟩)
            ·skip
             rintro ⟨b4, b7, b9⟩ X4_7_9 ⟨HB, H4, H7, H9⟩
             have hHeld : X4_7_9.cell? ⟨w.heap.size, 0, none⟩ = some (.slice AC σ.C.length cC) ∧ X4_7_9.cell? ⟨w.heap.size, 2, none⟩ = some (.int .i64 σ.clk) := ⟨za HB x0, za HB x2⟩
             have hB := zb.mk HB
             have h4 := zb.mk H4
             have h7 := zb.mk H7
             have h9 := zb.mk H9
             clear HB H4 H7 H9
             refine zp (a' := ?_) ?_ ?_
             rotate_left
             ·simp only [zq, Act.put, List.setIfInBounds_toArray, List.set_cons_zero, List.set_cons_succ]
              rfl
             refine yE (i := 0) (N := some 8) (bm 11 759) rfl rfl (by kernel_rfl) (by decide) (fun K hK => ?_)
             refine zI (w1 := ?_) (v := ?_) (by rfl) rfl ?_ ?_
             rotate_left 2
             ·go_simp
              constructor
              ·rfl
              ·rfl
             refine hK.out _ _ ⟨(za (zc hB.out _) x0), (za (zc hB.out _) x2)⟩ (fun hHeld => ?_)
             clear hK K
             refine zp (a' := ?_) ?_ ?_
             rotate_left
             ·show Act.put _ (some 8) _ = _
              simp only [Act.put, List.setIfInBounds_toArray, List.set_cons_zero, List.set_cons_succ, zg, zh]
              rfl
             exact zp (by first | (simp only [zq, Act.put, List.setIfInBounds_toArray, List.set_cons_zero, List.set_cons_succ]; done) | (simp only [zq, Act.put, List.setIfInBounds_toArray, List.set_cons_zero, List.set_cons_succ]; rfl)) (hJ0_4_7_9 (X4_7_9.heap.size, b4, b7, b9) _ ⟨zc hB.out _, ⟨hB.out.size, heap_alloc_new _ _⟩, ⟨h4.out.1, zm h4.out.2 _⟩, ⟨h7.out.1, zm h7.out.2 _⟩, ⟨h9.out.1, zm h9.out.2 _⟩⟩)
           ·skip
            rintro ⟨b0, b7, b9⟩ X0_7_9 ⟨HB, H0, H7, H9⟩
            have hHeld : X0_7_9.cell? ⟨w.heap.size, 0, none⟩ = some (.slice AC σ.C.length cC) ∧ X0_7_9.cell? ⟨w.heap.size, 2, none⟩ = some (.int .i64 σ.clk) := ⟨za HB x0, za HB x2⟩
            have hB := zb.mk HB
            have h0 := zb.mk H0
            have h7 := zb.mk H7
            have h9 := zb.mk H9
            clear HB H0 H7 H9
            refine zp (a' := ?_) ?_ ?_
            rotate_left
            ·simp only [zq, Act.put, List.setIfInBounds_toArray, List.set_cons_zero, List.set_cons_succ]
             rfl
            refine two_ (i := 3) (j := 4) (Ni := some 11) (Nj := some 12) (bm 11 751) (bm 11 759) rfl rfl rfl rfl (by kernel_rfl) (by decide) (by decide) (fun K hK => ?_) (fun K hK => ?_)
            ·skip
             refine Kd.zY k33 (w0 := V) V.heap.size (by rfl) (.tmp 8) (.tmp 10) 23 33 _ _ (by rfl) Try.underlying23 info33 (by rfl) (by decide) (by decide) (.slice (some ⟨b0, 0, none⟩) 0 0) [] σ.C AC σ.C.length cC (fun _ => True) (fun _ => False) (by rfl) (by rfl) (yz h0.out.2 h0.out.1 trivial) (Kd.zt HSC.out hB.out) (fun x cs h => by rw [wi h]; exact k33_mkM _ _ _ x) (fun _ h => h.elim) (fun _ _ => trivial) hB.out (by exact Nat.le_trans (show V.heap.size ≤ _ from hB.out.size) (Nat.le_refl _)) (by have := HLC.out; simp; omega) ?_
             intro va wa hra hba hga hata
             obtain ⟨AA, cA, rfl⟩ := Kd.zJ hra
             refine hK.out _ _ ⟨(za hba x0), (za hba x2)⟩ (fun hHeld => ?_)
             clear hK K
             refine zp (a' := ?_) ?_ ?_
             rotate_left
             ·show Act.put _ (some 11) _ = _
              simp only [Act.put, List.setIfInBounds_toArray, List.set_cons_zero, List.set_cons_succ, zg, zh]
              rfl
             exact zp (by first | (simp only [zq, Act.put, List.setIfInBounds_toArray, List.set_cons_zero, List.set_cons_succ]; done) | (simp only [zq, Act.put, List.setIfInBounds_toArray, List.set_cons_zero, List.set_cons_succ]; rfl)) (hJ0_3_7_9 (b0, AA, cA, b7, b9) _ ⟨hba, hra, ⟨h7.out.1, (zK (yz (d := k33) (base := V.heap.size) (ok := fun _ => True) h0.out.2 h0.out.1 trivial) hga _ _ _ (by decide) h7.out.2).trans h7.out.2⟩, ⟨h9.out.1, (zK (yz (d := k33) (base := V.heap.size) (ok := fun _ => True) h0.out.2 h0.out.1 trivial) hga _ _ _ (by decide) h9.out.2).trans h9.out.2⟩⟩)
            ·skip
             refine zI (w1 := ?_) (v := ?_) (by rfl) rfl ?_ ?_
             rotate_left 2
             ·go_simp
              constructor
              ·rfl
              ·rfl
             refine hK.out _ _ ⟨(za (zc hB.out _) x0), (za (zc hB.out _) x2)⟩ (fun hHeld => ?_)
             clear hK K
             refine zp (a' := ?_) ?_ ?_
             rotate_left
             ·show Act.put _ (some 12) _ = _
              simp only [Act.put, List.setIfInBounds_toArray, List.set_cons_zero, List.set_cons_succ, zg, zh]
              rfl
             exact zp (by first | (simp only [zq, Act.put, List.setIfInBounds_toArray, List.set_cons_zero, List.set_cons_succ]; done) | (simp only [zq, Act.put, List.setIfInBounds_toArray, List.set_cons_zero, List.set_cons_succ]; rfl)) (hJ0_4_7_9 (b0, X0_7_9.heap.size, b7, b9) _ ⟨zc hB.out _, ⟨h0.out.1, zm h0.out.2 _⟩, ⟨hB.out.size, heap_alloc_new _ _⟩, ⟨h7.out.1, zm h7.out.2 _⟩, ⟨h9.out.1, zm h9.out.2 _⟩⟩)
          ·skip
           rintro ⟨b0, b4, b9⟩ X0_4_9 ⟨HB, H0, H4, H9⟩
           have hHeld : X0_4_9.cell? ⟨w.heap.size, 0, none⟩ = some (.slice AC σ.C.length cC) ∧ X0_4_9.cell? ⟨w.heap.size, 2, none⟩ = some (.int .i64 σ.clk) := ⟨za HB x0, za HB x2⟩
           have hB := zb.mk HB
           have h0 := zb.mk H0
           have h4 := zb.mk H4
           have h9 := zb.mk H9
           clear HB H0 H4 H9
           refine zp (a' := ?_) ?_ ?_
           rotate_left
           ·simp only [zq, Act.put, List.setIfInBounds_toArray, List.set_cons_zero, List.set_cons_succ]
            rfl
           refine two_ (i := 3) (j := 7) (Ni := some 11) (Nj := some 15) (bm 11 639) (bm 11 759) rfl rfl rfl rfl (by kernel_rfl) (by decide) (by decide) (fun K hK => ?_) (fun K hK => ?_)
           ·skip
            refine Kd.zY k33 (w0 := V) V.heap.size (by rfl) (.tmp 8) (.tmp 10) 23 33 _ _ (by rfl) Try.underlying23 info33 (by rfl) (by decide) (by decide) (.slice (some ⟨b0, 0, none⟩) 0 0) [] σ.C AC σ.C.length cC (fun _ => True) (fun _ => False) (by rfl) (by rfl) (yz h0.out.2 h0.out.1 trivial) (Kd.zt HSC.out hB.out) (fun x cs h => by rw [wi h]; exact k33_mkM _ _ _ x) (fun _ h => h.elim) (fun _ _ => trivial) hB.out (by exact Nat.le_trans (show V.heap.size ≤ _ from hB.out.size) (Nat.le_refl _)) (by have := HLC.out; simp; omega) ?_
            intro va wa hra hba hga hata
            obtain ⟨AA, cA, rfl⟩ := Kd.zJ hra
            refine hK.out _ _ ⟨(za hba x0), (za hba x2)⟩ (fun hHeld => ?_)
            clear hK K
            refine zp (a' := ?_) ?_ ?_
            rotate_left
            ·show Act.put _ (some 11) _ = _
             simp only [Act.put, List.setIfInBounds_toArray, List.set_cons_zero, List.set_cons_succ, zg, zh]
             rfl
            exact zp (by first | (simp only [zq, Act.put, List.setIfInBounds_toArray, List.set_cons_zero, List.set_cons_succ]; done) | (simp only [zq, Act.put, List.setIfInBounds_toArray, List.set_cons_zero, List.set_cons_succ]; rfl)) (hJ0_3_4_9 (b0, AA, cA, b4, b9) _ ⟨hba, hra, ⟨h4.out.1, (zK (yz (d := k33) (base := V.heap.size) (ok := fun _ => True) h0.out.2 h0.out.1 trivial) hga _ _ _ (by decide) h4.out.2).trans h4.out.2⟩, ⟨h9.out.1, (zK (yz (d := k33) (base := V.heap.size) (ok := fun _ => True) h0.out.2 h0.out.1 trivial) hga _ _ _ (by decide) h9.out.2).trans h9.out.2⟩⟩)
           ·skip
            refine zI (w1 := ?_) (v := ?_) (by rfl) rfl ?_ ?_
            rotate_left 2
            ·go_simp
             constructor
             ·rfl
             ·rfl
            refine hK.out _ _ ⟨(za (zc hB.out _) x0), (za (zc hB.out _) x2)⟩ (fun hHeld => ?_)
            clear hK K
            refine zp (a' := ?_) ?_ ?_
            rotate_left
            ·show Act.put _ (some 15) _ = _
             simp only [Act.put, List.setIfInBounds_toArray, List.set_cons_zero, List.set_cons_succ, zg, zh]
             rfl
            exact zp (by first | (simp only [zq, Act.put, List.setIfInBounds_toArray, List.set_cons_zero, List.set_cons_succ]; done) | (simp only [zq, Act.put, List.setIfInBounds_toArray, List.set_cons_zero, List.set_cons_succ]; rfl)) (hJ0_4_7_9 (b0, b4, X0_4_9.heap.size, b9) _ ⟨zc hB.out _, ⟨h0.out.1, zm h0.out.2 _⟩, ⟨h4.out.1, zm h4.out.2 _⟩, ⟨hB.out.size, heap_alloc_new _ _⟩, ⟨h9.out.1, zm h9.out.2 _⟩⟩)
         ·skip
          rintro ⟨b0, b4, b7⟩ X0_4_7 ⟨HB, H0, H4, H7⟩
          have hHeld : X0_4_7.cell? ⟨w.heap.size, 0, none⟩ = some (.slice AC σ.C.length cC) ∧ X0_4_7.cell? ⟨w.heap.size, 2, none⟩ = some (.int .i64 σ.clk) := ⟨za HB x0, za HB x2⟩
          have hB := zb.mk HB
          have h0 := zb.mk H0
          have h4 := zb.mk H4
          have h7 := zb.mk H7
          clear HB H0 H4 H7
          refine zp (a' := ?_) ?_ ?_
          rotate_left
          ·simp only [zq, Act.put, List.setIfInBounds_toArray, List.set_cons_zero, List.set_cons_succ]
           rfl
          refine two_ (i := 3) (j := 9) (Ni := some 11) (Nj := some 3) (bm 11 255) (bm 11 759) rfl rfl rfl rfl (by kernel_rfl) (by decide) (by decide) (fun K hK => ?_) (fun K hK => ?_)
          ·skip
           refine Kd.zY k33 (w0 := V) V.heap.size (by rfl) (.tmp 8) (.tmp 10) 23 33 _ _ (by rfl) Try.underlying23 info33 (by rfl) (by decide) (by decide) (.slice (some ⟨b0, 0, none⟩) 0 0) [] σ.C AC σ.C.length cC (fun _ => True) (fun _ => False) (by rfl) (by rfl) (yz h0.out.2 h0.out.1 trivial) (Kd.zt HSC.out hB.out) (fun x cs h => by rw [wi h]; exact k33_mkM _ _ _ x) (fun _ h => h.elim) (fun _ _ => trivial) hB.out (by exact Nat.le_trans (show V.heap.size ≤ _ from hB.out.size) (Nat.le_refl _)) (by have := HLC.out; simp; omega) ?_
           intro va wa hra hba hga hata
           obtain ⟨AA, cA, rfl⟩ := Kd.zJ hra
           refine hK.out _ _ ⟨(za hba x0), (za hba x2)⟩ (fun hHeld => ?_)
           clear hK K
           refine zp (a' := ?_) ?_ ?_
           rotate_left
           ·show Act.put _ (some 11) _ = _
            simp only [Act.put, List.setIfInBounds_toArray, List.set_cons_zero, List.set_cons_succ, zg, zh]
            rfl
           refine zl (i := 8) (N := some 16) (v := ?_) (a' := ?_) (bm 11 511) rfl rfl (by kernel_rfl) (fun _ _ _ h => h) (Or.inl ⟨by rfl, ?_⟩) ?_ ?_
           rotate_left
           ·intro w'
            go_simp
            with_reducible rfl
           rotate_left
           ·simp only [Act.put, List.setIfInBounds_toArray, List.set_cons_zero, List.set_cons_succ, zg, zh]
            rfl
           exact zp (by first | (simp only [zq, Act.put, List.setIfInBounds_toArray, List.set_cons_zero, List.set_cons_succ]; done) | (simp only [zq, Act.put, List.setIfInBounds_toArray, List.set_cons_zero, List.set_cons_succ]; rfl)) (hJ0_3_4_7 (b0, AA, cA, b4, b7) _ ⟨hba, hra, ⟨h4.out.1, (zK (yz (d := k33) (base := V.heap.size) (ok := fun _ => True) h0.out.2 h0.out.1 trivial) hga _ _ _ (by decide) h4.out.2).trans h4.out.2⟩, ⟨h7.out.1, (zK (yz (d := k33) (base := V.heap.size) (ok := fun _ => True) h0.out.2 h0.out.1 trivial) hga _ _ _ (by decide) h7.out.2).trans h7.out.2⟩⟩)
          ·skip
           refine zI (w1 := ?_) (v := ?_) (by rfl) rfl ?_ ?_
           rotate_left 2
           ·go_simp
            constructor
            ·rfl
            ·rfl
           refine hK.out _ _ ⟨(za (zc hB.out _) x0), (za (zc hB.out _) x2)⟩ (fun hHeld => ?_)
           clear hK K
           refine zp (a' := ?_) ?_ ?_
           rotate_left
           ·show Act.put _ (some 3) _ = _
            simp only [Act.put, List.setIfInBounds_toArray, List.set_cons_zero, List.set_cons_succ, zg, zh]
            rfl
           exact zp (by first | (simp only [zq, Act.put, List.setIfInBounds_toArray, List.set_cons_zero, List.set_cons_succ]; done) | (simp only [zq, Act.put, List.setIfInBounds_toArray, List.set_cons_zero, List.set_cons_succ]; rfl)) (hJ0_4_7_9 (b0, b4, b7, X0_4_7.heap.size) _ ⟨zc hB.out _, ⟨h0.out.1, zm h0.out.2 _⟩, ⟨h4.out.1, zm h4.out.2 _⟩, ⟨h7.out.1, zm h7.out.2 _⟩, ⟨hB.out.size, heap_alloc_new _ _⟩⟩)
        ·skip
         rintro ⟨b0, aC, cc, b9⟩ X0_3_9 ⟨HB, H3, H9⟩
         have hHeld : X0_3_9.cell? ⟨w.heap.size, 0, none⟩ = some (.slice AC σ.C.length cC) ∧ X0_3_9.cell? ⟨w.heap.size, 2, none⟩ = some (.int .i64 σ.clk) := ⟨za HB x0, za HB x2⟩
         have hB := zb.mk HB
         have h3 := zb.mk H3
         have h9 := zb.mk H9
         clear HB H3 H9
         refine zp (a' := ?_) ?_ ?_
         rotate_left
         ·simp only [zq, Act.put, List.setIfInBounds_toArray, List.set_cons_zero, List.set_cons_succ]
          rfl
         refine two_ (i := 4) (j := 7) (Ni := some 12) (Nj := some 15) (bm 11 639) (bm 11 751) rfl rfl rfl rfl (by kernel_rfl) (by decide) (by decide) (fun K hK => ?_) (fun K hK => ?_)
         ·skip
          refine zI (w1 := ?_) (v := ?_) (by rfl) rfl ?_ ?_
          rotate_left 2
          ·go_simp
           constructor
           ·rfl
           ·rfl
          refine hK.out _ _ ⟨(za (zc hB.out _) x0), (za (zc hB.out _) x2)⟩ (fun hHeld => ?_)
          clear hK K
          refine zp (a' := ?_) ?_ ?_
          rotate_left
          ·show Act.put _ (some 12) _ = _
           simp only [Act.put, List.setIfInBounds_toArray, List.set_cons_zero, List.set_cons_succ, zg, zh]
           rfl
          exact zp (by first | (simp only [zq, Act.put, List.setIfInBounds_toArray, List.set_cons_zero, List.set_cons_succ]; done) | (simp only [zq, Act.put, List.setIfInBounds_toArray, List.set_cons_zero, List.set_cons_succ]; rfl)) (hJ0_3_4_9 (b0, aC, cc, X0_3_9.heap.size, b9) _ ⟨zc hB.out _, Kd.zN h3.out (zc (Below.refl _ _) _), ⟨hB.out.size, heap_alloc_new _ _⟩, ⟨h9.out.1, zm h9.out.2 _⟩⟩)
         ·skip
          refine zI (w1 := ?_) (v := ?_) (by rfl) rfl ?_ ?_
          rotate_left 2
          ·go_simp
           constructor
           ·rfl
           ·rfl
          refine hK.out _ _ ⟨(za (zc hB.out _) x0), (za (zc hB.out _) x2)⟩ (fun hHeld => ?_)
          clear hK K
          refine zp (a' := ?_) ?_ ?_
          rotate_left
          ·show Act.put _ (some 15) _ = _
           simp only [Act.put, List.setIfInBounds_toArray, List.set_cons_zero, List.set_cons_succ, zg, zh]
           rfl
          exact zp (by first | (simp only [zq, Act.put, List.setIfInBounds_toArray, List.set_cons_zero, List.set_cons_succ]; done) | (simp only [zq, Act.put, List.setIfInBounds_toArray, List.set_cons_zero, List.set_cons_succ]; rfl)) (hJ0_3_7_9 (b0, aC, cc, X0_3_9.heap.size, b9) _ ⟨zc hB.out _, Kd.zN h3.out (zc (Below.refl _ _) _), ⟨hB.out.size, heap_alloc_new _ _⟩, ⟨h9.out.1, zm h9.out.2 _⟩⟩)
       ·skip
        rintro ⟨b0, aC, cc, b7⟩ X0_3_7 ⟨HB, H3, H7⟩
        have hHeld : X0_3_7.cell? ⟨w.heap.size, 0, none⟩ = some (.slice AC σ.C.length cC) ∧ X0_3_7.cell? ⟨w.heap.size, 2, none⟩ = some (.int .i64 σ.clk) := ⟨za HB x0, za HB x2⟩
        have hB := zb.mk HB
        have h3 := zb.mk H3
        have h7 := zb.mk H7
        clear HB H3 H7
        refine zp (a' := ?_) ?_ ?_
        rotate_left
        ·simp only [zq, Act.put, List.setIfInBounds_toArray, List.set_cons_zero, List.set_cons_succ]
         rfl
        refine two_ (i := 4) (j := 9) (Ni := some 12) (Nj := some 3) (bm 11 255) (bm 11 751) rfl rfl rfl rfl (by kernel_rfl) (by decide) (by decide) (fun K hK => ?_) (fun K hK => ?_)
        ·skip
         refine zI (w1 := ?_) (v := ?_) (by rfl) rfl ?_ ?_
         rotate_left 2
         ·go_simp
          constructor
          ·rfl
          ·rfl
         refine hK.out _ _ ⟨(za (zc hB.out _) x0), (za (zc hB.out _) x2)⟩ (fun hHeld => ?_)
         clear hK K
         refine zp (a' := ?_) ?_ ?_
         rotate_left
         ·show Act.put _ (some 12) _ = _
          simp only [Act.put, List.setIfInBounds_toArray, List.set_cons_zero, List.set_cons_succ, zg, zh]
          rfl
         refine zl (i := 8) (N := some 16) (v := ?_) (a' := ?_) (bm 11 511) rfl rfl (by kernel_rfl) (fun _ _ _ h => h) (Or.inl ⟨by rfl, ?_⟩) ?_ ?_
         rotate_left
         ·intro w'
          go_simp
          with_reducible rfl
         rotate_left
         ·simp only [Act.put, List.setIfInBounds_toArray, List.set_cons_zero, List.set_cons_succ, zg, zh]
          rfl
         exact zp (by first | (simp only [zq, Act.put, List.setIfInBounds_toArray, List.set_cons_zero, List.set_cons_succ]; done) | (simp only [zq, Act.put, List.setIfInBounds_toArray, List.set_cons_zero, List.set_cons_succ]; rfl)) (hJ0_3_4_7 (b0, aC, cc, X0_3_7.heap.size, b7) _ ⟨zc hB.out _, Kd.zN h3.out (zc (Below.refl _ _) _), ⟨hB.out.size, heap_alloc_new _ _⟩, ⟨h7.out.1, zm h7.out.2 _⟩⟩)
        ·skip
         refine zI (w1 := ?_) (v := ?_) (by rfl) rfl ?_ ?_
         rotate_left 2
         ·go_simp
          constructor
          ·rfl
          ·rfl
         refine hK.out _ _ ⟨(za (zc hB.out _) x0), (za (zc hB.out _) x2)⟩ (fun hHeld => ?_)
         clear hK K
         refine zp (a' := ?_) ?_ ?_
         rotate_left
         ·show Act.put _ (some 3) _ = _
          simp only [Act.put, List.setIfInBounds_toArray, List.set_cons_zero, List.set_cons_succ, zg, zh]
          rfl
         exact zp (by first | (simp only [zq, Act.put, List.setIfInBounds_toArray, List.set_cons_zero, List.set_cons_succ]; done) | (simp only [zq, Act.put, List.setIfInBounds_toArray, List.set_cons_zero, List.set_cons_succ]; rfl)) (hJ0_3_7_9 (b0, aC, cc, b7, X0_3_7.heap.size) _ ⟨zc hB.out _, Kd.zN h3.out (zc (Below.refl _ _) _), ⟨h7.out.1, zm h7.out.2 _⟩, ⟨hB.out.size, heap_alloc_new _ _⟩⟩)
      ·skip
       rintro ⟨b0, aC, cc, b4⟩ X0_3_4 ⟨HB, H3, H4⟩
       have hHeld : X0_3_4.cell? ⟨w.heap.size, 0, none⟩ = some (.slice AC σ.C.length cC) ∧ X0_3_4.cell? ⟨w.heap.size, 2, none⟩ = some (.int .i64 σ.clk) := ⟨za HB x0, za HB x2⟩
       have hB := zb.mk HB
       have h3 := zb.mk H3
       have h4 := zb.mk H4
       clear HB H3 H4
       refine zp (a' := ?_) ?_ ?_
       rotate_left
       ·simp only [zq, Act.put, List.setIfInBounds_toArray, List.set_cons_zero, List.set_cons_succ]
        rfl
       refine two_ (i := 7) (j := 9) (Ni := some 15) (Nj := some 3) (bm 11 255) (bm 11 639) rfl rfl rfl rfl (by kernel_rfl) (by decide) (by decide) (fun K hK => ?_) (fun K hK => ?_)
       ·skip
        refine zI (w1 := ?_) (v := ?_) (by rfl) rfl ?_ ?_
        rotate_left 2
        ·go_simp
         constructor
         ·rfl
         ·rfl
        refine hK.out _ _ ⟨(za (zc hB.out _) x0), (za (zc hB.out _) x2)⟩ (fun hHeld => ?_)
        clear hK K
        refine zp (a' := ?_) ?_ ?_
        rotate_left
        ·show Act.put _ (some 15) _ = _
         simp only [Act.put, List.setIfInBounds_toArray, List.set_cons_zero, List.set_cons_succ, zg, zh]
         rfl
        refine zl (i := 8) (N := some 16) (v := ?_) (a' := ?_) (bm 11 511) rfl rfl (by kernel_rfl) (fun _ _ _ h => h) (Or.inl ⟨by rfl, ?_⟩) ?_ ?_
        rotate_left
        ·intro w'
         go_simp
         with_reducible rfl
        rotate_left
        ·simp only [Act.put, List.setIfInBounds_toArray, List.set_cons_zero, List.set_cons_succ, zg, zh]
         rfl
        exact zp (by first | (simp only [zq, Act.put, List.setIfInBounds_toArray, List.set_cons_zero, List.set_cons_succ]; done) | (simp only [zq, Act.put, List.setIfInBounds_toArray, List.set_cons_zero, List.set_cons_succ]; rfl)) (hJ0_3_4_7 (b0, aC, cc, b4, X0_3_4.heap.size) _ ⟨zc hB.out _, Kd.zN h3.out (zc (Below.refl _ _) _), ⟨h4.out.1, zm h4.out.2 _⟩, ⟨hB.out.size, heap_alloc_new _ _⟩⟩)
       ·skip
        refine zI (w1 := ?_) (v := ?_) (by rfl) rfl ?_ ?_
        rotate_left 2
        ·go_simp
         constructor
         ·rfl
         ·rfl
        refine hK.out _ _ ⟨(za (zc hB.out _) x0), (za (zc hB.out _) x2)⟩ (fun hHeld => ?_)
        clear hK K
        refine zp (a' := ?_) ?_ ?_
        rotate_left
        ·show Act.put _ (some 3) _ = _
         simp only [Act.put, List.setIfInBounds_toArray, List.set_cons_zero, List.set_cons_succ, zg, zh]
         rfl
        exact zp (by first | (simp only [zq, Act.put, List.setIfInBounds_toArray, List.set_cons_zero, List.set_cons_succ]; done) | (simp only [zq, Act.put, List.setIfInBounds_toArray, List.set_cons_zero, List.set_cons_succ]; rfl)) (hJ0_3_4_9 (b0, aC, cc, b4, X0_3_4.heap.size) _ ⟨zc hB.out _, Kd.zN h3.out (zc (Below.refl _ _) _), ⟨h4.out.1, zm h4.out.2 _⟩, ⟨hB.out.size, heap_alloc_new _ _⟩⟩)
     ·skip
      rintro ⟨b0, b4, b7, b9⟩ X0_4_7_9 ⟨HB, H0, H4, H7, H9⟩
      have hHeld : X0_4_7_9.cell? ⟨w.heap.size, 0, none⟩ = some (.slice AC σ.C.length cC) ∧ X0_4_7_9.cell? ⟨w.heap.size, 2, none⟩ = some (.int .i64 σ.clk) := ⟨za HB x0, za HB x2⟩
      have hB := zb.mk HB
      have h0 := zb.mk H0
      have h4 := zb.mk H4
      have h7 := zb.mk H7
      have h9 := zb.mk H9
      clear HB H0 H4 H7 H9
      refine zp (a' := ?_) ?_ ?_
      rotate_left
      ·simp only [zq, Act.put, List.setIfInBounds_toArray, List.set_cons_zero, List.set_cons_succ]
       rfl
      refine yE (i := 3) (N := some 11) (bm 11 767) rfl rfl (by kernel_rfl) (by decide) (fun K hK => ?_)
      refine Kd.zY k33 (w0 := V) V.heap.size (by rfl) (.tmp 8) (.tmp 10) 23 33 _ _ (by rfl) Try.underlying23 info33 (by rfl) (by decide) (by decide) (.slice (some ⟨b0, 0, none⟩) 0 0) [] σ.C AC σ.C.length cC (fun _ => True) (fun _ => False) (by rfl) (by rfl) (yz h0.out.2 h0.out.1 trivial) (Kd.zt HSC.out hB.out) (fun x cs h => by rw [wi h]; exact k33_mkM _ _ _ x) (fun _ h => h.elim) (fun _ _ => trivial) hB.out (by exact Nat.le_trans (show V.heap.size ≤ _ from hB.out.size) (Nat.le_refl _)) (by have := HLC.out; simp; omega) ?_
      intro va wa hra hba hga hata
      obtain ⟨AA, cA, rfl⟩ := Kd.zJ hra
      refine hK.out _ _ ⟨(za hba x0), (za hba x2)⟩ (fun hHeld => ?_)
      clear hK K
      refine zp (a' := ?_) ?_ ?_
      rotate_left
      ·show Act.put _ (some 11) _ = _
       simp only [Act.put, List.setIfInBounds_toArray, List.set_cons_zero, List.set_cons_succ, zg, zh]
       rfl
      refine zl (i := 8) (N := some 16) (v := ?_) (a' := ?_) (bm 11 1023) rfl rfl (by kernel_rfl) (fun _ _ _ h => h) (Or.inl ⟨by rfl, ?_⟩) ?_ ?_
      rotate_left
      ·intro w'
       go_simp
       with_reducible rfl
      rotate_left
      ·simp only [Act.put, List.setIfInBounds_toArray, List.set_cons_zero, List.set_cons_succ, zg, zh]
       rfl
      exact zp (by first | (simp only [zq, Act.put, List.setIfInBounds_toArray, List.set_cons_zero, List.set_cons_succ]; done) | (simp only [zq, Act.put, List.setIfInBounds_toArray, List.set_cons_zero, List.set_cons_succ]; rfl)) (hJ0_3_4_7_9 (b0, AA, cA, b4, b7, b9) _ ⟨hba, hra, ⟨h4.out.1, (zK (yz (d := k33) (base := V.heap.size) (ok := fun _ => True) h0.out.2 h0.out.1 trivial) hga _ _ _ (by decide) h4.out.2).trans h4.out.2⟩, ⟨h7.out.1, (zK (yz (d := k33) (base := V.heap.size) (ok := fun _ => True) h0.out.2 h0.out.1 trivial) hga _ _ _ (by decide) h7.out.2).trans h7.out.2⟩, ⟨h9.out.1, (zK (yz (d := k33) (base := V.heap.size) (ok := fun _ => True) h0.out.2 h0.out.1 trivial) hga _ _ _ (by decide) h9.out.2).trans h9.out.2⟩⟩)
    ·skip
     rintro ⟨b0, aC, cc, b7, b9⟩ X0_3_7_9 ⟨HB, H3, H7, H9⟩
     have hHeld : X0_3_7_9.cell? ⟨w.heap.size, 0, none⟩ = some (.slice AC σ.C.length cC) ∧ X0_3_7_9.cell? ⟨w.heap.size, 2, none⟩ = some (.int .i64 σ.clk) := ⟨za HB x0, za HB x2⟩
     have hB := zb.mk HB
     have h3 := zb.mk H3
     have h7 := zb.mk H7
     have h9 := zb.mk H9
     clear HB H3 H7 H9
     refine zp (a' := ?_) ?_ ?_
     rotate_left
     ·simp only [zq, Act.put, List.setIfInBounds_toArray, List.set_cons_zero, List.set_cons_succ]
      rfl
     refine yE (i := 4) (N := some 12) (bm 11 767) rfl rfl (by kernel_rfl) (by decide) (fun K hK => ?_)
     refine zI (w1 := ?_) (v := ?_) (by rfl) rfl ?_ ?_
     rotate_left 2
     ·go_simp
      constructor
      ·rfl
      ·rfl
     refine hK.out _ _ ⟨(za (zc hB.out _) x0), (za (zc hB.out _) x2)⟩ (fun hHeld => ?_)
     clear hK K
     refine zp (a' := ?_) ?_ ?_
     rotate_left
     ·show Act.put _ (some 12) _ = _
      simp only [Act.put, List.setIfInBounds_toArray, List.set_cons_zero, List.set_cons_succ, zg, zh]
      rfl
     refine zl (i := 8) (N := some 16) (v := ?_) (a' := ?_) (bm 11 1023) rfl rfl (by kernel_rfl) (fun _ _ _ h => h) (Or.inl ⟨by rfl, ?_⟩) ?_ ?_
     rotate_left
     ·intro w'
      go_simp
      with_reducible rfl
     rotate_left
     ·simp only [Act.put, List.setIfInBounds_toArray, List.set_cons_zero, List.set_cons_succ, zg, zh]
      rfl
     exact zp (by first | (simp only [zq, Act.put, List.setIfInBounds_toArray, List.set_cons_zero, List.set_cons_succ]; done) | (simp only [zq, Act.put, List.setIfInBounds_toArray, List.set_cons_zero, List.set_cons_succ]; rfl)) (hJ0_3_4_7_9 (b0, aC, cc, X0_3_7_9.heap.size, b7, b9) _ ⟨zc hB.out _, Kd.zN h3.out (zc (Below.refl _ _) _), ⟨hB.out.size, heap_alloc_new _ _⟩, ⟨h7.out.1, zm h7.out.2 _⟩, ⟨h9.out.1, zm h9.out.2 _⟩⟩)
   ·skip
    rintro ⟨b0, aC, cc, b4, b9⟩ X0_3_4_9 ⟨HB, H3, H4, H9⟩
    have hHeld : X0_3_4_9.cell? ⟨w.heap.size, 0, none⟩ = some (.slice AC σ.C.length cC) ∧ X0_3_4_9.cell? ⟨w.heap.size, 2, none⟩ = some (.int .i64 σ.clk) := ⟨za HB x0, za HB x2⟩
    have hB := zb.mk HB
    have h3 := zb.mk H3
    have h4 := zb.mk H4
    have h9 := zb.mk H9
    clear HB H3 H4 H9
    refine zp (a' := ?_) ?_ ?_
    rotate_left
    ·simp only [zq, Act.put, List.setIfInBounds_toArray, List.set_cons_zero, List.set_cons_succ]
     rfl
    refine yE (i := 7) (N := some 15) (bm 11 767) rfl rfl (by kernel_rfl) (by decide) (fun K hK => ?_)
    refine zI (w1 := ?_) (v := ?_) (by rfl) rfl ?_ ?_
    rotate_left 2
    ·go_simp
     constructor
     ·rfl
     ·rfl
    refine hK.out _ _ ⟨(za (zc hB.out _) x0), (za (zc hB.out _) x2)⟩ (fun hHeld => ?_)
    clear hK K
    refine zp (a' := ?_) ?_ ?_
    rotate_left
    ·show Act.put _ (some 15) _ = _
     simp only [Act.put, List.setIfInBounds_toArray, List.set_cons_zero, List.set_cons_succ, zg, zh]
     rfl
    refine zl (i := 8) (N := some 16) (v := ?_) (a' := ?_) (bm 11 1023) rfl rfl (by kernel_rfl) (fun _ _ _ h => h) (Or.inl ⟨by rfl, ?_⟩) ?_ ?_
    rotate_left
    ·intro w'
     go_simp
     with_reducible rfl
    rotate_left
    ·simp only [Act.put, List.setIfInBounds_toArray, List.set_cons_zero, List.set_cons_succ, zg, zh]
     rfl
    exact zp (by first | (simp only [zq, Act.put, List.setIfInBounds_toArray, List.set_cons_zero, List.set_cons_succ]; done) | (simp only [zq, Act.put, List.setIfInBounds_toArray, List.set_cons_zero, List.set_cons_succ]; rfl)) (hJ0_3_4_7_9 (b0, aC, cc, b4, X0_3_4_9.heap.size, b9) _ ⟨zc hB.out _, Kd.zN h3.out (zc (Below.refl _ _) _), ⟨h4.out.1, zm h4.out.2 _⟩, ⟨hB.out.size, heap_alloc_new _ _⟩, ⟨h9.out.1, zm h9.out.2 _⟩⟩)
  ·skip
   rintro ⟨b0, aC, cc, b4, b7⟩ X0_3_4_7 ⟨HB, H3, H4, H7⟩
   have hHeld : X0_3_4_7.cell? ⟨w.heap.size, 0, none⟩ = some (.slice AC σ.C.length cC) ∧ X0_3_4_7.cell? ⟨w.heap.size, 2, none⟩ = some (.int .i64 σ.clk) := ⟨za HB x0, za HB x2⟩
   have hB := zb.mk HB
   have h3 := zb.mk H3
   have h4 := zb.mk H4
   have h7 := zb.mk H7
   clear HB H3 H4 H7
   refine zp (a' := ?_) ?_ ?_
   rotate_left
   ·simp only [zq, Act.put, List.setIfInBounds_toArray, List.set_cons_zero, List.set_cons_succ]
    rfl
   refine yE (i := 9) (N := some 3) (bm 11 1023) rfl rfl (by kernel_rfl) (by decide) (fun K hK => ?_)
   refine zI (w1 := ?_) (v := ?_) (by rfl) rfl ?_ ?_
   rotate_left 2
   ·go_simp
    constructor
    ·rfl
    ·rfl
   refine hK.out _ _ ⟨(za (zc hB.out _) x0), (za (zc hB.out _) x2)⟩ (fun hHeld => ?_)
   clear hK K
   refine zp (a' := ?_) ?_ ?_
   rotate_left
   ·show Act.put _ (some 3) _ = _
    simp only [Act.put, List.setIfInBounds_toArray, List.set_cons_zero, List.set_cons_succ, zg, zh]
    rfl
   exact zp (by first | (simp only [zq, Act.put, List.setIfInBounds_toArray, List.set_cons_zero, List.set_cons_succ]; done) | (simp only [zq, Act.put, List.setIfInBounds_toArray, List.set_cons_zero, List.set_cons_succ]; rfl)) (hJ0_3_4_7_9 (b0, aC, cc, b4, b7, X0_3_4_7.heap.size) _ ⟨zc hB.out _, Kd.zN h3.out (zc (Below.refl _ _) _), ⟨h4.out.1, zm h4.out.2 _⟩, ⟨h7.out.1, zm h7.out.2 _⟩, ⟨hB.out.size, heap_alloc_new _ _⟩⟩)
 rintro ⟨b0, aC, cc, b4, b7, b9⟩ X0_3_4_7_9 ⟨HB, H3, H4, H7, H9⟩
 have hHeld : X0_3_4_7_9.cell? ⟨w.heap.size, 0, none⟩ = some (.slice AC σ.C.length cC) ∧ X0_3_4_7_9.cell? ⟨w.heap.size, 2, none⟩ = some (.int .i64 σ.clk) := ⟨za HB x0, za HB x2⟩
 have hB := zb.mk HB
 have h3 := zb.mk H3
 have h4 := zb.mk H4
 have h7 := zb.mk H7
 have h9 := zb.mk H9
 clear HB H3 H4 H7 H9
 have y0 := (zd h9.out.2 0).trans rfl
 have y1 := (zd h9.out.2 1).trans rfl
 have y2 := (zd h9.out.2 2).trans rfl
 have y3 := (zd h9.out.2 3).trans rfl
 have yf0 := zk h9.out.2 0
 have yf1 := zk h9.out.2 1
 have yf2 := zk h9.out.2 2
 have yf3 := zk h9.out.2 3
 refine zp (a' := ?_) ?_ ?_
 rotate_left
 ·simp only [zq, Act.put, List.setIfInBounds_toArray, List.set_cons_zero, List.set_cons_succ]
  rfl
 refine yR (i := 10) (N := none) (bm 11 2047) rfl rfl (by kernel_rfl) (by decide) (fun K hK => ?_)
 refine yQ (w1 := ?_) (by rfl) rfl ?_ ?_
 rotate_left
 ·go_simp
  rfl
 refine hK.out _ _ ?_
 clear hK K
 refine yt (by kernel_rfl) ?_
 have HO1 := zb.mk (Out.start (clk := σ.clk) HBV.out VSZ.out hB.out h3.out h4.out h7.out h9.out HX.out HX2.out)
 obtain ⟨W1, hW1⟩ : ∃ W1, W1 = (((X0_3_4_7_9.setCell ⟨b9, 0, none⟩ (.slice aC σ.C.length cc)).setCell ⟨b9, 1, none⟩ (.slice (some ⟨b4, 0, none⟩) 0 0)).setCell ⟨b9, 2, none⟩ (.int .i64 σ.clk)).setCell ⟨b9, 3, none⟩ (.slice (some ⟨b7, 0, none⟩) 0 0) := ⟨_, rfl⟩
 rw [← hW1] at HO1 ⊢
 have HO := zb.mk (show Out w W1 b9 W1.heap.size (.slice aC σ.C.length cc) (.slice (some ⟨b4, 0, none⟩) 0 0) (.slice (some ⟨b7, 0, none⟩) 0 0) σ.C [] σ.clk [] (XIn AC cC AT cT AL cL σ) XRes from HO1.out.now)
 clear HO1
 obtain ⟨vL, hvL⟩ : ∃ v, v = Value.slice (some ⟨b7, 0, none⟩) 0 0 := ⟨_, rfl⟩
 rw [← hvL] at HO
 clear hW1 hvL x0 x2 y0 y1 y2 y3 yf0 yf1 yf2 yf3 hB h3 h4 h7 h9 HX HX2 HBV VSZ HSC hHeld
 have hu := Try.underlying43
 have hup := Try.underlying41
 have hui := Try.underlying29
 have hue := Try.underlying50
 go_wp2
 go_loopw [4] (fun v4 wr => ∃ (i : Nat) (V : World) (vT : Value) (T : List TG), V = wr ∧ v4 = .int .i64 i ∧ zb (i ≤ σ.T.length) ∧ zb (T.map TG.s = σ.T.take i) ∧ zb (Out w V b9 V.heap.size (.slice aC σ.C.length cc) vT vL σ.C T σ.clk [] (XIn AC cC AT cT AL cL σ) XRes)) (fun v4 _ => σ.T.length - (intOf v4).toNat)
 case atStart => exact ⟨0, W1, _, [], rfl, rfl, ⟨Nat.zero_le _⟩, ⟨by simp⟩, HO⟩
 case round =>
  clear HO
  obtain ⟨i, V, vT, T, rfl, rfl, hi, HE, HO⟩ := hrel
  have x1 : V.cell? ⟨w.heap.size, 1, none⟩ = some (.slice AT σ.T.length cT) := (zd HO.out.x 1).trans rfl
  by_cases hlt : i < σ.T.length
  ·have cb : decide ((i : Int) < (σ.T.length : Int)) = true := decide_eq_true (by omega)
   have cb2 : decide (i < σ.T.length) = true := decide_eq_true hlt
   have HLT := zb.mk hlt
   have ei : wrap64 ((i : Int) + 1) = ((i + 1 : Nat) : Int) := by have := HS.out.t; unfold wrap64; omega
   have EI := zb.mk ei
   have p0 : (0 : Int) ≤ (i : Int) := by omega
   have p1 : (i : Int) < (σ.T.length : Int) := by omega
   obtain ⟨ad, A3, c3, A8, c8, A9, c9, A10, c10, rfl, z0, z1, z2, z3, z4, z5, z6, z7, z8, z9, z10, z11, z12, l3, g3, l8, g8, l9, g9, l10, g10⟩ := at_T43 (Kd.zt HW.out.T HO.out.hb) (i : Int) p0 p1
   rw [Int.toNat_natCast] at z0 z1 z2 z3 z4 z5 z6 z7 z8 z9 z10 z11 z12
   have hmem : zF σ.T (i : Int) ∈ σ.T := xC (by rw [Int.toNat_natCast]; exact hlt)
   have HR := zb.mk (HS.out.rows _ hmem)
   have HTK := zb.mk (show (σ.T.take (i + 1)) = σ.T.take i ++ [zF σ.T (i : Int)] by rw [List.take_succ_eq_append_getElem hlt]; unfold zF; rw [Int.toNat_natCast, List.getD_eq_getElem?_getD, List.getElem?_eq_getElem hlt]; rfl)
   obtain ⟨t, ht⟩ : ∃ t, t = zF σ.T (i : Int) := ⟨_, rfl⟩
   rw [← ht] at z0 z1 z2 z3 z4 z5 z6 z7 z8 z9 z10 z11 z12 l3 g3 l8 g8 l9 g9 l10 g10 HR HTK
   have G3 := zb.mk g3
   have G8 := zb.mk g8
   have G9 := zb.mk (And.intro g9 l9)
   have G10 := zb.mk (And.intro g10 l10)
   clear ht hmem hlt ei l3 g3 l8 g8 l9 g9 l10 g10
   go_upto_region 6 with (fail)
   obtain ⟨V5, hV5⟩ : ∃ W, W = V.alloc (.cells #[.int .i64 t.f0, .int .i64 t.f1, .int .i64 t.f2, .slice A3 t.f3.length c3, .int .i64 t.f4, .int .i64 t.f5, .int .i64 t.f6, .int .i64 t.f7, .slice A8 t.f8.length c8, .slice A9 t.f9.length c9, .slice A10 t.f10.length c10, .int .i64 t.f11, .int .i64 t.f12] 43) := ⟨_, rfl⟩
   have HB5 := zb.mk (show Below V.heap.size V V5 by rw [hV5]; exact zc (Below.refl _ _) _)
   have VS5 := zb.mk (show V.heap.size < V5.heap.size by rw [hV5]; simp)
   have HX5 := zb.mk (show V5.heap[V.heap.size]? = some (.cells #[.int .i64 t.f0, .int .i64 t.f1, .int .i64 t.f2, .slice A3 t.f3.length c3, .int .i64 t.f4, .int .i64 t.f5, .int .i64 t.f6, .int .i64 t.f7, .slice A8 t.f8.length c8, .slice A9 t.f9.length c9, .slice A10 t.f10.length c10, .int .i64 t.f11, .int .i64 t.f12] 43 (0, 0)) by rw [hV5]; exact heap_alloc_new _ _)
   rw [← hV5]
   clear hV5 z0 z1 z2 z3 z4 z5 z6 z7 z8 z9 z10 z11 z12
   obtain ⟨bx, hbx⟩ : ∃ b, b = V.heap.size := ⟨_, rfl⟩
   have HBX := zb.mk hbx
   rw [← hbx] at HX5 VS5 ⊢
   clear hbx
   have HBB5 := HB5
   have y3 := (zd HX5.out 3).trans rfl
   have vs3 := VS5.out
   have HG3 := zb.mk (show ∀ W, Below V5.heap.size V5 W → W.heap[bx]? = V5.heap[bx]? from fun W hb => hb.block _ (zo HX5.out))
   go_upto_region 7 with (at_builtin; refine Kd.yT (Kd.int .i64) (w0 := V5) V5.heap.size rfl (.tmp 29) (.tmp 31) 29 3 (.int .i64 0) 8 rfl Try.underlying29 (by kernel_rfl) rfl (by decide) (by decide) (.slice (some ⟨V5.heap.size, 0, none⟩) 0 0) [] t.f3 A3 t.f3.length c3 (fun _ => True) (fun _ => False) rfl rfl (xI (heap_alloc_new _ _) (Nat.le_refl _) trivial) (Kd.zt G3.out (zc (zi HBB5.out (Below.refl _ _)) _)) (fun _ _ h => h) (fun _ h => h.elim) (fun _ _ => trivial) (zc (Below.refl _ _) _) (by simp) (by have := HR.out; simp; omega) ?_; intro va wa hra hba hga hata; have HRa := zb.mk hra; have HBa := zb.mk hba; obtain ⟨B3, d3, rfl⟩ := Kd.zJ hra; have y3b := (zd ((HG3.out wa hba).trans HX5.out) 3).trans rfl; have yf3 := zk ((HG3.out wa hba).trans HX5.out) 3; clear hra hba hga hata)
   obtain ⟨V6, hV6⟩ : ∃ W, W = wa.setCell ⟨bx, 3, none⟩ (.slice B3 t.f3.length d3) := ⟨_, rfl⟩
   have HX6 := zb.mk (show V6.heap[bx]? = some (.cells #[.int .i64 t.f0, .int .i64 t.f1, .int .i64 t.f2, .slice B3 t.f3.length d3, .int .i64 t.f4, .int .i64 t.f5, .int .i64 t.f6, .int .i64 t.f7, .slice A8 t.f8.length c8, .slice A9 t.f9.length c9, .slice A10 t.f10.length c10, .int .i64 t.f11, .int .i64 t.f12] 43 (0, 0)) by rw [hV6]; exact zu ((HG3.out wa HBa.out).trans HX5.out) 3 _)
   have HR3 := zb.mk (show Kd.R (Kd.int .i64) 3 V6 V5.heap.size (fun _ => True) (.slice B3 t.f3.length d3) t.f3 by rw [hV6]; exact xd HRa.out VS5.out 3 _)
   have HL3 := zb.mk (lies HR3.out)
   have HBB6 := zb.mk (show Below V.heap.size V V6 by rw [hV6]; exact zv (zM HBa.out (by have := HBB5.out.size; omega) |> fun q => HBB5.out.trans q) (by have := HBX.out; omega))
   have HST6 := zb.mk (show V5.heap.size ≤ V6.heap.size by rw [hV6]; have := HBa.out.size; simpa [World.setCell] using this)
   have VS6 := zb.mk (show bx < V6.heap.size by have h1 := VS5.out; have h2 := HST6.out; omega)
   rw [← hV6]
   clear hV6 y3 y3b yf3 vs3 HG3 HRa HBa
   have y8 := (zd HX6.out 8).trans rfl
   have vs8 := VS6.out
   have HG8 := zb.mk (show ∀ W, Below V6.heap.size V6 W → W.heap[bx]? = V6.heap[bx]? from fun W hb => hb.block _ (zo HX6.out))
   go_upto_region 8 with (at_builtin; refine Kd.yT (Kd.int .i64) (w0 := V6) V6.heap.size rfl (.tmp 34) (.tmp 36) 29 3 (.int .i64 0) 8 rfl Try.underlying29 (by kernel_rfl) rfl (by decide) (by decide) (.slice (some ⟨V6.heap.size, 0, none⟩) 0 0) [] t.f8 A8 t.f8.length c8 (fun _ => True) (fun _ => False) rfl rfl (xI (heap_alloc_new _ _) (Nat.le_refl _) trivial) (Kd.zt G8.out (zc (zi HBB6.out (Below.refl _ _)) _)) (fun _ _ h => h) (fun _ h => h.elim) (fun _ _ => trivial) (zc (Below.refl _ _) _) (by simp) (by have := HR.out; simp; omega) ?_; intro va wa hra hba hga hata; have HRa := zb.mk hra; have HBa := zb.mk hba; obtain ⟨B8, d8, rfl⟩ := Kd.zJ hra; have y8b := (zd ((HG8.out wa hba).trans HX6.out) 8).trans rfl; have yf8 := zk ((HG8.out wa hba).trans HX6.out) 8; clear hra hba hga hata)
   obtain ⟨V7, hV7⟩ : ∃ W, W = wa.setCell ⟨bx, 8, none⟩ (.slice B8 t.f8.length d8) := ⟨_, rfl⟩
   have HX7 := zb.mk (show V7.heap[bx]? = some (.cells #[.int .i64 t.f0, .int .i64 t.f1, .int .i64 t.f2, .slice B3 t.f3.length d3, .int .i64 t.f4, .int .i64 t.f5, .int .i64 t.f6, .int .i64 t.f7, .slice B8 t.f8.length d8, .slice A9 t.f9.length c9, .slice A10 t.f10.length c10, .int .i64 t.f11, .int .i64 t.f12] 43 (0, 0)) by rw [hV7]; exact zu ((HG8.out wa HBa.out).trans HX6.out) 8 _)
   have HR8 := zb.mk (show Kd.R (Kd.int .i64) 3 V7 V6.heap.size (fun _ => True) (.slice B8 t.f8.length d8) t.f8 by rw [hV7]; exact xd HRa.out VS6.out 8 _)
   have HL8 := zb.mk (lies HR8.out)
   have HR3 := zb.mk (show Kd.R (Kd.int .i64) 3 V7 V5.heap.size (fun _ => True) (.slice B3 t.f3.length d3) t.f3 by rw [hV7]; exact xd (Kd.zN HR3.out HBa.out) VS5.out 8 _)
   have HBB7 := zb.mk (show Below V.heap.size V V7 by rw [hV7]; exact zv (zM HBa.out (by have := HBB6.out.size; omega) |> fun q => HBB6.out.trans q) (by have := HBX.out; omega))
   have HST7 := zb.mk (show V6.heap.size ≤ V7.heap.size by rw [hV7]; have := HBa.out.size; simpa [World.setCell] using this)
   have VS7 := zb.mk (show bx < V7.heap.size by have h1 := VS6.out; have h2 := HST7.out; omega)
   rw [← hV7]
   clear hV7 y8 y8b yf8 vs8 HG8 HRa HBa
   have y9 := (zd HX7.out 9).trans rfl
   go_wp2_with fail
   refine (xy A9 c9 t.f9 _ (Kd.zt G9.out.1 HBB7.out) G9.out.2 HR.out.2.2.1).mono ?_
   rintro e wa ⟨va, rfl, hra, hba⟩
   have HRa := zb.mk hra
   have HBa := zb.mk hba
   obtain ⟨B9, d9, rfl⟩ := Kd.zJ hra
   have y9b := (zd ((hba.block _ (zo HX7.out)).trans HX7.out) 9).trans rfl
   have yf9 := zk ((hba.block _ (zo HX7.out)).trans HX7.out) 9
   clear hra hba y9
   go_upto_region 9 with (fail)
   obtain ⟨V8, hV8⟩ : ∃ W, W = wa.setCell ⟨bx, 9, none⟩ (.slice B9 t.f9.length d9) := ⟨_, rfl⟩
   have HX8 := zb.mk (show V8.heap[bx]? = some (.cells #[.int .i64 t.f0, .int .i64 t.f1, .int .i64 t.f2, .slice B3 t.f3.length d3, .int .i64 t.f4, .int .i64 t.f5, .int .i64 t.f6, .int .i64 t.f7, .slice B8 t.f8.length d8, .slice B9 t.f9.length d9, .slice A10 t.f10.length c10, .int .i64 t.f11, .int .i64 t.f12] 43 (0, 0)) by rw [hV8]; exact zu ((HBa.out.block _ (zo HX7.out)).trans HX7.out) 9 _)
   have HR9 := zb.mk (show Kd.R k45 45 V8 V7.heap.size (fun _ => True) (.slice B9 t.f9.length d9) t.f9 by rw [hV8]; exact xd HRa.out VS7.out 9 _)
   have HL9 := zb.mk (lies HR9.out)
   have HR3 := zb.mk (show Kd.R (Kd.int .i64) 3 V8 V5.heap.size (fun _ => True) (.slice B3 t.f3.length d3) t.f3 by rw [hV8]; exact xd (Kd.zN HR3.out HBa.out) VS5.out 9 _)
   have HR8 := zb.mk (show Kd.R (Kd.int .i64) 3 V8 V6.heap.size (fun _ => True) (.slice B8 t.f8.length d8) t.f8 by rw [hV8]; exact xd (Kd.zN HR8.out HBa.out) VS6.out 9 _)
   have HBB8 := zb.mk (show Below V.heap.size V V8 by rw [hV8]; exact zv (zM HBa.out (by have := HBB7.out.size; omega) |> fun q => HBB7.out.trans q) (by have := HBX.out; omega))
   have HST8 := zb.mk (show V7.heap.size ≤ V8.heap.size by rw [hV8]; have := HBa.out.size; simpa [World.setCell] using this)
   have VS8 := zb.mk (show bx < V8.heap.size by have h1 := VS7.out; have h2 := HST8.out; omega)
   rw [← hV8]
   clear hV8 y9b yf9 HRa HBa
   have y10 := (zd HX8.out 10).trans rfl
   go_wp2_with fail
   refine (xy A10 c10 t.f10 _ (Kd.zt G10.out.1 HBB8.out) G10.out.2 HR.out.2.2.2).mono ?_
   rintro e wa ⟨va, rfl, hra, hba⟩
   have HRa := zb.mk hra
   have HBa := zb.mk hba
   obtain ⟨B10, d10, rfl⟩ := Kd.zJ hra
   have y10b := (zd ((hba.block _ (zo HX8.out)).trans HX8.out) 10).trans rfl
   have yf10 := zk ((hba.block _ (zo HX8.out)).trans HX8.out) 10
   clear hra hba y10
   go_upto_region 10 with (fail)
   obtain ⟨V9, hV9⟩ : ∃ W, W = wa.setCell ⟨bx, 10, none⟩ (.slice B10 t.f10.length d10) := ⟨_, rfl⟩
   have HX9 := zb.mk (show V9.heap[bx]? = some (.cells #[.int .i64 t.f0, .int .i64 t.f1, .int .i64 t.f2, .slice B3 t.f3.length d3, .int .i64 t.f4, .int .i64 t.f5, .int .i64 t.f6, .int .i64 t.f7, .slice B8 t.f8.length d8, .slice B9 t.f9.length d9, .slice B10 t.f10.length d10, .int .i64 t.f11, .int .i64 t.f12] 43 (0, 0)) by rw [hV9]; exact zu ((HBa.out.block _ (zo HX8.out)).trans HX8.out) 10 _)
   have HR10 := zb.mk (show Kd.R k45 45 V9 V8.heap.size (fun _ => True) (.slice B10 t.f10.length d10) t.f10 by rw [hV9]; exact xd HRa.out VS8.out 10 _)
   have HL10 := zb.mk (lies HR10.out)
   have HR3 := zb.mk (show Kd.R (Kd.int .i64) 3 V9 V5.heap.size (fun _ => True) (.slice B3 t.f3.length d3) t.f3 by rw [hV9]; exact xd (Kd.zN HR3.out HBa.out) VS5.out 10 _)
   have HR8 := zb.mk (show Kd.R (Kd.int .i64) 3 V9 V6.heap.size (fun _ => True) (.slice B8 t.f8.length d8) t.f8 by rw [hV9]; exact xd (Kd.zN HR8.out HBa.out) VS6.out 10 _)
   have HR9 := zb.mk (show Kd.R k45 45 V9 V7.heap.size (fun _ => True) (.slice B9 t.f9.length d9) t.f9 by rw [hV9]; exact xd (Kd.zN HR9.out HBa.out) VS7.out 10 _)
   have HBB9 := zb.mk (show Below V.heap.size V V9 by rw [hV9]; exact zv (zM HBa.out (by have := HBB8.out.size; omega) |> fun q => HBB8.out.trans q) (by have := HBX.out; omega))
   have HST9 := zb.mk (show V8.heap.size ≤ V9.heap.size by rw [hV9]; have := HBa.out.size; simpa [World.setCell] using this)
   have VS9 := zb.mk (show bx < V9.heap.size by have h1 := VS8.out; have h2 := HST9.out; omega)
   rw [← hV9]
   clear hV9 y10b yf10 HRa HBa
   have HO9 := zb.mk (HO.out.below HBB9.out)
   have HNR := zb.mk (new_row2 (t := t) (N := V5.heap.size) (s1 := V6.heap.size) (s2 := V7.heap.size) (s3 := V8.heap.size) (B := w.heap.size) (by have h1 := HO.out.hb.size; have h2 := HB5.out.size; omega) HST6.out HST7.out HST8.out HST9.out (by have h1 := HO.out.hb.size; have h2 := HB5.out.size; omega) (by have h1 := HO.out.hb.size; have h2 := HBB6.out.size; omega) (by have h1 := HO.out.hb.size; have h2 := HBB7.out.size; omega) (by have h1 := HO.out.hb.size; have h2 := HBB8.out.size; omega) HR3.out HR8.out HR9.out HR10.out HL3.out HL8.out HL9.out HL10.out)
   have HVV := zb.mk (show V.heap.size ≤ V5.heap.size from HB5.out.size)
   have HTL := zb.mk (show T.length ≤ 2500 by have h1 := HS.out.t; have h2 : T.length = (σ.T.take i).length := (by rw [← HE.out, List.length_map]); rw [h2, List.length_take]; omega)
   obtain ⟨AT', cT', rfl⟩ := Kd.zJ HO9.out.V.rT
   have q1 : V9.cell? ⟨b9, 1, none⟩ = some (.slice AT' T.length cT') := (zd HO9.out.blk 1).trans rfl
   have y0 := (zd HX9.out 0).trans rfl
   have y1 := (zd HX9.out 1).trans rfl
   have y2 := (zd HX9.out 2).trans rfl
   have y3 := (zd HX9.out 3).trans rfl
   have y4 := (zd HX9.out 4).trans rfl
   have y5 := (zd HX9.out 5).trans rfl
   have y6 := (zd HX9.out 6).trans rfl
   have y7 := (zd HX9.out 7).trans rfl
   have y8 := (zd HX9.out 8).trans rfl
   have y9 := (zd HX9.out 9).trans rfl
   have y10 := (zd HX9.out 10).trans rfl
   have y11 := (zd HX9.out 11).trans rfl
   have y12 := (zd HX9.out 12).trans rfl
   have vs9 := VS9.out
   have vD := zo HO9.out.blk
   go_wp2_with (at_builtin; refine Kd.yi kTG (w0 := V9) w.heap.size rfl (.tmp 48) (.tmp 50) 24 43 _ _ rfl Try.underlying24 info43 rfl (by decide) (by decide) (.slice AT' T.length cT') T (⟨t, .slice B3 t.f3.length d3, .slice B8 t.f8.length d8, .slice B9 t.f9.length d9, .slice B10 t.f10.length d10⟩ : TG) [.int .i64 t.f0, .int .i64 t.f1, .int .i64 t.f2, .slice B3 t.f3.length d3, .int .i64 t.f4, .int .i64 t.f5, .int .i64 t.f6, .int .i64 t.f7, .slice B8 t.f8.length d8, .slice B9 t.f9.length d9, .slice B10 t.f10.length d10, .int .i64 t.f11, .int .i64 t.f12] (fun _ => True) (fun _ => False) rfl rfl ⟨rfl, by intro u hu; simp only [List.mem_cons, List.not_mem_nil, or_false] at hu; rcases hu with rfl | rfl | rfl | rfl | rfl | rfl | rfl | rfl | rfl | rfl | rfl | rfl | rfl <;> rfl⟩ (fun _ hk => hk.elim) (fun _ _ => trivial) HO9.out.V.rT (Below.refl _ _) HO9.out.hb.size (by have := HTL.out; omega) ?_; intro vc wc hrc hbc hgc hatc; have HRc := zb.mk hrc; have HBc := zb.mk hbc; have HGc := zb.mk hgc; obtain ⟨Ac, cc', rfl⟩ := Kd.zJ hrc; have HCB := zb.mk ((zK HO9.out.V.rT hgc b9 _ _ (by decide) HO9.out.blk).trans HO9.out.blk); have gc1 := (zd HCB.out 1).trans rfl; have fC1 := zk HCB.out 1; clear hrc hbc hgc hatc)
   go_roundw
   case rel =>
    have r := HO9.out.taskput HBB9.out.size HRc.out HGc.out HBc.out HNR.out.1 HNR.out.2.1 (fun b hb => ⟨Nat.le_trans HVV.out (HNR.out.2.2 b hb).1, (HNR.out.2.2 b hb).2⟩)
    have e : wc.setCell ⟨b9, 1, none⟩ (.slice Ac (T ++ [(⟨t, .slice B3 t.f3.length d3, .slice B8 t.f8.length d8, .slice B9 t.f9.length d9, .slice B10 t.f10.length d10⟩ : TG)]).length cc') = wc.setCell ⟨b9, 1, none⟩ (.slice Ac (T.length + 1) cc') := by rw [List.length_append]; rfl
    exact ⟨i + 1, _, _, T ++ [(⟨t, .slice B3 t.f3.length d3, .slice B8 t.f8.length d8, .slice B9 t.f9.length d9, .slice B10 t.f10.length d10⟩ : TG)], rfl, by rw [EI.out], ⟨HLT.out⟩, ⟨by rw [List.map_append, HE.out, HTK.out]; rfl⟩, ⟨by first | exact r.now | (rw [← e]; exact r.now)⟩⟩
   case measure => rw [EI.out]; have := HLT.out; simp [intOf]; omega
  ·have cb : decide ((i : Int) < (σ.T.length : Int)) = false := decide_eq_false (by omega)
   have cb2 : decide (i < σ.T.length) = false := decide_eq_false hlt
   have HE := zb.mk (show T.map TG.s = σ.T by rw [HE.out]; exact List.take_of_length_le (by omega))
   clear hlt hi
   have HO := zb.mk (show Out w V b9 V.heap.size (.slice aC σ.C.length cc) vT vL σ.C T σ.clk (σ.L.take 0) (XIn AC cC AT cT AL cL σ) XRes by rw [List.take_zero]; exact HO.out)
   obtain ⟨aT, cT', rfl⟩ := Kd.zJ HO.out.V.rT
   go_wp2
   clear x1
   go_loopw [6] (fun v6 wr => ∃ (i : Nat) (V : World) (vL : Value), V = wr ∧ v6 = .int .i64 i ∧ zb (i ≤ σ.L.length) ∧ zb (Out w V b9 V.heap.size (.slice aC σ.C.length cc) (.slice aT T.length cT') vL σ.C T σ.clk (σ.L.take i) (XIn AC cC AT cT AL cL σ) XRes)) (fun v6 _ => σ.L.length - (intOf v6).toNat)
   case atStart => exact ⟨0, V, vL, rfl, rfl, ⟨Nat.zero_le _⟩, HO⟩
   case round =>
    clear HO
    obtain ⟨i, V, vL, rfl, rfl, hi, HO⟩ := hrel
    have x1 : V.cell? ⟨w.heap.size, 3, none⟩ = some (.slice AL σ.L.length cL) := (zd HO.out.x 3).trans rfl
    by_cases hlt : i < σ.L.length
    ·have cb : decide ((i : Int) < (σ.L.length : Int)) = true := decide_eq_true (by omega)
     have cb2 : decide (i < σ.L.length) = true := decide_eq_true hlt
     have HLT := zb.mk hlt
     have ei : wrap64 ((i : Int) + 1) = ((i + 1 : Nat) : Int) := by have := HS.out.l; unfold wrap64; omega
     have EI := zb.mk ei
     have p0 : (0 : Int) ≤ (i : Int) := by omega
     have p1 : (i : Int) < (σ.L.length : Int) := by omega
     obtain ⟨ad, A3, c3, A4, c4, rfl, z0, z1, z2, z3, z4, z5, l3, g3, l4, g4⟩ := at_T50 (Kd.zt HW.out.L HO.out.hb) (i : Int) p0 p1
     rw [Int.toNat_natCast] at z0 z1 z2 z3 z4 z5
     have hmem : yu σ.L (i : Int) ∈ σ.L := xC (by rw [Int.toNat_natCast]; exact hlt)
     have HR := zb.mk (HS.out.ents _ hmem)
     have HTK := zb.mk (show (σ.L.take (i + 1)) = σ.L.take i ++ [yu σ.L (i : Int)] by rw [List.take_succ_eq_append_getElem hlt]; unfold yu; rw [Int.toNat_natCast, List.getD_eq_getElem?_getD, List.getElem?_eq_getElem hlt]; rfl)
     obtain ⟨t, ht⟩ : ∃ t, t = yu σ.L (i : Int) := ⟨_, rfl⟩
     rw [← ht] at z0 z1 z2 z3 z4 z5 l3 g3 l4 g4 HR HTK
     have G3 := zb.mk (And.intro g3 l3)
     have G4 := zb.mk (And.intro g4 l4)
     clear ht hmem hlt ei l3 g3 l4 g4
     go_upto_region 15 with (fail)
     obtain ⟨V5, hV5⟩ : ∃ W, W = V.alloc (.cells #[.int .i64 t.f0, .int .i64 t.f1, .int .i64 t.f2, .slice A3 t.f3.length c3, .slice A4 t.f4.length c4, .int .i64 t.f5] 50) := ⟨_, rfl⟩
     have HB5 := zb.mk (show Below V.heap.size V V5 by rw [hV5]; exact zc (Below.refl _ _) _)
     have VS5 := zb.mk (show V.heap.size < V5.heap.size by rw [hV5]; simp)
     have HX5 := zb.mk (show V5.heap[V.heap.size]? = some (.cells #[.int .i64 t.f0, .int .i64 t.f1, .int .i64 t.f2, .slice A3 t.f3.length c3, .slice A4 t.f4.length c4, .int .i64 t.f5] 50 (0, 0)) by rw [hV5]; exact heap_alloc_new _ _)
     rw [← hV5]
     clear hV5 z0 z1 z2 z3 z4 z5
     obtain ⟨bx, hbx⟩ : ∃ b, b = V.heap.size := ⟨_, rfl⟩
     have HBX := zb.mk hbx
     rw [← hbx] at HX5 VS5 ⊢
     clear hbx
     have HBB5 := HB5
     have y3 := (zd HX5.out 3).trans rfl
     go_wp2_with fail
     refine (xy A3 c3 t.f3 _ (Kd.zt G3.out.1 HBB5.out) G3.out.2 HR.out.1).mono ?_
     rintro e wa ⟨va, rfl, hra, hba⟩
     have HRa := zb.mk hra
     have HBa := zb.mk hba
     obtain ⟨B3, d3, rfl⟩ := Kd.zJ hra
     have y3b := (zd ((hba.block _ (zo HX5.out)).trans HX5.out) 3).trans rfl
     have yf3 := zk ((hba.block _ (zo HX5.out)).trans HX5.out) 3
     clear hra hba y3
     go_upto_region 16 with (fail)
     obtain ⟨V6, hV6⟩ : ∃ W, W = wa.setCell ⟨bx, 3, none⟩ (.slice B3 t.f3.length d3) := ⟨_, rfl⟩
     have HX6 := zb.mk (show V6.heap[bx]? = some (.cells #[.int .i64 t.f0, .int .i64 t.f1, .int .i64 t.f2, .slice B3 t.f3.length d3, .slice A4 t.f4.length c4, .int .i64 t.f5] 50 (0, 0)) by rw [hV6]; exact zu ((HBa.out.block _ (zo HX5.out)).trans HX5.out) 3 _)
     have HR3 := zb.mk (show Kd.R k45 45 V6 V5.heap.size (fun _ => True) (.slice B3 t.f3.length d3) t.f3 by rw [hV6]; exact xd HRa.out VS5.out 3 _)
     have HL3 := zb.mk (lies HR3.out)
     have HBB6 := zb.mk (show Below V.heap.size V V6 by rw [hV6]; exact zv (zM HBa.out (by have := HBB5.out.size; omega) |> fun q => HBB5.out.trans q) (by have := HBX.out; omega))
     have HST6 := zb.mk (show V5.heap.size ≤ V6.heap.size by rw [hV6]; have := HBa.out.size; simpa [World.setCell] using this)
     have VS6 := zb.mk (show bx < V6.heap.size by have h1 := VS5.out; have h2 := HST6.out; omega)
     rw [← hV6]
     clear hV6 y3b yf3 HRa HBa
     have y4 := (zd HX6.out 4).trans rfl
     go_wp2_with fail
     refine (xy A4 c4 t.f4 _ (Kd.zt G4.out.1 HBB6.out) G4.out.2 HR.out.2).mono ?_
     rintro e wa ⟨va, rfl, hra, hba⟩
     have HRa := zb.mk hra
     have HBa := zb.mk hba
     obtain ⟨B4, d4, rfl⟩ := Kd.zJ hra
     have y4b := (zd ((hba.block _ (zo HX6.out)).trans HX6.out) 4).trans rfl
     have yf4 := zk ((hba.block _ (zo HX6.out)).trans HX6.out) 4
     clear hra hba y4
     go_upto_region 17 with (fail)
     obtain ⟨V7, hV7⟩ : ∃ W, W = wa.setCell ⟨bx, 4, none⟩ (.slice B4 t.f4.length d4) := ⟨_, rfl⟩
     have HX7 := zb.mk (show V7.heap[bx]? = some (.cells #[.int .i64 t.f0, .int .i64 t.f1, .int .i64 t.f2, .slice B3 t.f3.length d3, .slice B4 t.f4.length d4, .int .i64 t.f5] 50 (0, 0)) by rw [hV7]; exact zu ((HBa.out.block _ (zo HX6.out)).trans HX6.out) 4 _)
     have HR4 := zb.mk (show Kd.R k45 45 V7 V6.heap.size (fun _ => True) (.slice B4 t.f4.length d4) t.f4 by rw [hV7]; exact xd HRa.out VS6.out 4 _)
     have HL4 := zb.mk (lies HR4.out)
     have HR3 := zb.mk (show Kd.R k45 45 V7 V5.heap.size (fun _ => True) (.slice B3 t.f3.length d3) t.f3 by rw [hV7]; exact xd (Kd.zN HR3.out HBa.out) VS5.out 4 _)
     have HBB7 := zb.mk (show Below V.heap.size V V7 by rw [hV7]; exact zv (zM HBa.out (by have := HBB6.out.size; omega) |> fun q => HBB6.out.trans q) (by have := HBX.out; omega))
     have HST7 := zb.mk (show V6.heap.size ≤ V7.heap.size by rw [hV7]; have := HBa.out.size; simpa [World.setCell] using this)
     have VS7 := zb.mk (show bx < V7.heap.size by have h1 := VS6.out; have h2 := HST7.out; omega)
     rw [← hV7]
     clear hV7 y4b yf4 HRa HBa
     have HO9 := zb.mk (HO.out.below HBB7.out)
     obtain ⟨AL', cL', rfl⟩ := Kd.zJ HO9.out.V.rL
     have HTL := zb.mk (show (σ.L.take i).length ≤ 1000000000 by have h1 := HS.out.l; rw [List.length_take]; omega)
     have HVV := zb.mk (show V.heap.size ≤ V5.heap.size from HB5.out.size)
     have HBs := zb.mk (show w.heap.size ≤ V5.heap.size from Nat.le_trans HO.out.hb.size HB5.out.size)
     obtain ⟨Lt, hLt⟩ : ∃ l, l = σ.L.take i := ⟨_, rfl⟩
     rw [← hLt] at HO HO9 HTL HTK
     have HLt := zb.mk hLt
     clear hLt
     have q1 : V7.cell? ⟨b9, 3, none⟩ = some (.slice AL' Lt.length cL') := (zd HO9.out.blk 3).trans rfl
     have y0 := (zd HX7.out 0).trans rfl
     have y1 := (zd HX7.out 1).trans rfl
     have y2 := (zd HX7.out 2).trans rfl
     have y3 := (zd HX7.out 3).trans rfl
     have y4 := (zd HX7.out 4).trans rfl
     have y5 := (zd HX7.out 5).trans rfl
     have vs9 := VS7.out
     have vD := zo HO9.out.blk
     go_wp2_with (at_builtin; refine Kd.yi k50 (w0 := V7) w.heap.size rfl (.tmp 74) (.tmp 76) 25 50 _ _ rfl Try.underlying25 xL rfl (by decide) (by decide) (.slice AL' Lt.length cL') Lt t [.int .i64 t.f0, .int .i64 t.f1, .int .i64 t.f2, .slice B3 t.f3.length d3, .slice B4 t.f4.length d4, .int .i64 t.f5] (fun j => j ∉ T.flatMap TG.blocks) (fun j => V5.heap.size ≤ j) rfl rfl (k50_mkM _ _ _ t (R_since HR3.out (Nat.le_refl _) HBs.out) (R_since HR4.out HST6.out HBs.out)) (fun j hj => ⟨fun hm => by have h1 := HO.out.V.lt j hm; have h2 := HVV.out; have hj' : V5.heap.size ≤ j := hj; omega, fun he => by have h1 := Kd.R_lt HO.out.V.rL j he.symm; have h2 := HVV.out; have hj' : V5.heap.size ≤ j := hj; omega⟩) (fun j hj hm => by have h1 := HO.out.V.lt j hm; have h2 := HBB7.out.size; have hj' : V7.heap.size ≤ j := hj; omega) (Kd.zT HO9.out.V.rL (fun _ hk => hk.1)) (Below.refl _ _) HO9.out.hb.size (by have := HTL.out; omega) ?_; intro vc wc hrc hbc hgc hatc; have HRc := zb.mk hrc; have HBc := zb.mk hbc; have HGc := zb.mk hgc; obtain ⟨Ac, cc', rfl⟩ := Kd.zJ hrc; have HCB := zb.mk ((zK HO9.out.V.rL hgc b9 _ _ (by decide) HO9.out.blk).trans HO9.out.blk); have gc1 := (zd HCB.out 3).trans rfl; have fC1 := zk HCB.out 3; clear hrc hbc hgc hatc)
     go_roundw
     case rel =>
      have r := HO9.out.logput HBB7.out.size HRc.out HGc.out HBc.out
      have e : wc.setCell ⟨b9, 3, none⟩ (.slice Ac (Lt ++ [t]).length cc') = wc.setCell ⟨b9, 3, none⟩ (.slice Ac (Lt.length + 1) cc') := by rw [List.length_append]; rfl
      exact ⟨i + 1, _, _, rfl, by rw [EI.out], ⟨HLT.out⟩, ⟨by rw [HTK.out]; first | exact r.now | (rw [← e]; exact r.now)⟩⟩
     case measure => rw [EI.out]; have := HLT.out; simp [intOf]; omega
    ·have cb : decide ((i : Int) < (σ.L.length : Int)) = false := decide_eq_false (by omega)
     have cb2 : decide (i < σ.L.length) = false := decide_eq_false hlt
     have eL : σ.L.take i = σ.L := List.take_of_length_le (by omega)
     rw [eL] at HO
     clear hlt hi eL
     obtain ⟨aL, cL', rfl⟩ := Kd.zJ HO.out.V.rL
     have q0 : V.cell? ⟨b9, 0, none⟩ = some (.slice aC σ.C.length cc) := (zd HO.out.blk 0).trans rfl
     have q1 : V.cell? ⟨b9, 1, none⟩ = some (.slice aT T.length cT') := (zd HO.out.blk 1).trans rfl
     have q2 : V.cell? ⟨b9, 2, none⟩ = some (.int .i64 σ.clk) := (zd HO.out.blk 2).trans rfl
     have q3 : V.cell? ⟨b9, 3, none⟩ = some (.slice aL σ.L.length cL') := (zd HO.out.blk 3).trans rfl
     have r0 : V.cell? ⟨w.heap.size + 1, 0, none⟩ = some (.slice none 0 0) := (zd HO.out.x2 0).trans rfl
     have r1 : V.cell? ⟨w.heap.size + 1, 1, none⟩ = some (.slice none 0 0) := (zd HO.out.x2 1).trans rfl
     have r2 : V.cell? ⟨w.heap.size + 1, 2, none⟩ = some (.int .i64 0) := (zd HO.out.x2 2).trans rfl
     have r3 : V.cell? ⟨w.heap.size + 1, 3, none⟩ = some (.slice none 0 0) := (zd HO.out.x2 3).trans rfl
     have rf0 := zk HO.out.x2 0
     have rf1 := zk HO.out.x2 1
     have rf2 := zk HO.out.x2 2
     have rf3 := zk HO.out.x2 3
     go_wp2
     have EF := zb.mk (zu (zu (zu (zu HO.out.x2 0 (.slice aC σ.C.length cc)) 1 (.slice aT T.length cT')) 2 (.int .i64 σ.clk)) 3 (.slice aL σ.L.length cL'))
     refine bodyPost_ret (results_cell_row rfl _ _ (w.heap.size + 1) 27 #[.slice aC σ.C.length cc, .slice aT T.length cT', .int .i64 σ.clk, .slice aL σ.L.length cL'] (0, 0) _ rfl EF.out hus rfl (by kernel_rfl)) rfl ?_
     rw [HP.out]
     have eT : T.length = σ.T.length := by rw [← HE.out, List.length_map]
     have f0 := HO.out.x2
     have f1 := zu f0 0 (.slice aC σ.C.length cc)
     have f2 := zu f1 1 (.slice aT T.length cT')
     have f3 := zu f2 2 (.int .i64 σ.clk)
     have hV := (((HO.out.V.far f0 (by decide) 0 (.slice aC σ.C.length cc)).far f1 (by decide) 1 (.slice aT T.length cT')).far f2 (by decide) 2 (.int .i64 σ.clk)).far f3 (by decide) 3 (.slice aL σ.L.length cL')
     have hB := (((HO.out.hb.setCell (p := ⟨w.heap.size + 1, 0, none⟩) (Nat.le_succ _) (.slice aC σ.C.length cc)).setCell (p := ⟨w.heap.size + 1, 1, none⟩) (Nat.le_succ _) (.slice aT T.length cT')).setCell (p := ⟨w.heap.size + 1, 2, none⟩) (Nat.le_succ _) (.int .i64 σ.clk)).setCell (p := ⟨w.heap.size + 1, 3, none⟩) (Nat.le_succ _) (.slice aL σ.L.length cL')
     rw [eT] at hV hB ⊢
     exact ⟨_, _, _, _, _, _, _, T, rfl, hB, hV, HE.out⟩
end Go.Proofs.Ytppapibjbjmmbaa.QSY
set_option linter.unusedVariables false
set_option linter.unusedSimpArgs false
namespace Go.Proofs.Ytppapibjbjmmbaa.QSY
open Go.RowKit Go.Proofs.YtppapibjbjmmbaaW.PrintWords Go.Proofs.YtppapibjbjmmbaaW.PrintLast Go.Proofs.YtppapibjbjmmbaaW.PrintMore
theorem Inv.small {Bs : List (List zO)} {nC : Nat} {σ : St} (h : Inv Bs nC σ) (hn : nC ≤ 1000) : Small σ where
 c := by rw [h.n]; exact hn
 t := h.len
 l := h.len_le
 rows := fun t ht => by
  obtain ⟨i, hi, e⟩ := List.getElem_of_mem ht
  have q := h.t (i : Int) (by omega) (by omega)
  have e2 : σ.t (i : Int) = t := by unfold St.t; rw [Int.toNat_natCast, List.getD_eq_getElem?_getD, List.getElem?_eq_getElem hi, e]; rfl
  rw [e2] at q
  exact ⟨by have := q.r3.1; omega, by have := q.r8.1; omega, q.p9.1, q.p10.1⟩
 ents := fun e he => ⟨(h.ents e he).r.1, (h.ents e he).p.1⟩
def xO (w : World) (B : Nat) (Bs : List (List zO)) (nC n : Nat) (AC : Option Addr) (cC : Nat) (AT : Option Addr) (cT : Nat) (AL : Option Addr) (cL : Nat) (σ : St) : Prop :=
 (∃ N T, xv w B N (.slice AC σ.C.length cC) (.slice AT σ.T.length cT) (.slice AL σ.L.length cL) σ.C T σ.L ∧ T.map TG.s = σ.T) ∧ Inv Bs nC σ ∧ σ.T.length ≤ n
theorem xv.sees {w : World} {B N : Nat} {AC : Option Addr} {cC : Nat} {AT : Option Addr} {cT : Nat} {AL : Option Addr} {cL : Nat} {σ : St} {T : List TG} (h : xv w B N (.slice AC σ.C.length cC) (.slice AT σ.T.length cT) (.slice AL σ.L.length cL) σ.C T σ.L) (e : T.map TG.s = σ.T) : Sees w AC cC AT cT AL cL σ := by
 obtain ⟨A, c, hv, hl, hC⟩ := h.reads
 have eT : T.length = σ.T.length := by rw [← e, List.length_map]
 rw [e] at hC
 rw [eT] at hv hl
 injection hv with a1 _ a2
 subst a1 a2
 obtain ⟨A1, c1, hv1, hl1, hC1⟩ := Kd.yP h.rC
 injection hv1 with b1 _ b2
 subst b1 b2
 obtain ⟨A2, c2, hv2, hl2, hC2⟩ := Kd.yP h.rL
 injection hv2 with d1 _ d2
 subst d1 d2
 exact ⟨hC1, hl1, hC, hl, hC2, hl2⟩
def sysA (AC : Option Addr) (cC : Nat) (AT : Option Addr) (cT : Nat) (AL : Option Addr) (cL : Nat) (σ : St) : Value := .agg #[.slice AC σ.C.length cC, .slice AT σ.T.length cT, .int .i64 σ.clk, .slice AL σ.L.length cL]
def Done (w : World) (Bs : List (List zO)) (nC : Nat) (AC : Option Addr) (cC : Nat) (AT : Option Addr) (cT : Nat) (AL : Option Addr) (cL : Nat) (σ : St) (e : Ending) (w' : World) : Prop :=
 Below w.heap.size w w' ∧ (e = .returned (.tuple #[sysA AC cC AT cT AL cL σ, .bool false]) ∨ ∃ BC dC BT dT BL dL σ', e = .returned (.tuple #[sysA BC dC BT dT BL dL σ', .bool true]) ∧ xO w' w.heap.size Bs nC (σ.T.length + 2) BC dC BT dT BL dL σ')
theorem TRow.lower {w : World} {B B' : Nat} {t : TG} (h : TRow w B t) (hB : B' ≤ B) : TRow w B' t := ⟨Kd.zP h.r3 hB, Kd.zP h.r8 hB, Kd.zP h.r9 hB, Kd.zP h.r10 hB⟩
set_option maxHeartbeats 4000000 in
set_option maxRecDepth 100000 in
theorem do_calls {w : World} {Bs : List (List zO)} {nC : Nat} {σ : St} (A0 : Option Addr) (n0 c0 : Nat) (A1 : Option Addr) (c1 : Nat) (AC : Option Addr) (cC : Nat) (AT : Option Addr) (cT : Nat) (AL : Option Addr) (cL : Nat) (k : Int)
  (h : Sees w AC cC AT cT AL cL σ) (hI : Inv Bs nC σ) (hn : nC ≤ 1000) (hP : Kd.C (Kd.slice 110 xK) w A1 Bs.length Bs) (hT : σ.T.length + 2 ≤ 2500) :
  Calls Try.prog 87 #[.agg #[.slice A0 n0 c0, .slice A1 Bs.length c1], sysA AC cC AT cT AL cL σ, .int .i64 k] w (Done w Bs nC AC cC AT cT AL cL σ) := by
 have HS := zb.mk h
 have HI := zb.mk hI
 have HN := zb.mk hn
 have HPP := zb.mk hP
 have HT := zb.mk hT
 have hus := Try.underlying27
 have hup := Try.underlying37
 have huw := Try.underlying134
 obtain ⟨Post, hPost⟩ : ∃ P, P = Done w Bs nC AC cC AT cT AL cL σ := ⟨_, rfl⟩
 have HP := zb.mk hPost
 rw [← hPost]
 clear h hI hn hP hT hPost
 unfold sysA
 go_enter Try.func87, Try.ntmps87
 go_upto_region 2 with (fail)
 obtain ⟨wA, hwA⟩ : ∃ W, W = ((w.alloc (.cells #[.slice A0 n0 c0, .slice A1 Bs.length c1] 37)).alloc (.cells #[.slice AC σ.C.length cC, .slice AT σ.T.length cT, .int .i64 σ.clk, .slice AL σ.L.length cL] 27)).alloc (.cells #[.slice none 0 0, .slice none 0 0, .int .i64 0, .slice none 0 0] 27) := ⟨_, rfl⟩
 have HWA := zb.mk (show Below w.heap.size w wA by rw [hwA]; exact zc (zc (zc (Below.refl _ _) _) _) _)
 have SZA := zb.mk (show wA.heap.size = w.heap.size + 3 by rw [hwA]; simp)
 have HAS := zb.mk (show wA.heap[w.heap.size + 1]? = some (.cells #[.slice AC σ.C.length cC, .slice AT σ.T.length cT, .int .i64 σ.clk, .slice AL σ.L.length cL] 27 (0, 0)) by rw [hwA]; exact zm (yY (by simp)) _)
 have HAR := zb.mk (show wA.heap[w.heap.size + 1 + 1]? = some (.cells #[.slice none 0 0, .slice none 0 0, .int .i64 0, .slice none 0 0] 27 (0, 0)) by rw [hwA]; exact yY (by simp))
 rw [← hwA]
 obtain ⟨V, hV⟩ : ∃ W, W = wA.alloc (.cells #[.slice A0 n0 c0, .slice A1 Bs.length c1, .slice AC σ.C.length cC, .slice AT σ.T.length cT, .int .i64 σ.clk, .slice AL σ.L.length cL] 134) := ⟨_, rfl⟩
 have HAV := zb.mk (show Below wA.heap.size wA V by rw [hV]; exact zc (Below.refl _ _) _)
 have HWV := zb.mk (show Below w.heap.size w V from zi HWA.out HAV.out)
 have HBXS := zb.mk ((HAV.out.block _ (zo HAS.out)).trans HAS.out)
 have HBXR := zb.mk ((HAV.out.block _ (zo HAR.out)).trans HAR.out)
 have HBXW := zb.mk (show V.heap[w.heap.size + 1 + 1 + 1]? = some (.cells #[.slice A0 n0 c0, .slice A1 Bs.length c1, .slice AC σ.C.length cC, .slice AT σ.T.length cT, .int .i64 σ.clk, .slice AL σ.L.length cL] 134 (0, 0)) by rw [hV]; exact yY (by rw [SZA.out]))
 rw [← hV]
 clear hwA hV
 obtain ⟨g, hg⟩ : ∃ b, b = w.heap.size + 1 + 1 + 1 := ⟨_, rfl⟩
 obtain ⟨br, hbr⟩ : ∃ b, b = w.heap.size + 1 + 1 := ⟨_, rfl⟩
 obtain ⟨bs, hbs⟩ : ∃ b, b = w.heap.size + 1 := ⟨_, rfl⟩
 have HG := zb.mk (show g = wA.heap.size by rw [SZA.out, hg])
 have HBR := zb.mk (show w.heap.size ≤ br by omega)
 have HBRA := zb.mk (show bs < wA.heap.size ∧ br < wA.heap.size by rw [SZA.out]; omega)
 rw [← hg] at HBXW ⊢
 rw [← hbr] at HAR HBXR ⊢
 rw [← hbs] at HAS HBXS ⊢
 clear hg hbr hbs
 have s1 := (zd HBXS.out 1).trans rfl
 have e1 : wrap64 ((σ.T.length : Int) - 1) = (σ.T.length : Int) - 1 := by have := HT.out; unfold wrap64; omega
 have HLK := zb.mk (show Look V g σ.T σ.clk from ⟨_, _, _, _, AT, cT, HBXW.out, Kd.zt HS.out.T HWV.out, HS.out.hT⟩)
 by_cases hr : 0 ≤ k ∧ k < σ.T.length
 ·have hf : xX.f k 0 ((σ.T.length : Int) - 1) = some true := by
   unfold xX.f
   rw [if_pos hr.1, decide_eq_true (by omega)]
  have HR := zb.mk hr
  have HF := zb.mk hf
  clear hr hf
  go_wp2_with fail
  refine (xX.calls k 0 ((σ.T.length : Int) - 1) true _ HF.out).mono ?_
  rintro e w1 ⟨rfl, hd⟩
  have HB1 := zb.mk (show Below V.heap.size V w1 from hd.below)
  clear hd s1
  go_wp2_with fail
  refine (ready_calls k (HLK.out.below HB1.out) HR.out.1 HR.out.2).mono ?_
  rintro e w2 ⟨rfl, hb2⟩
  have HB2 := zb.mk (zi HB1.out hb2)
  obtain ⟨rb, hrb⟩ : ∃ b, b = xg σ.T σ.clk k := ⟨_, rfl⟩
  have HRB := zb.mk hrb
  rw [← hrb]
  clear hb2 hrb
  cases rb
  ·skip
   have HRZ := zb.mk (((HB2.out).block _ (zo HBXR.out)).trans HBXR.out)
   have HWZ := zb.mk (HWV.out.trans (zM (HB2.out) HWV.out.size))
   have s0 := (zd (((HB2.out).block _ (zo HBXS.out)).trans HBXS.out) 0).trans rfl
   have s1 := (zd (((HB2.out).block _ (zo HBXS.out)).trans HBXS.out) 1).trans rfl
   have s2 := (zd (((HB2.out).block _ (zo HBXS.out)).trans HBXS.out) 2).trans rfl
   have s3 := (zd (((HB2.out).block _ (zo HBXS.out)).trans HBXS.out) 3).trans rfl
   have r0 := (zd HRZ.out 0).trans rfl
   have rf0 := zk HRZ.out 0
   have r1 := (zd HRZ.out 1).trans rfl
   have rf1 := zk HRZ.out 1
   have r2 := (zd HRZ.out 2).trans rfl
   have rf2 := zk HRZ.out 2
   have r3 := (zd HRZ.out 3).trans rfl
   have rf3 := zk HRZ.out 3
   go_wp2
   have EF := zb.mk (zu (zu (zu (zu HRZ.out 0 (.slice AC σ.C.length cC)) 1 (.slice AT σ.T.length cT)) 2 (.int .i64 σ.clk)) 3 (.slice AL σ.L.length cL))
   refine bodyPost_ret (yy rfl _ _ br 27 #[.slice AC σ.C.length cC, .slice AT σ.T.length cT, .int .i64 σ.clk, .slice AL σ.L.length cL] (0, 0) _ rfl EF.out hus rfl (by kernel_rfl)) rfl ?_
   rw [HP.out]
   have g0 := HBR.out
   exact ⟨(((HWZ.out.setCell (p := ⟨br, 0, none⟩) g0 _).setCell (p := ⟨br, 1, none⟩) g0 _).setCell (p := ⟨br, 2, none⟩) g0 _).setCell (p := ⟨br, 3, none⟩) g0 _, .inl rfl⟩
  ·have HRD := zb.mk (show σ.clk < 200 ∧ ((σ.t k).f4 = 0 ∨ (σ.t k).f4 = 1) by
    have h := HRB.out
    unfold xg at h
    rw [show zF σ.T k = σ.t k from rfl] at h
    by_cases c1 : 200 ≤ σ.clk
    ·rw [if_pos c1] at h; exact absurd h (by decide)
    ·rw [if_neg c1] at h
     refine ⟨by omega, ?_⟩
     by_cases c2 : (σ.t k).f4 = 0
     ·exact .inl c2
     ·rw [if_neg c2] at h
      by_cases c3 : (σ.t k).f4 = 1
      ·exact .inr c3
      ·rw [if_neg c3] at h; exact absurd h (by decide))
   have HSW := zb.mk (HS.out.below (HWV.out.trans (zM HB2.out HWV.out.size)))
   have s0 := (zd ((HB2.out.block _ (zo HBXS.out)).trans HBXS.out) 0).trans rfl
   have s1 := (zd ((HB2.out.block _ (zo HBXS.out)).trans HBXS.out) 1).trans rfl
   have s2 := (zd ((HB2.out.block _ (zo HBXS.out)).trans HBXS.out) 2).trans rfl
   have s3 := (zd ((HB2.out.block _ (zo HBXS.out)).trans HBXS.out) 3).trans rfl
   go_wp2_with fail
   refine (copy_calls AC cC AT cT AL cL HSW.out (HI.out.small HN.out)).mono ?_
   rintro e w3 ⟨BC, dC, BT, dT, BL, dL, N, T, rfl, hb3, hV3, hE3⟩
   have HB3 := zb.mk (zi HB2.out hb3)
   have HV3 := zb.mk hV3
   have HE3 := zb.mk hE3
   have HSZ2 := zb.mk (show wA.heap.size ≤ w2.heap.size from Nat.le_trans HAV.out.size HB2.out.size)
   clear hb3 hV3 hE3 s0 s1 s2 s3
   have HW3 := zb.mk ((HB3.out.block _ (zo HBXW.out)).trans HBXW.out)
   have g2 := (zd HW3.out 2).trans rfl
   have gf2 := zk HW3.out 2
   have g3 := (zd HW3.out 3).trans rfl
   have gf3 := zk HW3.out 3
   have g4 := (zd HW3.out 4).trans rfl
   have gf4 := zk HW3.out 4
   have g5 := (zd HW3.out 5).trans rfl
   have gf5 := zk HW3.out 5
   go_upto_region 5 with (fail)
   obtain ⟨W4, hW4⟩ : ∃ W, W = (((w3.setCell ⟨g, 2, none⟩ (.slice BC σ.C.length dC)).setCell ⟨g, 3, none⟩ (.slice BT σ.T.length dT)).setCell ⟨g, 4, none⟩ (.int .i64 σ.clk)).setCell ⟨g, 5, none⟩ (.slice BL σ.L.length dL) := ⟨_, rfl⟩
   rw [← hW4]
   have HREP := zb.mk (show zS wA W4 g (.slice A0 n0 c0) (.slice A1 Bs.length c1) σ by
    have k0 := HW3.out
    have k1 := zu k0 2 (.slice BC σ.C.length dC)
    have k2 := zu k1 3 (.slice BT σ.T.length dT)
    have k3 := zu k2 4 (.int .i64 σ.clk)
    have k4 := zu k3 5 (.slice BL σ.L.length dL)
    have hV := ((((HV3.out.lower HSZ2.out).far k0 (by decide) 2 (.slice BC σ.C.length dC)).far k1 (by decide) 3 (.slice BT σ.T.length dT)).far k2 (by decide) 4 (.int .i64 σ.clk)).far k3 (by decide) 5 (.slice BL σ.L.length dL)
    have hg : wA.heap.size ≤ g := by rw [HG.out]; exact Nat.le_refl _
    have hB := ((((HAV.out.trans (zM HB3.out HAV.out.size)).setCell (p := ⟨g, 2, none⟩) hg (.slice BC σ.C.length dC)).setCell (p := ⟨g, 3, none⟩) hg (.slice BT σ.T.length dT)).setCell (p := ⟨g, 4, none⟩) hg (.int .i64 σ.clk)).setCell (p := ⟨g, 5, none⟩) hg (.slice BL σ.L.length dL)
    rw [← hW4] at hV hB k4
    exact ⟨_, _, _, _, T, ⟨hB, hg, k4, hV⟩, HE3.out⟩)
   clear hW4 g2 gf2 g3 gf3 g4 gf4 g5 gf5
   have HPA := zb.mk (Kd.zt HPP.out HWA.out)
   go_wp2_with fail
   refine (step_calls k HREP.out HPA.out HI.out HR.out.1 HR.out.2 HRD.out.2 HRD.out.1 HT.out).mono ?_
   rintro e w5 ⟨rfl, σ', n', hA, hn'⟩
   have HI5 := zb.mk hA.i
   have HN5 := zb.mk (show σ'.T.length ≤ σ.T.length + 2 by rw [hA.n]; exact hn')
   obtain ⟨N5, vC5, vT5, vL5, T5, R5, E5⟩ := hA.r
   have R5 := zb.mk R5
   have E5 := zb.mk E5
   obtain ⟨aC, eC, rfl⟩ := Kd.zJ R5.out.V.rC
   obtain ⟨aT, eT, rfl⟩ := Kd.zJ R5.out.V.rT
   obtain ⟨aL, eL, rfl⟩ := Kd.zJ R5.out.V.rL
   have HZ := zb.mk ((R5.out.hb.block _ HBRA.out.2).trans HAR.out)
   have q2 := R5.out.c2
   have q3 := R5.out.c3
   have q4 := R5.out.c4
   have q5 := R5.out.c5
   clear hA hn'
   have r0 := (zd HZ.out 0).trans rfl
   have rf0 := zk HZ.out 0
   have r1 := (zd HZ.out 1).trans rfl
   have rf1 := zk HZ.out 1
   have r2 := (zd HZ.out 2).trans rfl
   have rf2 := zk HZ.out 2
   have r3 := (zd HZ.out 3).trans rfl
   have rf3 := zk HZ.out 3
   go_wp2
   have EF := zb.mk (zu (zu (zu (zu HZ.out 0 (.slice aC σ'.C.length eC)) 1 (.slice aT T5.length eT)) 2 (.int .i64 σ'.clk)) 3 (.slice aL σ'.L.length eL))
   refine bodyPost_ret (yy rfl _ _ br 27 #[.slice aC σ'.C.length eC, .slice aT T5.length eT, .int .i64 σ'.clk, .slice aL σ'.L.length eL] (0, 0) _ rfl EF.out hus rfl (by kernel_rfl)) rfl ?_
   rw [HP.out]
   have gA : wA.heap.size ≤ w5.heap.size := R5.out.hb.size
   have g0 := HBR.out
   have eTT : T5.length = σ'.T.length := by rw [← E5.out, List.length_map]
   have f0 := HZ.out
   have f1 := zu f0 0 (.slice aC σ'.C.length eC)
   have f2 := zu f1 1 (.slice aT T5.length eT)
   have f3 := zu f2 2 (.int .i64 σ'.clk)
   have hV := ((((R5.out.V.lower HWA.out.size).far f0 (by decide) 0 (.slice aC σ'.C.length eC)).far f1 (by decide) 1 (.slice aT T5.length eT)).far f2 (by decide) 2 (.int .i64 σ'.clk)).far f3 (by decide) 3 (.slice aL σ'.L.length eL)
   have hB := ((((HWA.out.trans (zM R5.out.hb HWA.out.size)).setCell (p := ⟨br, 0, none⟩) g0 (.slice aC σ'.C.length eC)).setCell (p := ⟨br, 1, none⟩) g0 (.slice aT T5.length eT)).setCell (p := ⟨br, 2, none⟩) g0 (.int .i64 σ'.clk)).setCell (p := ⟨br, 3, none⟩) g0 (.slice aL σ'.L.length eL)
   rw [eTT] at hV hB ⊢
   exact ⟨hB, .inr ⟨_, _, _, _, _, _, σ', rfl, ⟨_, T5, hV, E5.out⟩, HI5.out, HN5.out⟩⟩
 ·have hf : xX.f k 0 ((σ.T.length : Int) - 1) = some false := by
   unfold xX.f
   by_cases c : k ≥ 0
   ·rw [if_pos c, decide_eq_false (by omega)]
   ·rw [if_neg c]
  have HF := zb.mk hf
  clear hr hf
  go_wp2_with fail
  refine (xX.calls k 0 ((σ.T.length : Int) - 1) false _ HF.out).mono ?_
  rintro e w2 ⟨rfl, hd⟩
  have HB2 := zb.mk (show Below V.heap.size V w2 from hd.below)
  clear hd s1
  have HRZ := zb.mk (((HB2.out).block _ (zo HBXR.out)).trans HBXR.out)
  have HWZ := zb.mk (HWV.out.trans (zM (HB2.out) HWV.out.size))
  have s0 := (zd (((HB2.out).block _ (zo HBXS.out)).trans HBXS.out) 0).trans rfl
  have s1 := (zd (((HB2.out).block _ (zo HBXS.out)).trans HBXS.out) 1).trans rfl
  have s2 := (zd (((HB2.out).block _ (zo HBXS.out)).trans HBXS.out) 2).trans rfl
  have s3 := (zd (((HB2.out).block _ (zo HBXS.out)).trans HBXS.out) 3).trans rfl
  have r0 := (zd HRZ.out 0).trans rfl
  have rf0 := zk HRZ.out 0
  have r1 := (zd HRZ.out 1).trans rfl
  have rf1 := zk HRZ.out 1
  have r2 := (zd HRZ.out 2).trans rfl
  have rf2 := zk HRZ.out 2
  have r3 := (zd HRZ.out 3).trans rfl
  have rf3 := zk HRZ.out 3
  go_wp2
  have EF := zb.mk (zu (zu (zu (zu HRZ.out 0 (.slice AC σ.C.length cC)) 1 (.slice AT σ.T.length cT)) 2 (.int .i64 σ.clk)) 3 (.slice AL σ.L.length cL))
  refine bodyPost_ret (yy rfl _ _ br 27 #[.slice AC σ.C.length cC, .slice AT σ.T.length cT, .int .i64 σ.clk, .slice AL σ.L.length cL] (0, 0) _ rfl EF.out hus rfl (by kernel_rfl)) rfl ?_
  rw [HP.out]
  have g0 := HBR.out
  exact ⟨(((HWZ.out.setCell (p := ⟨br, 0, none⟩) g0 _).setCell (p := ⟨br, 1, none⟩) g0 _).setCell (p := ⟨br, 2, none⟩) g0 _).setCell (p := ⟨br, 3, none⟩) g0 _, .inl rfl⟩
end Go.Proofs.Ytppapibjbjmmbaa.QSY
set_option linter.unusedVariables false
set_option linter.unusedSimpArgs false
namespace Go.Proofs.Ytppapibjbjmmbaa.QSY
open Go.RowKit Go.Proofs.YtppapibjbjmmbaaW.PrintWords Go.Proofs.YtppapibjbjmmbaaW.PrintLast Go.Proofs.YtppapibjbjmmbaaW.PrintMore
def newC (n : Int) : S33 := ⟨n, 0, -1⟩
def St.new (Cs : List Int) : St := ⟨Cs.map newC, [yp (-1) 0], 0, []⟩
theorem inB_1 {a b c : Int} (h0 : b ≤ a) (h1 : a ≤ c) : inB a b c = true := xo.2 ⟨h0, h1⟩
theorem okF_form {Cs : List Int} {Bs : List (List zO)} (h : okF Cs Bs = true) : formF Cs Bs = true := by unfold okF at h; rw [Bool.and_eq_true] at h; exact h.1
theorem new_sysF {Cs : List Int} {Bs : List (List zO)} (h : okF Cs Bs = true) : sysF Cs Bs (St.new Cs).C (St.new Cs).T 0 [] = true := by
 obtain ⟨h0, h1, h2, h3, h4⟩ := formF_ok (okF_form h)
 unfold sysF
 rw [h, show ((St.new Cs).C.length == Cs.length) = true by simp [St.new], show inB ((St.new Cs).T.length : Int) 1 7 = true from rfl, show inB 0 0 200 = true from rfl]
 have e1 : tasksF Bs (St.new Cs).C.length (St.new Cs).T 0 ([] : List S50).length = true := by
  refine xF (fun j hj => ?_)
  have hj : j = 0 := by simp [St.new] at hj; exact hj
  subst hj
  show xW Bs (St.new Cs).C.length [yp (-1) 0] 0 0 0 (yp (-1) 0) = true
  unfold xW
  rw [show inB (yp (-1) 0).f0 0 ((Bs.length : Int) - 1) = true from inB_1 (by show (0 : Int) ≤ 0; omega) (by show (0 : Int) ≤ _; omega), show inB (yp (-1) 0).f1 0 ((bd Bs (yp (-1) 0).f0).length : Int) = true from inB_1 (by show (0 : Int) ≤ 0; omega) (by show (0 : Int) ≤ _; omega)]
  rw [show timesF (yp (-1) 0).f5 (yp (-1) 0).f7 (yp (-1) 0).f11 (yp (-1) 0).f12 0 ((0 : Nat) : Int) = true by show timesF 0 0 0 0 0 0 = true; unfold timesF; rw [show wrap64 ((0 : Int) + 1) = 1 by unfold wrap64; omega]; rfl, show numsF (yp (-1) 0).f3 3 = true by decide, show numsF (yp (-1) 0).f8 3 = true by decide]
  rfl
 have e2 : cellsF (St.new Cs).C (St.new Cs).T 0 = true := by
  refine xF (fun j hj => ?_)
  have hj : j < Cs.length := by simpa [St.new] using hj
  have e : rd_T33 (St.new Cs).C (j : Int) = newC (Cs[j]) := by
   unfold rd_T33 St.new
   rw [Int.toNat_natCast, List.getD_eq_getElem?_getD, List.getElem?_map, List.getElem?_eq_getElem hj]; rfl
  rw [e]
  unfold cellF
  have hx := h3 _ (List.getElem_mem hj)
  rw [show inB (newC Cs[j]).f0 0 99 = true from inB_1 hx.1 (by show Cs[j] ≤ 99; omega), show inB (newC Cs[j]).f2 (-1) (wrap64 (((St.new Cs).T.length : Int) - 1)) = true by show inB (-1) (-1) (wrap64 (1 - 1)) = true; rw [show wrap64 ((1 : Int) - 1) = 0 by unfold wrap64; omega]; rfl]
  rfl
 have e3 : logF Bs (St.new Cs).C.length (St.new Cs).T 0 [] = true := rfl
 rw [e1, e2, e3]
 rfl
theorem deedF_ok {d : yO} {nC : Nat} (hn : nC ≤ 1000) (h : deedF d nC = true) : DeedWF nC d := by
 have ew : wrap64 ((nC : Int) - 1) = (nC : Int) - 1 := by unfold wrap64; omega
 unfold deedF at h
 rw [ew] at h
 split at h
 ·rename_i e
  rw [Bool.and_eq_true] at h
  have a := xo.1 h.1
  have b := xo.1 h.2
  exact ⟨by omega, fun _ => ⟨a.1, by omega⟩, fun _ => ⟨b.1, by omega⟩, fun h => by omega, fun h => by omega, fun h => by omega⟩
 ·split at h
  ·rename_i e
   rw [Bool.and_eq_true] at h
   have a := xo.1 h.1
   have b := xo.1 h.2
   exact ⟨by omega, fun h => by omega, fun h => by omega, fun _ => ⟨⟨a.1, by omega⟩, ⟨b.1, by omega⟩⟩, fun h => by omega, fun h => by omega⟩
  ·split at h
   ·rename_i e
    rw [Bool.and_eq_true] at h
    have a := xo.1 h.1
    have b := xo.1 h.2
    exact ⟨by omega, fun _ => ⟨a.1, by omega⟩, fun h => by omega, fun h => by omega, fun _ => ⟨b.1, by omega⟩, fun h => by omega⟩
   ·split at h
    ·rename_i e
     rw [Bool.and_eq_true] at h
     have a := xo.1 h.1
     have b := xo.1 h.2
     exact ⟨by omega, fun _ => ⟨a.1, by omega⟩, fun h => by omega, fun h => by omega, fun h => by omega, fun _ => ⟨b.1, by omega⟩⟩
    ·split at h
     ·rename_i e
      rw [Bool.and_eq_true] at h
      have a := xo.1 h.1
      exact ⟨by omega, fun _ => ⟨a.1, by omega⟩, fun h => by omega, fun h => by omega, fun h => by omega, fun h => by omega⟩
     ·cases h
theorem okF_pwf {Cs : List Int} {Bs : List (List zO)} (h : okF Cs Bs = true) : PWF Bs Cs.length := by
 obtain ⟨h0, h1, h2, h3, h4⟩ := formF_ok (okF_form h)
 refine ⟨fun b hb0 hb1 => ?_⟩
 obtain ⟨q1, q2⟩ := h4 b hb0 hb1
 refine ⟨by omega, fun a ha => ?_⟩
 have r := lactF_ok (q2 a ha)
 refine ⟨fun e => ?_, fun e => ?_, fun e1 e2 e3 => ?_⟩
 ·rcases r with r | r | r | r
  ·exact ⟨by omega, fun d hd => deedF_ok (by omega) (r.2.2.1 d hd)⟩
  ·omega
  ·omega
  ·omega
 ·rcases r with r | r | r | r
  ·omega
  ·have k := lkidsF_ok r.2 hb0 (by omega) (by omega) (by omega)
   exact ⟨k.2.1, fun x hx => ⟨by have := k.2.2 x hx; omega, (k.2.2 x hx).2⟩⟩
  ·omega
  ·omega
 ·rcases r with r | r | r | r
  ·omega
  ·omega
  ·omega
  ·exact ⟨r.2.1, by omega⟩
theorem new_inv {Cs : List Int} {Bs : List (List zO)} (h : okF Cs Bs = true) : Inv Bs Cs.length (St.new Cs) := by
 obtain ⟨h0, h1, h2, h3, h4⟩ := formF_ok (okF_form h)
 refine ⟨okF_pwf h, ⟨Int.le_refl _, by show (0 : Int) ≤ 200; decide⟩, by simp [St.new], fun c hc => ?_, fun k k0 k1 => ?_, Int.le_refl _, fun e he => absurd he (by simp [St.new]), by simp [St.new], by simp [St.new]⟩
 ·obtain ⟨x, hx, rfl⟩ := List.mem_map.1 hc
  exact h3 x hx
 ·have hk : k = 0 := by have : k < 1 := k1; omega
  subst hk
  exact newTask_ok 0 0 (-1) 0 0 (Int.le_refl _) ⟨Int.le_refl _, by omega⟩ ⟨Int.le_refl _, by decide⟩
theorem new_ok {Cs : List Int} {Bs : List (List zO)} (h : okF Cs Bs = true) : Cs.length ≤ 3 := (formF_ok (okF_form h)).1
end Go.Proofs.Ytppapibjbjmmbaa.QSY
set_option linter.unusedVariables false
set_option linter.unusedSimpArgs false
namespace Go.Proofs.Ytppapibjbjmmbaa.QSY
open Go.RowKit Go.Proofs.YtppapibjbjmmbaaW.PrintWords Go.Proofs.YtppapibjbjmmbaaW.PrintLast Go.Proofs.YtppapibjbjmmbaaW.PrintMore
theorem i64_xor (a b : Int) (h1 : 0 ≤ a) (h2 : a < 9223372036854775808) (h3 : 0 ≤ b) (h4 : b < 9223372036854775808) : 0 ≤ Go.bits .xor .i64 a b := by
 obtain ⟨A, rfl⟩ := Int.eq_ofNat_of_zero_le h1
 obtain ⟨B, rfl⟩ := Int.eq_ofNat_of_zero_le h3
 have hx : A ^^^ B < 2 ^ 63 := Nat.xor_lt_two_pow (by omega) (by omega)
 show (0 : Int) ≤ IntKind.i64.wrap ((BitVec.ofInt 64 (A : Int) ^^^ BitVec.ofInt 64 (B : Int)).toNat : Int)
 rw [BitVec.toNat_xor, ofInt_u64 A (by omega), ofInt_u64 B (by omega)]
 simp [IntKind.wrap, IntKind.bits, IntKind.signed]
 omega
theorem tmod_in {a n : Int} (ha : 0 ≤ a) (hn : 1 ≤ n) : 0 ≤ Int.tmod a n ∧ Int.tmod a n < n := ⟨Int.tmod_nonneg n ha, Int.tmod_lt_of_pos a (by omega)⟩
def Rdr (w0 w : World) (g : Nat) (m : Int) : Prop := ∃ A c b p, w.heap[g]? = some (.cells #[.slice A (List.length b) c, .int .i64 p] 105 (0, 0)) ∧ Below w0.heap.size w0 w ∧ w0.heap.size ≤ g ∧ Kd.C (Kd.int .u8) w0 A b.length b ∧ b.length ≤ 2000 ∧ (∀ x ∈ b, (0 : Int) ≤ x ∧ x ≤ 255) ∧ 0 ≤ p ∧ p ≤ m
theorem Rdr.mono {w0 w : World} {g : Nat} {m m' : Int} (h : Rdr w0 w g m) (hm : m ≤ m') : Rdr w0 w g m' := by
 obtain ⟨A, c, b, p, h1, h2, h3, h4, h5, h6, h7, h8⟩ := h
 exact ⟨A, c, b, p, h1, h2, h3, h4, h5, h6, h7, by omega⟩
theorem Rdr.below {w0 w w1 : World} {g : Nat} {m : Int} (h : Rdr w0 w g m) (hb : Below w.heap.size w w1) : Rdr w0 w1 g m := by
 obtain ⟨A, c, b, p, h1, h2, h3, h4, h5, h6, h7, h8⟩ := h
 exact ⟨A, c, b, p, (hb.block g (zo h1)).trans h1, below_then h2 h2.size hb, h3, h4, h5, h6, h7, h8⟩
theorem Rdr.hb {w0 w : World} {g : Nat} {m : Int} (h : Rdr w0 w g m) : Below w0.heap.size w0 w := by
 obtain ⟨A, c, b, p, h1, h2, _⟩ := h
 exact h2
theorem byte_at {b : List Int} (hb : ∀ x ∈ b, (0 : Int) ≤ x ∧ x ≤ 255) (i : Int) : 0 ≤ rd b i ∧ rd b i ≤ 255 := by
 unfold rd
 rw [List.getD_eq_getElem?_getD]
 cases h : b[i.toNat]? with
 | none => simp
 | some x => exact hb x (List.mem_of_getElem? h)
def Picks (w0 w : World) (g : Nat) (m n : Int) (e : Ending) (w' : World) : Prop := ∃ x, e = .returned (.int .i64 x) ∧ 0 ≤ x ∧ (1 ≤ n → x < n) ∧ (n < 1 → x = 0) ∧ Rdr w0 w' g (m + 1) ∧ Kept w w' (fun j => j = g)
set_option maxHeartbeats 4000000 in
set_option maxRecDepth 100000 in
theorem zQ {w0 w : World} {g : Nat} {m : Int} (n : Int) (h : Rdr w0 w g m) (hm : m ≤ 1000000) (hn : n ≤ 1000000000) : Calls Try.prog 55 #[.pointer (some ⟨g, 0, none⟩), .int .i64 n] w (Picks w0 w g m n) := by
 obtain ⟨A, c, b, p, h1, h2, h3, h4, h5, h6, h7, h8⟩ := h
 have H4 := zb.mk h4
 have H6 := zb.mk h6
 have HK := zb.mk (show Kept w (w.setCell ⟨g, 1, none⟩ (.int .i64 (p + 1))) (fun j => j = g) from (Kept.refl w _).setCell (S := fun j => j = g) (p := ⟨g, 1, none⟩) (.inl rfl) _)
 obtain ⟨L, hL⟩ : ∃ n, n = b.length := ⟨_, rfl⟩
 have HL := zb.mk hL
 rw [← hL] at h1 H4 h5
 have HRD := zb.mk (show Rdr w0 (w.setCell ⟨g, 1, none⟩ (.int .i64 (p + 1))) g (m + 1) from by
  refine ⟨A, c, b, p + 1, by rw [← hL]; exact zu h1 1 _, h2.setCell (p := ⟨g, 1, none⟩) h3 _, h3, h4, by omega, h6, by omega, by omega⟩)
 obtain ⟨W, hW⟩ : ∃ W, W = w.setCell ⟨g, 1, none⟩ (.int .i64 (p + 1)) := ⟨_, rfl⟩
 have HW := zb.mk hW
 have x0 := (zd h1 0).trans rfl
 have x1 := (zd h1 1).trans rfl
 have f1 := zk h1 1
 have HB1 := zb.mk (show W.heap[g]? = some (.cells #[.slice A L c, .int .i64 (p + 1)] 105 (0, 0)) from by rw [hW]; exact zu h1 1 _)
 have HA := zb.mk (show Below w0.heap.size w0 W by rw [hW]; exact h2.setCell (p := ⟨g, 1, none⟩) h3 _)
 rw [← hW] at HK HRD
 have ep : wrap64 (p + 1) = p + 1 := by unfold wrap64; omega
 have ep1 : wrap64 (p + 1 - 1) = p := by unfold wrap64; omega
 obtain ⟨Post, hPost⟩ : ∃ P, P = Picks w0 w g m n := ⟨_, rfl⟩
 have HP := zb.mk hPost
 rw [← hPost]
 clear h1 h2 h3 h4 h6 hW hL hPost
 go_enter Try.func55, Try.ntmps55
 go_upto_region 2 with (fail)
 (try rw [ep])
 rw [← HW.out]
 have y0 := (zd HB1.out 0).trans rfl
 have y1 := (zd HB1.out 1).trans rfl
 clear x0 x1 f1 HW
 by_cases n1 : n < 1
 ·go_wp2
  (try refine bodyPost_ret (results_tmp rfl _ _ _) rfl ?_)
  rw [HP.out]
  exact ⟨0, rfl, by omega, fun h => by omega, fun _ => rfl, HRD.out, HK.out⟩
 by_cases l1 : (L : Int) = 0
 ·go_wp2
  (try refine bodyPost_ret (results_tmp rfl _ _ _) rfl ?_)
  rw [HP.out]
  exact ⟨0, rfl, by omega, fun h => by omega, fun _ => rfl, HRD.out, HK.out⟩
 have n0 : ¬ n = 0 := by omega
 by_cases pl : p < (L : Int)
 ·obtain ⟨ad, rfl, z0⟩ := Kd.at_int H4.out p h7 pl
  have z0 := za HA.out z0
  have rb := byte_at H6.out p
  obtain ⟨x, hx⟩ : ∃ x, x = rd b p := ⟨_, rfl⟩
  rw [← hx] at z0 rb
  have ex : wrap64 x = x := by unfold wrap64; omega
  have HT := zb.mk (tmod_in (a := x) (n := n) rb.1 (by omega))
  clear hx rb
  go_wp2
  (try refine bodyPost_ret (results_tmp rfl _ _ _) rfl ?_)
  rw [HP.out]
  exact ⟨_, rfl, HT.out.1, fun _ => HT.out.2, fun h => by omega, HRD.out, HK.out⟩
 ·have hL1 : 1 ≤ (L : Int) := by omega
  have t1 := tmod_in (a := p) h7 hL1
  have t2 := tmod_in (a := p * 7 + 3) (n := (L : Int)) (by omega) hL1
  have e7 : wrap64 (p * 7) = p * 7 := by unfold wrap64; omega
  have e73 : wrap64 (p * 7 + 3) = p * 7 + 3 := by unfold wrap64; omega
  obtain ⟨i1, hi1⟩ : ∃ x, x = Int.tmod p (L : Int) := ⟨_, rfl⟩
  obtain ⟨i2, hi2⟩ : ∃ x, x = Int.tmod (p * 7 + 3) (L : Int) := ⟨_, rfl⟩
  have HI1 := zb.mk hi1.symm
  have HI2 := zb.mk hi2.symm
  rw [← hi1] at t1
  rw [← hi2] at t2
  obtain ⟨ad, rfl, z1⟩ := Kd.at_int H4.out i1 t1.1 t1.2
  obtain ⟨ad2, hadd, z2⟩ := Kd.at_int H4.out i2 t2.1 t2.2
  injection hadd with hadd
  subst hadd
  have z1 := za HA.out z1
  have z2 := za HA.out z2
  have r1 := byte_at H6.out i1
  have r2 := byte_at H6.out i2
  obtain ⟨u1, hu1⟩ : ∃ x, x = rd b i1 := ⟨_, rfl⟩
  obtain ⟨u2, hu2⟩ : ∃ x, x = rd b i2 := ⟨_, rfl⟩
  rw [← hu1] at z1 r1
  rw [← hu2] at z2 r2
  have q1 : 0 ≤ Int.tdiv p (L : Int) := Int.tdiv_nonneg h7 (by omega)
  have q2 : Int.tdiv p (L : Int) ≤ p := by
   rw [Int.tdiv_eq_ediv_of_nonneg h7]
   exact Int.ediv_le_self _ h7
  obtain ⟨dq, hdq⟩ : ∃ x, x = Int.tdiv p (L : Int) := ⟨_, rfl⟩
  have HDQ := zb.mk hdq.symm
  rw [← hdq] at q1 q2
  obtain ⟨X, hX⟩ : ∃ x, x = u1 * 131 + u2 * 1117 + p * 29 + dq * 53 := ⟨_, rfl⟩
  have X0 := zb.mk (show 0 ≤ X ∧ X < 100000000000 by omega)
  have a1 := t1.1
  have a2 := t1.2
  have a3 := t2.1
  have a4 := t2.2
  have HX := zb.mk (show wrap64 (wrap64 (wrap64 (wrap64 (wrap64 u1 * 131) + wrap64 (wrap64 u2 * 1117)) + p * 29) + wrap64 (wrap64 dq * 53)) = X by
   have w1 : ∀ {x : Int}, 0 ≤ x → x ≤ 100000000000 → wrap64 x = x := fun h0 h1 => by unfold wrap64; omega
   rw [w1 (x := u1) (by omega) (by omega), w1 (x := u2) (by omega) (by omega), w1 (x := dq) (by omega) (by omega), w1 (x := u1 * 131) (by omega) (by omega), w1 (x := u2 * 1117) (by omega) (by omega), w1 (x := u1 * 131 + u2 * 1117) (by omega) (by omega), w1 (x := u1 * 131 + u2 * 1117 + p * 29) (by omega) (by omega), w1 (x := dq * 53) (by omega) (by omega), w1 (by omega) (by omega), hX])
  clear hX hdq hu1 hu2 t1 t2 r1 r2 q1 q2 hi1 hi2
  go_upto_region 7 with (fail)
  have HI1' := HI1.out
  have HI2' := HI2.out
  have HDQ' := HDQ.out
  go_quiet (fail)
  go_wp2
  (try refine bodyPost_ret (results_tmp rfl _ _ _) rfl ?_)
  rw [HP.out, HX.out]
  have t1 : 0 ≤ Int.tdiv X 64 := Int.tdiv_nonneg X0.out.1 (by omega)
  have t2 : Int.tdiv X 64 ≤ X := by
   rw [Int.tdiv_eq_ediv_of_nonneg X0.out.1]
   exact Int.ediv_le_self _ X0.out.1
  have hb := X0.out
  have e : wrap64 (Int.tdiv X 64) = Int.tdiv X 64 := by unfold wrap64; omega
  rw [e]
  have hx := i64_xor X (Int.tdiv X 64) hb.1 (by omega) t1 (by omega)
  have ht := tmod_in (n := n) hx (by omega)
  exact ⟨_, rfl, ht.1, fun _ => ht.2, fun h => by omega, HRD.out.below (zj (Below.refl _ _) _), HK.out.drewN _⟩
end Go.Proofs.Ytppapibjbjmmbaa.QSY
set_option linter.unusedVariables false
set_option linter.unusedSimpArgs false
namespace Go.Proofs.Ytppapibjbjmmbaa.QSY
open Go.RowKit Go.Proofs.YtppapibjbjmmbaaW.PrintWords Go.Proofs.YtppapibjbjmmbaaW.PrintLast Go.Proofs.YtppapibjbjmmbaaW.PrintMore
theorem Rdr.typ {w0 w : World} {g : Nat} {m : Int} (h : Rdr w0 w g m) {k q : Nat} {cells : Array Value} (hc : w.heap[k]? = some (.cells cells q (0, 0))) (hq : q ≠ 105) : k ≠ g := fun e => by
 obtain ⟨A, c, b, p, h1, _⟩ := h
 subst e
 rw [h1] at hc
 injection hc with hc
 injection hc with _ hc
 exact hq hc.symm
theorem Rdr.R {w0 w w1 : World} {g : Nat} {m : Int} (hr : Rdr w0 w g m) (hk : Kept w w1 (fun j => j = g)) {α : Type} {d : Kd α} {e : Nat} {B : Nat} {ok : Nat → Prop} {v : Value} {xs : List α} (h : d.R e w B ok v xs) (hE : ∀ q, q ∈ e :: d.E → q ≠ 105) : d.R e w1 B ok v xs :=
 zR h (fun k q cells _ _ hq hc => hk.2 k (zo hc) (hr.typ hc (hE q hq)))
theorem Rdr.kept {w0 w w1 : World} {g : Nat} {m : Int} (hr : Rdr w0 w g m) (hk : Kept w w1 (fun j => j = g)) {k q : Nat} {cells : Array Value} (hc : w.heap[k]? = some (.cells cells q (0, 0))) (hq : q ≠ 105) : w1.heap[k]? = some (.cells cells q (0, 0)) :=
 (hk.2 k (zo hc) (hr.typ hc hq)).trans hc
theorem yD {w w1 w2 : World} {g : Nat} (h : Kept w w1 (fun j => j = g)) (k : Kept w1 w2 (fun j => j = g)) : Kept w w2 (fun j => j = g) := h.then_ k (fun _ h => .inl h)
theorem Rdr.set {w0 w : World} {g b : Nat} {m : Int} (h : Rdr w0 w g m) (hb : b ≠ g) (hz : w0.heap.size ≤ b) (j : Nat) (u : Value) : Rdr w0 (w.setCell ⟨b, j, none⟩ u) g m := by
 obtain ⟨A, c, l, p, h1, h2, h3, h4, h5, h6, h7, h8⟩ := h
 exact ⟨A, c, l, p, (Below.heap_setCell w ⟨b, j, none⟩ u g (fun e => hb e.symm)).trans h1, h2.setCell (p := ⟨b, j, none⟩) hz _, h3, h4, h5, h6, h7, h8⟩
theorem Rdr.grown {w0 w w1 : World} {g : Nat} {m : Int} (h : Rdr w0 w g m) {α : Type} {d : Kd α} {e B : Nat} {ok : Nat → Prop} {v : Value} {xs : List α} (hv : d.R e w B ok v xs) (he : e ≠ 105) (hB : w0.heap.size ≤ B) (hg : w.grownBy w1 v.ownBlock) : Rdr w0 w1 g m := by
 obtain ⟨A, c, l, p, h1, h2, h3, h4, h5, h6, h7, h8⟩ := h
 refine ⟨A, c, l, p, (hg.block g (zo h1) (fun hr => ?_)).trans h1, h2.trans ⟨hg.os, hg.tape, hg.output, hg.size, fun k hk => hg.block k (by have := h2.size; omega) (fun hr => by have := Kd.yV hv k hr.symm; omega)⟩, h3, h4, h5, h6, h7, h8⟩
 obtain ⟨cells, hc⟩ := Kd.xb hv g hr.symm
 rw [h1] at hc
 injection hc with hc
 injection hc with _ hc
 exact he hc.symm
def DrawsDeed (w0 w : World) (g : Nat) (m : Int) (e : Ending) (w' : World) : Prop := ∃ a b c, e = .returned (.agg #[.int .i64 a, .int .i64 b, .int .i64 c]) ∧ Rdr w0 w' g (m + 3) ∧ Kept w w' (fun j => j = g)
set_option maxHeartbeats 4000000 in
set_option maxRecDepth 100000 in
theorem deed_draws {w0 w : World} {g : Nat} {m : Int} (n : Int) (h : Rdr w0 w g m) (hm : m ≤ 900000) (hn : n ≤ 1000) : Calls Try.prog 108 #[.pointer (some ⟨g, 0, none⟩), .int .i64 n] w (DrawsDeed w0 w g m) := by
 have hu := Try.underlying113
 obtain ⟨Post, hPost⟩ : ∃ P, P = DrawsDeed w0 w g m := ⟨_, rfl⟩
 have HP := zb.mk hPost
 rw [← hPost]
 obtain ⟨W, hW⟩ : ∃ W, W = w.alloc (.cells #[.int .i64 0, .int .i64 0, .int .i64 0] 113) := ⟨_, rfl⟩
 have HB := zb.mk (show Below w.heap.size w W by rw [hW]; exact zc (Below.refl _ _) _)
 have HX := zb.mk (show W.heap[w.heap.size]? = some (.cells #[.int .i64 0, .int .i64 0, .int .i64 0] 113 (0, 0)) by rw [hW]; exact heap_alloc_new _ _)
 have HR := zb.mk (h.below HB.out)
 have HK := zb.mk (Kept.of_below HB.out (fun j => j = g))
 have HG := zb.mk (show w.heap.size ≠ g from fun e => by
  obtain ⟨A, c, b, p, h1, _⟩ := h
  have := zo h1
  omega)
 have HZ := zb.mk h.hb.size
 clear h hPost
 go_enter Try.func108, Try.ntmps108
 go_upto_region 1 with (fail)
 rw [← hW]
 clear hW
 have hinf : (Try.prog.info? 113).map (·.size) = some 3 := by kernel_rfl
 by_cases hn0 : n = 0
 ·go_wp2_with (go_at_call 55; refine (zQ _ HR.out (by omega) (by omega)).mono ?_; rintro e w1 ⟨y, rfl, h0, h1, h2, hr, hk⟩; (try clear r0 r1 r2 f0 f1 f2); have n0 := zb.mk (yD HK.out hk); have n1 := zb.mk (HR.out.kept hk HX.out (by decide)); have n2 := zb.mk hr; clear HK HX HR hr hk h2; have HK := n0; have HX := n1; have HR := n2; clear n0 n1 n2; have r0 := (zd HX.out 0).trans rfl; have r1 := (zd HX.out 1).trans rfl; have r2 := (zd HX.out 2).trans rfl; have f0 := zk HX.out 0; have f1 := zk HX.out 1; have f2 := zk HX.out 2)
  all_goals
   refine bodyPost_ret (results_cell_row rfl _ _ w.heap.size 113 _ (0, 0) _ rfl (zu (zu (zu HX.out 0 _) 1 _) 2 _) hu rfl hinf) rfl ?_
   rw [HP.out]
   exact ⟨_, _, _, rfl, (((HR.out.set HG.out HZ.out 0 _).set HG.out HZ.out 1 _).set HG.out HZ.out 2 _).mono (by omega), ((HK.out.setCell (p := ⟨w.heap.size, 0, none⟩) (.inr (Nat.le_refl _)) _).setCell (p := ⟨w.heap.size, 1, none⟩) (.inr (Nat.le_refl _)) _).setCell (p := ⟨w.heap.size, 2, none⟩) (.inr (Nat.le_refl _)) _⟩
 ·go_upto_region 4 with (go_at_call 55; refine (zQ _ HR.out (by omega) (by omega)).mono ?_; rintro e w1 ⟨y, rfl, h0, h1, h2, hr, hk⟩; (try clear r0 r1 r2 f0 f1 f2); have n0 := zb.mk (yD HK.out hk); have n1 := zb.mk (HR.out.kept hk HX.out (by decide)); have n2 := zb.mk hr; clear HK HX HR hr hk h2; have HK := n0; have HX := n1; have HR := n2; clear n0 n1 n2; have r0 := (zd HX.out 0).trans rfl; have r1 := (zd HX.out 1).trans rfl; have r2 := (zd HX.out 2).trans rfl; have f0 := zk HX.out 0; have f1 := zk HX.out 1; have f2 := zk HX.out 2)
  have hy := h1 (by decide)
  clear h1
  rcases (show y = 0 ∨ y = 1 ∨ y = 2 ∨ y = 3 ∨ y = 4 ∨ y = 5 ∨ y = 6 ∨ y = 7 ∨ y = 8 ∨ y = 9 by omega) with rfl | rfl | rfl | rfl | rfl | rfl | rfl | rfl | rfl | rfl
  all_goals
   clear h0 hy
   go_wp2_with (go_at_call 55; refine (zQ _ HR.out (by omega) (by omega)).mono ?_; rintro e w1 ⟨y, rfl, h0, h1, h2, hr, hk⟩; (try clear r0 r1 r2 f0 f1 f2); have n0 := zb.mk (yD HK.out hk); have n1 := zb.mk (HR.out.kept hk HX.out (by decide)); have n2 := zb.mk hr; clear HK HX HR hr hk h2; have HK := n0; have HX := n1; have HR := n2; clear n0 n1 n2; have r0 := (zd HX.out 0).trans rfl; have r1 := (zd HX.out 1).trans rfl; have r2 := (zd HX.out 2).trans rfl; have f0 := zk HX.out 0; have f1 := zk HX.out 1; have f2 := zk HX.out 2)
   refine bodyPost_ret (results_cell_row rfl _ _ w.heap.size 113 _ (0, 0) _ rfl (zu (zu (zu HX.out 0 _) 1 _) 2 _) hu rfl hinf) rfl ?_
   rw [HP.out]
   exact ⟨_, _, _, rfl, (((HR.out.set HG.out HZ.out 0 _).set HG.out HZ.out 1 _).set HG.out HZ.out 2 _).mono (by omega), ((HK.out.setCell (p := ⟨w.heap.size, 0, none⟩) (.inr (Nat.le_refl _)) _).setCell (p := ⟨w.heap.size, 1, none⟩) (.inr (Nat.le_refl _)) _).setCell (p := ⟨w.heap.size, 2, none⟩) (.inr (Nat.le_refl _)) _⟩
end Go.Proofs.Ytppapibjbjmmbaa.QSY
set_option linter.unusedVariables false
set_option linter.unusedSimpArgs false
namespace Go.Proofs.Ytppapibjbjmmbaa.QSY
open Go.RowKit Go.Proofs.YtppapibjbjmmbaaW.PrintWords Go.Proofs.YtppapibjbjmmbaaW.PrintLast Go.Proofs.YtppapibjbjmmbaaW.PrintMore
theorem R_of {α : Type} {d : Kd α} {e : Nat} {w : World} {base b : Nat} {ok : Nat → Prop} {xs : List α} {cs : List Value} (h : w.heap[b]? = some (.cells cs.toArray e (0, 0))) (hb : base ≤ b) (hok : ok b) (hl : xs.length ≤ maxLen) (hr : yh (d.M w base (fun _ => False)) d.sz xs cs) :
  Kd.R d e w base ok (.slice (some ⟨b, 0, none⟩) xs.length xs.length) xs := by
 have hcl : cs.length = xs.length * d.sz := hr.1
 refine ⟨fun k hk => ?_, cs, ⟨hcl, .inr ⟨b, xs.length, cs.toArray, rfl, hb, h, Nat.le_refl _, hl, by simpa using hcl, ?_⟩⟩, hr.imp_ (fun _ _ hp => d.M_mono (fun _ hk => hk.elim) hp)⟩
 ·have : b = k := by simpa [Value.ownBlock] using hk
  subst this
  exact hok
 ·rw [← hcl]; simp
def DrawsDeeds (w0 w : World) (g : Nat) (m : Int) (e : Ending) (w' : World) : Prop := ∃ v l, e = .returned v ∧ Kd.R xu 113 w' w.heap.size (fun _ => True) v l ∧ l.length ≤ 5 ∧ Rdr w0 w' g (m + 17) ∧ Kept w w' (fun j => j = g)
set_option maxHeartbeats 4000000 in
set_option maxRecDepth 100000 in
theorem deeds_draws {w0 w : World} {g : Nat} {m : Int} (n : Int) (h : Rdr w0 w g m) (hm : m ≤ 800000) (hn : n ≤ 1000) : Calls Try.prog 85 #[.pointer (some ⟨g, 0, none⟩), .int .i64 n] w (DrawsDeeds w0 w g m) := by
 obtain ⟨Post, hPost⟩ : ∃ P, P = DrawsDeeds w0 w g m := ⟨_, rfl⟩
 have HP := zb.mk hPost
 rw [← hPost]
 obtain ⟨W, hW⟩ : ∃ W, W = w := ⟨_, rfl⟩
 have HR := zb.mk h
 have HZ := zb.mk h.hb.size
 have HK := zb.mk (Kept.refl w (fun j => j = g))
 clear h hPost
 go_enter Try.func85, Try.ntmps85
 go_upto_region 1 with (fail)
 go_cut [14] from 8 to 14 (fun v14 wx => ∃ b : Bool, v14 = .bool b ∧ zb (Rdr w0 wx g (m + 1)) ∧ zb (Kept w wx (fun j => j = g)))
 case first =>
  by_cases hn0 : n > 0
  ·go_upto_region 2 with (go_at_call 55; refine (zQ _ HR.out (by omega) (by omega)).mono ?_; rintro e w1 ⟨y, rfl, h0, h1, h2, hr, hk⟩; have n0 := zb.mk (yD HK.out hk); have n2 := zb.mk hr; clear HK HR hr hk h2; have HK := n0; have HR := n2; clear n0 n2)
   go_meet
   case rel => exact ⟨_, rfl, ⟨HR.out⟩, ⟨HK.out⟩⟩
  ·go_wp2
   go_meet
   case rel => exact ⟨_, rfl, ⟨HR.out.mono (by omega)⟩, ⟨HK.out⟩⟩
 case rest =>
  obtain ⟨b, rfl, HR2, HK2⟩ := hcut
  clear HR HK
  have HR := HR2
  have HK := HK2
  clear HR2 HK2
  cases b
  ·skip
   go_upto_region 5 with (fail)
   have HO := zb.mk (show Kd.R xu 113 (wc.alloc (.cells #[] 113)) w.heap.size (fun _ => True) (.slice (some ⟨wc.heap.size, 0, none⟩) 0 0) ([] : List yO) from R_of (xs := []) (cs := []) (heap_alloc_new _ _) HK.out.1 trivial (Nat.zero_le _) (yh.none _ _))
   have HB := zb.mk (zc (Below.refl wc.heap.size wc) (.cells #[] 113))
   obtain ⟨U, hU⟩ : ∃ U, U = wc.alloc (.cells #[] 113) := ⟨_, rfl⟩
   have n0 := zb.mk (HR.out.below HB.out)
   have n1 := zb.mk (HK.out.below HB.out)
   rw [← hU] at HO n0 n1 ⊢
   clear hU HR HK HB
   have HR := n0
   have HK := n1
   clear n0 n1
   go_wp2_with (go_at_call 55; refine (zQ _ HR.out (by omega) (by omega)).mono ?_; rintro e w1 ⟨y, rfl, h0, h1, h2, hr, hk⟩; have n0 := zb.mk (yD HK.out hk); have n1 := zb.mk (HR.out.R hk HO.out (by decide)); have n2 := zb.mk hr; clear HK HR HO hr hk h2; have HK := n0; have HO := n1; have HR := n2; clear n0 n1 n2)
   have hy := h1 (by decide)
   have e1 : wrap64 (1 + y) = 1 + y := by unfold wrap64; omega
   clear h1
   go_loopw [6, 7] (fun v6 v7 wr => ∃ (V : World) (v : Value) (l : List yO) (i : Nat), V = wr ∧ v6 = v ∧ v7 = .int .i64 i ∧ zb (i + l.length ≤ 5) ∧ zb (Kd.R xu 113 V w.heap.size (fun _ => True) v l) ∧ zb (Rdr w0 V g (m + 2 + 3 * (l.length : Int))) ∧ zb (Kept w V (fun j => j = g))) (fun _ v7 _ => (intOf v7).toNat)
   case atStart => exact ⟨_, _, [], (1 + y).toNat, rfl, rfl, by rw [Int.toNat_of_nonneg (by omega)], ⟨by simp; omega⟩, HO, ⟨HR.out.mono (by simp; omega)⟩, HK⟩
   case round =>
    obtain ⟨V, v, l, i, hV, rfl, rfl, hi, HO2, HR2, HK2⟩ := hrel
    rw [← hV]
    clear hV HO HR HK
    have HO := HO2
    have HR := HR2
    have HK := HK2
    clear HO2 HR2 HK2
    by_cases hlt : (i : Int) > 0
    ·have en : wrap64 ((i : Int) - 1) = ((i - 1 : Nat) : Int) := by have := hi.out; unfold wrap64; omega
     have LI := zb.mk (show 0 < i by omega)
     have hl5 := hi.out
     go_wp2_with (first
      | (go_at_call 108; refine (deed_draws _ HR.out (by omega) (by omega)).mono ?_; rintro e w1 ⟨a, b, c, rfl, hr, hk⟩; have n0 := zb.mk (yD HK.out hk); have n1 := zb.mk (HR.out.R hk HO.out (by decide)); have n2 := zb.mk hr; clear HK HR HO hr hk; have HK := n0; have HO := n1; have HR := n2; clear n0 n1 n2)
      | ((with_reducible refine zG (b := .append) (xs := #[.tmp 36, .tmp 40]) rfl ?_); at_builtin; refine Kd.yi xu w.heap.size rfl (.tmp 36) (.tmp 40) 108 113 (.agg #[(.int .i64 0), (.int .i64 0), (.int .i64 0)]) 24 rfl Try.underlying108 info113 rfl (by decide) (by omega) _ l (⟨_, _, _⟩ : yO) [.int .i64 _, .int .i64 _, .int .i64 _] (fun _ => True) (fun _ => False) rfl rfl (k113_mkM _ _ _ ⟨_, _, _⟩) (fun _ hk => hk.elim) (fun _ _ => trivial) HO.out (Below.refl _ _) HK.out.1 (by omega) ?_; intro v1 wz ho hb hg hat))
     have hg : World.grownBy _ wz u6.ownBlock := hg
     have R2 := HR.out.grown HO.out (by decide) HZ.out hg
     have K2 := HK.out.of_grown hg (fun k hk => .inr (Kd.yV HO.out k hk))
     go_roundw
     case rel => exact ⟨wz, v1, _, i - 1, rfl, rfl, by first | rw [en] | rfl | (congr 1; omega), ⟨by simp; omega⟩, ⟨ho⟩, ⟨R2.mono (by simp; omega)⟩, ⟨K2⟩⟩
     case measure => have := LI.out; simp [intOf]; omega
    ·have hl5 := hi.out
     go_wp2
     (try refine bodyPost_ret (results_tmp rfl _ _ _) rfl ?_)
     rw [HP.out]
     exact ⟨_, _, rfl, HO.out, by omega, HR.out.mono (by omega), HK.out⟩
  ·skip
   go_upto_region 3 with (go_at_call 55; refine (zQ _ HR.out (by omega) (by omega)).mono ?_; rintro e w1 ⟨y0, rfl, h0, h1, h2, hr, hk⟩; have n0 := zb.mk (yD HK.out hk); have n2 := zb.mk hr; clear HK HR hr hk h2; have HK := n0; have HR := n2; clear n0 n2)
   go_wp2_with (go_at_call 55; refine (zQ _ HR.out (by omega) (by omega)).mono ?_; rintro e w1 ⟨y, rfl, h0, h1, h2, hr, hk⟩; have n0 := zb.mk (yD HK.out hk); have n2 := zb.mk hr; clear HK HR hr hk h2; have HK := n0; have HR := n2; clear n0 n2)
   (try refine bodyPost_ret (results_tmp rfl _ _ _) rfl ?_)
   rw [HP.out]
   have q1 : ∀ (X : World) (B : Nat), yh (xu.M X B (fun _ => False)) xu.sz [⟨1, 0, y0⟩, ⟨3, 1, 1 + y⟩, ⟨4, 0, 1⟩, ⟨2, y0, 0⟩] [.int .i64 1, .int .i64 0, .int .i64 y0, .int .i64 3, .int .i64 1, .int .i64 (1 + y), .int .i64 4, .int .i64 0, .int .i64 1, .int .i64 2, .int .i64 y0, .int .i64 0] := fun X B => ((((yh.none _ _).snoc (p := (⟨1, 0, y0⟩ : yO)) (k113_mkM _ _ _ _) rfl).snoc (p := (⟨3, 1, 1 + y⟩ : yO)) (k113_mkM _ _ _ _) rfl).snoc (p := (⟨4, 0, 1⟩ : yO)) (k113_mkM _ _ _ _) rfl).snoc (p := (⟨2, y0, 0⟩ : yO)) (k113_mkM _ _ _ _) rfl
   exact ⟨_, [⟨1, 0, y0⟩, ⟨3, 1, 1 + y⟩, ⟨4, 0, 1⟩, ⟨2, y0, 0⟩], rfl, R_of (heap_alloc_new _ _) HK.out.1 trivial (by simp [maxLen]) (q1 _ _), show 4 ≤ 5 by decide, (HR.out.below (zc (Below.refl _ _) _)).mono (by omega), HK.out.alloc _⟩
end Go.Proofs.Ytppapibjbjmmbaa.QSY
