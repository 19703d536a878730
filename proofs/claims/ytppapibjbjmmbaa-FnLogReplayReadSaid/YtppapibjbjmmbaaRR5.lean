import Derived.Test.YtppapibjbjmmbaaRR0
import Derived.Test.YtppapibjbjmmbaaRR1
import Derived.Test.YtppapibjbjmmbaaRR2
import Derived.Test.YtppapibjbjmmbaaRR3
import Derived.Test.YtppapibjbjmmbaaRR4
set_option linter.unusedVariables false
set_option linter.unusedSimpArgs false
namespace Go.Proofs.Ytppapibjbjmmbaa.QSY
open Go.RowKit Go.Proofs.YtppapibjbjmmbaaW.PrintWords Go.Proofs.YtppapibjbjmmbaaW.PrintLast Go.Proofs.YtppapibjbjmmbaaW.PrintMore
theorem fresh_row {α β : Type} {d : Kd α} {c : Kd β} {e f B : Nat} {w w1 : World} {v u : Value} {xs : List α} {ys : List β} (h : d.R e w B (fun _ => True) v xs) (hi : c.R f w1 w.heap.size (fun _ => True) u ys) : c.R f w1 w.heap.size (fun k => some k ≠ v.ownBlock) u ys :=
 Kd.zT (Kd.yI hi) (fun k hk e => by have := Kd.R_lt h k e.symm; have := hk.2.1; omega)
theorem xH {α : Type} {d : Kd α} {e B : Nat} {w : World} {ok : Nat → Prop} {v : Value} {xs : List α} (h : d.R e w B ok v xs) : ∃ A n c, v = .slice A n c := by
 obtain ⟨A, c, e⟩ := Kd.zJ h
 exact ⟨A, _, c, e⟩
theorem row1 (w : World) (B : Nat) (ok : Nat → Prop) (z : Int) (hb : B ≤ w.heap.size) (hok : ok w.heap.size) : Kd.R (Kd.int .i64) 3 (w.alloc (.cells #[.int .i64 z] 3)) B ok (.slice (some ⟨w.heap.size, 0, none⟩) 1 1) [z] :=
 R_of (heap_alloc_new _ _) hb hok (by simp [maxLen]) ((yh.none _ _).snoc (p := z) (c := [.int .i64 z]) rfl rfl)
def DrawsBody (w0 w : World) (g : Nat) (m : Int) (e : Ending) (w' : World) : Prop := ∃ v l, e = .returned v ∧ Kd.R xK 110 w' w.heap.size (fun _ => True) v l ∧ l.length ≤ 3 ∧ Rdr w0 w' g (m + 61) ∧ Kept w w' (fun j => j = g)
set_option maxHeartbeats 8000000 in
set_option maxRecDepth 100000 in
theorem body_draws {w0 w : World} {g : Nat} {m : Int} (body nB n : Int) (h : Rdr w0 w g m) (hm : m ≤ 700000) (hn : n ≤ 1000) (hb0 : 0 ≤ body) (hb1 : body ≤ 10) (hB0 : 0 ≤ nB) (hB1 : nB ≤ 10) : Calls Try.prog 84 #[.pointer (some ⟨g, 0, none⟩), .int .i64 body, .int .i64 nB, .int .i64 n] w (DrawsBody w0 w g m) := by
 obtain ⟨Post, hPost⟩ : ∃ P, P = DrawsBody w0 w g m := ⟨_, rfl⟩
 have HP := zb.mk hPost
 rw [← hPost]
 have HZ := zb.mk h.hb.size
 have HO := zb.mk (show Kd.R xK 110 (w.alloc (.cells #[] 110)) w.heap.size (fun _ => True) (.slice (some ⟨w.heap.size, 0, none⟩) 0 0) ([] : List zO) from R_of (xs := []) (cs := []) (heap_alloc_new _ _) (Nat.le_refl _) trivial (Nat.zero_le _) (yh.none _ _))
 have HB := zb.mk (zc (Below.refl w.heap.size w) (.cells #[] 110))
 obtain ⟨U, hU⟩ : ∃ U, U = w.alloc (.cells #[] 110) := ⟨_, rfl⟩
 have HR := zb.mk (h.below HB.out)
 have HK := zb.mk (Kept.of_below HB.out (fun j => j = g))
 rw [← hU] at HO HR HK
 clear h hPost HB
 go_enter Try.func84, Try.ntmps84
 go_upto_region 2 with (fail)
 rw [← hU]
 clear hU
 go_wp2_with (go_at_call 55; refine (zQ _ HR.out (by omega) (by omega)).mono ?_; rintro e w1 ⟨y, rfl, h0, h1, h2, hr, hk⟩; have n0 := zb.mk (yD HK.out hk); have n1 := zb.mk (HR.out.R hk HO.out (by decide)); have n2 := zb.mk hr; clear HK HR HO hr hk h2; have HK := n0; have HO := n1; have HR := n2; clear n0 n1 n2)
 have hy := h1 (by decide)
 have e1 : wrap64 (1 + y) = 1 + y := by unfold wrap64; omega
 clear h1
 go_loopw [9, 10] (fun v9 v10 wr => ∃ (V : World) (v : Value) (l : List zO) (i : Nat), V = wr ∧ v9 = v ∧ v10 = .int .i64 i ∧ zb (i + l.length ≤ 3) ∧ zb (Kd.R xK 110 V w.heap.size (fun _ => True) v l) ∧ zb (Rdr w0 V g (m + 1 + 20 * (3 - (i : Int)))) ∧ zb (Kept w V (fun j => j = g))) (fun _ v10 _ => (intOf v10).toNat)
 case atStart => exact ⟨_, _, [], (1 + y).toNat, rfl, rfl, by rw [Int.toNat_of_nonneg (by omega)], ⟨by simp; omega⟩, HO, ⟨HR.out.mono (by omega)⟩, HK⟩
 case round =>
  obtain ⟨V, v, l, i, hV, rfl, rfl, hi, HO2, HR2, HK2⟩ := hrel
  rw [← hV]
  clear hV HO HR HK
  have HO := HO2
  have HR := HR2
  have HK := HK2
  clear HO2 HR2 HK2 e1 hy h0
  have hl5 := hi.out
  by_cases hlt : (i : Int) > 0
  ·have en : wrap64 ((i : Int) - 1) = ((i - 1 : Nat) : Int) := by unfold wrap64; omega
   have LI := zb.mk (show 0 < i by omega)
   go_upto_region 7 with (go_at_call 55; refine (zQ _ HR.out (by omega) (by omega)).mono ?_; rintro e w1 ⟨x, rfl, h0, h1, h2, hr, hk⟩; have n0 := zb.mk (yD HK.out hk); have n1 := zb.mk (HR.out.R hk HO.out (by decide)); have n2 := zb.mk hr; clear HK HR HO hr hk h2; have HK := n0; have HO := n1; have HR := n2; clear n0 n1 n2)
   have hx := h1 (by decide)
   clear h1
   rcases (show x = 0 ∨ x = 1 ∨ (x = 2 ∨ x = 3 ∨ x = 4 ∨ x = 5) ∨ 6 ≤ x by omega) with rfl | rfl | hx2 | hx6
   ·go_upto_region 8 with (fail)
    clear hx h0
    go_upto_if 33 with (go_at_call 55; refine (zQ _ HR.out (by omega) (by omega)).mono ?_; rintro e w1 ⟨y, rfl, h0, h1, h2, hr, hk⟩; have n0 := zb.mk (yD HK.out hk); have n1 := zb.mk (HR.out.R hk HO.out (by decide)); have n2 := zb.mk hr; clear HK HR HO hr hk h2; have HK := n0; have HO := n1; have HR := n2; clear n0 n1 n2)
    by_cases hy : y = 0
    ·subst hy
     go_wp2_with ((with_reducible refine zG (b := .append) (xs := #[.tmp 34, .tmp 36]) rfl ?_); at_builtin; refine Kd.yi xK w.heap.size rfl (.tmp 34) (.tmp 36) 106 110 (.agg #[(.int .i64 0), (.slice none 0 0), (.slice none 0 0), (.int .i64 0)]) 64 rfl Try.underlying106 info110 rfl (by decide) (by omega) _ l ((⟨3, [], [], 0⟩ : zO)) [.int .i64 3, .slice none 0 0, .slice none 0 0, .int .i64 0] (fun _ => True) (fun k => some k ≠ u9.ownBlock) rfl rfl (wk _ _ _ (⟨3, [], [], 0⟩ : zO) (Kd.R_nil _ _ _ _ _) (Kd.R_nil _ _ _ _ _)) (fun _ hk => ⟨trivial, hk⟩) (fun _ _ => trivial) HO.out (Below.refl _ _) HK.out.1 (by omega) ?_; intro v1 wz ho hb hg hat)
     all_goals
      have hg : World.grownBy _ wz u9.ownBlock := hg
      have R2 := HR.out.grown HO.out (by decide) HZ.out hg
      have K2 := HK.out.of_grown hg (fun k hk => .inr (Kd.yV HO.out k hk))
      go_roundw
      case rel => exact ⟨wz, v1, _, i - 1, rfl, rfl, by first | rw [en] | rfl | (congr 1; omega), ⟨by simp; omega⟩, ⟨ho⟩, ⟨R2.mono (by omega)⟩, ⟨K2⟩⟩
      case measure => have := LI.out; simp [intOf]; omega
    ·go_wp2
     all_goals
      go_roundw
      case rel => exact ⟨_, _, l, i - 1, rfl, rfl, by first | rw [en] | rfl | (congr 1; omega), ⟨by omega⟩, HO, ⟨HR.out.mono (by omega)⟩, HK⟩
      case measure => have := LI.out; simp [intOf]; omega
   ·clear hx h0
    go_wp2_with (first
     | (go_at_call 55; refine (zQ _ HR.out (by omega) (by omega)).mono ?_; rintro e w1 ⟨y, rfl, h0, h1, h2, hr, hk⟩; have n0 := zb.mk (yD HK.out hk); have n1 := zb.mk (HR.out.R hk HO.out (by decide)); have n2 := zb.mk hr; clear HK HR HO hr hk h2; have HK := n0; have HO := n1; have HR := n2; clear n0 n1 n2)
     | ((with_reducible refine zG (b := .append) (xs := #[.tmp 40, .tmp 44]) rfl ?_); at_builtin; refine Kd.yi xK w.heap.size rfl (.tmp 40) (.tmp 44) 106 110 (.agg #[(.int .i64 0), (.slice none 0 0), (.slice none 0 0), (.int .i64 0)]) 64 rfl Try.underlying106 info110 rfl (by decide) (by omega) _ l ((⟨4, [], [], y⟩ : zO)) [.int .i64 4, .slice none 0 0, .slice none 0 0, .int .i64 y] (fun _ => True) (fun k => some k ≠ u9.ownBlock) rfl rfl (wk _ _ _ (⟨4, [], [], y⟩ : zO) (Kd.R_nil _ _ _ _ _) (Kd.R_nil _ _ _ _ _)) (fun _ hk => ⟨trivial, hk⟩) (fun _ _ => trivial) HO.out (Below.refl _ _) HK.out.1 (by omega) ?_; intro v1 wz ho hb hg hat))
    all_goals
     have hg : World.grownBy _ wz u9.ownBlock := hg
     have R2 := HR.out.grown HO.out (by decide) HZ.out hg
     have K2 := HK.out.of_grown hg (fun k hk => .inr (Kd.yV HO.out k hk))
     go_roundw
     case rel => exact ⟨wz, v1, _, i - 1, rfl, rfl, by first | rw [en] | rfl | (congr 1; omega), ⟨by simp; omega⟩, ⟨ho⟩, ⟨R2.mono (by omega)⟩, ⟨K2⟩⟩
     case measure => have := LI.out; simp [intOf]; omega
   ·by_cases hbn : body + 1 < nB
    ·have hbp : body + 1 ≤ 11 := by omega
     rcases hx2 with rfl | rfl | rfl | rfl
     all_goals
      clear hx h0
      go_upto_region 18 with (go_at_call 55; refine (zQ _ HR.out (by omega) (by omega)).mono ?_; rintro e w1 ⟨y, rfl, h0, h1, h2, hr, hk⟩; have n0 := zb.mk (yD HK.out hk); have n1 := zb.mk (HR.out.R hk HO.out (by decide)); have n2 := zb.mk hr; clear HK HR HO hr hk h2; have HK := n0; have HO := n1; have HR := n2; clear n0 n1 n2)
      obtain ⟨z, hz⟩ : ∃ z, z = body + 1 + y := ⟨_, rfl⟩
      obtain ⟨N, hN⟩ : ∃ N, N = w1.heap.size := ⟨_, rfl⟩
      rw [← hz, ← hN]
      have HB := zb.mk (zc (Below.refl w1.heap.size w1) (.cells #[.int .i64 z] 3))
      have HN := zb.mk (show w.heap.size ≤ N by rw [hN]; exact HK.out.1)
      have HI := zb.mk (row1 w1 w.heap.size (fun k => some k ≠ u9.ownBlock) z HK.out.1 (fun e => by have := Kd.R_lt HO.out _ e.symm; omega))
      have n0 := zb.mk (HR.out.below HB.out)
      have n1 := zb.mk (zR (Kd.zT (ok' := fun k => k < N) (Kd.yI HO.out) (fun k hk => by have := hk.2.2.1; omega)) (fun k q cells _ _ _ hc => HB.out.block k (zo hc)))
      have n2 := zb.mk (HK.out.below HB.out)
      obtain ⟨X, hX⟩ : ∃ X, X = w1.alloc (.cells #[.int .i64 z] 3) := ⟨_, rfl⟩
      rw [← hX] at HI n0 n1 n2 ⊢
      rw [← hN] at HI
      clear HR HO HK HB hX hN hz h0 h1
      have HR := n0
      have HO := n1
      have HK := n2
      clear n0 n1 n2
      go_upto_if 67 with (go_at_call 55; refine (zQ _ HR.out (by omega) (by omega)).mono ?_; rintro e w1 ⟨y, rfl, h0, h1, h2, hr, hk⟩; have n0 := zb.mk (yD HK.out hk); have n1 := zb.mk (HR.out.R hk HO.out (by decide)); have n2 := zb.mk hr; have n3 := zb.mk (HR.out.R hk HI.out (by decide)); clear HK HR HO HI hr hk h2; have HK := n0; have HO := n1; have HR := n2; have HI := n3; clear n0 n1 n2 n3)
      by_cases hy : y > 0
      ·go_wp2_with (first
        | (go_at_call 55; refine (zQ _ HR.out (by omega) (by omega)).mono ?_; rintro e w1 ⟨y, rfl, h0, h1, h2, hr, hk⟩; have n0 := zb.mk (yD HK.out hk); have n1 := zb.mk (HR.out.R hk HO.out (by decide)); have n2 := zb.mk hr; have n3 := zb.mk (HR.out.R hk HI.out (by decide)); clear HK HR HO HI hr hk h2; have HK := n0; have HO := n1; have HR := n2; have HI := n3; clear n0 n1 n2 n3)
        | ((with_reducible refine zG (b := .append) (xs := #[.tmp 68, .tmp 78]) rfl ?_); at_builtin; refine Kd.yi (Kd.int .i64) w.heap.size rfl (.tmp 68) (.tmp 78) 29 3 (.int .i64 0) 8 rfl Try.underlying29 info3 rfl (by decide) (by omega) _ [z] _ [.int .i64 _] (fun k => some k ≠ u9.ownBlock) (fun _ => False) rfl rfl rfl (fun _ hk => hk.elim) (fun k hk e => by have := Kd.R_lt HO.out k e.symm; omega) HI.out (Below.refl _ _) HK.out.1 (by simp) ?_; intro v2 wy hi hb hg hat; obtain ⟨A2, n2, c2, rfl⟩ := xH hi; have hg : World.grownBy _ wy (some N) := hg; have n0 := zb.mk (HR.out.grown HI.out (by decide) HZ.out hg); have n1 := zb.mk (zR HO.out (fun k q cells hk _ _ hc => hg.block k (zo hc) (fun e => by injection e with e; omega))); have n2 := zb.mk (HK.out.of_grown hg (fun k hk => .inr (by injection hk with hk; have := HN.out; omega))); have n3 := zb.mk hi; clear HR HO HK HI hi hb hg hat; have HR := n0; have HO := n1; have HK := n2; have HI := n3; clear n0 n1 n2 n3)
        | ((with_reducible refine zG (b := .append) (xs := #[.tmp 80, .tmp 83]) rfl ?_); at_builtin; refine Kd.yi xK w.heap.size rfl (.tmp 80) (.tmp 83) 106 110 (.agg #[(.int .i64 0), (.slice none 0 0), (.slice none 0 0), (.int .i64 0)]) 64 rfl Try.underlying106 info110 rfl (by decide) (by omega) _ l ((⟨2, [], _, 0⟩ : zO)) [.int .i64 2, .slice none 0 0, _, .int .i64 0] (fun _ => True) (fun k => some k ≠ u9.ownBlock) rfl rfl (wk _ _ _ (⟨2, [], _, 0⟩ : zO) (Kd.R_nil _ _ _ _ _) HI.out) (fun _ hk => ⟨trivial, hk⟩) (fun _ _ => trivial) (Kd.zT HO.out (fun _ _ => trivial)) (Below.refl _ _) HK.out.1 (by omega) ?_; intro v1 wz ho hb hg hat))
       have hg : World.grownBy _ wz u9.ownBlock := hg
       have R2 := HR.out.grown HO.out (by decide) HZ.out hg
       have K2 := HK.out.of_grown hg (fun k hk => .inr (Kd.yV HO.out k hk))
       go_roundw
       case rel => exact ⟨wz, v1, _, i - 1, rfl, rfl, by first | rw [en] | rfl | (congr 1; omega), ⟨by simp; omega⟩, ⟨ho⟩, ⟨R2.mono (by omega)⟩, ⟨K2⟩⟩
       case measure => have := LI.out; simp [intOf]; omega
      ·go_wp2_with (first
        | ((with_reducible refine zG (b := .append) (xs := #[.tmp 80, .tmp 83]) rfl ?_); at_builtin; refine Kd.yi xK w.heap.size rfl (.tmp 80) (.tmp 83) 106 110 (.agg #[(.int .i64 0), (.slice none 0 0), (.slice none 0 0), (.int .i64 0)]) 64 rfl Try.underlying106 info110 rfl (by decide) (by omega) _ l ((⟨2, [], _, 0⟩ : zO)) [.int .i64 2, .slice none 0 0, _, .int .i64 0] (fun _ => True) (fun k => some k ≠ u9.ownBlock) rfl rfl (wk _ _ _ (⟨2, [], _, 0⟩ : zO) (Kd.R_nil _ _ _ _ _) HI.out) (fun _ hk => ⟨trivial, hk⟩) (fun _ _ => trivial) (Kd.zT HO.out (fun _ _ => trivial)) (Below.refl _ _) HK.out.1 (by omega) ?_; intro v1 wz ho hb hg hat))
       have hg : World.grownBy _ wz u9.ownBlock := hg
       have R2 := HR.out.grown HO.out (by decide) HZ.out hg
       have K2 := HK.out.of_grown hg (fun k hk => .inr (Kd.yV HO.out k hk))
       go_roundw
       case rel => exact ⟨wz, v1, _, i - 1, rfl, rfl, by first | rw [en] | rfl | (congr 1; omega), ⟨by simp; omega⟩, ⟨ho⟩, ⟨R2.mono (by omega)⟩, ⟨K2⟩⟩
       case measure => have := LI.out; simp [intOf]; omega
    ·rcases hx2 with rfl | rfl | rfl | rfl
     all_goals
      clear hx h0
      go_wp2
      go_roundw
      case rel => exact ⟨_, _, l, i - 1, rfl, rfl, by first | rw [en] | rfl | (congr 1; omega), ⟨by omega⟩, HO, ⟨HR.out.mono (by omega)⟩, HK⟩
      case measure => have := LI.out; simp [intOf]; omega
   ·have q0 : ¬ x = 0 := by omega
    have q1 : ¬ x = 1 := by omega
    have q2 : ¬ x = 2 := by omega
    have q3 : ¬ x = 3 := by omega
    have q4 : ¬ x = 4 := by omega
    have q5 : ¬ x = 5 := by omega
    clear hx hx6 h0
    go_wp2_with (first
     | (go_at_call 85; refine (deeds_draws _ HR.out (by omega) (by omega)).mono ?_; rintro e w1 ⟨vd, ld, rfl, hi, hl, hr, hk⟩; obtain ⟨Ad, nd, cd, rfl⟩ := xH hi; have HI := zb.mk (Kd.zP (fresh_row HO.out hi) HK.out.1); have n0 := zb.mk (yD HK.out hk); have n1 := zb.mk (HR.out.R hk HO.out (by decide)); have n2 := zb.mk hr; clear HK HR HO hr hk hi hl; have HK := n0; have HO := n1; have HR := n2; clear n0 n1 n2)
     | ((with_reducible refine zG (b := .append) (xs := #[.tmp 22, .tmp 27]) rfl ?_); at_builtin; refine Kd.yi xK w.heap.size rfl (.tmp 22) (.tmp 27) 106 110 (.agg #[(.int .i64 0), (.slice none 0 0), (.slice none 0 0), (.int .i64 0)]) 64 rfl Try.underlying106 info110 rfl (by decide) (by omega) _ l ((⟨1, ld, [], 0⟩ : zO)) [.int .i64 1, .slice Ad nd cd, .slice none 0 0, .int .i64 0] (fun _ => True) (fun k => some k ≠ u9.ownBlock) rfl rfl (wk _ _ _ (⟨1, ld, [], 0⟩ : zO) HI.out (Kd.R_nil _ _ _ _ _)) (fun _ hk => ⟨trivial, hk⟩) (fun _ _ => trivial) HO.out (Below.refl _ _) HK.out.1 (by omega) ?_; intro v1 wz ho hb hg hat))
    all_goals
     have hg : World.grownBy _ wz u9.ownBlock := hg
     have R2 := HR.out.grown HO.out (by decide) HZ.out hg
     have K2 := HK.out.of_grown hg (fun k hk => .inr (Kd.yV HO.out k hk))
     go_roundw
     case rel => exact ⟨wz, v1, _, i - 1, rfl, rfl, by first | rw [en] | rfl | (congr 1; omega), ⟨by simp; omega⟩, ⟨ho⟩, ⟨R2.mono (by omega)⟩, ⟨K2⟩⟩
     case measure => have := LI.out; simp [intOf]; omega
  ·go_wp2
   (try refine bodyPost_ret (results_tmp rfl _ _ _) rfl ?_)
   rw [HP.out]
   exact ⟨_, _, rfl, HO.out, by omega, HR.out.mono (by omega), HK.out⟩
end Go.Proofs.Ytppapibjbjmmbaa.QSY
set_option linter.unusedVariables false
set_option linter.unusedSimpArgs false
namespace Go.Proofs.Ytppapibjbjmmbaa.QSY
open Go.RowKit Go.Proofs.YtppapibjbjmmbaaW.PrintWords Go.Proofs.YtppapibjbjmmbaaW.PrintLast Go.Proofs.YtppapibjbjmmbaaW.PrintMore
abbrev kBs := Kd.slice 110 xK
structure Pg (w0 wS w : World) (g D : Nat) (m : Int) (v0 v1 : Value) (lc : List Int) (lb : List (List zO)) : Prop where
 rd : Rdr w0 w g m
 K : Kept wS w (fun j => j = g)
 B : w0.heap.size ≤ wS.heap.size
 dB : wS.heap.size < D
 dg : D ≠ g ∧ wS.heap.size ≠ g
 blk : w.heap[D]? = some (.cells #[v0, v1] 37 (0, 0))
 res : w.heap[wS.heap.size]? = some (.cells #[.slice none 0 0, .slice none 0 0] 37 (0, 0))
 r0 : Kd.R (Kd.int .i64) 3 w wS.heap.size (fun _ => True) v0 lc
 r1 : Kd.R kBs 106 w wS.heap.size (fun _ => True) v1 lb
section
variable {w0 wS w w1 : World} {g D : Nat} {m m' : Int} {v0 v1 va : Value} {lc lc' : List Int} {lb lb' : List (List zO)}
theorem Pg.pick (h : Pg w0 wS w g D m v0 v1 lc lb) (hr : Rdr w0 w1 g m') (hk : Kept w w1 (fun j => j = g)) : Pg w0 wS w1 g D m' v0 v1 lc lb :=
 ⟨hr, yD h.K hk, h.B, h.dB, h.dg, h.rd.kept hk h.blk (by decide), h.rd.kept hk h.res (by decide), h.rd.R hk h.r0 (by decide), h.rd.R hk h.r1 (by decide)⟩
theorem Pg.below (h : Pg w0 wS w g D m v0 v1 lc lb) (hb : Below w.heap.size w w1) : Pg w0 wS w1 g D m v0 v1 lc lb := h.pick (h.rd.below hb) (Kept.of_below hb _)
theorem Pg.alloc (h : Pg w0 wS w g D m v0 v1 lc lb) (o : Obj) : Pg w0 wS (w.alloc o) g D m v0 v1 lc lb := h.below (zc (Below.refl _ _) o)
theorem Pg.drew (h : Pg w0 wS w g D m v0 v1 lc lb) : Pg w0 wS w.drew g D m v0 v1 lc lb := h.below (ze (Below.refl _ _))
theorem Pg.c0 (h : Pg w0 wS w g D m v0 v1 lc lb) : w.cell? ⟨D, 0, none⟩ = some v0 := (zd h.blk 0).trans rfl
theorem Pg.c1 (h : Pg w0 wS w g D m v0 v1 lc lb) : w.cell? ⟨D, 1, none⟩ = some v1 := (zd h.blk 1).trans rfl
theorem Pg.fz (h : Pg w0 wS w g D m v0 v1 lc lb) (j : Nat) : w.frozen? ⟨D, j, none⟩ = false := zk h.blk j
theorem Pg.grow (h : Pg w0 wS w g D m v0 v1 lc lb) {α : Type} {d : Kd α} {e : Nat} {ok : Nat → Prop} {v : Value} {xs : List α} (hv : d.R e w wS.heap.size ok v xs) (he : e = 3 ∨ e = 106) (hg : w.grownBy w1 v.ownBlock) :
  Rdr w0 w1 g m ∧ Kept wS w1 (fun j => j = g) ∧ w1.heap[D]? = some (.cells #[v0, v1] 37 (0, 0)) ∧ w1.heap[wS.heap.size]? = some (.cells #[.slice none 0 0, .slice none 0 0] 37 (0, 0)) ∧
  (∀ (k q : Nat) (cells : Array Value), q ≠ e → w.heap[k]? = some (.cells cells q (0, 0)) → w1.heap[k]? = w.heap[k]?) := by
 have ht : ∀ (k q : Nat) (cells : Array Value), q ≠ e → w.heap[k]? = some (.cells cells q (0, 0)) → w1.heap[k]? = w.heap[k]? := fun k q cells hq hc => hg.block k (zo hc) (fun hk => by
  obtain ⟨cells', hc'⟩ := Kd.xb hv k hk.symm
  rw [hc] at hc'
  injection hc' with hc'
  injection hc' with _ hc'
  exact hq hc')
 have hp : 37 ≠ e := by rcases he with rfl | rfl <;> decide
 refine ⟨h.rd.grown hv (by rcases he with rfl | rfl <;> decide) h.B hg, h.K.of_grown hg (fun k hk => .inr (Kd.yV hv k hk)), (ht D _ _ hp h.blk).trans h.blk, (ht _ _ _ hp h.res).trans h.res, ht⟩
theorem Pg.put (hr : Rdr w0 w g m) (hk : Kept wS w (fun j => j = g)) (hB : w0.heap.size ≤ wS.heap.size) (dB : wS.heap.size < D) (dg : D ≠ g ∧ wS.heap.size ≠ g) {u0 u1 : Value} (hb : w.heap[D]? = some (.cells #[u0, u1] 37 (0, 0))) (hs : w.heap[wS.heap.size]? = some (.cells #[.slice none 0 0, .slice none 0 0] 37 (0, 0)))
  (j : Nat) (u : Value) (hc : (#[u0, u1] : Array Value).setIfInBounds j u = #[v0, v1]) (r0 : Kd.R (Kd.int .i64) 3 w wS.heap.size (fun _ => True) v0 lc) (r1 : Kd.R kBs 106 w wS.heap.size (fun _ => True) v1 lb) : Pg w0 wS (w.setCell ⟨D, j, none⟩ u) g D m v0 v1 lc lb := by
 have ht : ∀ (k q : Nat) (cells : Array Value), q ≠ 37 → w.heap[k]? = some (.cells cells q (0, 0)) → (w.setCell ⟨D, j, none⟩ u).heap[k]? = w.heap[k]? := fun k q cells hq hc' => Below.heap_setCell w ⟨D, j, none⟩ u k (fun e => by
  subst e
  rw [hb] at hc'
  injection hc' with hc'
  injection hc' with _ hc'
  exact hq hc'.symm)
 have hE : ∀ q, q ∈ 106 :: kBs.E → q ≠ 37 := by decide
 refine ⟨hr.set dg.1 (by omega) j u, hk.setCell (p := ⟨D, j, none⟩) (.inr (by show wS.heap.size ≤ D; omega)) u, hB, dB, dg, by rw [← hc]; exact zu hb j u, (Below.heap_setCell w ⟨D, j, none⟩ u _ (by show wS.heap.size ≠ D; omega)).trans hs, zR r0 (fun k q cells _ _ hq hc' => ht k q cells (by rw [List.mem_singleton.1 hq]; decide) hc'), zR r1 (fun k q cells _ _ hq hc' => ht k q cells (hE q hq) hc')⟩
theorem Pg.push0 (h : Pg w0 wS w g D m v0 (.slice none 0 0) lc []) (hra : Kd.R (Kd.int .i64) 3 w1 wS.heap.size (fun _ => True) va lc') (hg : w.grownBy w1 v0.ownBlock) : Pg w0 wS (w1.setCell ⟨D, 0, none⟩ va) g D m va (.slice none 0 0) lc' [] := by
 obtain ⟨a, b, c, d, _⟩ := h.grow h.r0 (.inl rfl) hg
 exact Pg.put a b h.B h.dB h.dg c d 0 va rfl hra (Kd.R_nil _ _ _ _ _)
theorem Pg.push1 (h : Pg w0 wS w g D m v0 v1 lc lb) (hra : Kd.R kBs 106 w1 wS.heap.size (fun _ => True) va lb') (hg : w.grownBy w1 v1.ownBlock) : Pg w0 wS (w1.setCell ⟨D, 1, none⟩ va) g D m v0 va lc lb' := by
 obtain ⟨a, b, c, d, ht⟩ := h.grow h.r1 (.inr rfl) hg
 exact Pg.put a b h.B h.dB h.dg c d 1 va rfl (zR h.r0 (fun k q cells _ _ hq hc' => ht k q cells (by rw [List.mem_singleton.1 hq]; decide) hc')) hra
theorem Pg.head {gB n cap : Nat} (h : Pg w0 wS w g D m v0 (.slice (some ⟨gB, 0, none⟩) n cap) lc lb) (hn : 0 < n) {u : Value} {l : List zO} (hu : Kd.R xK 110 w wS.heap.size (fun k => k ≠ gB) u l) : Pg w0 wS (w.setCell ⟨gB, 0, none⟩ u) g D m v0 (.slice (some ⟨gB, 0, none⟩) n cap) lc (lb.set 0 l) := by
 obtain ⟨c, hcl, hM, hcc, hfr⟩ := Kd.R_elem h.r1 [] 0 (Int.le_refl 0) (by omega)
 obtain ⟨r1, r2⟩ := Kd.R_seg h.r1 0 (Int.le_refl 0) (by omega) (seg := [u]) (j := 0) (okp := fun k => k ≠ gB) hcl hcc (by show 0 + 1 ≤ 1; omega) (x' := l) (by
  have hd : c.drop (0 + [u].length) = [] := List.drop_eq_nil_of_le (by rw [hcl]; show 1 ≤ 0 + 1; omega)
  rw [hd]
  exact ⟨u, rfl, hu⟩) (fun k hk => ⟨trivial, hk⟩)
 obtain ⟨a, b, c', d, ht⟩ := h.grow h.r1 (.inr rfl) r2
 exact ⟨a, b, h.B, h.dB, h.dg, c', d, zR h.r0 (fun k q cells _ _ hq hc' => ht k q cells (by rw [List.mem_singleton.1 hq]; decide) hc'), r1⟩
theorem Pg.hd {gB n cap : Nat} (h : Pg w0 wS w g D m v0 (.slice (some ⟨gB, 0, none⟩) n cap) lc lb) (hn : 0 < n) : (∃ u, w.cell? ⟨gB, 0, none⟩ = some u) ∧ w.frozen? ⟨gB, 0, none⟩ = false := by
 obtain ⟨c, hcl, hM, hcc, hfr⟩ := Kd.R_elem h.r1 [] 0 (Int.le_refl 0) (by omega)
 obtain ⟨u, rfl⟩ := List.length_eq_one_iff.1 (show c.length = 1 from hcl)
 exact ⟨⟨u, hcc 0 u rfl⟩, hfr 0⟩
end
theorem R_ofI {α : Type} {d : Kd α} {e : Nat} {w : World} {base b : Nat} {ok : Nat → Prop} {xs : List α} {cs : List Value} (h : w.heap[b]? = some (.cells cs.toArray e (0, 0))) (hb : base ≤ b) (hok : ok b) (hl : xs.length ≤ maxLen) (hr : yh (d.M w base (fun k => ok k ∧ k ≠ b)) d.sz xs cs) :
  Kd.R d e w base ok (.slice (some ⟨b, 0, none⟩) xs.length xs.length) xs := by
 have hcl : cs.length = xs.length * d.sz := hr.1
 refine ⟨fun k hk => ?_, cs, ⟨hcl, .inr ⟨b, xs.length, cs.toArray, rfl, hb, h, Nat.le_refl _, hl, by simpa using hcl, ?_⟩⟩, hr.imp_ (fun _ _ hp => d.M_mono (fun k hk => ⟨hk.1, fun e => hk.2 (by simp [Value.ownBlock] at e; exact e)⟩) hp)⟩
 ·have : b = k := by simpa [Value.ownBlock] using hk
  subst this
  exact hok
 ·rw [← hcl]; simp
theorem row2 (w : World) (B N : Nat) (z : Int) (hb : B ≤ w.heap.size) (hN : N ≤ w.heap.size) : Kd.R (Kd.int .i64) 3 (w.alloc (.cells #[.int .i64 1, .int .i64 z] 3)) B (fun k => N ≤ k) (.slice (some ⟨w.heap.size, 0, none⟩) 2 2) [1, z] :=
 R_of (xs := [1, z]) (heap_alloc_new _ _) hb hN (by simp [maxLen]) (((yh.none _ _).snoc (p := (1 : Int)) (c := [.int .i64 1]) rfl rfl).snoc (p := z) (c := [.int .i64 z]) rfl rfl)
theorem R_on {α : Type} {d : Kd α} {e B : Nat} {w w1 : World} {ok : Nat → Prop} {v : Value} {xs : List α} (h : d.R e w B ok v xs) (hb : Below w.heap.size w w1) : d.R e w1 B (fun k => ok k ∧ k < w.heap.size) v xs :=
 zR (Kd.zT (Kd.yI h) (fun k hk => ⟨hk.1, hk.2.2.1⟩)) (fun k q cells _ _ _ hc => hb.block k (zo hc))
theorem act2_row {w : World} {B gB N : Nat} {z : Int} {ld : List yO} {vk vd : Value} (hk : Kd.R (Kd.int .i64) 3 w B (fun k => N ≤ k) vk [1, z]) (hd : Kd.R xu 113 w B (fun k => N ≤ k) vd ld) (hg : gB < N) (hw : gB < w.heap.size) (hB : B ≤ w.heap.size) :
  Kd.R xK 110 (w.alloc (.cells #[.int .i64 2, .slice none 0 0, vk, .int .i64 0, .int .i64 1, vd, .slice none 0 0, .int .i64 0] 110)) B (fun k => k ≠ gB) (.slice (some ⟨w.heap.size, 0, none⟩) 2 2) [⟨2, [], [1, z], 0⟩, ⟨1, ld, [], 0⟩] := by
 have hb := zc (Below.refl w.heap.size w) (.cells #[.int .i64 2, .slice none 0 0, vk, .int .i64 0, .int .i64 1, vd, .slice none 0 0, .int .i64 0] 110)
 refine R_ofI (xs := ([⟨2, [], [1, z], 0⟩, ⟨1, ld, [], 0⟩] : List zO)) (heap_alloc_new _ _) hB (by omega) (by simp [maxLen]) (((yh.none _ _).snoc (p := (⟨2, [], [1, z], 0⟩ : zO)) (wk _ _ _ ⟨2, [], [1, z], 0⟩ (Kd.R_nil _ _ _ _ _) (Kd.zT (R_on hk hb) (fun k hk => ?_))) rfl).snoc (p := (⟨1, ld, [], 0⟩ : zO)) (wk _ _ _ ⟨1, ld, [], 0⟩ (Kd.zT (R_on hd hb) (fun k hk => ?_)) (Kd.R_nil _ _ _ _ _)) rfl)
 ·exact ⟨by omega, by omega⟩
 ·exact ⟨by omega, by omega⟩
end Go.Proofs.Ytppapibjbjmmbaa.QSY
set_option linter.unusedVariables false
set_option linter.unusedSimpArgs false
namespace Go.Proofs.Ytppapibjbjmmbaa.QSY
open Go.RowKit Go.Proofs.YtppapibjbjmmbaaW.PrintWords Go.Proofs.YtppapibjbjmmbaaW.PrintLast Go.Proofs.YtppapibjbjmmbaaW.PrintMore
theorem lit5 {w : World} {b : Nat} (d : Int) (d0 : 0 ≤ d) (d1 : d < 5) (h : w.heap[b]? = some (.cells #[.int .i64 0, .int .i64 0, .int .i64 1, .int .i64 5, .int .i64 99] 3 (0, 0))) : ∃ x, w.cell? ⟨b, d.toNat, none⟩ = some (.int .i64 x) := by
 rcases (show d = 0 ∨ d = 1 ∨ d = 2 ∨ d = 3 ∨ d = 4 by omega) with rfl | rfl | rfl | rfl | rfl <;> exact ⟨_, (zd h _).trans rfl⟩
theorem Rdr.alloc5 {w0 w w1 : World} {g : Nat} {m : Int} (h : Rdr w0 w g m) {cs : Array Value} (hk : Kept (w.alloc (.cells cs 3)) w1 (fun j => j = g)) : w1.heap[w.heap.size]? = some (.cells cs 3 (0, 0)) :=
 (h.below (zc (Below.refl _ _) (.cells cs 3))).kept hk (heap_alloc_new _ _) (by decide)
theorem R_box {α : Type} {d : Kd α} {e B b : Nat} {w : World} {ok : Nat → Prop} {v : Value} {xs : List α} {cells : Array Value} (h : d.R e w B ok v xs) (hb : w.heap[b]? = some (.cells cells 37 (0, 0))) (hE : ∀ q, q ∈ e :: d.E → q ≠ 37) (a c : Value) : d.R e ((w.setCell ⟨b, 0, none⟩ a).setCell ⟨b, 1, none⟩ c) B ok v xs :=
 zR h (fun k q cells' _ _ hq hc => by
  have hne : k ≠ b := fun e => by
   subst e
   rw [hc] at hb
   injection hb with hb
   injection hb with _ hb
   exact hE q hq hb
  exact (Below.heap_setCell _ ⟨b, 1, none⟩ c k hne).trans (Below.heap_setCell _ ⟨b, 0, none⟩ a k hne))
def six (w : World) : World := (((((w.alloc (.cells #[.int .i64 1] 3)).alloc (.cells #[.int .i64 1, .int .i64 1] 3)).alloc (.cells #[.int .i64 2, .slice none 0 0, .slice (some ⟨w.heap.size + 1, 0, none⟩) 2 2, .int .i64 0] 110)).alloc (.cells #[.int .i64 1, .int .i64 0, .int .i64 0, .int .i64 4, .int .i64 0, .int .i64 0, .int .i64 2, .int .i64 0, .int .i64 0] 113)).alloc (.cells #[.int .i64 1, .slice (some ⟨w.heap.size + 1 + 1 + 1, 0, none⟩) 3 3, .slice none 0 0, .int .i64 0] 110)).alloc (.cells #[.slice (some ⟨w.heap.size + 1 + 1, 0, none⟩) 1 1, .slice (some ⟨w.heap.size + 1 + 1 + 1 + 1, 0, none⟩) 1 1] 106)
theorem aat {W : World} {o : Obj} {b : Nat} (h : W.heap.size = b) : (W.alloc o).heap[b]? = some o := by subst h; exact heap_alloc_new W o
theorem six_r0 (w : World) (B : Nat) (hB : B ≤ w.heap.size) : Kd.R (Kd.int .i64) 3 (six w) B (fun _ => True) (.slice (some ⟨w.heap.size, 0, none⟩) 1 1) [1] :=
 R_of (xs := [1]) (zm (zm (zm (zm (zm (aat rfl) _) _) _) _) _) hB trivial (by simp [maxLen]) ((yh.none _ _).snoc (p := (1 : Int)) (c := [.int .i64 1]) rfl rfl)
theorem six_r1 (w : World) (B : Nat) (hB : B ≤ w.heap.size) : Kd.R kBs 106 (six w) B (fun _ => True) (.slice (some ⟨w.heap.size + 1 + 1 + 1 + 1 + 1, 0, none⟩) 2 2) [[⟨2, [], [1, 1], 0⟩], [⟨1, [⟨1, 0, 0⟩, ⟨4, 0, 0⟩, ⟨2, 0, 0⟩], [], 0⟩]] := by
 have hk : Kd.R (Kd.int .i64) 3 (six w) B (fun k => k < w.heap.size + 2) (.slice (some ⟨w.heap.size + 1, 0, none⟩) 2 2) [1, 1] :=
  R_of (xs := [1, 1]) (zm (zm (zm (zm (aat (by simp)) _) _) _) _) (by omega) (by omega) (by simp [maxLen]) (((yh.none _ _).snoc (p := (1 : Int)) (c := [.int .i64 1]) rfl rfl).snoc (p := (1 : Int)) (c := [.int .i64 1]) rfl rfl)
 have ha : Kd.R xK 110 (six w) B (fun k => k < w.heap.size + 3) (.slice (some ⟨w.heap.size + 1 + 1, 0, none⟩) 1 1) [⟨2, [], [1, 1], 0⟩] :=
  R_ofI (xs := ([⟨2, [], [1, 1], 0⟩] : List zO)) (zm (zm (zm (aat (by simp)) _) _) _) (by omega) (by omega) (by simp [maxLen]) ((yh.none _ _).snoc (p := (⟨2, [], [1, 1], 0⟩ : zO)) (wk _ _ _ ⟨2, [], [1, 1], 0⟩ (Kd.R_nil _ _ _ _ _) (Kd.zT hk (fun k hk => ⟨by omega, by omega⟩))) rfl)
 have hd : Kd.R xu 113 (six w) B (fun k => k < w.heap.size + 4) (.slice (some ⟨w.heap.size + 1 + 1 + 1, 0, none⟩) 3 3) [⟨1, 0, 0⟩, ⟨4, 0, 0⟩, ⟨2, 0, 0⟩] :=
  R_of (xs := ([⟨1, 0, 0⟩, ⟨4, 0, 0⟩, ⟨2, 0, 0⟩] : List yO)) (zm (zm (aat (by simp)) _) _) (by omega) (by omega) (by simp [maxLen]) ((((yh.none _ _).snoc (p := (⟨1, 0, 0⟩ : yO)) (k113_mkM _ _ _ _) rfl).snoc (p := (⟨4, 0, 0⟩ : yO)) (k113_mkM _ _ _ _) rfl).snoc (p := (⟨2, 0, 0⟩ : yO)) (k113_mkM _ _ _ _) rfl)
 have hb : Kd.R xK 110 (six w) B (fun k => k < w.heap.size + 5) (.slice (some ⟨w.heap.size + 1 + 1 + 1 + 1, 0, none⟩) 1 1) [⟨1, [⟨1, 0, 0⟩, ⟨4, 0, 0⟩, ⟨2, 0, 0⟩], [], 0⟩] :=
  R_ofI (xs := ([⟨1, [⟨1, 0, 0⟩, ⟨4, 0, 0⟩, ⟨2, 0, 0⟩], [], 0⟩] : List zO)) (zm (aat (by simp)) _) (by omega) (by omega) (by simp [maxLen]) ((yh.none _ _).snoc (p := (⟨1, [⟨1, 0, 0⟩, ⟨4, 0, 0⟩, ⟨2, 0, 0⟩], [], 0⟩ : zO)) (wk _ _ _ ⟨1, [⟨1, 0, 0⟩, ⟨4, 0, 0⟩, ⟨2, 0, 0⟩], [], 0⟩ (Kd.zT hd (fun k hk => ⟨by omega, by omega⟩)) (Kd.R_nil _ _ _ _ _)) rfl)
 exact R_ofI (xs := ([[⟨2, [], [1, 1], 0⟩], [⟨1, [⟨1, 0, 0⟩, ⟨4, 0, 0⟩, ⟨2, 0, 0⟩], [], 0⟩]] : List (List zO))) (aat (by simp)) (by omega) trivial (by simp [maxLen]) (((yh.none _ _).snoc (Kd.M_row (Kd.zT ha (fun k hk => ⟨trivial, by omega⟩))) rfl).snoc (Kd.M_row (Kd.zT hb (fun k hk => ⟨trivial, by omega⟩))) rfl)
def DrawsProg (w0 w : World) (g : Nat) (m : Int) (e : Ending) (w' : World) : Prop := ∃ v0 v1 lc lb, e = .returned (.agg #[v0, v1]) ∧ Kd.R (Kd.int .i64) 3 w' w.heap.size (fun _ => True) v0 lc ∧ Kd.R kBs 106 w' w.heap.size (fun _ => True) v1 lb ∧ okF lc lb = true ∧ 0 < lc.length ∧ Rdr w0 w' g (m + 3000) ∧ Kept w w' (fun j => j = g)
set_option maxHeartbeats 8000000 in
set_option maxRecDepth 100000 in
theorem prog_draws {w0 w : World} {g : Nat} {m : Int} (h : Rdr w0 w g m) (hm : m ≤ 600000) : Calls Try.prog 56 #[.pointer (some ⟨g, 0, none⟩)] w (DrawsProg w0 w g m) := by
 have hu := Try.underlying37
 obtain ⟨Post, hPost⟩ : ∃ P, P = DrawsProg w0 w g m := ⟨_, rfl⟩
 have HP := zb.mk hPost
 rw [← hPost]
 have HZ := zb.mk h.hb.size
 have HG0 := zb.mk (show g < w.heap.size by
  obtain ⟨A, c, b, p, h1, _⟩ := h
  exact zo h1)
 obtain ⟨W, hW⟩ : ∃ W, W = w.alloc (.cells #[.slice none 0 0, .slice none 0 0] 37) := ⟨_, rfl⟩
 have HB := zb.mk (show Below w.heap.size w W by rw [hW]; exact zc (Below.refl _ _) _)
 have HX := zb.mk (show W.heap[w.heap.size]? = some (.cells #[.slice none 0 0, .slice none 0 0] 37 (0, 0)) by rw [hW]; exact heap_alloc_new _ _)
 have HR := zb.mk (h.below HB.out)
 have HK := zb.mk (Kept.of_below HB.out (fun j => j = g))
 clear h hPost
 go_enter Try.func56, Try.ntmps56
 go_upto_region 1 with (fail)
 rw [← hW]
 clear hW
 go_wp2
 go_loopw [3] (fun v3 wr => ∃ (V : World) (i : Nat), V = wr ∧ v3 = .int .i64 i ∧ zb (i ≤ 10) ∧ zb (Rdr w0 V g (m + 300 * (i : Int))) ∧ zb (Kept w V (fun j => j = g)) ∧ zb (V.heap[w.heap.size]? = some (.cells #[.slice none 0 0, .slice none 0 0] 37 (0, 0)))) (fun v3 _ => 10 - (intOf v3).toNat)
 case atStart => exact ⟨W, 0, rfl, rfl, ⟨Nat.zero_le _⟩, ⟨HR.out.mono (by simp)⟩, HK, HX⟩
 case round =>
  obtain ⟨V, i, hV, rfl, hi, HR2, HK2, HX2⟩ := hrel
  rw [← hV]
  clear hV HR HK HX HB
  have hi10 := hi.out
  by_cases hlt : (i : Int) < 10
  ·have LI := zb.mk hlt
   have en : wrap64 ((i : Int) + 1) = ((i + 1 : Nat) : Int) := yx (n := 10) (by omega) (by omega)
   have HVS := zb.mk (show w.heap.size < V.heap.size from zo HX2.out)
   go_upto_region 5 with (fail)
   obtain ⟨D, hD⟩ : ∃ D, D = V.heap.size + 1 := ⟨_, rfl⟩
   obtain ⟨X, hX⟩ : ∃ X, X = (V.alloc (.cells #[] 3)).alloc (.cells #[.slice (some ⟨V.heap.size, 0, none⟩) 0 0, .slice none 0 0] 37) := ⟨_, rfl⟩
   have HB := zb.mk (show Below V.heap.size V X by rw [hX]; exact zc (zc (Below.refl _ _) _) _)
   have HG := zb.mk (show Pg w0 w X g D (m + 300 * (i : Int)) (.slice (some ⟨V.heap.size, 0, none⟩) 0 0) (.slice none 0 0) [] [] from
    ⟨HR2.out.below HB.out, HK2.out.below HB.out, HZ.out, by rw [hD]; have := HVS.out; omega, ⟨fun e => by have := HG0.out; have := HVS.out; omega, fun e => by have := HG0.out; omega⟩, by rw [hX, hD, show V.heap.size + 1 = (V.alloc (.cells #[] 3)).heap.size by simp]; exact heap_alloc_new _ _, (HB.out.block _ HVS.out).trans HX2.out,
     R_of (xs := []) (cs := []) (by rw [hX]; exact zm (heap_alloc_new _ _) _) (by have := HVS.out; omega) trivial (Nat.zero_le _) (yh.none _ _), Kd.R_nil _ _ _ _ _⟩)
   rw [← hD, ← hX]
   clear hX HB HR2 HK2 HX2 hD
   go_wp2_with (go_at_call 55; refine (zQ _ HG.out.rd (by omega) (by omega)).mono ?_; rintro e w1 ⟨y, rfl, h0, h1, h2, hr, hk⟩; have n0 := zb.mk (HG.out.pick hr hk); clear HG hr hk h2; have HG := n0; clear n0)
   have hy := h1 (by decide)
   have e1 : wrap64 (1 + y) = 1 + y := by unfold wrap64; omega
   clear h1
   obtain ⟨nc, hnc⟩ : ∃ n, n = 1 + y := ⟨_, rfl⟩
   rw [← hnc] at e1 ⊢
   have NC := zb.mk (show 1 ≤ nc ∧ nc ≤ 3 by omega)
   clear hnc e1 hy h0
   go_loopw [6] (fun v6 wr => ∃ (X : World) (j : Nat) (v0 : Value) (l : List Int), X = wr ∧ v6 = .int .i64 j ∧ zb ((j : Int) ≤ nc ∧ l.length = j) ∧ zb (Pg w0 w X g D (m + 300 * (i : Int) + 1 + j) v0 (.slice none 0 0) l [])) (fun v6 _ => nc.toNat - (intOf v6).toNat)
   case atStart => exact ⟨_, 0, _, [], rfl, rfl, ⟨by have := NC.out; simp; omega⟩, ⟨by simpa using HG.out⟩⟩
   case round =>
    clear HG
    obtain ⟨wx, j, v0, l, hwx, rfl, hj, HG⟩ := hrel
    have hnc := NC.out
    have hjj := hj.out
    rw [← hwx]
    clear hwx
    obtain ⟨mm, hmd⟩ : ∃ x, x = m + 300 * (i : Int) + 1 + j := ⟨_, rfl⟩
    have hmm : mm ≤ 1000000 := by omega
    by_cases hjt : (j : Int) < nc
    ·have ej : wrap64 ((j : Int) + 1) = ((j + 1 : Nat) : Int) := yx (n := 10) (by omega) (by omega)
     have LJ := zb.mk hjt
     have HMD := zb.mk hmd
     rw [← hmd] at HG
     clear hmd
     go_upto_region 9 with (fail)
     refine yc (n := 11) (S := fun w' => w'.cell? ⟨D, 0, none⟩ = some v0) (ds := [10]) (bm 11 0) (by kernel_rfl) rfl rfl ((Pg.c0 (m := _) (v1 := .slice none 0 0) (lb := []) (lc := l) (wS := w) (by repeat (first | exact HG.out | apply Pg.alloc | apply Pg.drew)))) (fun hHeld => ?_)
     refine zl (i := 0) (N := some 23) (v := ?_) (a' := ?_) (bm 11 1) rfl rfl (by kernel_rfl) (fun _ _ _ h => h) (Or.inl ⟨by rfl, ?_⟩) ?_ ?_
     rotate_left
     ·intro w'
      go_simp
      with_reducible rfl
     rotate_left
     ·simp only [Act.put, List.setIfInBounds_toArray, List.set_cons_zero, List.set_cons_succ, zg, zh]
      rfl
     refine zl (i := 3) (N := some 26) (v := ?_) (a' := ?_) (bm 11 9) rfl rfl (by kernel_rfl) (fun _ _ _ h => h) (Or.inl ⟨by rfl, ?_⟩) ?_ ?_
     rotate_left
     ·intro w'
      go_simp
      with_reducible rfl
     rotate_left
     ·simp only [Act.put, List.setIfInBounds_toArray, List.set_cons_zero, List.set_cons_succ, zg, zh]
      rfl
     refine zA (i := 1) (N := some 24) (v := ?_) (a' := ?_) (bm 11 11) rfl rfl (by kernel_rfl) (fun _ _ _ h => h) (Or.inl ⟨by rfl, ?_⟩) hHeld ?_ ?_
     rotate_left
     ·intro w' s0
      go_simp
      with_reducible rfl
     rotate_left
     ·simp only [Act.put, List.setIfInBounds_toArray, List.set_cons_zero, List.set_cons_succ, zg, zh]
      rfl
     refine xc (σ := Nat × Int) 6 (bm 11 31) (fun s => [(25, .slice (some ⟨s.1, 0, none⟩) 5 5), (27, .int .i64 s.2)]) (fun s w' => w'.cell? ⟨D, 0, none⟩ = some v0 ∧ zb (Pg w0 w w' g D (mm + 1) v0 (.slice none 0 0) l []) ∧ 0 ≤ s.2 ∧ s.2 < 5 ∧ ∃ x, w'.cell? ⟨s.1, s.2.toNat, none⟩ = some (.int .i64 x)) ?_ ?_
     rotate_left
     ·intro hCont
      refine two_ (i := 2) (j := 4) (Ni := some 25) (Nj := some 27) (bm 11 15) (bm 11 27) rfl rfl rfl rfl (by kernel_rfl) (by decide) (by decide) (fun K hK => ?_) (fun K hK => ?_)
      ·skip
       refine zI (w1 := ?_) (v := ?_) (by rfl) rfl ?_ ?_
       rotate_left 2
       ·go_simp
        constructor
        ·rfl
        ·rfl
       refine hK.out _ _ ((Pg.c0 (m := _) (v1 := .slice none 0 0) (lb := []) (lc := l) (wS := w) (by repeat (first | exact HG.out | apply Pg.alloc | apply Pg.drew)))) (fun hHeld => ?_)
       clear hK K
       refine zp (a' := ?_) ?_ ?_
       rotate_left
       ·show Act.put _ (some 25) _ = _
        simp only [Act.put, List.setIfInBounds_toArray, List.set_cons_zero, List.set_cons_succ, zg, zh]
        rfl
       refine yE (i := 4) (N := some 27) (bm 11 31) rfl rfl (by kernel_rfl) (by decide) (fun K hK => ?_)
       refine xQ Try.func55 (by kernel_rfl) rfl #[.pointer (some ⟨g, 0, none⟩), .int .i64 5] (by rfl) rfl rfl (by simp only [List.map_toArray, List.map_cons, List.map_nil]; rfl) ?_
       with_reducible refine (zQ 5 (Pg.rd (m := mm) (v0 := v0) (v1 := .slice none 0 0) (lb := []) (lc := l) (wS := w) (D := D) (by repeat (first | exact HG.out | apply Pg.alloc | apply Pg.drew))) hmm (by decide)).mono ?_
       rintro e wc ⟨d, rfl, d0, d1, _, hr, hk⟩
       refine ⟨_, rfl, ?_⟩
       have HG2 := zb.mk (show Pg w0 w wc g D (mm + 1) v0 (.slice none 0 0) l [] from Pg.pick (m := mm) (by repeat (first | exact HG.out | apply Pg.alloc | apply Pg.drew)) hr hk)
       refine hK.out _ _ ((Pg.c0 (m := _) (v1 := .slice none 0 0) (lb := []) (lc := l) (wS := w) (by repeat (first | exact HG2.out | apply Pg.alloc | apply Pg.drew)))) (fun hHeld => ?_)
       clear hK K
       refine zp (a' := ?_) ?_ ?_
       rotate_left
       ·show Act.put _ (some 27) _ = _
        simp only [Act.put, List.setIfInBounds_toArray, List.set_cons_zero, List.set_cons_succ, zg, zh]
        rfl
       exact zp (by simp only [zq, Act.put, List.setIfInBounds_toArray, List.set_cons_zero, List.set_cons_succ]) (hCont (wx.heap.size, d) _ ⟨(Pg.c0 (m := _) (v1 := .slice none 0 0) (lb := []) (lc := l) (wS := w) (by repeat (first | exact HG2.out | apply Pg.alloc | apply Pg.drew))), ⟨(by repeat (first | exact HG2.out | apply Pg.alloc | apply Pg.drew))⟩, d0, d1 (by decide), lit5 d d0 (d1 (by decide)) (HG.out.rd.alloc5 hk)⟩)
      ·skip
       refine xQ Try.func55 (by kernel_rfl) rfl #[.pointer (some ⟨g, 0, none⟩), .int .i64 5] (by rfl) rfl rfl (by simp only [List.map_toArray, List.map_cons, List.map_nil]; rfl) ?_
       with_reducible refine (zQ 5 (Pg.rd (m := mm) (v0 := v0) (v1 := .slice none 0 0) (lb := []) (lc := l) (wS := w) (D := D) (by repeat (first | exact HG.out | apply Pg.alloc | apply Pg.drew))) hmm (by decide)).mono ?_
       rintro e wc ⟨d, rfl, d0, d1, _, hr, hk⟩
       refine ⟨_, rfl, ?_⟩
       have HG2 := zb.mk (show Pg w0 w wc g D (mm + 1) v0 (.slice none 0 0) l [] from Pg.pick (m := mm) (by repeat (first | exact HG.out | apply Pg.alloc | apply Pg.drew)) hr hk)
       refine hK.out _ _ ((Pg.c0 (m := _) (v1 := .slice none 0 0) (lb := []) (lc := l) (wS := w) (by repeat (first | exact HG2.out | apply Pg.alloc | apply Pg.drew)))) (fun hHeld => ?_)
       clear hK K
       refine zp (a' := ?_) ?_ ?_
       rotate_left
       ·show Act.put _ (some 27) _ = _
        simp only [Act.put, List.setIfInBounds_toArray, List.set_cons_zero, List.set_cons_succ, zg, zh]
        rfl
       refine yE (i := 2) (N := some 25) (bm 11 31) rfl rfl (by kernel_rfl) (by decide) (fun K hK => ?_)
       refine zI (w1 := ?_) (v := ?_) (by rfl) rfl ?_ ?_
       rotate_left 2
       ·go_simp
        constructor
        ·rfl
        ·rfl
       refine hK.out _ _ ((Pg.c0 (m := _) (v1 := .slice none 0 0) (lb := []) (lc := l) (wS := w) (by repeat (first | exact HG2.out | apply Pg.alloc | apply Pg.drew)))) (fun hHeld => ?_)
       clear hK K
       refine zp (a' := ?_) ?_ ?_
       rotate_left
       ·show Act.put _ (some 25) _ = _
        simp only [Act.put, List.setIfInBounds_toArray, List.set_cons_zero, List.set_cons_succ, zg, zh]
        rfl
       exact zp (by simp only [zq, Act.put, List.setIfInBounds_toArray, List.set_cons_zero, List.set_cons_succ]) (hCont (wc.heap.size, d) _ ⟨(Pg.c0 (m := _) (v1 := .slice none 0 0) (lb := []) (lc := l) (wS := w) (by repeat (first | exact HG2.out | apply Pg.alloc | apply Pg.drew))), ⟨(by repeat (first | exact HG2.out | apply Pg.alloc | apply Pg.drew))⟩, d0, d1 (by decide), lit5 d d0 (d1 (by decide)) (heap_alloc_new _ _)⟩)
     rintro ⟨sL, dd⟩ wj ⟨hHeld, HGj, e0, e1, x, hcj⟩
     refine zp (a' := ?_) ?_ ?_
     rotate_left
     ·simp only [zq, Act.put, List.setIfInBounds_toArray, List.set_cons_zero, List.set_cons_succ]
      rfl
     refine zl (i := 5) (N := some 28) (v := ?_) (a' := ?_) (bm 11 63) rfl rfl (by kernel_rfl) (fun _ _ _ h => h) (Or.inl ⟨by rfl, ?_⟩) ?_ ?_
     rotate_left
     ·intro w'
      go_simp
      with_reducible rfl
     rotate_left
     ·simp only [Act.put, List.setIfInBounds_toArray, List.set_cons_zero, List.set_cons_succ, zg, zh]
      rfl
     refine yE (i := 6) (N := some 29) (bm 11 127) rfl rfl (by kernel_rfl) (by decide) (fun K hK => ?_)
     refine zI (w1 := ?_) (v := ?_) (by rfl) rfl ?_ ?_
     rotate_left 2
     ·go_simp
      constructor
      ·rfl
      ·rfl
     refine hK.out _ _ (hHeld) (fun hHeld => ?_)
     clear hK K
     refine zp (a' := ?_) ?_ ?_
     rotate_left
     ·show Act.put _ (some 29) _ = _
      simp only [Act.put, List.setIfInBounds_toArray, List.set_cons_zero, List.set_cons_succ, zg, zh]
      rfl
     refine yE (i := 7) (N := some 30) (bm 11 255) rfl rfl (by kernel_rfl) (by decide) (fun K hK => ?_)
     refine zI (w1 := ?_) (v := ?_) (by rfl) rfl ?_ ?_
     rotate_left 2
     ·go_simp
      constructor
      ·rfl
      ·rfl
     refine hK.out _ _ ((Pg.c0 (m := _) (v1 := .slice none 0 0) (lb := []) (lc := l) (wS := w) (by repeat (first | exact HGj.out | apply Pg.alloc | apply Pg.drew)))) (fun hHeld => ?_)
     clear hK K
     refine zp (a' := ?_) ?_ ?_
     rotate_left
     ·show Act.put _ (some 30) _ = _
      simp only [Act.put, List.setIfInBounds_toArray, List.set_cons_zero, List.set_cons_succ, zg, zh]
      rfl
     refine yE (i := 8) (N := some 31) (bm 11 511) rfl rfl (by kernel_rfl) (by decide) (fun K hK => ?_)
     refine Kd.xn (Kd.int .i64) w.heap.size (by rfl) (.tmp 24) (.tmp 30) 29 3 (.int .i64 0) 8 (by rfl) Try.underlying29 info3 (by rfl) (by decide) (by decide) v0 l x [.int .i64 x] (fun _ => True) (fun _ => False) (by rfl) (by first | rfl | (go_simp; done) | (simp; done)) (by rfl) (fun _ hk => hk.elim) (fun _ _ => trivial) (by exact HGj.out.r0) (Below.refl _ _) (by exact HGj.out.K.1) (by have h1 := hj.out; omega) ?_
     intro va wa hra hba hga hata
     obtain ⟨Aa, na, ca, rfl⟩ := xH hra
     have HA := zb.mk (Pg.push0 HGj.out hra hga)
     have hbA := (Pg.grow HGj.out HGj.out.r0 (.inl rfl) hga).2.2.1
     have hcA : wa.cell? ⟨D, 0, none⟩ = some v0 := (zd hbA 0).trans rfl
     have hfA : wa.frozen? ⟨D, 0, none⟩ = false := zk hbA 0
     refine hK.out _ _ (hcA) (fun hHeld => ?_)
     clear hK K
     refine zp (a' := ?_) ?_ ?_
     rotate_left
     ·show Act.put _ (some 31) _ = _
      simp only [Act.put, List.setIfInBounds_toArray, List.set_cons_zero, List.set_cons_succ, zg, zh]
      rfl
     refine zl (i := 9) (N := some 32) (v := ?_) (a' := ?_) (bm 11 1023) rfl rfl (by kernel_rfl) (fun _ _ _ h => h) (Or.inl ⟨by rfl, ?_⟩) ?_ ?_
     rotate_left
     ·intro w'
      go_simp
      with_reducible rfl
     rotate_left
     ·simp only [Act.put, List.setIfInBounds_toArray, List.set_cons_zero, List.set_cons_succ, zg, zh]
      rfl
     refine yR (i := 10) (N := none) (bm 11 2047) rfl rfl (by kernel_rfl) (by decide) (fun K hK => ?_)
     refine yQ (w1 := ?_) (by rfl) rfl ?_ ?_
     rotate_left
     ·go_simp
      rfl
     refine hK.out _ _ ?_
     clear hK K
     refine yt (by kernel_rfl) ?_
     clear hcA hfA hcj e0 e1
     go_wp2
     go_roundw
     case rel => exact ⟨_, j + 1, _, l ++ [x], rfl, by first | rw [ej] | rfl | simp, ⟨by have h1 := hj.out; have := LJ.out; simp; omega⟩, ⟨by have h := HA.out; rw [HMD.out] at h; simpa [Int.add_assoc] using h⟩⟩
     case measure => (try rw [ej]); have := LJ.out; simp [intOf]; omega
    ·have HG := zb.mk (show Pg w0 w wx g D (m + 300 * (i : Int) + 4) v0 (.slice none 0 0) l [] from { HG.out with rd := HG.out.rd.mono (by omega) })
     have LC0 := zb.mk (show 0 < l.length by have := hj.out; have := NC.out; omega)
     clear hmd hmm hjj hj
     go_upto_region 11 with (go_at_call 55; refine (zQ _ HG.out.rd (by omega) (by omega)).mono ?_; rintro e w1 ⟨y, rfl, h0, h1, h2, hr, hk⟩; have n0 := zb.mk (HG.out.pick hr hk); clear HG hr hk h2; have HG := n0; clear n0)
     have hy := h1 (by decide)
     have e1 : wrap64 (2 + y) = 2 + y := by unfold wrap64; omega
     clear h1
     obtain ⟨nb, hnb⟩ : ∃ n, n = 2 + y := ⟨_, rfl⟩
     (try rw [e1])
     rw [← hnb]
     have NB := zb.mk (show 2 ≤ nb ∧ nb ≤ 4 by omega)
     clear hnb e1 hy h0
     obtain ⟨lc, hlc⟩ : ∃ x, x = l := ⟨_, rfl⟩
     rw [← hlc] at HG LC0
     clear hlc
     go_wp2
     go_loopw [8] (fun v8 wr => ∃ (X : World) (j : Nat) (v1 : Value) (lb : List (List zO)), X = wr ∧ v8 = .int .i64 j ∧ zb ((j : Int) ≤ nb ∧ lb.length = j) ∧ zb (Pg w0 w X g D (m + 300 * (i : Int) + 5 + 61 * (j : Int)) v0 v1 lc lb)) (fun v8 _ => nb.toNat - (intOf v8).toNat)
     case atStart => exact ⟨_, 0, _, [], rfl, rfl, ⟨by have := NB.out; simp; omega⟩, ⟨{ HG.out with rd := HG.out.rd.mono (by simp; omega) }⟩⟩
     case round =>
      clear HG
      obtain ⟨wx, j, v1, lb, hwx, rfl, hj, HG⟩ := hrel
      have hnb := NB.out
      have hjj := hj.out
      rw [← hwx]
      clear hwx
      by_cases hjt : (j : Int) < nb
      ·have ej : wrap64 ((j : Int) + 1) = ((j + 1 : Nat) : Int) := yx (n := 10) (by omega) (by omega)
       have LJ := zb.mk hjt
       go_upto_region 14 with (fail)
       refine yc (n := 11) (S := fun w' => w'.cell? ⟨D, 1, none⟩ = some v1) (ds := [10]) (bm 11 0) (by kernel_rfl) rfl rfl ((Pg.c1 (Pg.drew HG.out))) (fun hHeld => ?_)
       refine zl (i := 0) (N := some 41) (v := ?_) (a' := ?_) (bm 11 1) rfl rfl (by kernel_rfl) (fun _ _ _ h => h) (Or.inl ⟨by rfl, ?_⟩) ?_ ?_
       rotate_left
       ·intro w'
        go_simp
        with_reducible rfl
       rotate_left
       ·simp only [Act.put, List.setIfInBounds_toArray, List.set_cons_zero, List.set_cons_succ, zg, zh]
        rfl
       refine zl (i := 2) (N := some 43) (v := ?_) (a' := ?_) (bm 11 5) rfl rfl (by kernel_rfl) (fun _ _ _ h => h) (Or.inl ⟨by rfl, ?_⟩) ?_ ?_
       rotate_left
       ·intro w'
        go_simp
        with_reducible rfl
       rotate_left
       ·simp only [Act.put, List.setIfInBounds_toArray, List.set_cons_zero, List.set_cons_succ, zg, zh]
        rfl
       refine zl (i := 3) (N := some 44) (v := ?_) (a' := ?_) (bm 11 13) rfl rfl (by kernel_rfl) (fun _ _ _ h => h) (Or.inl ⟨by rfl, ?_⟩) ?_ ?_
       rotate_left
       ·intro w'
        go_simp
        with_reducible rfl
       rotate_left
       ·simp only [Act.put, List.setIfInBounds_toArray, List.set_cons_zero, List.set_cons_succ, zg, zh]
        rfl
       refine zl (i := 4) (N := some 45) (v := ?_) (a' := ?_) (bm 11 29) rfl rfl (by kernel_rfl) (fun _ _ _ h => h) (Or.inl ⟨by rfl, ?_⟩) ?_ ?_
       rotate_left
       ·intro w'
        go_simp
        with_reducible rfl
       rotate_left
       ·simp only [Act.put, List.setIfInBounds_toArray, List.set_cons_zero, List.set_cons_succ, zg, zh]
        rfl
       refine zl (i := 5) (N := some 46) (v := ?_) (a' := ?_) (bm 11 61) rfl rfl (by kernel_rfl) (fun _ _ _ h => h) (Or.inl ⟨by rfl, ?_⟩) ?_ ?_
       rotate_left
       ·intro w'
        go_simp
        with_reducible rfl
       rotate_left
       ·simp only [Act.put, List.setIfInBounds_toArray, List.set_cons_zero, List.set_cons_succ, zg, zh]
        rfl
       refine zA (i := 1) (N := some 42) (v := ?_) (a' := ?_) (bm 11 63) rfl rfl (by kernel_rfl) (fun _ _ _ h => h) (Or.inl ⟨by rfl, ?_⟩) hHeld ?_ ?_
       rotate_left
       ·intro w' s0
        go_simp
        with_reducible rfl
       rotate_left
       ·simp only [Act.put, List.setIfInBounds_toArray, List.set_cons_zero, List.set_cons_succ, zg, zh]
        rfl
       refine yE (i := 6) (N := some 47) (bm 11 127) rfl rfl (by kernel_rfl) (by decide) (fun K hK => ?_)
       refine xQ Try.func84 (by kernel_rfl) rfl #[.pointer (some ⟨g, 0, none⟩), .int .i64 (j : Int), .int .i64 nb, .int .i64 nc] (by rfl) rfl rfl (by simp only [List.map_toArray, List.map_cons, List.map_nil]; rfl) ?_
       with_reducible refine (body_draws (j : Int) nb nc HG.out.drew.rd (by omega) (by omega) (by omega) (by omega) (by omega) (by omega)).mono ?_
       rintro e wc ⟨vb, lbb, rfl, hob, hl, hr, hk⟩
       refine ⟨_, rfl, ?_⟩
       have HGj := zb.mk (HG.out.drew.pick hr hk)
       obtain ⟨Ab, nbb, cb, rfl⟩ := xH hob
       have HOR := zb.mk (show Kd.R xK 110 wc w.heap.size (fun k => wx.heap.size ≤ k) (.slice Ab nbb cb) lbb from Kd.zP (Kd.zT (Kd.yI hob) (fun k hk => hk.2.1)) HG.out.K.1)
       clear hob hl hr hk
       refine hK.out _ _ ((Pg.c1 HGj.out)) (fun hHeld => ?_)
       clear hK K
       refine zp (a' := ?_) ?_ ?_
       rotate_left
       ·show Act.put _ (some 47) _ = _
        simp only [Act.put, List.setIfInBounds_toArray, List.set_cons_zero, List.set_cons_succ, zg, zh]
        rfl
       refine yE (i := 7) (N := some 48) (bm 11 255) rfl rfl (by kernel_rfl) (by decide) (fun K hK => ?_)
       refine zI (w1 := ?_) (v := ?_) (by rfl) rfl ?_ ?_
       rotate_left 2
       ·go_simp
        constructor
        ·rfl
        ·rfl
       refine hK.out _ _ ((Pg.c1 (Pg.alloc HGj.out _))) (fun hHeld => ?_)
       clear hK K
       refine zp (a' := ?_) ?_ ?_
       rotate_left
       ·show Act.put _ (some 48) _ = _
        simp only [Act.put, List.setIfInBounds_toArray, List.set_cons_zero, List.set_cons_succ, zg, zh]
        rfl
       refine yE (i := 8) (N := some 49) (bm 11 511) rfl rfl (by kernel_rfl) (by decide) (fun K hK => ?_)
       refine Kd.xn kBs w.heap.size (by rfl) (.tmp 42) (.tmp 48) 35 106 (.slice none 0 0) 24 (by rfl) Try.underlying35 (by kernel_rfl) (by rfl) (by decide) (by decide) v1 lb lbb [.slice Ab nbb cb] (fun _ => True) (fun k => wx.heap.size ≤ k) (by rfl) (by first | rfl | (go_simp; done) | (simp; done)) ⟨_, rfl, HOR.out⟩ (fun k hk => ⟨trivial, fun e => by have := Kd.R_lt HG.out.r1 k e.symm; omega⟩) (fun _ _ => trivial) (by exact HGj.out.r1) (Below.refl _ _) (by exact HGj.out.K.1) (by have h1 := hj.out; omega) ?_
       intro va wa hra hba hga hata
       obtain ⟨Aa, na, ca, rfl⟩ := xH hra
       have HA := zb.mk (Pg.push1 HGj.out hra hga)
       have hbA := (Pg.grow HGj.out HGj.out.r1 (.inr rfl) hga).2.2.1
       have hcA : wa.cell? ⟨D, 1, none⟩ = some v1 := (zd hbA 1).trans rfl
       have hfA : wa.frozen? ⟨D, 1, none⟩ = false := zk hbA 1
       refine hK.out _ _ (hcA) (fun hHeld => ?_)
       clear hK K
       refine zp (a' := ?_) ?_ ?_
       rotate_left
       ·show Act.put _ (some 49) _ = _
        simp only [Act.put, List.setIfInBounds_toArray, List.set_cons_zero, List.set_cons_succ, zg, zh]
        rfl
       refine zl (i := 9) (N := some 50) (v := ?_) (a' := ?_) (bm 11 1023) rfl rfl (by kernel_rfl) (fun _ _ _ h => h) (Or.inl ⟨by rfl, ?_⟩) ?_ ?_
       rotate_left
       ·intro w'
        go_simp
        with_reducible rfl
       rotate_left
       ·simp only [Act.put, List.setIfInBounds_toArray, List.set_cons_zero, List.set_cons_succ, zg, zh]
        rfl
       refine yR (i := 10) (N := none) (bm 11 2047) rfl rfl (by kernel_rfl) (by decide) (fun K hK => ?_)
       refine yQ (w1 := ?_) (by rfl) rfl ?_ ?_
       rotate_left
       ·go_simp
        rfl
       refine hK.out _ _ ?_
       clear hK K
       refine yt (by kernel_rfl) ?_
       clear hcA hfA
       go_wp2
       go_roundw
       case rel => exact ⟨_, j + 1, _, lb ++ [lbb], rfl, by first | rw [ej] | rfl | simp, ⟨by have h1 := hj.out; have := LJ.out; simp; omega⟩, ⟨{ HA.out with rd := HA.out.rd.mono (by simp; omega) }⟩⟩
       case measure => (try rw [ej]); have := LJ.out; simp [intOf]; omega
      ·have HG := zb.mk (show Pg w0 w wx g D (m + 300 * (i : Int) + 250) v0 v1 lc lb from { HG.out with rd := HG.out.rd.mono (by omega) })
       clear hjj
       go_upto_if 53 with (go_at_call 55; refine (zQ _ HG.out.rd (by omega) (by omega)).mono ?_; rintro e w1 ⟨y, rfl, h0, h1, h2, hr, hk⟩; have n0 := zb.mk (HG.out.pick hr hk); clear HG hr hk h2; have HG := n0; clear n0)
       obtain ⟨gB, cap, hv1, b0, b1, cells, hcB0⟩ := Kd.xT HG.out.r1 (show 0 < lb.length by have := hj.out; omega)
       obtain ⟨nB, hnB⟩ : ∃ n, n = lb.length := ⟨_, rfl⟩
       have HNB := zb.mk hnB
       have NB0 := zb.mk (show 0 < nB by have := hj.out; omega)
       rw [← hnB] at hv1
       subst hv1
       have nbi : 0 < nB := NB0.out
       clear hcB0 hnB b0 h0 h1
       by_cases hy4 : y > 0
       case' pos =>
        obtain ⟨wx, hwx⟩ : ∃ x, x = w1 := ⟨_, rfl⟩
        have HGB := zb.mk (show gB < wx.heap.size by rw [hwx]; exact Kd.R_lt HG.out.r1 gB (by simp [Value.ownBlock]))
        rw [← hwx] at HG
        have NBW := zb.mk (show wrap64 (nb - 1) = nb - 1 by unfold wrap64; omega)
        clear b1
        go_upto_region 16 with (fail)
        rw [← hwx]
        clear hwx hy4
        refine yc (n := 16) (S := fun w' => w'.cell? ⟨D, 1, none⟩ = some (.slice (some ⟨gB, 0, none⟩) nB cap)) (ds := [15]) (bm 16 0) (by kernel_rfl) rfl rfl ((Pg.c1 (Pg.drew HG.out))) (fun hHeld => ?_)
        refine zl (i := 0) (N := some 54) (v := ?_) (a' := ?_) (bm 16 1) rfl rfl (by kernel_rfl) (fun _ _ _ h => h) (Or.inl ⟨by rfl, ?_⟩) ?_ ?_
        rotate_left
        ·intro w'
         go_simp
         with_reducible rfl
        rotate_left
        ·simp only [Act.put, List.setIfInBounds_toArray, List.set_cons_zero, List.set_cons_succ, zg, zh]
         rfl
        refine zl (i := 2) (N := some 56) (v := ?_) (a' := ?_) (bm 16 5) rfl rfl (by kernel_rfl) (fun _ _ _ h => h) (Or.inl ⟨by rfl, ?_⟩) ?_ ?_
        rotate_left
        ·intro w'
         go_simp
         with_reducible rfl
        rotate_left
        ·simp only [Act.put, List.setIfInBounds_toArray, List.set_cons_zero, List.set_cons_succ, zg, zh]
         rfl
        refine zl (i := 3) (N := some 57) (v := ?_) (a' := ?_) (bm 16 13) rfl rfl (by kernel_rfl) (fun _ _ _ h => h) (Or.inl ⟨by rfl, ?_⟩) ?_ ?_
        rotate_left
        ·intro w'
         go_simp
         with_reducible rfl
        rotate_left
        ·simp only [Act.put, List.setIfInBounds_toArray, List.set_cons_zero, List.set_cons_succ, zg, zh]
         rfl
        refine zl (i := 4) (N := some 58) (v := ?_) (a' := ?_) (bm 16 29) rfl rfl (by kernel_rfl) (fun _ _ _ h => h) (Or.inl ⟨by rfl, ?_⟩) ?_ ?_
        rotate_left
        ·intro w'
         go_simp
         with_reducible rfl
        rotate_left
        ·simp only [Act.put, List.setIfInBounds_toArray, List.set_cons_zero, List.set_cons_succ, zg, zh]
         rfl
        refine zl (i := 9) (N := some 63) (v := ?_) (a' := ?_) (bm 16 541) rfl rfl (by kernel_rfl) (fun _ _ _ h => h) (Or.inl ⟨by rfl, ?_⟩) ?_ ?_
        rotate_left
        ·intro w'
         go_simp
         with_reducible rfl
        rotate_left
        ·simp only [Act.put, List.setIfInBounds_toArray, List.set_cons_zero, List.set_cons_succ, zg, zh]
         rfl
        refine zl (i := 10) (N := some 64) (v := ?_) (a' := ?_) (bm 16 1565) rfl rfl (by kernel_rfl) (fun _ _ _ h => h) (Or.inl ⟨by rfl, ?_⟩) ?_ ?_
        rotate_left
        ·intro w'
         go_simp
         with_reducible rfl
        rotate_left
        ·simp only [Act.put, List.setIfInBounds_toArray, List.set_cons_zero, List.set_cons_succ, zg, zh]
         rfl
        refine zA (i := 1) (N := some 55) (v := ?_) (a' := ?_) (bm 16 1567) rfl rfl (by kernel_rfl) (fun _ _ _ h => h) (Or.inl ⟨by rfl, ?_⟩) hHeld ?_ ?_
        rotate_left
        ·intro w' s0
         go_simp
         with_reducible rfl
        rotate_left
        ·simp only [Act.put, List.setIfInBounds_toArray, List.set_cons_zero, List.set_cons_succ, zg, zh]
         rfl
        refine yE (i := 5) (N := some 59) (bm 16 1599) rfl rfl (by kernel_rfl) (by decide) (fun K hK => ?_)
        refine xQ Try.func55 (by kernel_rfl) rfl #[.pointer (some ⟨g, 0, none⟩), .int .i64 (wrap64 (nb - 1))] (by rfl) rfl rfl (by simp only [List.map_toArray, List.map_cons, List.map_nil]; rfl) ?_
        with_reducible refine (zQ (wrap64 (nb - 1)) HG.out.drew.rd (by omega) (by have := NBW.out; omega)).mono ?_
        rintro e wp ⟨yk, rfl, d0, d1, _, hr, hk⟩
        refine ⟨_, rfl, ?_⟩
        have HGp := zb.mk (HG.out.drew.pick hr hk)
        have HNp := zb.mk (show wx.heap.size ≤ wp.heap.size from hk.1)
        clear hr hk
        refine hK.out _ _ ((Pg.c1 HGp.out)) (fun hHeld => ?_)
        clear hK K
        refine zp (a' := ?_) ?_ ?_
        rotate_left
        ·show Act.put _ (some 59) _ = _
         simp only [Act.put, List.setIfInBounds_toArray, List.set_cons_zero, List.set_cons_succ, zg, zh]
         rfl
        refine zl (i := 6) (N := some 60) (v := ?_) (a' := ?_) (bm 16 1663) rfl rfl (by kernel_rfl) (fun _ _ _ h => h) (Or.inl ⟨by rfl, ?_⟩) ?_ ?_
        rotate_left
        ·intro w'
         go_simp
         with_reducible rfl
        rotate_left
        ·simp only [Act.put, List.setIfInBounds_toArray, List.set_cons_zero, List.set_cons_succ, zg, zh]
         rfl
        refine xc (σ := Nat × Option Addr × Nat × Nat) 3 (bm 16 8191) (fun s => [(61, .slice (some ⟨s.1, 0, none⟩) 2 2), (62, .agg #[.int .i64 2, .slice none 0 0, .slice (some ⟨s.1, 0, none⟩) 2 2, .int .i64 0]), (65, .slice s.2.1 s.2.2.1 s.2.2.2), (66, .agg #[.int .i64 1, .slice s.2.1 s.2.2.1 s.2.2.2, .slice none 0 0, .int .i64 0])]) (fun s w' => w'.cell? ⟨D, 1, none⟩ = some (.slice (some ⟨gB, 0, none⟩) nB cap) ∧ zb (Pg w0 w w' g D (m + 300 * (i : Int) + 250 + 1 + 1 + 17) v0 (.slice (some ⟨gB, 0, none⟩) nB cap) lc lb) ∧ zb (Kd.R (Kd.int .i64) 3 w' w.heap.size (fun k => wx.heap.size ≤ k) (.slice (some ⟨s.1, 0, none⟩) 2 2) [1, wrap64 (1 + yk)]) ∧ ∃ ld, zb (Kd.R xu 113 w' w.heap.size (fun k => wx.heap.size ≤ k) (.slice s.2.1 s.2.2.1 s.2.2.2) ld)) ?_ ?_
        rotate_left
        ·intro hCont
         refine two_ (i := 7) (j := 11) (Ni := some 61) (Nj := some 65) (bm 16 1791) (bm 16 3711) rfl rfl rfl rfl (by kernel_rfl) (by decide) (by decide) (fun K hK => ?_) (fun K hK => ?_)
         ·skip
          refine zI (w1 := ?_) (v := ?_) (by rfl) rfl ?_ ?_
          rotate_left 2
          ·go_simp
           constructor
           ·rfl
           ·rfl
          refine hK.out _ _ ((Pg.c1 (Pg.alloc HGp.out _))) (fun hHeld => ?_)
          clear hK K
          refine zp (a' := ?_) ?_ ?_
          rotate_left
          ·show Act.put _ (some 61) _ = _
           simp only [Act.put, List.setIfInBounds_toArray, List.set_cons_zero, List.set_cons_succ, zg, zh]
           rfl
          refine zl (i := 8) (N := some 62) (v := ?_) (a' := ?_) (bm 16 2047) rfl rfl (by kernel_rfl) (fun _ _ _ h => h) (Or.inl ⟨by rfl, ?_⟩) ?_ ?_
          rotate_left
          ·intro w'
           go_simp
           with_reducible rfl
          rotate_left
          ·simp only [Act.put, List.setIfInBounds_toArray, List.set_cons_zero, List.set_cons_succ, zg, zh]
           rfl
          refine yE (i := 11) (N := some 65) (bm 16 4095) rfl rfl (by kernel_rfl) (by decide) (fun K hK => ?_)
          refine xQ Try.func85 (by kernel_rfl) rfl #[.pointer (some ⟨g, 0, none⟩), .int .i64 nc] (by rfl) rfl rfl (by simp only [List.map_toArray, List.map_cons, List.map_nil]; rfl) ?_
          with_reducible refine (deeds_draws nc (Pg.rd (Pg.alloc HGp.out (.cells #[.int .i64 1, .int .i64 (wrap64 (1 + yk))] 3))) (by omega) (by omega)).mono ?_
          rintro e wd ⟨vd, ld, rfl, hob, hl, hr, hk⟩
          refine ⟨_, rfl, ?_⟩
          obtain ⟨sA, sn, sc, rfl⟩ := xH hob
          have HGq := zb.mk (Pg.pick (Pg.alloc HGp.out (.cells #[.int .i64 1, .int .i64 (wrap64 (1 + yk))] 3)) hr hk)
          have HDq := zb.mk (show Kd.R xu 113 wd w.heap.size (fun k => wx.heap.size ≤ k) (.slice sA sn sc) ld from Kd.zP (Kd.zT (Kd.yI hob) (fun k hk => Nat.le_trans (Nat.le_trans HNp.out (zL (zc (Below.refl _ _) _))) hk.2.1)) (Pg.K (Pg.alloc HGp.out (.cells #[.int .i64 1, .int .i64 (wrap64 (1 + yk))] 3))).1)
          refine hK.out _ _ ((Pg.c1 HGq.out)) (fun hHeld => ?_)
          clear hK K
          refine zp (a' := ?_) ?_ ?_
          rotate_left
          ·show Act.put _ (some 65) _ = _
           simp only [Act.put, List.setIfInBounds_toArray, List.set_cons_zero, List.set_cons_succ, zg, zh]
           rfl
          refine zl (i := 12) (N := some 66) (v := ?_) (a' := ?_) (bm 16 8191) rfl rfl (by kernel_rfl) (fun _ _ _ h => h) (Or.inl ⟨by rfl, ?_⟩) ?_ ?_
          rotate_left
          ·intro w'
           go_simp
           with_reducible rfl
          rotate_left
          ·simp only [Act.put, List.setIfInBounds_toArray, List.set_cons_zero, List.set_cons_succ, zg, zh]
           rfl
          exact zp (by simp only [zq, Act.put, List.setIfInBounds_toArray, List.set_cons_zero, List.set_cons_succ]) (hCont (wp.heap.size, sA, sn, sc) _ ⟨(Pg.c1 HGq.out), HGq, ⟨Rdr.R (Pg.rd (Pg.alloc HGp.out (.cells #[.int .i64 1, .int .i64 (wrap64 (1 + yk))] 3))) hk (row2 wp w.heap.size wx.heap.size (wrap64 (1 + yk)) HGp.out.K.1 HNp.out) (by decide)⟩, ld, HDq⟩)
         ·skip
          refine xQ Try.func85 (by kernel_rfl) rfl #[.pointer (some ⟨g, 0, none⟩), .int .i64 nc] (by rfl) rfl rfl (by simp only [List.map_toArray, List.map_cons, List.map_nil]; rfl) ?_
          with_reducible refine (deeds_draws nc (Pg.rd HGp.out) (by omega) (by omega)).mono ?_
          rintro e wd ⟨vd, ld, rfl, hob, hl, hr, hk⟩
          refine ⟨_, rfl, ?_⟩
          obtain ⟨sA, sn, sc, rfl⟩ := xH hob
          have HGq := zb.mk (Pg.pick HGp.out hr hk)
          have HDq := zb.mk (show Kd.R xu 113 wd w.heap.size (fun k => wx.heap.size ≤ k) (.slice sA sn sc) ld from Kd.zP (Kd.zT (Kd.yI hob) (fun k hk => Nat.le_trans (Nat.le_trans HNp.out (Nat.le_refl _)) hk.2.1)) (Pg.K HGp.out).1)
          refine hK.out _ _ ((Pg.c1 HGq.out)) (fun hHeld => ?_)
          clear hK K
          refine zp (a' := ?_) ?_ ?_
          rotate_left
          ·show Act.put _ (some 65) _ = _
           simp only [Act.put, List.setIfInBounds_toArray, List.set_cons_zero, List.set_cons_succ, zg, zh]
           rfl
          refine zl (i := 12) (N := some 66) (v := ?_) (a' := ?_) (bm 16 7807) rfl rfl (by kernel_rfl) (fun _ _ _ h => h) (Or.inl ⟨by rfl, ?_⟩) ?_ ?_
          rotate_left
          ·intro w'
           go_simp
           with_reducible rfl
          rotate_left
          ·simp only [Act.put, List.setIfInBounds_toArray, List.set_cons_zero, List.set_cons_succ, zg, zh]
           rfl
          refine yE (i := 7) (N := some 61) (bm 16 7935) rfl rfl (by kernel_rfl) (by decide) (fun K hK => ?_)
          refine zI (w1 := ?_) (v := ?_) (by rfl) rfl ?_ ?_
          rotate_left 2
          ·go_simp
           constructor
           ·rfl
           ·rfl
          refine hK.out _ _ ((Pg.c1 (Pg.alloc HGq.out _))) (fun hHeld => ?_)
          clear hK K
          refine zp (a' := ?_) ?_ ?_
          rotate_left
          ·show Act.put _ (some 61) _ = _
           simp only [Act.put, List.setIfInBounds_toArray, List.set_cons_zero, List.set_cons_succ, zg, zh]
           rfl
          refine zl (i := 8) (N := some 62) (v := ?_) (a' := ?_) (bm 16 8191) rfl rfl (by kernel_rfl) (fun _ _ _ h => h) (Or.inl ⟨by rfl, ?_⟩) ?_ ?_
          rotate_left
          ·intro w'
           go_simp
           with_reducible rfl
          rotate_left
          ·simp only [Act.put, List.setIfInBounds_toArray, List.set_cons_zero, List.set_cons_succ, zg, zh]
           rfl
          exact zp (by simp only [zq, Act.put, List.setIfInBounds_toArray, List.set_cons_zero, List.set_cons_succ]) (hCont (wd.heap.size, sA, sn, sc) _ ⟨(Pg.c1 (Pg.alloc HGq.out _)), ⟨Pg.alloc HGq.out _⟩, ⟨row2 wd w.heap.size wx.heap.size (wrap64 (1 + yk)) HGq.out.K.1 (Nat.le_trans HNp.out hk.1)⟩, ld, ⟨Kd.zT (R_on HDq.out (zc (Below.refl _ _) _)) (fun k hk => hk.1)⟩⟩)
        rintro ⟨sb, tA, tn, tc⟩ wj ⟨hHeld, HGj, HKj, ld, HDj⟩
        refine zp (a' := ?_) ?_ ?_
        rotate_left
        ·simp only [zq, Act.put, List.setIfInBounds_toArray, List.set_cons_zero, List.set_cons_succ]
         rfl
        refine yE (i := 13) (N := some 67) (bm 16 16383) rfl rfl (by kernel_rfl) (by decide) (fun K hK => ?_)
        refine zI (w1 := ?_) (v := ?_) (by rfl) rfl ?_ ?_
        rotate_left 2
        ·go_simp
         constructor
         ·rfl
         ·rfl
        have HGk := zb.mk (Pg.alloc HGj.out (.cells #[.int .i64 2, .slice none 0 0, .slice (some ⟨sb, 0, none⟩) 2 2, .int .i64 0, .int .i64 1, .slice tA tn tc, .slice none 0 0, .int .i64 0] 110))
        have HAR := zb.mk (act2_row HKj.out HDj.out HGB.out (Kd.R_lt HGj.out.r1 gB (by simp [Value.ownBlock])) HGj.out.K.1)
        obtain ⟨⟨uB, hcB⟩, hfB⟩ := Pg.hd HGk.out NB0.out
        refine hK.out _ _ ((Pg.c1 HGk.out)) (fun hHeld => ?_)
        clear hK K
        refine zp (a' := ?_) ?_ ?_
        rotate_left
        ·show Act.put _ (some 67) _ = _
         simp only [Act.put, List.setIfInBounds_toArray, List.set_cons_zero, List.set_cons_succ, zg, zh]
         rfl
        refine zl (i := 14) (N := some 68) (v := ?_) (a' := ?_) (bm 16 32767) rfl rfl (by kernel_rfl) (fun _ _ _ h => h) (Or.inl ⟨by rfl, ?_⟩) ?_ ?_
        rotate_left
        ·intro w'
         go_simp
         with_reducible rfl
        rotate_left
        ·simp only [Act.put, List.setIfInBounds_toArray, List.set_cons_zero, List.set_cons_succ, zg, zh]
         rfl
        refine yR (i := 15) (N := none) (bm 16 65535) rfl rfl (by kernel_rfl) (by decide) (fun K hK => ?_)
        refine yQ (w1 := ?_) (by rfl) rfl ?_ ?_
        rotate_left
        ·go_simp
         rfl
        refine hK.out _ _ ?_
        clear hK K
        refine yt (by kernel_rfl) ?_
        have HG2 := zb.mk (Pg.head HGk.out NB0.out HAR.out)
        clear HG hcB hfB HGk HAR HGj HKj HDj HGp HNp d0 d1
        have HG := HG2
        clear HG2
       all_goals
        obtain ⟨lx, HG2⟩ : ∃ lx, zb (Pg w0 w _ g D (m + 300 * (i : Int) + 290) v0 (.slice (some ⟨gB, 0, none⟩) nB cap) lc lx) := ⟨_, ⟨{ HG.out with rd := HG.out.rd.mono (by omega) }⟩⟩
        clear HG
        have HG := HG2
        clear HG2
        have x0 := HG.out.c0
        have x1 := HG.out.c1
        obtain ⟨A0, n0, c0, rfl⟩ := xH HG.out.r0
        obtain ⟨hn0, hc0, C0⟩ := Kd.zH HG.out.r0
        obtain ⟨hn1, hc1, C1⟩ := Kd.zH HG.out.r1
        obtain ⟨bo, hbo⟩ : ∃ b, okF lc lx = b := ⟨_, rfl⟩
        have HBO := zb.mk hbo
        have OKC := zb.mk (ok_calls A0 lc c0 (some ⟨gB, 0, none⟩) lx cap bo _ C0 C1 hbo)
        rw [← hn0, ← hn1] at OKC
        clear hn0 hn1 hc0 hc1 C0 C1 hbo
        go_upto_if 70 with (refine OKC.out.mono ?_; rintro e w2 ⟨rfl, hb⟩)
        have HG2 := zb.mk (HG.out.below hb)
        clear HG hb OKC x0 x1
        have HG := HG2
        clear HG2
        have x0 := HG.out.c0
        have x1 := HG.out.c1
        cases bo
        ·skip
         go_wp2
         go_roundw
         case rel => exact ⟨_, i + 1, rfl, by first | rw [en] | rfl | simp, ⟨by have := LI.out; omega⟩, ⟨HG.out.rd.mono (by simp; omega)⟩, ⟨HG.out.K⟩, ⟨HG.out.res⟩⟩
         case measure => (try rw [en]); have := LI.out; simp [intOf]; omega
        ·skip
         have r0 := (zd HG.out.res 0).trans rfl
         have r1 := (zd HG.out.res 1).trans rfl
         have f0 := zk HG.out.res 0
         have f1 := zk HG.out.res 1
         go_wp2
         refine bodyPost_ret (results_cell_row rfl _ _ w.heap.size 37 _ (0, 0) _ rfl (zu (zu HG.out.res 0 _) 1 _) hu rfl (by kernel_rfl)) rfl ?_
         rw [HP.out]
         have hz := HG.out.B
         exact ⟨_, _, lc, lx, rfl, R_box HG.out.r0 HG.out.res (by decide) _ _, R_box HG.out.r1 HG.out.res (by decide) _ _, HBO.out, LC0.out, ((HG.out.rd.set HG.out.dg.2 hz 0 _).set HG.out.dg.2 hz 1 _).mono (by omega), (HG.out.K.setCell (p := ⟨w.heap.size, 0, none⟩) (.inr (Nat.le_refl _)) _).setCell (p := ⟨w.heap.size, 1, none⟩) (.inr (Nat.le_refl _)) _⟩
  ·have hi1 := hi.out
   obtain ⟨X, hX⟩ : ∃ X, X = six V := ⟨_, rfl⟩
   have HB := zb.mk (show Below V.heap.size V X by rw [hX]; exact zc (zc (zc (zc (zc (zc (Below.refl _ _) _) _) _) _) _) _)
   have HVS := zb.mk (show w.heap.size ≤ V.heap.size from Nat.le_of_lt (zo HX2.out))
   have HX3 := zb.mk ((HB.out.block _ (zo HX2.out)).trans HX2.out)
   have r0 := (zd HX3.out 0).trans rfl
   have r1 := (zd HX3.out 1).trans rfl
   have f0 := zk HX3.out 0
   have f1 := zk HX3.out 1
   have HS0 := zb.mk (show Kd.R (Kd.int .i64) 3 X w.heap.size (fun _ => True) (.slice (some ⟨V.heap.size, 0, none⟩) 1 1) [1] by rw [hX]; exact six_r0 V _ HVS.out)
   have HS1 := zb.mk (show Kd.R kBs 106 X w.heap.size (fun _ => True) (.slice (some ⟨V.heap.size + 1 + 1 + 1 + 1 + 1, 0, none⟩) 2 2) [[⟨2, [], [1, 1], 0⟩], [⟨1, [⟨1, 0, 0⟩, ⟨4, 0, 0⟩, ⟨2, 0, 0⟩], [], 0⟩]] by rw [hX]; exact six_r1 V _ HVS.out)
   have HRX := zb.mk (HR2.out.below HB.out)
   have HKX := zb.mk (HK2.out.below HB.out)
   unfold six at hX
   rw [hX] at r0 r1 f0 f1
   go_wp2
   rw [← hX]
   refine bodyPost_ret (results_cell_row rfl _ _ w.heap.size 37 _ (0, 0) _ rfl (zu (zu HX3.out 0 _) 1 _) hu rfl (by kernel_rfl)) rfl ?_
   rw [HP.out]
   have hz := HZ.out
   have hg : w.heap.size ≠ g := fun e => by have := HG0.out; omega
   exact ⟨_, _, [1], _, rfl, R_box HS0.out HX3.out (by decide) _ _, R_box HS1.out HX3.out (by decide) _ _, by kernel_rfl, Nat.zero_lt_one, ((HRX.out.set hg hz 0 _).set hg hz 1 _).mono (by omega), (HKX.out.setCell (p := ⟨w.heap.size, 0, none⟩) (.inr (Nat.le_refl _)) _).setCell (p := ⟨w.heap.size, 1, none⟩) (.inr (Nat.le_refl _)) _⟩
end Go.Proofs.Ytppapibjbjmmbaa.QSY
set_option linter.unusedVariables false
set_option linter.unusedSimpArgs false
namespace Go.Proofs.Ytppapibjbjmmbaa.QSY
open Go.RowKit Go.Proofs.YtppapibjbjmmbaaW.PrintWords Go.Proofs.YtppapibjbjmmbaaW.PrintLast Go.Proofs.YtppapibjbjmmbaaW.PrintMore
theorem xv.cellput {w w1 : World} {B N : Nat} {vC vT vL v1 : Value} {C C' : List S33} {T : List TG} {L : List S50} (h : xv w B N vC vT vL C T L) (hr : Kd.R k33 33 w1 B (fun _ => True) v1 C') (hg : w.grownBy w1 vC.ownBlock) : xv w1 B N v1 vT vL C' T L := by
 have hbl := zK h.rC hg
 have hE : ∀ q, q ∈ 50 :: k50.E → q ≠ 33 := by decide
 exact ⟨hr, zR h.rT (fun k q cells _ _ hq hc' => hbl k q cells (by rw [List.mem_singleton.1 hq]; decide) hc'), fun t ht => (h.rows t ht).keep (fun k q cells _ _ hq hc' => hbl k q cells (by rcases hq with rfl | rfl <;> decide) hc'), h.ap, h.lt, zR h.rL (fun k q cells _ _ hq hc' => hbl k q cells (hE q hq) hc')⟩
def zSys : Array Value := #[.slice none 0 0, .slice none 0 0, .int .i64 0, .slice none 0 0]
structure Mk (w0 w : World) (D : Nat) (vC vT vL : Value) (C : List S33) (T : List TG) (P : Array Value) : Prop where
 hb : Below w0.heap.size w0 w
 gB : w0.heap.size + 2 ≤ D
 blk : w.heap[D]? = some (.cells #[vC, vT, .int .i64 0, vL] 27 (0, 0))
 V : xv w w0.heap.size w.heap.size vC vT vL C T []
 p : w.heap[w0.heap.size]? = some (.cells P 37 (0, 0))
 r : w.heap[w0.heap.size + 1]? = some (.cells zSys 27 (0, 0))
section
variable {w0 w w1 : World} {D : Nat} {vC vT vL v1 : Value} {C C' : List S33} {T : List TG} {P : Array Value}
theorem Mk.below (h : Mk w0 w D vC vT vL C T P) (hb : Below w.heap.size w w1) : Mk w0 w1 D vC vT vL C T P :=
 ⟨h.hb.trans (zM hb h.hb.size), h.gB, (hb.block _ (zo h.blk)).trans h.blk, (h.V.below hb).now, (hb.block _ (zo h.p)).trans h.p, (hb.block _ (zo h.r)).trans h.r⟩
theorem Mk.push (h : Mk w0 w D vC vT vL C T P) (hr : Kd.R k33 33 w1 w0.heap.size (fun _ => True) v1 C') (hg : w.grownBy w1 vC.ownBlock) (hb : Below w0.heap.size w w1) : Mk w0 (w1.setCell ⟨D, 0, none⟩ v1) D v1 vT vL C' T P := by
 have hbl := zK h.V.rC hg
 have hD := h.gB
 have hblk := (hbl D _ _ (by decide) h.blk).trans h.blk
 have V1 := (h.V.cellput hr hg).far hblk (by decide) 0 v1
 refine ⟨(h.hb.trans hb).setCell (p := ⟨D, 0, none⟩) (by show w0.heap.size ≤ D; omega) _, h.gB, zu hblk 0 v1, V1.now, ?_, ?_⟩
 ·exact (Below.heap_setCell w1 ⟨D, 0, none⟩ v1 w0.heap.size (by show w0.heap.size ≠ D; omega)).trans ((hbl _ _ _ (by decide) h.p).trans h.p)
 ·exact (Below.heap_setCell w1 ⟨D, 0, none⟩ v1 (w0.heap.size + 1) (by show w0.heap.size + 1 ≠ D; omega)).trans ((hbl _ _ _ (by decide) h.r).trans h.r)
theorem Mk.c0 (h : Mk w0 w D vC vT vL C T P) : w.cell? ⟨D, 0, none⟩ = some vC := (zd h.blk 0).trans rfl
theorem Mk.f0 (h : Mk w0 w D vC vT vL C T P) : w.frozen? ⟨D, 0, none⟩ = false := zk h.blk 0
end
def Newed (w : World) (Cs : List Int) (Bs : List (List zO)) (e : Ending) (w' : World) : Prop := ∃ AC cC AT cT AL cL, e = .returned (.tuple #[sysA AC cC AT cT AL cL (St.new Cs), .bool true]) ∧ Below w.heap.size w w' ∧ xO w' w.heap.size Bs Cs.length 1 AC cC AT cT AL cL (St.new Cs)
set_option maxHeartbeats 4000000 in
set_option maxRecDepth 100000 in
theorem new_calls (A0 : Option Addr) (c0 : Nat) (A1 : Option Addr) (c1 : Nat) (Cs : List Int) (Bs : List (List zO)) (w : World) (h0 : Kd.C (Kd.int .i64) w A0 Cs.length Cs) (h1 : Kd.C (Kd.slice 110 xK) w A1 Bs.length Bs) (ho : okF Cs Bs = true) :
  Calls Try.prog 106 #[.agg #[.slice A0 Cs.length c0, .slice A1 Bs.length c1]] w (Newed w Cs Bs) := by
 have hus := Try.underlying27
 have H0 := zb.mk h0
 have HO := zb.mk ho
 have HN := zb.mk (new_ok ho)
 obtain ⟨Post, hPost⟩ : ∃ P, P = Newed w Cs Bs := ⟨_, rfl⟩
 have HP := zb.mk hPost
 rw [← hPost]
 obtain ⟨nc, hnc⟩ : ∃ n, n = Cs.length := ⟨_, rfl⟩
 have HNC := zb.mk hnc
 rw [← hnc]
 obtain ⟨P, hPP⟩ : ∃ P : Array Value, P = #[.slice A0 nc c0, .slice A1 Bs.length c1] := ⟨_, rfl⟩
 have HPP := zb.mk hPP
 obtain ⟨W, hW⟩ : ∃ W, W = (w.alloc (.cells #[.slice A0 nc c0, .slice A1 Bs.length c1] 37)).alloc (.cells #[.slice none 0 0, .slice none 0 0, .int .i64 0, .slice none 0 0] 27) := ⟨_, rfl⟩
 have HB := zb.mk (show Below w.heap.size w W by rw [hW]; exact zc (zc (Below.refl _ _) _) _)
 have HWS := zb.mk (show W.heap.size = w.heap.size + 2 by rw [hW]; simp)
 have EP := zb.mk (show W.heap[w.heap.size]? = some (.cells #[.slice A0 nc c0, .slice A1 Bs.length c1] 37 (0, 0)) by rw [hW]; exact zm (heap_alloc_new _ _) _)
 have ER := zb.mk (show W.heap[w.heap.size + 1]? = some (.cells zSys 27 (0, 0)) by rw [hW]; exact yd (by simp))
 have KO := zb.mk (ok_calls A0 Cs c0 A1 Bs c1 true W (Kd.zt h0 HB.out) (Kd.zt h1 HB.out) ho)
 rw [← hnc] at KO
 clear h0 h1 ho hPost hnc hPP
 go_enter Try.func106, Try.ntmps106
 go_upto_region 1 with (fail)
 rw [← hW]
 clear hW
 have x0 := (zd EP.out 0).trans rfl
 have x1 := (zd EP.out 1).trans rfl
 go_upto_region 4 with (first | (go_at_call 58; refine KO.out.mono ?_; rintro e w1 ⟨rfl, hb⟩; have HB1 := zb.mk hb; clear hb) | (go_at_call 118; refine (wh.calls 0 (-1) _ _ _ _ _ _ _ _ _ _ _ _ _ _ rfl).mono ?_; rintro e wa ⟨v3, v8, v9, v10, rfl, r3, r8, r9, r10, hba⟩; obtain ⟨A3, c3, rfl⟩ := Kd.zJ r3; obtain ⟨A8, c8, rfl⟩ := Kd.zJ r8; obtain ⟨A9, c9, rfl⟩ := Kd.zJ r9; obtain ⟨A10, c10, rfl⟩ := Kd.zJ r10; have HBA := zb.mk hba; have HNR := zb.mk (new_row (B := w.heap.size) (k := -1) (b := 0) (w := w1.alloc (.cells #[] 33)) (by have h1 := HB.out.size; have h2 := HB1.out.size; simp; omega) r3 r8 r9 r10); clear r3 r8 r9 r10 hba))
 obtain ⟨t0, ht0⟩ : ∃ t : TG, t = ⟨yp (-1) 0, .slice A3 3 c3, .slice A8 3 c8, .slice A9 0 c9, .slice A10 0 c10⟩ := ⟨_, rfl⟩
 have HTS := zb.mk (show t0.s = yp (-1) 0 by rw [ht0])
 have HTC := zb.mk (show t0.cells = [.int .i64 0, .int .i64 0, .int .i64 (-1), .slice A3 3 c3, .int .i64 0, .int .i64 0, .int .i64 0, .int .i64 0, .slice A8 3 c8, .slice A9 0 c9, .slice A10 0 c10, .int .i64 0, .int .i64 0] by rw [ht0]; rfl)
 have HR := zb.mk (show TRow wa w.heap.size t0 ∧ t0.blocks.Nodup ∧ ∀ c ∈ t0.blocks, c < wa.heap.size from by rw [ht0]; exact ⟨HNR.out.1, HNR.out.2.1, fun c hc => (HNR.out.2.2 c hc).2⟩)
 obtain ⟨W2, hW2⟩ : ∃ x, x = ((wa.alloc (.cells #[.int .i64 0, .int .i64 0, .int .i64 (-1), .slice A3 3 c3, .int .i64 0, .int .i64 0, .int .i64 0, .int .i64 0, .slice A8 3 c8, .slice A9 0 c9, .slice A10 0 c10, .int .i64 0, .int .i64 0] 43)).alloc (.cells #[] 50)).alloc (.cells #[.slice (some ⟨w1.heap.size, 0, none⟩) 0 0, .slice (some ⟨wa.heap.size, 0, none⟩) 1 1, .int .i64 0, .slice (some ⟨wa.heap.size + 1, 0, none⟩) 0 0] 27) := ⟨_, rfl⟩
 have HM := zb.mk (show Mk w W2 (wa.heap.size + 1 + 1) (.slice (some ⟨w1.heap.size, 0, none⟩) 0 0) (.slice (some ⟨wa.heap.size, 0, none⟩) 1 1) (.slice (some ⟨wa.heap.size + 1, 0, none⟩) 0 0) [] [t0] P by
  have b1 : Below w.heap.size w w1 := zi HB.out HB1.out
  have s1 : w.heap.size + 2 ≤ w1.heap.size := by have h1 := HWS.out; have h2 := HB1.out.size; omega
  have s2 : w1.heap.size + 1 ≤ wa.heap.size := by have h := HBA.out.size; simpa using h
  have b2 : Below w.heap.size w wa := zi (zc b1 _) HBA.out
  have b3 : Below wa.heap.size wa W2 := by rw [hW2]; exact zc (zc (zc (Below.refl _ _) _) _) _
  have s3 : W2.heap.size = wa.heap.size + 3 := by rw [hW2]; simp
  have q0 : wa.heap[w1.heap.size]? = some (.cells #[] 33 (0, 0)) := (HBA.out.block _ (by simp)).trans (heap_alloc_new _ _)
  have q1 : W2.heap[wa.heap.size]? = some (.cells t0.cells.toArray 43 (0, 0)) := by rw [hW2, HTC.out]; exact zm (zm (heap_alloc_new _ _) _) _
  have q2 : W2.heap[wa.heap.size + 1]? = some (.cells #[] 50 (0, 0)) := by rw [hW2]; exact zm (yd (by simp)) _
  refine ⟨zi b2 b3, by omega, by rw [hW2]; exact yd (by simp), ⟨yz ((b3.block _ (zo q0)).trans q0) (by omega) trivial, R_of (d := kTG) (xs := [t0]) q1 (by omega) trivial (by show 1 ≤ maxLen; decide) (yh.front ⟨rfl, ?_⟩ rfl (yh.none _ _) (List.append_nil _)), fun t ht => by rw [List.mem_singleton.1 ht]; exact HR.out.1.keep (fun k q cells _ _ _ hc => b3.block k (zo hc)), by simpa using HR.out.2.1, fun b hb => ?_, yz q2 (by omega) ⟨fun hm => ?_, by omega⟩⟩, ?_, ?_⟩
  ·rw [HTC.out]
   intro u hu
   simp only [List.mem_cons, List.not_mem_nil, or_false] at hu
   rcases hu with rfl | rfl | rfl | rfl | rfl | rfl | rfl | rfl | rfl | rfl | rfl | rfl | rfl <;> rfl
  ·have := HR.out.2.2 b (by simpa using hb); omega
  ·have := HR.out.2.2 _ (by simpa using hm); omega
  ·have e := EP.out
   rw [HPP.out]
   have b4 : Below W.heap.size W W2 := zi (zi (zc HB1.out _) HBA.out) b3
   exact (b4.block _ (zo e)).trans e
  ·have e := ER.out
   have b4 : Below W.heap.size W W2 := zi (zi (zc HB1.out _) HBA.out) b3
   exact (b4.block _ (zo e)).trans e)
 rw [← hW2]
 obtain ⟨D, hD⟩ : ∃ D, D = wa.heap.size + 1 + 1 := ⟨_, rfl⟩
 obtain ⟨vC, hvC⟩ : ∃ v, v = Value.slice (some ⟨w1.heap.size, 0, none⟩) 0 0 := ⟨_, rfl⟩
 obtain ⟨vT, hvT⟩ : ∃ v, v = Value.slice (some ⟨wa.heap.size, 0, none⟩) 1 1 := ⟨_, rfl⟩
 obtain ⟨vL, hvL⟩ : ∃ v, v = Value.slice (some ⟨wa.heap.size + 1, 0, none⟩) 0 0 := ⟨_, rfl⟩
 rw [← hD, ← hvC, ← hvT, ← hvL] at HM
 rw [← hD]
 clear hD hvC hvT hvL hW2 ht0 HTC HR x0 x1
 go_wp2
 go_loopw [5] (fun v5 wr => ∃ (V : World) (i : Nat) (vC : Value), V = wr ∧ v5 = .int .i64 i ∧ zb (i ≤ nc) ∧ zb (Mk w V D vC vT vL ((Cs.take i).map newC) [t0] P)) (fun v5 _ => nc - (intOf v5).toNat)
 case atStart => exact ⟨W2, 0, vC, rfl, rfl, ⟨Nat.zero_le _⟩, HM⟩
 case round =>
  clear HM
  obtain ⟨V, i, vC, hV, rfl, hi, HM⟩ := hrel
  rw [← hV]
  clear hV
  have HPV := zb.mk (show V.heap[w.heap.size]? = some (.cells #[.slice A0 nc c0, .slice A1 Bs.length c1] 37 (0, 0)) by have h := HM.out.p; rw [HPP.out] at h; exact h)
  have p0 := (zd HPV.out 0).trans rfl
  by_cases hlt : (i : Int) < (nc : Int)
  ·have HLI := zb.mk (show i < nc by omega)
   have ei : wrap64 ((i : Int) + 1) = ((i + 1 : Nat) : Int) := by have h1 := HN.out; have h2 := HNC.out; unfold wrap64; omega
   obtain ⟨ad, rfl, xi⟩ := at_ints H0.out i (by have := HLI.out; have := HNC.out; omega)
   have XI0 := zb.mk xi
   have xi := za HM.out.hb xi
   have HTK := zb.mk (show (Cs.take (i + 1)).map newC = (Cs.take i).map newC ++ [newC (Cs.getD i 0)] by
    have h : i < Cs.length := by have := HLI.out; have := HNC.out; omega
    rw [List.take_succ_eq_append_getElem h, List.map_append, List.getD_eq_getElem?_getD, List.getElem?_eq_getElem h]; rfl)
   obtain ⟨x, hx⟩ : ∃ x, x = Cs.getD i 0 := ⟨_, rfl⟩
   rw [← hx] at xi XI0 HTK
   have y0 := HM.out.c0
   have y1 := HM.out.f0
   have i0 : (0 : Int) ≤ (i : Int) := by omega
   clear hx
   go_upto_region 7 with (fail)
   refine yc (n := 12) (S := fun w' => w'.cell? ⟨D, 0, none⟩ = some vC ∧ w'.cell? ⟨w.heap.size, 0, none⟩ = some (.slice (some ad) nc c0) ∧ w'.cell? (ad.add i) = some (.int .i64 x)) (ds := [11]) (bm 12 0) (by kernel_rfl) rfl rfl ⟨(za (ze (Below.refl _ _)) y0), (za (ze (Below.refl _ _)) p0), (za (ze (Below.refl _ _)) xi)⟩ (fun hHeld => ?_)
   refine zl (i := 0) (N := some 22) (v := ?_) (a' := ?_) (bm 12 1) rfl rfl (by kernel_rfl) (fun _ _ _ h => h) (Or.inl ⟨by rfl, ?_⟩) ?_ ?_
   rotate_left
   ·intro w'
    go_simp
    with_reducible rfl
   rotate_left
   ·simp only [Act.put, List.setIfInBounds_toArray, List.set_cons_zero, List.set_cons_succ, zg, zh]
    rfl
   refine zl (i := 2) (N := some 24) (v := ?_) (a' := ?_) (bm 12 5) rfl rfl (by kernel_rfl) (fun _ _ _ h => h) (Or.inl ⟨by rfl, ?_⟩) ?_ ?_
   rotate_left
   ·intro w'
    go_simp
    with_reducible rfl
   rotate_left
   ·simp only [Act.put, List.setIfInBounds_toArray, List.set_cons_zero, List.set_cons_succ, zg, zh]
    rfl
   refine zl (i := 4) (N := some 26) (v := ?_) (a' := ?_) (bm 12 21) rfl rfl (by kernel_rfl) (fun _ _ _ h => h) (Or.inl ⟨by rfl, ?_⟩) ?_ ?_
   rotate_left
   ·intro w'
    go_simp
    with_reducible rfl
   rotate_left
   ·simp only [Act.put, List.setIfInBounds_toArray, List.set_cons_zero, List.set_cons_succ, zg, zh]
    rfl
   refine zA (i := 1) (N := some 23) (v := ?_) (a' := ?_) (bm 12 23) rfl rfl (by kernel_rfl) (fun _ _ _ h => h) (Or.inl ⟨by rfl, ?_⟩) hHeld ?_ ?_
   rotate_left
   ·rintro w' ⟨s0, s1, s2⟩
    go_simp
    with_reducible rfl
   rotate_left
   ·simp only [Act.put, List.setIfInBounds_toArray, List.set_cons_zero, List.set_cons_succ, zg, zh]
    rfl
   refine zA (i := 3) (N := some 25) (v := ?_) (a' := ?_) (bm 12 31) rfl rfl (by kernel_rfl) (fun _ _ _ h => h) (Or.inl ⟨by rfl, ?_⟩) hHeld ?_ ?_
   rotate_left
   ·rintro w' ⟨s0, s1, s2⟩
    go_simp
    with_reducible rfl
   rotate_left
   ·simp only [Act.put, List.setIfInBounds_toArray, List.set_cons_zero, List.set_cons_succ, zg, zh]
    rfl
   refine zl (i := 5) (N := some 27) (v := ?_) (a' := ?_) (bm 12 63) rfl rfl (by kernel_rfl) (fun _ _ _ h => h) (Or.inl ⟨by rfl, ?_⟩) ?_ ?_
   rotate_left
   ·intro w'
    go_simp
    with_reducible rfl
   rotate_left
   ·simp only [Act.put, List.setIfInBounds_toArray, List.set_cons_zero, List.set_cons_succ, zg, zh]
    rfl
   refine zA (i := 6) (N := some 28) (v := ?_) (a' := ?_) (bm 12 127) rfl rfl (by kernel_rfl) (fun _ _ _ h => h) (Or.inl ⟨by rfl, ?_⟩) hHeld ?_ ?_
   rotate_left
   ·rintro w' ⟨s0, s1, s2⟩
    go_simp
    with_reducible rfl
   rotate_left
   ·simp only [Act.put, List.setIfInBounds_toArray, List.set_cons_zero, List.set_cons_succ, zg, zh]
    rfl
   refine zl (i := 7) (N := some 29) (v := ?_) (a' := ?_) (bm 12 255) rfl rfl (by kernel_rfl) (fun _ _ _ h => h) (Or.inl ⟨by rfl, ?_⟩) ?_ ?_
   rotate_left
   ·intro w'
    go_simp
    with_reducible rfl
   rotate_left
   ·simp only [Act.put, List.setIfInBounds_toArray, List.set_cons_zero, List.set_cons_succ, zg, zh]
    rfl
   refine yE (i := 8) (N := some 30) (bm 12 511) rfl rfl (by kernel_rfl) (by decide) (fun K hK => ?_)
   refine zI (w1 := ?_) (v := ?_) (by rfl) rfl ?_ ?_
   rotate_left 2
   ·go_simp
    constructor
    ·rfl
    ·rfl
   refine hK.out _ _ ⟨(za (zc (ze (Below.refl _ _)) _) y0), (za (zc (ze (Below.refl _ _)) _) p0), (za (zc (ze (Below.refl _ _)) _) xi)⟩ (fun hHeld => ?_)
   clear hK K
   refine zp (a' := ?_) ?_ ?_
   rotate_left
   ·show Act.put _ (some 30) _ = _
    simp only [Act.put, List.setIfInBounds_toArray, List.set_cons_zero, List.set_cons_succ, zg, zh]
    rfl
   refine yE (i := 9) (N := some 31) (bm 12 1023) rfl rfl (by kernel_rfl) (by decide) (fun K hK => ?_)
   refine Kd.xn k33 w.heap.size ?hw (.tmp 23) (.tmp 30) 23 33 _ _ ?ho Try.underlying23 info33 (by rfl) (by decide) (by decide) vC ((Cs.take i).map newC) (newC x) [.int .i64 x, .int .i64 0, .int .i64 (-1)] (fun _ => True) (fun _ => False) ?hs ?hx (k33_mkM _ _ _ (newC x)) (fun _ hk => hk.elim) (fun _ _ => trivial) (by exact (HM.out.below (ze (Below.refl _ _))).V.rC) (Below.refl _ _) (by exact (HM.out.below (ze (Below.refl _ _))).hb.size) (by have h1 := hi.out; have h2 := HN.out; have h3 := HNC.out; simp; omega) ?_
   case hw => rfl
   case ho => rfl
   case hs => rfl
   case hx => first | rfl | (go_simp; done) | (simp; done)
   intro va wq hra hba hga hata
   obtain ⟨Aa, na, ca, rfl⟩ := xH hra
   have HM2 := zb.mk (Mk.push (HM.out.below (ze (Below.refl _ _))) hra hga hba)
   have hbl := zK (HM.out.below (ze (Below.refl _ _))).V.rC hga
   have hbA := (hbl _ _ _ (by decide) (HM.out.below (ze (Below.refl _ _))).blk).trans (HM.out.below (ze (Below.refl _ _))).blk
   have hpA := (hbl _ _ _ (by decide) (HM.out.below (ze (Below.refl _ _))).p).trans (HM.out.below (ze (Below.refl _ _))).p
   rw [HPP.out] at hpA
   have hcA : wq.cell? ⟨D, 0, none⟩ = some vC := (zd hbA 0).trans rfl
   have hfA : wq.frozen? ⟨D, 0, none⟩ = false := zk hbA 0
   have hqA : wq.cell? ⟨w.heap.size, 0, none⟩ = some (.slice (some ad) nc c0) := (zd hpA 0).trans rfl
   have hxA := za ((HM.out.below (ze (Below.refl _ _))).hb.trans hba) XI0.out
   refine hK.out _ _ ⟨hcA, hqA, hxA⟩ (fun hHeld => ?_)
   clear hK K
   refine zp (a' := ?_) ?_ ?_
   rotate_left
   ·show Act.put _ (some 31) _ = _
    simp only [Act.put, List.setIfInBounds_toArray, List.set_cons_zero, List.set_cons_succ, zg, zh]
    rfl
   refine zl (i := 10) (N := some 32) (v := ?_) (a' := ?_) (bm 12 2047) rfl rfl (by kernel_rfl) (fun _ _ _ h => h) (Or.inl ⟨by rfl, ?_⟩) ?_ ?_
   rotate_left
   ·intro w'
    go_simp
    with_reducible rfl
   rotate_left
   ·simp only [Act.put, List.setIfInBounds_toArray, List.set_cons_zero, List.set_cons_succ, zg, zh]
    rfl
   refine yR (i := 11) (N := none) (bm 12 4095) rfl rfl (by kernel_rfl) (by decide) (fun K hK => ?_)
   refine yQ (w1 := ?_) (by rfl) rfl ?_ ?_
   rotate_left
   ·go_simp
    rfl
   refine hK.out _ _ ?_
   clear hK K
   refine yt (by kernel_rfl) ?_
   go_wp2
   go_roundw
   case rel => exact ⟨_, i + 1, _, rfl, by first | rw [ei] | rfl | simp, ⟨HLI.out⟩, ⟨by rw [HTK.out]; first | exact HM2.out | exact HM2.out.below (ze (Below.refl _ _))⟩⟩
   case measure => (try rw [ei]); have := HLI.out; simp [intOf]; omega
  ·have hil : i = nc := by have := hi.out; omega
   have e : Cs.take i = Cs := List.take_of_length_le (by have := HNC.out; omega)
   have HM2 := zb.mk (show Mk w V D vC vT vL (St.new Cs).C [t0] P by have h := HM.out; rw [e] at h; exact h)
   clear HM e hil
   obtain ⟨aC, nC, eC, rfl⟩ := xH HM2.out.V.rC
   obtain ⟨aT, nT, eT, rfl⟩ := xH HM2.out.V.rT
   obtain ⟨aL, nL, eL, rfl⟩ := xH HM2.out.V.rL
   have y0 := (zd HM2.out.blk 0).trans rfl
   have y1 := (zd HM2.out.blk 1).trans rfl
   have y2 := (zd HM2.out.blk 2).trans rfl
   have y3 := (zd HM2.out.blk 3).trans rfl
   have KZ := zb.mk (show V.heap[w.heap.size + 1]? = some (.cells #[.slice none 0 0, .slice none 0 0, .int .i64 0, .slice none 0 0] 27 (0, 0)) from HM2.out.r)
   have r0 := (zd KZ.out 0).trans rfl
   have r1 := (zd KZ.out 1).trans rfl
   have r2 := (zd KZ.out 2).trans rfl
   have r3 := (zd KZ.out 3).trans rfl
   have rf0 := zk KZ.out 0
   have rf1 := zk KZ.out 1
   have rf2 := zk KZ.out 2
   have rf3 := zk KZ.out 3
   go_wp2
   have k0 := KZ.out
   have k1 := zu k0 0 (.slice aC nC eC)
   have k2 := zu k1 1 (.slice aT nT eT)
   have k3 := zu k2 2 (.int .i64 0)
   have k4 := zu k3 3 (.slice aL nL eL)
   refine bodyPost_ret (yy rfl _ _ (w.heap.size + 1) 27 #[.slice aC nC eC, .slice aT nT eT, .int .i64 0, .slice aL nL eL] (0, 0) _ rfl k4 hus rfl (by kernel_rfl)) rfl ?_
   rw [HP.out]
   have hV := (((HM2.out.V.far k0 (by decide) 0 (.slice aC nC eC)).far k1 (by decide) 1 (.slice aT nT eT)).far k2 (by decide) 2 (.int .i64 0)).far k3 (by decide) 3 (.slice aL nL eL)
   have hg : w.heap.size ≤ w.heap.size + 1 := by omega
   have hB := (((HM2.out.hb.setCell (p := ⟨w.heap.size + 1, 0, none⟩) hg (.slice aC nC eC)).setCell (p := ⟨w.heap.size + 1, 1, none⟩) hg (.slice aT nT eT)).setCell (p := ⟨w.heap.size + 1, 2, none⟩) hg (.int .i64 0)).setCell (p := ⟨w.heap.size + 1, 3, none⟩) hg (.slice aL nL eL)
   have e1 : nC = (St.new Cs).C.length := (Kd.zH HM2.out.V.rC).1
   have e2 : nT = 1 := (Kd.zH HM2.out.V.rT).1
   have e3 : nL = 0 := (Kd.zH HM2.out.V.rL).1
   subst e1 e2 e3
   exact ⟨aC, eC, aT, eT, aL, eL, rfl, hB, ⟨_, [t0], hV, by show [t0.s] = [yp (-1) 0]; rw [HTS.out]⟩, new_inv HO.out, Nat.le_refl _⟩
end Go.Proofs.Ytppapibjbjmmbaa.QSY
set_option linter.unusedVariables false
set_option linter.unusedSimpArgs false
namespace Go.Proofs.Ytppapibjbjmmbaa.QSY
open Go.RowKit Go.Proofs.YtppapibjbjmmbaaW.PrintWords Go.Proofs.YtppapibjbjmmbaaW.PrintLast Go.Proofs.YtppapibjbjmmbaaW.PrintMore
section
variable {w w1 : World} {B nC n : Nat} {Bs : List (List zO)} {AC AT AL : Option Addr} {cC cT cL : Nat} {σ : St}
theorem xO.sees (h : xO w B Bs nC n AC cC AT cT AL cL σ) : Sees w AC cC AT cT AL cL σ := by
 obtain ⟨⟨N, T, hV, e⟩, _, _⟩ := h
 exact hV.sees e
theorem xO.inv (h : xO w B Bs nC n AC cC AT cT AL cL σ) : Inv Bs nC σ := h.2.1
theorem xO.len (h : xO w B Bs nC n AC cC AT cT AL cL σ) : σ.T.length ≤ n := h.2.2
theorem xO.below (h : xO w B Bs nC n AC cC AT cT AL cL σ) (hb : Below w.heap.size w w1) : xO w1 B Bs nC n AC cC AT cT AL cL σ := by
 obtain ⟨⟨N, T, hV, e⟩, h1, h2⟩ := h
 exact ⟨⟨N, T, hV.below hb, e⟩, h1, h2⟩
theorem xO.mono {B' n' : Nat} (h : xO w B Bs nC n AC cC AT cT AL cL σ) (hB : B' ≤ B) (hn : n ≤ n') : xO w B' Bs nC n' AC cC AT cT AL cL σ := by
 obtain ⟨⟨N, T, hV, e⟩, h1, h2⟩ := h
 exact ⟨⟨N, T, hV.lower hB, e⟩, h1, Nat.le_trans h2 hn⟩
theorem Done.owns {e : Ending} (h : Done w Bs nC AC cC AT cT AL cL σ e w1) (ho : xO w B Bs nC n AC cC AT cT AL cL σ) (hB : B ≤ w.heap.size) :
  ∃ BC dC BT dT BL dL σ' b, e = .returned (.tuple #[sysA BC dC BT dT BL dL σ', .bool b]) ∧ Below w.heap.size w w1 ∧ xO w1 B Bs nC (n + 2) BC dC BT dT BL dL σ' ∧ (b = false → xO w1 B Bs nC n BC dC BT dT BL dL σ') := by
 obtain ⟨hb, he⟩ := h
 rcases he with rfl | ⟨BC, dC, BT, dT, BL, dL, σ', rfl, ho'⟩
 ·exact ⟨AC, cC, AT, cT, AL, cL, σ, false, rfl, hb, (ho.below hb).mono (Nat.le_refl _) (by omega), fun _ => ho.below hb⟩
 ·exact ⟨BC, dC, BT, dT, BL, dL, σ', true, rfl, hb, ho'.mono hB (by have := ho.2.2; omega), fun h => absurd h (by simp)⟩
end
def sysB (AC : Option Addr) (cC : Nat) (AT : Option Addr) (cT : Nat) (AL : Option Addr) (cL : Nat) (σ : St) : Array Value := #[.slice AC σ.C.length cC, .slice AT σ.T.length cT, .int .i64 σ.clk, .slice AL σ.L.length cL]
structure Rn (w0 w : World) (P : Array Value) (Bs : List (List zO)) (nC n : Nat) (AC : Option Addr) (cC : Nat) (AT : Option Addr) (cT : Nat) (AL : Option Addr) (cL : Nat) (σ : St) : Prop where
 hb : Below w0.heap.size w0 w
 p : w.heap[w0.heap.size]? = some (.cells P 37 (0, 0))
 s : w.heap[w0.heap.size + 1]? = some (.cells (sysB AC cC AT cT AL cL σ) 27 (0, 0))
 r : w.heap[w0.heap.size + 2]? = some (.cells zSys 27 (0, 0))
 o : xO w w0.heap.size Bs nC n AC cC AT cT AL cL σ
def set4 (w : World) (b : Nat) (v0 v1 v2 v3 : Value) : World := (((w.setCell ⟨b, 0, none⟩ v0).setCell ⟨b, 1, none⟩ v1).setCell ⟨b, 2, none⟩ v2).setCell ⟨b, 3, none⟩ v3
theorem set4_blk {w : World} {b : Nat} {u0 u1 u2 u3 v0 v1 v2 v3 : Value} (h : w.heap[b]? = some (.cells #[u0, u1, u2, u3] 27 (0, 0))) : (set4 w b v0 v1 v2 v3).heap[b]? = some (.cells #[v0, v1, v2, v3] 27 (0, 0)) :=
 zu (zu (zu (zu h 0 v0) 1 v1) 2 v2) 3 v3
theorem set4_far {w : World} {b k : Nat} {v0 v1 v2 v3 : Value} (h : k ≠ b) : (set4 w b v0 v1 v2 v3).heap[k]? = w.heap[k]? :=
 (((Below.heap_setCell _ ⟨b, 3, none⟩ v3 k h).trans (Below.heap_setCell _ ⟨b, 2, none⟩ v2 k h)).trans (Below.heap_setCell _ ⟨b, 1, none⟩ v1 k h)).trans (Below.heap_setCell _ ⟨b, 0, none⟩ v0 k h)
theorem set4_below {w0 w : World} {b n : Nat} {v0 v1 v2 v3 : Value} (h : Below n w0 w) (hb : n ≤ b) : Below n w0 (set4 w b v0 v1 v2 v3) :=
 (((h.setCell (p := ⟨b, 0, none⟩) hb v0).setCell (p := ⟨b, 1, none⟩) hb v1).setCell (p := ⟨b, 2, none⟩) hb v2).setCell (p := ⟨b, 3, none⟩) hb v3
theorem xO.set4 {w : World} {B nC n : Nat} {Bs : List (List zO)} {AC AT AL : Option Addr} {cC cT cL : Nat} {σ : St} (h : xO w B Bs nC n AC cC AT cT AL cL σ) {b : Nat} {u0 u1 u2 u3 : Value} (hb : w.heap[b]? = some (.cells #[u0, u1, u2, u3] 27 (0, 0))) (v0 v1 v2 v3 : Value) : xO (set4 w b v0 v1 v2 v3) B Bs nC n AC cC AT cT AL cL σ := by
 obtain ⟨⟨N, T, hV, e⟩, h1, h2⟩ := h
 exact ⟨⟨N, T, (((hV.far hb (by decide) 0 v0).far (zu hb 0 v0) (by decide) 1 v1).far (zu (zu hb 0 v0) 1 v1) (by decide) 2 v2).far (zu (zu (zu hb 0 v0) 1 v1) 2 v2) (by decide) 3 v3, e⟩, h1, h2⟩
section
variable {w0 w w1 : World} {P : Array Value} {Bs : List (List zO)} {nC n m : Nat} {AC AT AL BC BT BL : Option Addr} {cC cT cL dC dT dL : Nat} {σ σ' : St}
theorem Rn.below (h : Rn w0 w P Bs nC n AC cC AT cT AL cL σ) (hb : Below w.heap.size w w1) : Rn w0 w1 P Bs nC n AC cC AT cT AL cL σ :=
 ⟨h.hb.trans (zM hb h.hb.size), (hb.block _ (zo h.p)).trans h.p, (hb.block _ (zo h.s)).trans h.s, (hb.block _ (zo h.r)).trans h.r, h.o.below hb⟩
theorem Rn.mono (h : Rn w0 w P Bs nC n AC cC AT cT AL cL σ) (hn : n ≤ m) : Rn w0 w P Bs nC m AC cC AT cT AL cL σ := ⟨h.hb, h.p, h.s, h.r, h.o.mono (Nat.le_refl _) hn⟩
theorem Rn.put {u0 u1 u2 u3 : Value} (hb : Below w0.heap.size w0 w) (hp : w.heap[w0.heap.size]? = some (.cells P 37 (0, 0))) (hs : w.heap[w0.heap.size + 1]? = some (.cells #[u0, u1, u2, u3] 27 (0, 0))) (hr : w.heap[w0.heap.size + 2]? = some (.cells zSys 27 (0, 0))) (ho : xO w w0.heap.size Bs nC n AC cC AT cT AL cL σ) :
  Rn w0 (set4 w (w0.heap.size + 1) (.slice AC σ.C.length cC) (.slice AT σ.T.length cT) (.int .i64 σ.clk) (.slice AL σ.L.length cL)) P Bs nC n AC cC AT cT AL cL σ :=
 ⟨set4_below hb (by omega), (set4_far (by omega)).trans hp, set4_blk hs, (set4_far (by omega)).trans hr, ho.set4 hs _ _ _ _⟩
theorem Rn.cells (h : Rn w0 w P Bs nC n AC cC AT cT AL cL σ) : w.cell? ⟨w0.heap.size + 1, 0, none⟩ = some (.slice AC σ.C.length cC) ∧ w.cell? ⟨w0.heap.size + 1, 1, none⟩ = some (.slice AT σ.T.length cT) ∧ w.cell? ⟨w0.heap.size + 1, 2, none⟩ = some (.int .i64 σ.clk) ∧ w.cell? ⟨w0.heap.size + 1, 3, none⟩ = some (.slice AL σ.L.length cL) :=
 ⟨(zd h.s 0).trans rfl, (zd h.s 1).trans rfl, (zd h.s 2).trans rfl, (zd h.s 3).trans rfl⟩
end
def Ran (w : World) (Cs : List Int) (Bs : List (List zO)) (m : Nat) (σ : St) (e : Ending) (w' : World) : Prop := Below w.heap.size w w' ∧
 ((sysF Cs Bs σ.C σ.T σ.clk σ.L = false ∧ e = .returned (.tuple #[.agg zSys, .bool false])) ∨ (sysF Cs Bs σ.C σ.T σ.clk σ.L = true ∧ ∃ BC dC BT dT BL dL σ', e = .returned (.tuple #[sysA BC dC BT dT BL dL σ', .bool true]) ∧ xO w' w.heap.size Bs Cs.length m BC dC BT dT BL dL σ'))
theorem sysF_ok {Cs : List Int} {Bs : List (List zO)} {C : List S33} {T : List S43} {clk : Int} {L : List S50} (h : sysF Cs Bs C T clk L = true) : okF Cs Bs = true ∧ C.length = Cs.length ∧ 1 ≤ T.length ∧ T.length ≤ 7 := by
 unfold sysF at h
 simp only [Bool.and_eq_true] at h
 obtain ⟨h0, h1, h2, _⟩ := h
 have := xo.1 h2
 exact ⟨h0, by simpa using h1, by omega, by omega⟩
set_option maxHeartbeats 4000000 in
set_option maxRecDepth 100000 in
theorem run_calls {w : World} {Cs : List Int} {Bs : List (List zO)} {σ : St} (A0 : Option Addr) (c0 : Nat) (A1 : Option Addr) (c1 : Nat) (AC : Option Addr) (cC : Nat) (AT : Option Addr) (cT : Nat) (AL : Option Addr) (cL : Nat) (AX : Option Addr) (cX : Nat) (tu : List Int)
  (h0 : Kd.C (Kd.int .i64) w A0 Cs.length Cs) (h1 : Kd.C (Kd.slice 110 xK) w A1 Bs.length Bs) (h : Sees w AC cC AT cT AL cL σ) (hp : ∀ t ∈ σ.T, t.f9.length ≤ 1000 ∧ t.f10.length ≤ 1000) (hI : sysF Cs Bs σ.C σ.T σ.clk σ.L = true → Inv Bs Cs.length σ) (hx : Kd.C (Kd.int .i64) w AX tu.length tu) (hl : tu.length ≤ 300) :
  Calls Try.prog 57 #[.agg #[.slice A0 Cs.length c0, .slice A1 Bs.length c1], sysA AC cC AT cT AL cL σ, .slice AX tu.length cX] w (Ran w Cs Bs 700 σ) := by
 have hus := Try.underlying27
 have hup := Try.underlying37
 have HS := zb.mk h
 have H1 := zb.mk h1
 have HX := zb.mk hx
 have HL := zb.mk hl
 have HI := zb.mk hI
 obtain ⟨Post, hPost⟩ : ∃ P, P = Ran w Cs Bs 700 σ := ⟨_, rfl⟩
 have HP := zb.mk hPost
 rw [← hPost]
 obtain ⟨bo, hbo⟩ : ∃ b, sysF Cs Bs σ.C σ.T σ.clk σ.L = b := ⟨_, rfl⟩
 have HBO := zb.mk hbo
 obtain ⟨nc, hnc⟩ : ∃ n, n = Cs.length := ⟨_, rfl⟩
 have HNC := zb.mk hnc
 obtain ⟨nx, hnx⟩ : ∃ n, n = tu.length := ⟨_, rfl⟩
 have HNX := zb.mk hnx
 unfold sysA
 obtain ⟨W, hW⟩ : ∃ W, W = ((w.alloc (.cells #[.slice A0 nc c0, .slice A1 Bs.length c1] 37)).alloc (.cells #[.slice AC σ.C.length cC, .slice AT σ.T.length cT, .int .i64 σ.clk, .slice AL σ.L.length cL] 27)).alloc (.cells #[.slice none 0 0, .slice none 0 0, .int .i64 0, .slice none 0 0] 27) := ⟨_, rfl⟩
 have HB := zb.mk (show Below w.heap.size w W by rw [hW]; exact zc (zc (zc (Below.refl _ _) _) _) _)
 have HWS := zb.mk (show W.heap.size = w.heap.size + 3 by rw [hW]; simp)
 have EP := zb.mk (show W.heap[w.heap.size]? = some (.cells #[.slice A0 nc c0, .slice A1 Bs.length c1] 37 (0, 0)) by rw [hW]; exact zm (zm (heap_alloc_new _ _) _) _)
 have ES := zb.mk (show W.heap[w.heap.size + 1]? = some (.cells #[.slice AC σ.C.length cC, .slice AT σ.T.length cT, .int .i64 σ.clk, .slice AL σ.L.length cL] 27 (0, 0)) by rw [hW]; exact zm (yd (by simp)) _)
 have ER := zb.mk (show W.heap[w.heap.size + 1 + 1]? = some (.cells #[.slice none 0 0, .slice none 0 0, .int .i64 0, .slice none 0 0] 27 (0, 0)) by rw [hW]; exact yd (by simp))
 have KO := zb.mk (sys_calls A0 Cs c0 A1 Bs c1 AC σ.C cC AT σ.T cT σ.clk AL σ.L cL bo W (Kd.zt h0 HB.out) (Kd.zt h1 HB.out) (Kd.zt h.C HB.out) (Kd.zt h.T HB.out) h.hT (Kd.zt h.L HB.out) hp hbo)
 rw [← hnc] at KO ⊢
 rw [← hnx]
 clear h0 h1 h hp hI hx hl hPost hbo hnc hnx
 go_enter Try.func57, Try.ntmps57
 go_upto_region 1 with (fail)
 rw [← hW]
 clear hW
 have p0 := (zd EP.out 0).trans rfl
 have p1 := (zd EP.out 1).trans rfl
 have s0 := (zd ES.out 0).trans rfl
 have s1 := (zd ES.out 1).trans rfl
 have s2 := (zd ES.out 2).trans rfl
 have s3 := (zd ES.out 3).trans rfl
 have HNX3 : nx ≤ 300 := by have := HL.out; have := HNX.out; omega
 cases bo
 ·go_wp2_with (go_at_call 22; refine KO.out.mono ?_; rintro e w1 ⟨rfl, hb⟩; have HB1 := zb.mk hb; clear hb; have r0 := (zd ((HB1.out.block _ (zo ER.out)).trans ER.out) 0).trans rfl; have rf0 := zk ((HB1.out.block _ (zo ER.out)).trans ER.out) 0; have r1 := (zd ((HB1.out.block _ (zo ER.out)).trans ER.out) 1).trans rfl; have rf1 := zk ((HB1.out.block _ (zo ER.out)).trans ER.out) 1; have r2 := (zd ((HB1.out.block _ (zo ER.out)).trans ER.out) 2).trans rfl; have rf2 := zk ((HB1.out.block _ (zo ER.out)).trans ER.out) 2; have r3 := (zd ((HB1.out.block _ (zo ER.out)).trans ER.out) 3).trans rfl; have rf3 := zk ((HB1.out.block _ (zo ER.out)).trans ER.out) 3)
  have k4 := set4_blk (v0 := .slice none 0 0) (v1 := .slice none 0 0) (v2 := .int .i64 0) (v3 := .slice none 0 0) ((HB1.out.block _ (zo ER.out)).trans ER.out)
  refine bodyPost_ret (yy rfl _ _ (w.heap.size + 1 + 1) 27 #[.slice none 0 0, .slice none 0 0, .int .i64 0, .slice none 0 0] (0, 0) _ rfl k4 hus rfl (by kernel_rfl)) rfl ?_
  rw [HP.out]
  exact ⟨set4_below (zi HB.out HB1.out) (by omega), .inl ⟨HBO.out, rfl⟩⟩
 ·have HSF := zb.mk (sysF_ok HBO.out)
  have HII := zb.mk (HI.out HBO.out)
  have HN3 := zb.mk (new_ok HSF.out.1)
  obtain ⟨P, hPP⟩ : ∃ P : Array Value, P = #[.slice A0 nc c0, .slice A1 Bs.length c1] := ⟨_, rfl⟩
  have HPP := zb.mk hPP
  clear hPP
  go_upto_region 4 with (first
   | (go_at_call 22; refine KO.out.mono ?_; rintro e w1 ⟨rfl, hb⟩; have HB1 := zb.mk hb; clear hb s0 s1 s2 s3; have s0 := (zd ((HB1.out.block _ (zo ES.out)).trans ES.out) 0).trans rfl; have s1 := (zd ((HB1.out.block _ (zo ES.out)).trans ES.out) 1).trans rfl; have s2 := (zd ((HB1.out.block _ (zo ES.out)).trans ES.out) 2).trans rfl; have s3 := (zd ((HB1.out.block _ (zo ES.out)).trans ES.out) 3).trans rfl)
   | (go_at_call 86; refine (copy_calls AC cC AT cT AL cL (HS.out.below (zi HB.out HB1.out)) (HII.out.small (by have := HN3.out; omega))).mono ?_; rintro e w2 ⟨BC, dC, BT, dT, BL, dL, N, T, rfl, hb, hV, hE⟩; have HB2 := zb.mk (zi HB1.out hb); have HB12 := zb.mk hb; have HV := zb.mk hV; have HE := zb.mk hE; clear hb hV hE s0 s1 s2 s3; have s0 := (zd ((HB2.out.block _ (zo ES.out)).trans ES.out) 0).trans rfl; have s1 := (zd ((HB2.out.block _ (zo ES.out)).trans ES.out) 1).trans rfl; have s2 := (zd ((HB2.out.block _ (zo ES.out)).trans ES.out) 2).trans rfl; have s3 := (zd ((HB2.out.block _ (zo ES.out)).trans ES.out) 3).trans rfl; have sf0 := zk ((HB2.out.block _ (zo ES.out)).trans ES.out) 0; have sf1 := zk ((HB2.out.block _ (zo ES.out)).trans ES.out) 1; have sf2 := zk ((HB2.out.block _ (zo ES.out)).trans ES.out) 2; have sf3 := zk ((HB2.out.block _ (zo ES.out)).trans ES.out) 3))
  obtain ⟨W3, hW3⟩ : ∃ x, x = set4 w2 (w.heap.size + 1) (.slice BC σ.C.length dC) (.slice BT σ.T.length dT) (.int .i64 σ.clk) (.slice BL σ.L.length dL) := ⟨_, rfl⟩
  have HR := zb.mk (show Rn w W3 P Bs Cs.length 7 BC dC BT dT BL dL σ by
   rw [hW3]
   refine Rn.put (zi HB.out HB2.out) ?_ ((HB2.out.block _ (zo ES.out)).trans ES.out) ((HB2.out.block _ (zo ER.out)).trans ER.out) ⟨⟨N, T, HV.out.lower (by have h1 := HB.out.size; have h2 := HB1.out.size; omega), HE.out⟩, HII.out, HSF.out.2.2.2⟩
   rw [HPP.out]
   exact (HB2.out.block _ (zo EP.out)).trans EP.out)
  unfold set4 at hW3
  rw [← hW3]
  clear hW3 s0 s1 s2 s3 sf0 sf1 sf2 sf3 p0 p1 HS HI HII KO
  go_wp2
  go_loopw [8] (fun v8 wr => ∃ (V : World) (i : Nat) (AC : Option Addr) (cC : Nat) (AT : Option Addr) (cT : Nat) (AL : Option Addr) (cL : Nat) (σ' : St), V = wr ∧ v8 = .int .i64 i ∧ zb (i ≤ nx) ∧ zb (Rn w V P Bs Cs.length (7 + 2 * i) AC cC AT cT AL cL σ')) (fun v8 _ => nx - (intOf v8).toNat)
  case atStart => exact ⟨W3, 0, _, _, _, _, _, _, σ, rfl, rfl, ⟨Nat.zero_le _⟩, HR⟩
  case round =>
   clear HR
   obtain ⟨V, i, AC, cC, AT, cT, AL, cL, σ', hV, rfl, hi, HR⟩ := hrel
   rw [← hV]
   clear hV
   have HPV := zb.mk (show V.heap[w.heap.size]? = some (.cells #[.slice A0 nc c0, .slice A1 Bs.length c1] 37 (0, 0)) by have h := HR.out.p; rw [HPP.out] at h; exact h)
   have p0 := (zd HPV.out 0).trans rfl
   have p1 := (zd HPV.out 1).trans rfl
   obtain ⟨s0, s1, s2, s3⟩ := HR.out.cells
   by_cases hlt : (i : Int) < (nx : Int)
   ·have HLI := zb.mk (show i < nx by omega)
    have ei : wrap64 ((i : Int) + 1) = ((i + 1 : Nat) : Int) := yx (n := nx) (by omega) (by omega)
    obtain ⟨ad, rfl, xi⟩ := at_ints HX.out i (by have := HLI.out; have := HNX.out; omega)
    have xi := za HR.out.hb xi
    obtain ⟨x, hx⟩ : ∃ x, x = tu.getD i 0 := ⟨_, rfl⟩
    rw [← hx] at xi
    clear hx
    go_upto_region 7 with (fail)
    refine yc (n := 11) (S := fun w' => w'.cell? ⟨w.heap.size, 0, none⟩ = some (.slice A0 nc c0) ∧ w'.cell? ⟨w.heap.size, 1, none⟩ = some (.slice A1 Bs.length c1) ∧ w'.cell? ⟨w.heap.size + 1, 0, none⟩ = some (.slice AC σ'.C.length cC) ∧ w'.cell? ⟨w.heap.size + 1, 1, none⟩ = some (.slice AT σ'.T.length cT) ∧ w'.cell? ⟨w.heap.size + 1, 2, none⟩ = some (.int .i64 σ'.clk) ∧ w'.cell? ⟨w.heap.size + 1, 3, none⟩ = some (.slice AL σ'.L.length cL) ∧ w'.cell? (ad.add i) = some (.int .i64 x)) (ds := [10]) (bm 11 0) (by kernel_rfl) rfl rfl ⟨(za (ze (Below.refl _ _)) p0), (za (ze (Below.refl _ _)) p1), (za (ze (Below.refl _ _)) s0), (za (ze (Below.refl _ _)) s1), (za (ze (Below.refl _ _)) s2), (za (ze (Below.refl _ _)) s3), (za (ze (Below.refl _ _)) xi)⟩ (fun hHeld => ?_)
    refine zl (i := 2) (N := some 30) (v := ?_) (a' := ?_) (bm 11 4) rfl rfl (by kernel_rfl) (fun _ _ _ h => h) (Or.inl ⟨by rfl, ?_⟩) ?_ ?_
    rotate_left
    ·intro w'
     go_simp
     with_reducible rfl
    rotate_left
    ·simp only [Act.put, List.setIfInBounds_toArray, List.set_cons_zero, List.set_cons_succ, zg, zh]
     rfl
    refine zl (i := 3) (N := some 31) (v := ?_) (a' := ?_) (bm 11 12) rfl rfl (by kernel_rfl) (fun _ _ _ h => h) (Or.inl ⟨by rfl, ?_⟩) ?_ ?_
    rotate_left
    ·intro w'
     go_simp
     with_reducible rfl
    rotate_left
    ·simp only [Act.put, List.setIfInBounds_toArray, List.set_cons_zero, List.set_cons_succ, zg, zh]
     rfl
    refine zl (i := 4) (N := some 32) (v := ?_) (a' := ?_) (bm 11 28) rfl rfl (by kernel_rfl) (fun _ _ _ h => h) (Or.inl ⟨by rfl, ?_⟩) ?_ ?_
    rotate_left
    ·intro w'
     go_simp
     with_reducible rfl
    rotate_left
    ·simp only [Act.put, List.setIfInBounds_toArray, List.set_cons_zero, List.set_cons_succ, zg, zh]
     rfl
    refine zA (i := 0) (N := some 28) (v := ?_) (a' := ?_) (bm 11 29) rfl rfl (by kernel_rfl) (fun _ _ _ h => h) (Or.inl ⟨by rfl, ?_⟩) hHeld ?_ ?_
    rotate_left
    ·rintro w' ⟨s0, s1, s2, s3, s4, s5, s6⟩
     go_simp
     with_reducible rfl
    rotate_left
    ·simp only [Act.put, List.setIfInBounds_toArray, List.set_cons_zero, List.set_cons_succ, zg, zh]
     rfl
    refine zA (i := 1) (N := some 29) (v := ?_) (a' := ?_) (bm 11 31) rfl rfl (by kernel_rfl) (fun _ _ _ h => h) (Or.inl ⟨by rfl, ?_⟩) hHeld ?_ ?_
    rotate_left
    ·rintro w' ⟨s0, s1, s2, s3, s4, s5, s6⟩
     go_simp
     with_reducible rfl
    rotate_left
    ·simp only [Act.put, List.setIfInBounds_toArray, List.set_cons_zero, List.set_cons_succ, zg, zh]
     rfl
    refine zA (i := 5) (N := some 33) (v := ?_) (a' := ?_) (bm 11 63) rfl rfl (by kernel_rfl) (fun _ _ _ h => h) (Or.inl ⟨by rfl, ?_⟩) hHeld ?_ ?_
    rotate_left
    ·rintro w' ⟨s0, s1, s2, s3, s4, s5, s6⟩
     go_simp
     with_reducible rfl
    rotate_left
    ·simp only [Act.put, List.setIfInBounds_toArray, List.set_cons_zero, List.set_cons_succ, zg, zh]
     rfl
    refine yE (i := 6) (N := some 34) (bm 11 127) rfl rfl (by kernel_rfl) (by decide) (fun K hK => ?_)
    refine xQ Try.func87 (by kernel_rfl) rfl #[.agg #[.slice A0 nc c0, .slice A1 Bs.length c1], sysA AC cC AT cT AL cL σ', .int .i64 x] (by rfl) rfl rfl (by simp only [List.map_toArray, List.map_cons, List.map_nil]; rfl) ?_
    with_reducible refine ((do_calls A0 nc c0 A1 c1 AC cC AT cT AL cL x (HR.out.below (ze (Below.refl _ _))).o.sees HR.out.o.inv (by have := HN3.out; omega) (Kd.zt H1.out (HR.out.below (ze (Below.refl _ _))).hb) (by have h1 := HR.out.o.len; have h2 := hi.out; omega)).mono (fun e w' hd => hd.owns (HR.out.below (ze (Below.refl _ _))).o (HR.out.below (ze (Below.refl _ _))).hb.size)).mono ?_
    rintro e wc ⟨BC, dC, BT, dT, BL, dL, σ2, b2, rfl, hb, ho, _⟩
    refine ⟨_, rfl, ?_⟩
    have HBd := zb.mk (show Below V.heap.size V wc from zi (ze (Below.refl _ _)) hb)
    have HRd := zb.mk (HR.out.below HBd.out)
    have HO2 := zb.mk ho
    have HPd := zb.mk ((HBd.out.block _ (zo HPV.out)).trans HPV.out)
    have HR2 := zb.mk (Rn.put HRd.out.hb HRd.out.p HRd.out.s HRd.out.r (HO2.out.mono (n' := 7 + 2 * (i + 1)) (Nat.le_refl _) (by omega)))
    unfold set4 at HR2
    unfold sysA
    have xid := za HBd.out xi
    obtain ⟨t0, t1, t2, t3⟩ := HRd.out.cells
    have u0 := zk HRd.out.s 0
    have u1 := zk HRd.out.s 1
    have u2 := zk HRd.out.s 2
    have u3 := zk HRd.out.s 3
    have q0 := (zd HPd.out 0).trans rfl
    have q1 := (zd HPd.out 1).trans rfl
    clear hb ho
    refine hK.out _ _ ⟨q0, q1, t0, t1, t2, t3, xid⟩ (fun hHeld => ?_)
    clear hK K
    refine zp (a' := ?_) ?_ ?_
    rotate_left
    ·show Act.put _ (some 34) _ = _
     simp only [Act.put, List.setIfInBounds_toArray, List.set_cons_zero, List.set_cons_succ, zg, zh]
     rfl
    refine zl (i := 7) (N := some 27) (v := ?_) (a' := ?_) (bm 11 255) rfl rfl (by kernel_rfl) (fun _ _ _ h => h) (Or.inl ⟨by rfl, ?_⟩) ?_ ?_
    rotate_left
    ·intro w'
     go_simp
     with_reducible rfl
    rotate_left
    ·simp only [Act.put, List.setIfInBounds_toArray, List.set_cons_zero, List.set_cons_succ, zg, zh]
     rfl
    refine zl (i := 8) (N := some 35) (v := ?_) (a' := ?_) (bm 11 511) rfl rfl (by kernel_rfl) (fun _ _ _ h => h) (Or.inl ⟨by rfl, ?_⟩) ?_ ?_
    rotate_left
    ·intro w'
     go_simp
     with_reducible rfl
    rotate_left
    ·simp only [Act.put, List.setIfInBounds_toArray, List.set_cons_zero, List.set_cons_succ, zg, zh]
     rfl
    refine zl (i := 9) (N := some 36) (v := ?_) (a' := ?_) (bm 11 1023) rfl rfl (by kernel_rfl) (fun _ _ _ h => h) (Or.inl ⟨by rfl, ?_⟩) ?_ ?_
    rotate_left
    ·intro w'
     go_simp
     with_reducible rfl
    rotate_left
    ·simp only [Act.put, List.setIfInBounds_toArray, List.set_cons_zero, List.set_cons_succ, zg, zh]
     rfl
    refine yR (i := 10) (N := none) (bm 11 2047) rfl rfl (by kernel_rfl) (by decide) (fun K hK => ?_)
    refine yQ (w1 := ?_) (by rfl) rfl ?_ ?_
    rotate_left
    ·go_simp
     rfl
    refine hK.out _ _ ?_
    clear hK K
    refine yt (by kernel_rfl) ?_
    go_wp2
    go_roundw
    case rel => exact ⟨_, i + 1, BC, dC, BT, dT, BL, dL, σ2, rfl, by first | rw [ei] | rfl | simp, ⟨HLI.out⟩, ⟨by first | exact HR2.out | exact HR2.out.below (ze (Below.refl _ _))⟩⟩
    case measure => (try rw [ei]); have := HLI.out; simp [intOf]; omega
   ·have y0 := s0
    have KZ := zb.mk (show V.heap[w.heap.size + 1 + 1]? = some (.cells #[.slice none 0 0, .slice none 0 0, .int .i64 0, .slice none 0 0] 27 (0, 0)) from HR.out.r)
    have r0 := (zd KZ.out 0).trans rfl
    have r1 := (zd KZ.out 1).trans rfl
    have r2 := (zd KZ.out 2).trans rfl
    have r3 := (zd KZ.out 3).trans rfl
    have rf0 := zk KZ.out 0
    have rf1 := zk KZ.out 1
    have rf2 := zk KZ.out 2
    have rf3 := zk KZ.out 3
    go_wp2
    have k4 := set4_blk (v0 := .slice AC σ'.C.length cC) (v1 := .slice AT σ'.T.length cT) (v2 := .int .i64 σ'.clk) (v3 := .slice AL σ'.L.length cL) KZ.out
    refine bodyPost_ret (yy rfl _ _ (w.heap.size + 1 + 1) 27 #[.slice AC σ'.C.length cC, .slice AT σ'.T.length cT, .int .i64 σ'.clk, .slice AL σ'.L.length cL] (0, 0) _ rfl k4 hus rfl (by kernel_rfl)) rfl ?_
    rw [HP.out]
    exact ⟨set4_below HR.out.hb (by omega), .inr ⟨HBO.out, AC, cC, AT, cT, AL, cL, σ', rfl, (HR.out.o.mono (Nat.le_refl _) (by have := hi.out; omega)).set4 KZ.out _ _ _ _⟩⟩
end Go.Proofs.Ytppapibjbjmmbaa.QSY
set_option linter.unusedVariables false
set_option linter.unusedSimpArgs false
namespace Go.Proofs.Ytppapibjbjmmbaa.QSY
open Go.RowKit Go.Proofs.YtppapibjbjmmbaaW.PrintWords Go.Proofs.YtppapibjbjmmbaaW.PrintLast Go.Proofs.YtppapibjbjmmbaaW.PrintMore
def bN : Value → Nat
 | .bool true => 1
 | _ => 0
set_option maxHeartbeats 4000000 in
set_option maxRecDepth 100000 in
theorem rest_calls {w : World} {Cs : List Int} {Bs : List (List zO)} {σ : St} (A0 : Option Addr) (c0 : Nat) (A1 : Option Addr) (c1 : Nat) (AC : Option Addr) (cC : Nat) (AT : Option Addr) (cT : Nat) (AL : Option Addr) (cL : Nat) (most : Int)
  (h0 : Kd.C (Kd.int .i64) w A0 Cs.length Cs) (h1 : Kd.C (Kd.slice 110 xK) w A1 Bs.length Bs) (h : Sees w AC cC AT cT AL cL σ) (hp : ∀ t ∈ σ.T, t.f9.length ≤ 1000 ∧ t.f10.length ≤ 1000) (hI : sysF Cs Bs σ.C σ.T σ.clk σ.L = true → Inv Bs Cs.length σ) (hl : 0 ≤ most ∧ most ≤ 1000) :
  Calls Try.prog 96 #[.agg #[.slice A0 Cs.length c0, .slice A1 Bs.length c1], sysA AC cC AT cT AL cL σ, .int .i64 most] w (Ran w Cs Bs 2100 σ) := by
 have hus := Try.underlying27
 have hup := Try.underlying37
 have HS := zb.mk h
 have H1 := zb.mk h1
 have HL := zb.mk hl
 have HI := zb.mk hI
 obtain ⟨Post, hPost⟩ : ∃ P, P = Ran w Cs Bs 2100 σ := ⟨_, rfl⟩
 have HP := zb.mk hPost
 rw [← hPost]
 obtain ⟨bo, hbo⟩ : ∃ b, sysF Cs Bs σ.C σ.T σ.clk σ.L = b := ⟨_, rfl⟩
 have HBO := zb.mk hbo
 obtain ⟨nc, hnc⟩ : ∃ n, n = Cs.length := ⟨_, rfl⟩
 have HNC := zb.mk hnc
 unfold sysA
 obtain ⟨W, hW⟩ : ∃ W, W = ((w.alloc (.cells #[.slice A0 nc c0, .slice A1 Bs.length c1] 37)).alloc (.cells #[.slice AC σ.C.length cC, .slice AT σ.T.length cT, .int .i64 σ.clk, .slice AL σ.L.length cL] 27)).alloc (.cells #[.slice none 0 0, .slice none 0 0, .int .i64 0, .slice none 0 0] 27) := ⟨_, rfl⟩
 have HB := zb.mk (show Below w.heap.size w W by rw [hW]; exact zc (zc (zc (Below.refl _ _) _) _) _)
 have HWS := zb.mk (show W.heap.size = w.heap.size + 3 by rw [hW]; simp)
 have EP := zb.mk (show W.heap[w.heap.size]? = some (.cells #[.slice A0 nc c0, .slice A1 Bs.length c1] 37 (0, 0)) by rw [hW]; exact zm (zm (heap_alloc_new _ _) _) _)
 have ES := zb.mk (show W.heap[w.heap.size + 1]? = some (.cells #[.slice AC σ.C.length cC, .slice AT σ.T.length cT, .int .i64 σ.clk, .slice AL σ.L.length cL] 27 (0, 0)) by rw [hW]; exact zm (yd (by simp)) _)
 have ER := zb.mk (show W.heap[w.heap.size + 1 + 1]? = some (.cells #[.slice none 0 0, .slice none 0 0, .int .i64 0, .slice none 0 0] 27 (0, 0)) by rw [hW]; exact yd (by simp))
 have KO := zb.mk (sys_calls A0 Cs c0 A1 Bs c1 AC σ.C cC AT σ.T cT σ.clk AL σ.L cL bo W (Kd.zt h0 HB.out) (Kd.zt h1 HB.out) (Kd.zt h.C HB.out) (Kd.zt h.T HB.out) h.hT (Kd.zt h.L HB.out) hp hbo)
 rw [← hnc] at KO ⊢
 clear h0 h1 h hp hI hl hPost hbo hnc
 go_enter Try.func96, Try.ntmps96
 go_upto_region 1 with (fail)
 rw [← hW]
 clear hW
 have p0 := (zd EP.out 0).trans rfl
 have p1 := (zd EP.out 1).trans rfl
 have s0 := (zd ES.out 0).trans rfl
 have s1 := (zd ES.out 1).trans rfl
 have s2 := (zd ES.out 2).trans rfl
 have s3 := (zd ES.out 3).trans rfl
 have HQ := zb.mk (show inB most 0 2000 = true from inB_1 HL.out.1 (by have := HL.out; omega))
 cases bo
 ·go_wp2_with (go_at_call 22; refine KO.out.mono ?_; rintro e w1 ⟨rfl, hb⟩; have HB1 := zb.mk hb; clear hb; have r0 := (zd ((HB1.out.block _ (zo ER.out)).trans ER.out) 0).trans rfl; have rf0 := zk ((HB1.out.block _ (zo ER.out)).trans ER.out) 0; have r1 := (zd ((HB1.out.block _ (zo ER.out)).trans ER.out) 1).trans rfl; have rf1 := zk ((HB1.out.block _ (zo ER.out)).trans ER.out) 1; have r2 := (zd ((HB1.out.block _ (zo ER.out)).trans ER.out) 2).trans rfl; have rf2 := zk ((HB1.out.block _ (zo ER.out)).trans ER.out) 2; have r3 := (zd ((HB1.out.block _ (zo ER.out)).trans ER.out) 3).trans rfl; have rf3 := zk ((HB1.out.block _ (zo ER.out)).trans ER.out) 3)
  have k4 := set4_blk (v0 := .slice none 0 0) (v1 := .slice none 0 0) (v2 := .int .i64 0) (v3 := .slice none 0 0) ((HB1.out.block _ (zo ER.out)).trans ER.out)
  refine bodyPost_ret (yy rfl _ _ (w.heap.size + 1 + 1) 27 #[.slice none 0 0, .slice none 0 0, .int .i64 0, .slice none 0 0] (0, 0) _ rfl k4 hus rfl (by kernel_rfl)) rfl ?_
  rw [HP.out]
  exact ⟨set4_below (zi HB.out HB1.out) (by omega), .inl ⟨HBO.out, rfl⟩⟩
 ·have HSF := zb.mk (sysF_ok HBO.out)
  have HII := zb.mk (HI.out HBO.out)
  have HN3 := zb.mk (new_ok HSF.out.1)
  obtain ⟨P, hPP⟩ : ∃ P : Array Value, P = #[.slice A0 nc c0, .slice A1 Bs.length c1] := ⟨_, rfl⟩
  have HPP := zb.mk hPP
  clear hPP
  go_upto_region 4 with (first
   | (go_at_call 22; refine KO.out.mono ?_; rintro e w1 ⟨rfl, hb⟩; have HB1 := zb.mk hb; clear hb s0 s1 s2 s3; have s0 := (zd ((HB1.out.block _ (zo ES.out)).trans ES.out) 0).trans rfl; have s1 := (zd ((HB1.out.block _ (zo ES.out)).trans ES.out) 1).trans rfl; have s2 := (zd ((HB1.out.block _ (zo ES.out)).trans ES.out) 2).trans rfl; have s3 := (zd ((HB1.out.block _ (zo ES.out)).trans ES.out) 3).trans rfl)
   | (go_at_call 59; with_reducible refine (yU _ _ _ _ _ HQ.out).mono ?_; rintro e w' ⟨rfl, rfl⟩)
   | (go_at_call 86; refine (copy_calls AC cC AT cT AL cL (HS.out.below (zi HB.out HB1.out)) (HII.out.small (by have := HN3.out; omega))).mono ?_; rintro e w2 ⟨BC, dC, BT, dT, BL, dL, N, T, rfl, hb, hV, hE⟩; have HB2 := zb.mk (zi HB1.out hb); have HB12 := zb.mk hb; have HV := zb.mk hV; have HE := zb.mk hE; clear hb hV hE s0 s1 s2 s3; have s0 := (zd ((HB2.out.block _ (zo ES.out)).trans ES.out) 0).trans rfl; have s1 := (zd ((HB2.out.block _ (zo ES.out)).trans ES.out) 1).trans rfl; have s2 := (zd ((HB2.out.block _ (zo ES.out)).trans ES.out) 2).trans rfl; have s3 := (zd ((HB2.out.block _ (zo ES.out)).trans ES.out) 3).trans rfl; have sf0 := zk ((HB2.out.block _ (zo ES.out)).trans ES.out) 0; have sf1 := zk ((HB2.out.block _ (zo ES.out)).trans ES.out) 1; have sf2 := zk ((HB2.out.block _ (zo ES.out)).trans ES.out) 2; have sf3 := zk ((HB2.out.block _ (zo ES.out)).trans ES.out) 3))
  obtain ⟨W3, hW3⟩ : ∃ x, x = set4 w2 (w.heap.size + 1) (.slice BC σ.C.length dC) (.slice BT σ.T.length dT) (.int .i64 σ.clk) (.slice BL σ.L.length dL) := ⟨_, rfl⟩
  have HR := zb.mk (show Rn w W3 P Bs Cs.length 7 BC dC BT dT BL dL σ by
   rw [hW3]
   refine Rn.put (zi HB.out HB2.out) ?_ ((HB2.out.block _ (zo ES.out)).trans ES.out) ((HB2.out.block _ (zo ER.out)).trans ER.out) ⟨⟨N, T, HV.out.lower (by have h1 := HB.out.size; have h2 := HB1.out.size; omega), HE.out⟩, HII.out, HSF.out.2.2.2⟩
   rw [HPP.out]
   exact (HB2.out.block _ (zo EP.out)).trans EP.out)
  unfold set4 at hW3
  rw [← hW3]
  clear hW3 s0 s1 s2 s3 sf0 sf1 sf2 sf3 p0 p1 HS HI HII KO
  go_wp2
  go_loopw [2, 8] (fun v2 v8 wr => ∃ (V : World) (m : Int) (sm : Bool) (AC : Option Addr) (cC : Nat) (AT : Option Addr) (cT : Nat) (AL : Option Addr) (cL : Nat) (σ' : St), V = wr ∧ v2 = .int .i64 m ∧ v8 = .bool sm ∧ zb (0 ≤ m ∧ m ≤ 1000) ∧ zb (Rn w V P Bs Cs.length (7 + 2 * (1000 - m).toNat) AC cC AT cT AL cL σ')) (fun v2 v8 _ => 2 * (intOf v2).toNat + bN v8)
  case atStart => exact ⟨W3, most, true, _, _, _, _, _, _, σ, rfl, rfl, rfl, HL, ⟨HR.out.mono (by omega)⟩⟩
  case round =>
   clear HR
   obtain ⟨V, m, sm, AC, cC, AT, cT, AL, cL, σ', hV, rfl, rfl, hi, HR⟩ := hrel
   rw [← hV]
   clear hV
   obtain ⟨s0, s1, s2, s3⟩ := HR.out.cells
   by_cases hm : 0 < m
   rotate_left
   ·cases sm
    all_goals
     have KZ := zb.mk (show V.heap[w.heap.size + 1 + 1]? = some (.cells #[.slice none 0 0, .slice none 0 0, .int .i64 0, .slice none 0 0] 27 (0, 0)) from HR.out.r)
     have r0 := (zd KZ.out 0).trans rfl
     have r1 := (zd KZ.out 1).trans rfl
     have r2 := (zd KZ.out 2).trans rfl
     have r3 := (zd KZ.out 3).trans rfl
     have rf0 := zk KZ.out 0
     have rf1 := zk KZ.out 1
     have rf2 := zk KZ.out 2
     have rf3 := zk KZ.out 3
     go_wp2
     have k4 := set4_blk (v0 := .slice AC σ'.C.length cC) (v1 := .slice AT σ'.T.length cT) (v2 := .int .i64 σ'.clk) (v3 := .slice AL σ'.L.length cL) KZ.out
     refine bodyPost_ret (yy rfl _ _ (w.heap.size + 1 + 1) 27 #[.slice AC σ'.C.length cC, .slice AT σ'.T.length cT, .int .i64 σ'.clk, .slice AL σ'.L.length cL] (0, 0) _ rfl k4 hus rfl (by kernel_rfl)) rfl ?_
     rw [HP.out]
     exact ⟨set4_below HR.out.hb (by omega), .inr ⟨HBO.out, AC, cC, AT, cT, AL, cL, σ', rfl, (HR.out.o.mono (Nat.le_refl _) (by have := hi.out; omega)).set4 KZ.out _ _ _ _⟩⟩
   ·cases sm
    ·skip
     have KZ := zb.mk (show V.heap[w.heap.size + 1 + 1]? = some (.cells #[.slice none 0 0, .slice none 0 0, .int .i64 0, .slice none 0 0] 27 (0, 0)) from HR.out.r)
     have r0 := (zd KZ.out 0).trans rfl
     have r1 := (zd KZ.out 1).trans rfl
     have r2 := (zd KZ.out 2).trans rfl
     have r3 := (zd KZ.out 3).trans rfl
     have rf0 := zk KZ.out 0
     have rf1 := zk KZ.out 1
     have rf2 := zk KZ.out 2
     have rf3 := zk KZ.out 3
     go_wp2
     have k4 := set4_blk (v0 := .slice AC σ'.C.length cC) (v1 := .slice AT σ'.T.length cT) (v2 := .int .i64 σ'.clk) (v3 := .slice AL σ'.L.length cL) KZ.out
     refine bodyPost_ret (yy rfl _ _ (w.heap.size + 1 + 1) 27 #[.slice AC σ'.C.length cC, .slice AT σ'.T.length cT, .int .i64 σ'.clk, .slice AL σ'.L.length cL] (0, 0) _ rfl k4 hus rfl (by kernel_rfl)) rfl ?_
     rw [HP.out]
     exact ⟨set4_below HR.out.hb (by omega), .inr ⟨HBO.out, AC, cC, AT, cT, AL, cL, σ', rfl, (HR.out.o.mono (Nat.le_refl _) (by have := hi.out; omega)).set4 KZ.out _ _ _ _⟩⟩
    ·go_wp2
     have HM0 := zb.mk (And.intro hm hi.out)
     obtain ⟨m0, hm0⟩ : ∃ x, x = m := ⟨_, rfl⟩
     have HE0 := zb.mk hm0
     go_loopw [2, 8, 9] (fun v2 v8 v9 wr => ∃ (V : World) (m : Int) (sm : Bool) (i : Nat) (AC : Option Addr) (cC : Nat) (AT : Option Addr) (cT : Nat) (AL : Option Addr) (cL : Nat) (σ' : St), V = wr ∧ v2 = .int .i64 m ∧ v8 = .bool sm ∧ v9 = .int .i64 i ∧ zb (i ≤ 2500 ∧ 0 ≤ m ∧ m ≤ m0 ∧ (sm = true → m < m0)) ∧ zb (Rn w V P Bs Cs.length (7 + 2 * (1000 - m).toNat) AC cC AT cT AL cL σ')) (fun _ _ v9 _ => 3000 - (intOf v9).toNat)
     case atStart => exact ⟨V, m, false, 0, _, _, _, _, _, _, σ', rfl, rfl, rfl, rfl, ⟨by omega, by have := hi.out; omega, by have := HE0.out; omega, fun h => absurd h (by simp)⟩, HR⟩
     case round =>
      clear HR hm hm0 s0 s1 s2 s3
      obtain ⟨V, m2, sm, i, AC, cC, AT, cT, AL, cL, σ', hV, rfl, rfl, rfl, hi2, HR⟩ := hrel
      rw [← hV]
      clear hV
      have HPV := zb.mk (show V.heap[w.heap.size]? = some (.cells #[.slice A0 nc c0, .slice A1 Bs.length c1] 37 (0, 0)) by have h := HR.out.p; rw [HPP.out] at h; exact h)
      obtain ⟨s0, s1, s2, s3⟩ := HR.out.cells
      by_cases hg : (i : Int) < (σ'.T.length : Int) ∧ 0 < m2
      ·obtain ⟨hlt, hm2⟩ := hg
       have HLI := zb.mk (And.intro hlt hm2)
       have HLN := zb.mk (show σ'.T.length ≤ 7 + 2 * (1000 - m2).toNat from HR.out.o.len)
       have ei : wrap64 ((i : Int) + 1) = ((i + 1 : Nat) : Int) := by have := hi2.out; unfold wrap64; omega
       have em : wrap64 (m2 - 1) = m2 - 1 := by have h1 := hi2.out; have h2 := HM0.out; have h3 := HE0.out; unfold wrap64; omega
       have p0 := (zd HPV.out 0).trans rfl
       have p1 := (zd HPV.out 1).trans rfl
       go_upto_if 47 with (go_at_call 87; refine ((do_calls A0 nc c0 A1 c1 AC cC AT cT AL cL (i : Int) HR.out.o.sees HR.out.o.inv (by have := HN3.out; omega) (Kd.zt H1.out HR.out.hb) (by have h1 := HLN.out; have h2 := HLI.out; omega)).mono (fun e w' hd => hd.owns HR.out.o HR.out.hb.size)).mono ?_; rintro e wc ⟨BC, dC, BT, dT, BL, dL, σ2, b2, rfl, hb, ho, hob⟩; have HBd := zb.mk hb; have HO2 := zb.mk ho; have HO3 := zb.mk hob; unfold sysA; clear hb ho hob)
       obtain ⟨Z, hZ⟩ : ∃ Z, Z = wc.alloc (.cells #[.slice BC σ2.C.length dC, .slice BT σ2.T.length dT, .int .i64 σ2.clk, .slice BL σ2.L.length dL] 27) := ⟨_, rfl⟩
       have HBZ := zb.mk (show Below V.heap.size V Z by rw [hZ]; exact zc HBd.out _)
       have HXZ := zb.mk (show Z.heap[wc.heap.size]? = some (.cells #[.slice BC σ2.C.length dC, .slice BT σ2.T.length dT, .int .i64 σ2.clk, .slice BL σ2.L.length dL] 27 (0, 0)) by rw [hZ]; exact heap_alloc_new _ _)
       have HOZ := zb.mk (show xO Z w.heap.size Bs Cs.length (7 + 2 * (1000 - m2).toNat + 2) BC dC BT dT BL dL σ2 by rw [hZ]; exact HO2.out.below (zc (Below.refl _ _) _))
       have HRZ := zb.mk (HR.out.below HBZ.out)
       rw [← hZ]
       clear hZ hlt hm2 s0 s1 s2 s3 p0 p1
       cases b2
       ·go_wp2
        go_roundw
        case rel => exact ⟨_, m2, sm, i + 1, AC, cC, AT, cT, AL, cL, σ', rfl, rfl, rfl, by first | rw [ei] | rfl | simp, ⟨by have h2 := HLI.out; have h3 := HLN.out; omega, hi2.out.2⟩, HRZ⟩
        case measure => (try rw [ei]); have h1 := hi2.out; have h2 := HLI.out; have h3 := HLN.out; simp [intOf]; omega
       ·have x0 := (zd HXZ.out 0).trans rfl
        have x1 := (zd HXZ.out 1).trans rfl
        have x2 := (zd HXZ.out 2).trans rfl
        have x3 := (zd HXZ.out 3).trans rfl
        obtain ⟨s0, s1, s2, s3⟩ := HRZ.out.cells
        have sf0 := zk HRZ.out.s 0
        have sf1 := zk HRZ.out.s 1
        have sf2 := zk HRZ.out.s 2
        have sf3 := zk HRZ.out.s 3
        have HR2 := zb.mk (Rn.put HRZ.out.hb HRZ.out.p HRZ.out.s HRZ.out.r (HOZ.out.mono (n' := 7 + 2 * (1000 - (m2 - 1)).toNat) (Nat.le_refl _) (by have h1 := hi2.out; have h2 := HLI.out; have h3 := HM0.out; have h4 := HE0.out; omega)))
        unfold set4 at HR2
        go_wp2
        go_roundw
        case rel => exact ⟨_, m2 - 1, true, i + 1, BC, dC, BT, dT, BL, dL, σ2, rfl, by first | rw [em] | rfl, rfl, by first | rw [ei] | rfl | simp, ⟨by have h1 := hi2.out; have h2 := HLI.out; have h3 := HLN.out; omega, by have h2 := HLI.out; omega, by have h1 := hi2.out; omega, fun _ => by have h1 := hi2.out; omega⟩, HR2⟩
        case measure => (try rw [ei]); have h1 := hi2.out; have h2 := HLI.out; have h3 := HLN.out; simp [intOf]; omega
      ·have HEX := zb.mk hg
       by_cases hlt : (i : Int) < (σ'.T.length : Int)
       ·have hm2 : ¬ 0 < m2 := fun h => hg ⟨hlt, h⟩
        clear hg
        go_wp2
        go_roundw
        case rel => exact ⟨_, m2, sm, AC, cC, AT, cT, AL, cL, σ', rfl, rfl, rfl, ⟨by have h1 := hi2.out; have h2 := HM0.out; have h3 := HE0.out; omega⟩, HR⟩
        case measure => have h1 := hi2.out; have h2 := HM0.out; have h3 := HE0.out; cases sm <;> simp [intOf, bN] at h1 ⊢ <;> omega
       ·clear hg
        go_wp2
        go_roundw
        case rel => exact ⟨_, m2, sm, AC, cC, AT, cT, AL, cL, σ', rfl, rfl, rfl, ⟨by have h1 := hi2.out; have h2 := HM0.out; have h3 := HE0.out; omega⟩, HR⟩
        case measure => have h1 := hi2.out; have h2 := HM0.out; have h3 := HE0.out; cases sm <;> simp [intOf, bN] at h1 ⊢ <;> omega
end Go.Proofs.Ytppapibjbjmmbaa.QSY
set_option linter.unusedVariables false
set_option linter.unusedSimpArgs false
namespace Go.Proofs.Ytppapibjbjmmbaa.QSY
open Go.RowKit Go.Proofs.YtppapibjbjmmbaaW.PrintWords Go.Proofs.YtppapibjbjmmbaaW.PrintLast Go.Proofs.YtppapibjbjmmbaaW.PrintMore
structure Tn (w0 wS w : World) (g : Nat) (m : Int) (v : Value) (l : List Int) : Prop where
 rd : Rdr w0 w g m
 K : Kept wS w (fun j => j = g)
 o : Kd.R (Kd.int .i64) 3 w wS.heap.size (fun _ => True) v l
 z : w0.heap.size ≤ wS.heap.size
section
variable {w0 wS w w1 : World} {g : Nat} {m m' : Int} {v va : Value} {l l' : List Int}
theorem Tn.pick (h : Tn w0 wS w g m v l) (hr : Rdr w0 w1 g m') (hk : Kept w w1 (fun j => j = g)) : Tn w0 wS w1 g m' v l := ⟨hr, yD h.K hk, h.rd.R hk h.o (by decide), h.z⟩
theorem Tn.push (h : Tn w0 wS w g m v l) (hra : Kd.R (Kd.int .i64) 3 w1 wS.heap.size (fun _ => True) va l') (hg : w.grownBy w1 v.ownBlock) : Tn w0 wS w1 g m va l' :=
 ⟨h.rd.grown h.o (by decide) h.z hg, h.K.of_grown hg (fun k hk => .inr (Kd.yV h.o k hk)), hra, h.z⟩
theorem Tn.below (h : Tn w0 wS w g m v l) (hb : Below w.heap.size w w1) : Tn w0 wS w1 g m v l := h.pick (h.rd.below hb) (Kept.of_below hb _)
theorem Tn.mono (h : Tn w0 wS w g m v l) (hm : m ≤ m') : Tn w0 wS w g m' v l := { h with rd := h.rd.mono hm }
end
def sN : Value → Nat
 | .slice _ n _ => n
 | _ => 0
def DrawsTurns (w0 w : World) (g : Nat) (m : Int) (e : Ending) (w' : World) : Prop := ∃ A c l, e = .returned (.slice A (List.length l) c) ∧ Kd.R (Kd.int .i64) 3 w' w.heap.size (fun _ => True) (.slice A (List.length l) c) l ∧ l.length ≤ 300 ∧ Rdr w0 w' g (m + 1000) ∧ Kept w w' (fun j => j = g)
set_option maxHeartbeats 8000000 in
set_option maxRecDepth 100000 in
theorem turns_draws {w0 w : World} {g : Nat} {m : Int} (most : Int) (h : Rdr w0 w g m) (hm : m ≤ 700000) (h0 : 0 ≤ most) (h1 : most ≤ 200) : Calls Try.prog 107 #[.pointer (some ⟨g, 0, none⟩), .int .i64 most] w (DrawsTurns w0 w g m) := by
 obtain ⟨Post, hPost⟩ : ∃ P, P = DrawsTurns w0 w g m := ⟨_, rfl⟩
 have HP := zb.mk hPost
 rw [← hPost]
 have HT := zb.mk (show Tn w0 w (w.alloc (.cells #[] 3)) g m (.slice (some ⟨w.heap.size, 0, none⟩) 0 0) [] from ⟨h.below (zc (Below.refl _ _) _), Kept.of_below (zc (Below.refl _ _) _) _, R_of (xs := []) (cs := []) (heap_alloc_new _ _) (Nat.le_refl _) trivial (Nat.zero_le _) (yh.none _ _), h.hb.size⟩)
 have HM := zb.mk (And.intro h0 h1)
 obtain ⟨U, hU⟩ : ∃ U, U = w.alloc (.cells #[] 3) := ⟨_, rfl⟩
 rw [← hU] at HT
 clear h hPost h0 h1
 go_enter Try.func107, Try.ntmps107
 go_upto_region 2 with (fail)
 rw [← hU]
 clear hU
 go_loopw [5] (fun v5 wr => ∃ (V : World) (A : Option Addr) (c : Nat) (l : List Int) (n : Nat), V = wr ∧ v5 = .slice A n c ∧ zb (n = l.length ∧ (n : Int) ≤ most + 5) ∧ zb (Tn w0 w V g (m + 3 * (n : Int)) (.slice A n c) l)) (fun v5 _ => most.toNat - sN v5)
 case atStart => exact ⟨U, _, _, [], 0, rfl, rfl, ⟨rfl, by have := HM.out; simp; omega⟩, ⟨by simpa using HT.out⟩⟩
 case round =>
  clear HT
  obtain ⟨V, A, c, l, n0, hV, rfl, hi, HT⟩ := hrel
  rw [← hV]
  clear hV
  by_cases hlt : (n0 : Int) < most
  ·have HLT := zb.mk hlt
   have HMM := zb.mk (show m + 3 * (n0 : Int) ≤ 900000 by have := HM.out; omega)
   go_upto_region 4 with (go_at_call 55; refine (zQ _ HT.out.rd (by have := HMM.out; omega) (by omega)).mono ?_; rintro e w1 ⟨kk, rfl, h0, h1, h2, hr, hk⟩; have n0 := zb.mk (HT.out.pick hr hk); clear HT hr hk h2; have HT := n0; clear n0)
   clear h0 h1
   go_upto_region 5 with (go_at_call 55; refine (zQ _ HT.out.rd (by have := HMM.out; omega) (by omega)).mono ?_; rintro e w1 ⟨y, rfl, h0, h1, h2, hr, hk⟩; have n0 := zb.mk (HT.out.pick hr hk); clear HT hr hk h2; have HT := n0; clear n0)
   have hy := h1 (by decide)
   obtain ⟨i0, hi0⟩ : ∃ i : Nat, (1 + y) = (i : Int) := ⟨(1 + y).toNat, by omega⟩
   have HI0 := zb.mk (show 1 ≤ i0 ∧ i0 ≤ 5 by omega)
   rw [hi0]
   clear h0 h1 hy hi0
   have HMM2 := zb.mk (show m + 3 * (n0 : Int) + 2 ≤ 900000 by have := HM.out; have := HLT.out; have := hm; omega)
   go_loopw [5, 7] (fun v5 v7 wr => ∃ (V : World) (A : Option Addr) (c : Nat) (l : List Int) (n i : Nat), V = wr ∧ v5 = .slice A n c ∧ v7 = .int .i64 i ∧ zb (n = l.length ∧ n + i = n0 + i0) ∧ zb (Tn w0 w V g (m + 3 * (n0 : Int) + 2) (.slice A n c) l)) (fun _ v7 _ => (intOf v7).toNat)
   case atStart => exact ⟨_, A, c, l, n0, i0, rfl, rfl, rfl, ⟨hi.out.1, rfl⟩, ⟨HT.out.mono (by omega)⟩⟩
   case round =>
    clear HT
    obtain ⟨V, A, c, l, n, i, hV, rfl, rfl, hj, HT⟩ := hrel
    rw [← hV]
    clear hV
    by_cases hip : 0 < i
    ·have HIP := zb.mk hip
     have cb : decide ((i : Int) > 0) = true := decide_eq_true (by omega)
     have ei : wrap64 ((i : Int) - 1) = ((i - 1 : Nat) : Int) := by have := hj.out; have := HI0.out; have := hi.out; have := HM.out; unfold wrap64; omega
     clear hlt
     go_wp2_with ((with_reducible refine zG (b := .append) (xs := #[.tmp 22, .tmp 24]) rfl ?_); at_builtin; refine Kd.yi (Kd.int .i64) w.heap.size rfl (.tmp 22) (.tmp 24) 29 3 (.int .i64 0) 8 rfl Try.underlying29 info3 rfl (by decide) (by omega) _ l kk [.int .i64 kk] (fun _ => True) (fun _ => False) rfl rfl rfl (fun _ hk => hk.elim) (fun _ _ => trivial) HT.out.o (Below.refl _ _) HT.out.K.1 (by have h1 := hj.out; have h2 := HI0.out; have h3 := hi.out; have h4 := HM.out; omega) ?_; intro v2 wy ho hb hg hat; obtain ⟨A2, n2, c2, rfl⟩ := xH ho; have HT2 := zb.mk (HT.out.push ho hg); have HN2 := zb.mk (Kd.zH ho).1; clear ho hb hg hat)
     go_roundw
     case rel => exact ⟨_, A2, c2, l ++ [kk], n2, i - 1, rfl, rfl, by first | rw [ei] | rfl | simp, ⟨HN2.out, by have h1 := hj.out; have h2 := HN2.out; have h3 := HIP.out; simp at h2; omega⟩, HT2⟩
     case measure => (try rw [ei]); have := HIP.out; simp [intOf]; omega
    ·have cb := True.intro
     have HNI := zb.mk (show n = n0 + i0 by have := hj.out; omega)
     have hi0 : i = 0 := by omega
     subst hi0
     clear hip hlt cb
     go_upto_if 28 with (go_at_call 55; refine (zQ _ HT.out.rd (by have := HMM2.out; omega) (by omega)).mono ?_; rintro e w1 ⟨y, rfl, h0, h1, h2, hr, hk⟩; have n0 := zb.mk (HT.out.pick hr hk); clear HT hr hk h2; have HT := n0; clear n0)
     clear h0 h1
     by_cases hy0 : y = 0
     ·go_wp2
      rw [HP.out]
      have e := hj.out.1
      subst e
      exact ⟨A, c, l, rfl, HT.out.o, by have h1 := HNI.out; have h2 := HI0.out; have h3 := HLT.out; have h4 := HM.out; omega, HT.out.rd.mono (by have h1 := HNI.out; have h2 := HI0.out; have h3 := HLT.out; have h4 := HM.out; omega), HT.out.K⟩
     ·go_wp2
      go_roundw
      case rel => exact ⟨_, A, c, l, n, rfl, rfl, ⟨hj.out.1, by have h1 := HNI.out; have h2 := HI0.out; have h3 := HLT.out; omega⟩, ⟨HT.out.mono (by have h1 := HNI.out; have h2 := HI0.out; omega)⟩⟩
      case measure => have h1 := HNI.out; have h2 := HI0.out; have h3 := HLT.out; simp [sN]; omega
  ·have hc := (Kd.zH HT.out.o).2.1
   obtain ⟨k, rfl⟩ : ∃ k : Nat, most = (k : Int) := ⟨most.toNat, by have := HM.out; omega⟩
   have hk1 : k ≤ c := by have := hi.out; omega
   have HK1 := zb.mk (show k ≤ n0 by omega)
   clear hc
   go_wp2
   rw [HP.out]
   have e := hi.out.1
   have hT := Kd.R_take HT.out.o (m := k) (by have := HK1.out; omega)
   have el : (l.take k).length = k := by rw [List.length_take]; have := HK1.out; omega
   refine ⟨A, c, l.take k, by rw [el], by rw [el]; exact hT, by rw [el]; have := HM.out; omega, HT.out.rd.mono (by have h3 := hi.out; have h4 := HM.out; omega), HT.out.K⟩
end Go.Proofs.Ytppapibjbjmmbaa.QSY
set_option linter.unusedVariables false
set_option linter.unusedSimpArgs false
namespace Go.Proofs.Ytppapibjbjmmbaa.QSY
open Go.RowKit Go.Proofs.YtppapibjbjmmbaaW.PrintWords Go.Proofs.YtppapibjbjmmbaaW.PrintLast Go.Proofs.YtppapibjbjmmbaaW.PrintMore
theorem xS {w : World} {b b' i j : Nat} {u v : Value} (h : b ≠ b') (hc : w.cell? ⟨b, i, none⟩ = some v) : (w.setCell ⟨b', j, none⟩ u).cell? ⟨b, i, none⟩ = some v := yo hc (fun e => h (by injection e))
section
variable {w w1 w0 : World} {B nC n g : Nat} {m : Int} {Bs : List (List zO)} {AC AT AL : Option Addr} {cC cT cL : Nat} {σ : St}
theorem xO.pick (h : xO w B Bs nC n AC cC AT cT AL cL σ) (hr : Rdr w0 w g m) (hk : Kept w w1 (fun j => j = g)) : xO w1 B Bs nC n AC cC AT cT AL cL σ := by
 obtain ⟨⟨N, T, hV, e⟩, h1, h2⟩ := h
 exact ⟨⟨N, T, hV.same (fun k q cells _ hq hc => hk.2 k (zo hc) (hr.typ hc (fun e => by subst e; revert hq; decide))), e⟩, h1, h2⟩
theorem xO.rows (h : xO w B Bs nC n AC cC AT cT AL cL σ) : ∀ t ∈ σ.T, t.f9.length ≤ 1000 ∧ t.f10.length ≤ 1000 := fun t ht => by
 obtain ⟨i, hi, e⟩ := List.getElem_of_mem ht
 have q := h.inv.t (i : Int) (by omega) (by omega)
 have e2 : σ.t (i : Int) = t := by unfold St.t; rw [Int.toNat_natCast, List.getD_eq_getElem?_getD, List.getElem?_eq_getElem hi, e]; rfl
 rw [e2] at q
 exact ⟨q.p9.1, q.p10.1⟩
theorem Ran.fine {Cs : List Int} {e : Ending} (h : Ran w Cs Bs n σ e w1) (hs : sysF Cs Bs σ.C σ.T σ.clk σ.L = true) : ∃ BC dC BT dT BL dL σ', e = .returned (.tuple #[sysA BC dC BT dT BL dL σ', .bool true]) ∧ Below w.heap.size w w1 ∧ xO w1 w.heap.size Bs Cs.length n BC dC BT dT BL dL σ' := by
 obtain ⟨hb, h⟩ := h
 rcases h with ⟨h, _⟩ | ⟨_, BC, dC, BT, dT, BL, dL, σ', he, ho⟩
 ·rw [hs] at h; cases h
 ·exact ⟨BC, dC, BT, dT, BL, dL, σ', he, hb, ho⟩
end
structure Dz (w0 wS w : World) (g : Nat) (m : Int) (A0 : Option Addr) (c0 : Nat) (Cs : List Int) (A1 : Option Addr) (c1 : Nat) (Bs : List (List zO)) (n : Nat) (AC : Option Addr) (cC : Nat) (AT : Option Addr) (cT : Nat) (AL : Option Addr) (cL : Nat) (σ : St) : Prop where
 rd : Rdr w0 w g m
 K : Kept wS w (fun j => j = g)
 z : w0.heap.size ≤ wS.heap.size
 g : g < wS.heap.size
 P0 : Kd.R (Kd.int .i64) 3 w wS.heap.size (fun _ => True) (.slice A0 Cs.length c0) Cs
 P1 : Kd.R kBs 106 w wS.heap.size (fun _ => True) (.slice A1 Bs.length c1) Bs
 ok : okF Cs Bs = true
 pos : 0 < Cs.length
 o : xO w wS.heap.size Bs Cs.length n AC cC AT cT AL cL σ
section
variable {w0 wS w w1 : World} {g b4 b5 n n' : Nat} {m m' : Int} {A0 A1 AC AT AL BC BT BL : Option Addr} {c0 c1 cC cT cL dC dT dL : Nat} {Cs : List Int} {Bs : List (List zO)} {σ σ' : St}
theorem Dz.pick (h : Dz w0 wS w g m A0 c0 Cs A1 c1 Bs n AC cC AT cT AL cL σ) (hr : Rdr w0 w1 g m') (hk : Kept w w1 (fun j => j = g)) : Dz w0 wS w1 g m' A0 c0 Cs A1 c1 Bs n AC cC AT cT AL cL σ :=
 ⟨hr, yD h.K hk, h.z, h.g, h.rd.R hk h.P0 (by decide), h.rd.R hk h.P1 (by decide), h.ok, h.pos, h.o.pick h.rd hk⟩
theorem Dz.below (h : Dz w0 wS w g m A0 c0 Cs A1 c1 Bs n AC cC AT cT AL cL σ) (hb : Below w.heap.size w w1) : Dz w0 wS w1 g m A0 c0 Cs A1 c1 Bs n AC cC AT cT AL cL σ := h.pick (h.rd.below hb) (Kept.of_below hb _)
theorem Dz.drew (h : Dz w0 wS w g m A0 c0 Cs A1 c1 Bs n AC cC AT cT AL cL σ) : Dz w0 wS w.drew g m A0 c0 Cs A1 c1 Bs n AC cC AT cT AL cL σ := h.below (ze (Below.refl _ _))
theorem Dz.mono (h : Dz w0 wS w g m A0 c0 Cs A1 c1 Bs n AC cC AT cT AL cL σ) (hm : m ≤ m') : Dz w0 wS w g m' A0 c0 Cs A1 c1 Bs n AC cC AT cT AL cL σ := { h with rd := h.rd.mono hm }
theorem Dz.set (h : Dz w0 wS w g m A0 c0 Cs A1 c1 Bs n AC cC AT cT AL cL σ) {b q : Nat} {cells : Array Value} (hb : w.heap[b]? = some (.cells cells q (0, 0))) (hq : q = 37 ∨ q = 27) (hz : wS.heap.size ≤ b) (j : Nat) (u : Value) : Dz w0 wS (w.setCell ⟨b, j, none⟩ u) g m A0 c0 Cs A1 c1 Bs n AC cC AT cT AL cL σ := by
 have hbg : b ≠ g := by have := h.g; omega
 have far : ∀ (k q' : Nat) (cells' : Array Value), q' ≠ q → w.heap[k]? = some (.cells cells' q' (0, 0)) → (w.setCell ⟨b, j, none⟩ u).heap[k]? = w.heap[k]? := fun k q' cells' hq' hc => Below.heap_setCell w ⟨b, j, none⟩ u k (fun e => by
  have e : k = b := e
  subst e
  rw [hb] at hc
  injection hc with hc
  injection hc with _ hc
  exact hq' hc.symm)
 have q0 : ∀ q', q' ∈ 3 :: (Kd.int .i64).E → q' ≠ q := by rcases hq with rfl | rfl <;> decide
 have q1 : ∀ q', q' ∈ 106 :: kBs.E → q' ≠ q := by rcases hq with rfl | rfl <;> decide
 refine ⟨h.rd.set hbg (by have := h.z; omega) j u, h.K.setCell (p := ⟨b, j, none⟩) (.inr hz) u, h.z, h.g, zR h.P0 (fun k q' cells' _ _ hq' hc => far k q' cells' (q0 _ hq') hc), zR h.P1 (fun k q' cells' _ _ hq' hc => far k q' cells' (q1 _ hq') hc), h.ok, h.pos, ?_⟩
 obtain ⟨⟨N, T, hV, e⟩, h1, h2⟩ := h.o
 exact ⟨⟨N, T, hV.far hb (by rcases hq with rfl | rfl <;> decide) j u, e⟩, h1, h2⟩
theorem Dz.sys (h : Dz w0 wS w g m A0 c0 Cs A1 c1 Bs n AC cC AT cT AL cL σ) (ho : xO w wS.heap.size Bs Cs.length n' BC dC BT dT BL dL σ') : Dz w0 wS w g m A0 c0 Cs A1 c1 Bs n' BC dC BT dT BL dL σ' :=
 { rd := h.rd, K := h.K, z := h.z, g := h.g, P0 := h.P0, P1 := h.P1, ok := h.ok, pos := h.pos, o := ho }
theorem Dz.C0 (h : Dz w0 wS w g m A0 c0 Cs A1 c1 Bs n AC cC AT cT AL cL σ) : Kd.C (Kd.int .i64) w A0 Cs.length Cs := (Kd.zH h.P0).2.2
theorem Dz.C1 (h : Dz w0 wS w g m A0 c0 Cs A1 c1 Bs n AC cC AT cT AL cL σ) : Kd.C (Kd.slice 110 xK) w A1 Bs.length Bs := (Kd.zH h.P1).2.2
theorem Dz.set4 (h : Dz w0 wS w g m A0 c0 Cs A1 c1 Bs n AC cC AT cT AL cL σ) {b : Nat} {u0 u1 u2 u3 : Value} (hb : w.heap[b]? = some (.cells #[u0, u1, u2, u3] 27 (0, 0))) (hz : wS.heap.size ≤ b) (v0 v1 v2 v3 : Value) : Dz w0 wS (set4 w b v0 v1 v2 v3) g m A0 c0 Cs A1 c1 Bs n AC cC AT cT AL cL σ :=
 (((h.set hb (.inr rfl) hz 0 v0).set (zu hb 0 v0) (.inr rfl) hz 1 v1).set (zu (zu hb 0 v0) 1 v1) (.inr rfl) hz 2 v2).set (zu (zu (zu hb 0 v0) 1 v1) 2 v2) (.inr rfl) hz 3 v3
end
theorem new_sysF' {Cs : List Int} {Bs : List (List zO)} (h : okF Cs Bs = true) : sysF Cs Bs (St.new Cs).C (St.new Cs).T (St.new Cs).clk (St.new Cs).L = true := new_sysF h
structure Dw (w0 wS w : World) (g : Nat) (m : Int) (b4 b5 : Nat) (A0 : Option Addr) (c0 : Nat) (Cs : List Int) (A1 : Option Addr) (c1 : Nat) (Bs : List (List zO)) (n : Nat) (AC : Option Addr) (cC : Nat) (AT : Option Addr) (cT : Nat) (AL : Option Addr) (cL : Nat) (σ : St) : Prop where
 d : Dz w0 wS w g m A0 c0 Cs A1 c1 Bs n AC cC AT cT AL cL σ
 b : wS.heap.size + 2 ≤ b4 ∧ wS.heap.size + 2 ≤ b5 ∧ b4 ≠ b5
 p : w.heap[b4]? = some (.cells #[.slice A0 Cs.length c0, .slice A1 Bs.length c1] 37 (0, 0))
 s : w.heap[b5]? = some (.cells (sysB AC cC AT cT AL cL σ) 27 (0, 0))
 r0 : w.heap[wS.heap.size]? = some (.cells #[.slice none 0 0, .slice none 0 0] 37 (0, 0))
 r1 : w.heap[wS.heap.size + 1]? = some (.cells zSys 27 (0, 0))
section
variable {w0 wS w w1 : World} {g b4 b5 n n' : Nat} {m m' : Int} {A0 A1 AC AT AL BC BT BL : Option Addr} {c0 c1 cC cT cL dC dT dL : Nat} {Cs : List Int} {Bs : List (List zO)} {σ σ' : St}
theorem Dw.pick (h : Dw w0 wS w g m b4 b5 A0 c0 Cs A1 c1 Bs n AC cC AT cT AL cL σ) (hr : Rdr w0 w1 g m') (hk : Kept w w1 (fun j => j = g)) : Dw w0 wS w1 g m' b4 b5 A0 c0 Cs A1 c1 Bs n AC cC AT cT AL cL σ :=
 ⟨h.d.pick hr hk, h.b, h.d.rd.kept hk h.p (by decide), h.d.rd.kept hk h.s (by decide), h.d.rd.kept hk h.r0 (by decide), h.d.rd.kept hk h.r1 (by decide)⟩
theorem Dw.below (h : Dw w0 wS w g m b4 b5 A0 c0 Cs A1 c1 Bs n AC cC AT cT AL cL σ) (hb : Below w.heap.size w w1) : Dw w0 wS w1 g m b4 b5 A0 c0 Cs A1 c1 Bs n AC cC AT cT AL cL σ := h.pick (h.d.rd.below hb) (Kept.of_below hb _)
theorem Dw.drew (h : Dw w0 wS w g m b4 b5 A0 c0 Cs A1 c1 Bs n AC cC AT cT AL cL σ) : Dw w0 wS w.drew g m b4 b5 A0 c0 Cs A1 c1 Bs n AC cC AT cT AL cL σ := h.below (ze (Below.refl _ _))
theorem Dw.c40 (h : Dw w0 wS w g m b4 b5 A0 c0 Cs A1 c1 Bs n AC cC AT cT AL cL σ) : w.cell? ⟨b4, 0, none⟩ = some (.slice A0 Cs.length c0) := (zd h.p 0).trans rfl
theorem Dw.c41 (h : Dw w0 wS w g m b4 b5 A0 c0 Cs A1 c1 Bs n AC cC AT cT AL cL σ) : w.cell? ⟨b4, 1, none⟩ = some (.slice A1 Bs.length c1) := (zd h.p 1).trans rfl
theorem Dw.c50 (h : Dw w0 wS w g m b4 b5 A0 c0 Cs A1 c1 Bs n AC cC AT cT AL cL σ) : w.cell? ⟨b5, 0, none⟩ = some (.slice AC σ.C.length cC) := (zd h.s 0).trans rfl
theorem Dw.c51 (h : Dw w0 wS w g m b4 b5 A0 c0 Cs A1 c1 Bs n AC cC AT cT AL cL σ) : w.cell? ⟨b5, 1, none⟩ = some (.slice AT σ.T.length cT) := (zd h.s 1).trans rfl
theorem Dw.c52 (h : Dw w0 wS w g m b4 b5 A0 c0 Cs A1 c1 Bs n AC cC AT cT AL cL σ) : w.cell? ⟨b5, 2, none⟩ = some (.int .i64 σ.clk) := (zd h.s 2).trans rfl
theorem Dw.c53 (h : Dw w0 wS w g m b4 b5 A0 c0 Cs A1 c1 Bs n AC cC AT cT AL cL σ) : w.cell? ⟨b5, 3, none⟩ = some (.slice AL σ.L.length cL) := (zd h.s 3).trans rfl
theorem Dw.put (h : Dw w0 wS w g m b4 b5 A0 c0 Cs A1 c1 Bs n AC cC AT cT AL cL σ) (ho : xO w wS.heap.size Bs Cs.length n' BC dC BT dT BL dL σ') :
  Dw w0 wS (set4 w b5 (.slice BC σ'.C.length dC) (.slice BT σ'.T.length dT) (.int .i64 σ'.clk) (.slice BL σ'.L.length dL)) g m b4 b5 A0 c0 Cs A1 c1 Bs n' BC dC BT dT BL dL σ' := by
 have hb := h.b
 exact ⟨(h.d.sys ho).set4 h.s (by omega) _ _ _ _, h.b, (set4_far (by omega)).trans h.p, set4_blk h.s, (set4_far (by omega)).trans h.r0, (set4_far (by omega)).trans h.r1⟩
def fin6 (w : World) (b : Nat) (p0 p1 s0 s1 s2 s3 : Value) : World := set4 ((w.setCell ⟨b, 0, none⟩ p0).setCell ⟨b, 1, none⟩ p1) (b + 1) s0 s1 s2 s3
theorem Dw.final (h : Dw w0 wS w g m b4 b5 A0 c0 Cs A1 c1 Bs n AC cC AT cT AL cL σ) {W : World} (hW : W = fin6 w wS.heap.size (.slice A0 Cs.length c0) (.slice A1 Bs.length c1) (.slice AC σ.C.length cC) (.slice AT σ.T.length cT) (.int .i64 σ.clk) (.slice AL σ.L.length cL)) :
  W.heap[wS.heap.size]? = some (.cells #[.slice A0 Cs.length c0, .slice A1 Bs.length c1] 37 (0, 0)) ∧ W.heap[wS.heap.size + 1]? = some (.cells #[.slice AC σ.C.length cC, .slice AT σ.T.length cT, .int .i64 σ.clk, .slice AL σ.L.length cL] 27 (0, 0)) ∧ Dz w0 wS W g m A0 c0 Cs A1 c1 Bs n AC cC AT cT AL cL σ := by
 subst hW
 have k0 := zu (zu h.r0 0 (.slice A0 Cs.length c0)) 1 (.slice A1 Bs.length c1)
 have d2 := (h.d.set h.r0 (.inl rfl) (Nat.le_refl _) 0 (.slice A0 Cs.length c0)).set (zu h.r0 0 (.slice A0 Cs.length c0)) (.inl rfl) (Nat.le_refl _) 1 (.slice A1 Bs.length c1)
 have k1 : ((w.setCell ⟨wS.heap.size, 0, none⟩ (.slice A0 Cs.length c0)).setCell ⟨wS.heap.size, 1, none⟩ (.slice A1 Bs.length c1)).heap[wS.heap.size + 1]? = some (.cells #[.slice none 0 0, .slice none 0 0, .int .i64 0, .slice none 0 0] 27 (0, 0)) :=
  ((Below.heap_setCell _ ⟨wS.heap.size, 1, none⟩ _ _ (by show wS.heap.size + 1 ≠ wS.heap.size; omega)).trans (Below.heap_setCell _ ⟨wS.heap.size, 0, none⟩ _ _ (by show wS.heap.size + 1 ≠ wS.heap.size; omega))).trans h.r1
 exact ⟨(set4_far (by omega)).trans k0, set4_blk k1, d2.set4 k1 (by omega) _ _ _ _⟩
end
def DrawsSys (w0 w : World) (g : Nat) (m : Int) (n : Nat) (e : Ending) (w' : World) : Prop := ∃ A0 c0 Cs A1 c1 Bs AC cC AT cT AL cL σ, e = .returned (.tuple #[.agg #[.slice A0 (List.length Cs) c0, .slice A1 (List.length Bs) c1], sysA AC cC AT cT AL cL σ]) ∧ Dz w0 w w' g m A0 c0 Cs A1 c1 Bs n AC cC AT cT AL cL σ
set_option maxHeartbeats 8000000 in
set_option maxRecDepth 100000 in
theorem sys_draws {w0 w : World} {g : Nat} {m : Int} (h : Rdr w0 w g m) (hm : m ≤ 500000) : Calls Try.prog 83 #[.pointer (some ⟨g, 0, none⟩)] w (DrawsSys w0 w g (m + 5000) 700) := by
 have hus := Try.underlying27
 have hup := Try.underlying37
 obtain ⟨Post, hPost⟩ : ∃ P, P = DrawsSys w0 w g (m + 5000) 700 := ⟨_, rfl⟩
 have HP := zb.mk hPost
 rw [← hPost]
 have HG := zb.mk (show g < w.heap.size by
  obtain ⟨A, c, b, p, h1, _⟩ := h
  exact zo h1)
 have HZ := zb.mk h.hb.size
 obtain ⟨W, hW⟩ : ∃ W, W = (w.alloc (.cells #[.slice none 0 0, .slice none 0 0] 37)).alloc (.cells #[.slice none 0 0, .slice none 0 0, .int .i64 0, .slice none 0 0] 27) := ⟨_, rfl⟩
 have HB := zb.mk (show Below w.heap.size w W by rw [hW]; exact zc (zc (Below.refl _ _) _) _)
 have HWS := zb.mk (show W.heap.size = w.heap.size + 2 by rw [hW]; simp)
 have E0 := zb.mk (show W.heap[w.heap.size]? = some (.cells #[.slice none 0 0, .slice none 0 0] 37 (0, 0)) by rw [hW]; exact zm (heap_alloc_new _ _) _)
 have E1 := zb.mk (show W.heap[w.heap.size + 1]? = some (.cells zSys 27 (0, 0)) by rw [hW]; exact yd (by simp))
 have HR := zb.mk (h.below HB.out)
 clear h hPost
 go_enter Try.func83, Try.ntmps83
 go_upto_region 1 with (fail)
 rw [← hW]
 clear hW
 go_upto_region 3 with (first
  | (go_at_call 56; refine (prog_draws HR.out (by omega)).mono ?_; rintro e w1 ⟨v0, v1, Cs, Bs, rfl, p0, p1, hok, hpos, hr, hk⟩; obtain ⟨A0, c0, rfl⟩ := Kd.zJ p0; obtain ⟨A1, c1, rfl⟩ := Kd.zJ p1; have HP0 := zb.mk p0; have HP1 := zb.mk p1; have HOK := zb.mk hok; have HPOS := zb.mk hpos; have HR1 := zb.mk hr; have HK1 := zb.mk hk; clear p0 p1 hok hpos hr hk)
  | (go_at_call 106; refine (new_calls A0 c0 A1 c1 Cs Bs _ (Kd.zt (Kd.zH HP0.out).2.2 (zc (Below.refl _ _) _)) (Kd.zt (Kd.zH HP1.out).2.2 (zc (Below.refl _ _) _)) HOK.out).mono ?_; rintro e w2 ⟨AC, cC, AT, cT, AL, cL, rfl, hb, ho⟩; have HB2 := zb.mk hb; have HO2 := zb.mk ho; unfold sysA; clear hb ho))
 obtain ⟨Z, hZ⟩ : ∃ Z, Z = w2.alloc (.cells #[.slice AC (St.new Cs).C.length cC, .slice AT (St.new Cs).T.length cT, .int .i64 (St.new Cs).clk, .slice AL (St.new Cs).L.length cL] 27) := ⟨_, rfl⟩
 obtain ⟨b4, hb4⟩ : ∃ b, b = w1.heap.size := ⟨_, rfl⟩
 obtain ⟨b5, hb5⟩ : ∃ b, b = w2.heap.size := ⟨_, rfl⟩
 have HD := zb.mk (show Dw w0 w Z g (m + 3000) b4 b5 A0 c0 Cs A1 c1 Bs 1 AC cC AT cT AL cL (St.new Cs) by
  obtain ⟨V, hV⟩ : ∃ V, V = w1.alloc (.cells #[.slice A0 Cs.length c0, .slice A1 Bs.length c1] 37) := ⟨_, rfl⟩
  have hb2 := HB2.out
  have ho2 := HO2.out
  rw [← hV] at hb2 ho2
  have sV : V.heap.size = w1.heap.size + 1 := by rw [hV]; simp
  have s1 : w.heap.size + 2 ≤ w1.heap.size := by have h1 := HWS.out; have h2 := HK1.out.1; omega
  have s2 := hb2.size
  have b1 : Below w1.heap.size w1 V := by rw [hV]; exact zc (Below.refl _ _) _
  have b3 : Below w2.heap.size w2 Z := by rw [hZ]; exact zc (Below.refl _ _) _
  have bz : Below w1.heap.size w1 Z := zi (zi b1 hb2) b3
  have kz : Kept W Z (fun j => j = g) := HK1.out.below bz
  have q4 : V.heap[w1.heap.size]? = some (.cells #[.slice A0 Cs.length c0, .slice A1 Bs.length c1] 37 (0, 0)) := by rw [hV]; exact heap_alloc_new _ _
  have q5 : Z.heap[w2.heap.size]? = some (.cells (sysB AC cC AT cT AL cL (St.new Cs)) 27 (0, 0)) := by rw [hZ]; exact heap_alloc_new _ _
  have bVZ : Below V.heap.size V Z := zi hb2 b3
  refine ⟨⟨HR1.out.below bz, yD (Kept.of_below HB.out _) kz, HZ.out, HG.out, Kd.zN (Kd.zP HP0.out HB.out.size) bz, Kd.zN (Kd.zP HP1.out HB.out.size) bz, HOK.out, HPOS.out, (ho2.below b3).mono (by omega) (Nat.le_refl _)⟩, ⟨by omega, by omega, by omega⟩, by rw [hb4]; exact (bVZ.block _ (zo q4)).trans q4, by rw [hb5]; exact q5, ?_, ?_⟩
  ·have e := HR.out.kept HK1.out E0.out (by decide)
   exact (bz.block _ (zo e)).trans e
  ·have e := HR.out.kept HK1.out E1.out (by decide)
   exact (bz.block _ (zo e)).trans e)
 rw [← hZ, ← hb4, ← hb5]
 clear hZ hb4 hb5 HR HB HWS E0 E1 HP0 HP1 HOK HPOS HR1 HK1 HB2 HO2
 refine yc (n := 12) (S := fun w' => w'.cell? ⟨b4, 0, none⟩ = some (.slice A0 Cs.length c0) ∧ w'.cell? ⟨b4, 1, none⟩ = some (.slice A1 Bs.length c1) ∧ w'.cell? ⟨b5, 0, none⟩ = some (.slice AC (St.new Cs).C.length cC) ∧ w'.cell? ⟨b5, 1, none⟩ = some (.slice AT (St.new Cs).T.length cT) ∧ w'.cell? ⟨b5, 2, none⟩ = some (.int .i64 (St.new Cs).clk) ∧ w'.cell? ⟨b5, 3, none⟩ = some (.slice AL (St.new Cs).L.length cL)) (ds := [11]) (bm 12 0) (by kernel_rfl) rfl rfl ⟨HD.out.drew.c40, HD.out.drew.c41, HD.out.drew.c50, HD.out.drew.c51, HD.out.drew.c52, HD.out.drew.c53⟩ (fun hHeld => ?_)
 refine zl (i := 2) (N := some 17) (v := ?_) (a' := ?_) (bm 12 4) rfl rfl (by kernel_rfl) (fun _ _ _ h => h) (Or.inl ⟨by rfl, ?_⟩) ?_ ?_
 rotate_left
 ·intro w'
  go_simp
  with_reducible rfl
 rotate_left
 ·simp only [Act.put, List.setIfInBounds_toArray, List.set_cons_zero, List.set_cons_succ, zg, zh]
  rfl
 refine zl (i := 3) (N := some 18) (v := ?_) (a' := ?_) (bm 12 12) rfl rfl (by kernel_rfl) (fun _ _ _ h => h) (Or.inl ⟨by rfl, ?_⟩) ?_ ?_
 rotate_left
 ·intro w'
  go_simp
  with_reducible rfl
 rotate_left
 ·simp only [Act.put, List.setIfInBounds_toArray, List.set_cons_zero, List.set_cons_succ, zg, zh]
  rfl
 refine zA (i := 0) (N := some 15) (v := ?_) (a' := ?_) (bm 12 13) rfl rfl (by kernel_rfl) (fun _ _ _ h => h) (Or.inl ⟨by rfl, ?_⟩) hHeld ?_ ?_
 rotate_left
 ·rintro w' ⟨s0, s1, s2, s3, s4, s5⟩
  go_simp
  with_reducible rfl
 rotate_left
 ·simp only [Act.put, List.setIfInBounds_toArray, List.set_cons_zero, List.set_cons_succ, zg, zh]
  rfl
 refine zA (i := 1) (N := some 16) (v := ?_) (a' := ?_) (bm 12 15) rfl rfl (by kernel_rfl) (fun _ _ _ h => h) (Or.inl ⟨by rfl, ?_⟩) hHeld ?_ ?_
 rotate_left
 ·rintro w' ⟨s0, s1, s2, s3, s4, s5⟩
  go_simp
  with_reducible rfl
 rotate_left
 ·simp only [Act.put, List.setIfInBounds_toArray, List.set_cons_zero, List.set_cons_succ, zg, zh]
  rfl
 refine yE (i := 4) (N := some 19) (bm 12 31) rfl rfl (by kernel_rfl) (by decide) (fun K hK => ?_)
 refine xQ Try.func55 (by kernel_rfl) rfl #[.pointer (some ⟨g, 0, none⟩), .int .i64 120] (by rfl) rfl rfl (by simp only [List.map_toArray, List.map_cons, List.map_nil]; rfl) ?_
 with_reducible refine (zQ 120 HD.out.drew.d.rd (by omega) (by omega)).mono ?_
 rintro e wa ⟨y, rfl, y0, y1, _, hr, hk⟩
 refine ⟨_, rfl, ?_⟩
 have HDa := zb.mk (HD.out.drew.pick hr hk)
 have hy := y1 (by decide)
 have EY := zb.mk (show wrap64 (10 + y) = 10 + y ∧ 0 ≤ y ∧ y < 120 by refine ⟨?_, y0, hy⟩; unfold wrap64; omega)
 clear hr hk y0 y1 hy
 refine hK.out _ _ ⟨HDa.out.c40, HDa.out.c41, HDa.out.c50, HDa.out.c51, HDa.out.c52, HDa.out.c53⟩ (fun hHeld => ?_)
 clear hK K
 refine zp (a' := ?_) ?_ ?_
 rotate_left
 ·show Act.put _ (some 19) _ = _
  simp only [Act.put, List.setIfInBounds_toArray, List.set_cons_zero, List.set_cons_succ, zg, zh]
  rfl
 refine zl (i := 5) (N := some 20) (v := ?_) (a' := ?_) (bm 12 63) rfl rfl (by kernel_rfl) (fun _ _ _ h => h) (Or.inl ⟨by rfl, ?_⟩) ?_ ?_
 rotate_left
 ·intro w'
  go_simp
  with_reducible rfl
 rotate_left
 ·simp only [Act.put, List.setIfInBounds_toArray, List.set_cons_zero, List.set_cons_succ, zg, zh]
  rfl
 refine yE (i := 6) (N := some 21) (bm 12 127) rfl rfl (by kernel_rfl) (by decide) (fun K hK => ?_)
 refine xQ Try.func107 (by kernel_rfl) rfl #[.pointer (some ⟨g, 0, none⟩), .int .i64 (wrap64 (10 + y))] (by rfl) rfl rfl (by simp only [List.map_toArray, List.map_cons, List.map_nil]; rfl) ?_
 with_reducible refine (turns_draws (wrap64 (10 + y)) HDa.out.d.rd (by omega) (by have h := EY.out; rw [h.1]; omega) (by have h := EY.out; rw [h.1]; omega)).mono ?_
 rintro e wb ⟨AX, cX, tu, rfl, hx, hxl, hr, hk⟩
 refine ⟨_, rfl, ?_⟩
 have HDb := zb.mk (HDa.out.pick hr hk)
 have HX := zb.mk (Kd.zH hx).2.2
 have HXL := zb.mk hxl
 clear hr hk hx hxl
 refine hK.out _ _ ⟨HDb.out.c40, HDb.out.c41, HDb.out.c50, HDb.out.c51, HDb.out.c52, HDb.out.c53⟩ (fun hHeld => ?_)
 clear hK K
 refine zp (a' := ?_) ?_ ?_
 rotate_left
 ·show Act.put _ (some 21) _ = _
  simp only [Act.put, List.setIfInBounds_toArray, List.set_cons_zero, List.set_cons_succ, zg, zh]
  rfl
 refine yE (i := 7) (N := some 22) (bm 12 255) rfl rfl (by kernel_rfl) (by decide) (fun K hK => ?_)
 refine xQ Try.func57 (by kernel_rfl) rfl #[.agg #[.slice A0 Cs.length c0, .slice A1 Bs.length c1], sysA AC cC AT cT AL cL (St.new Cs), .slice AX tu.length cX] (by rfl) rfl rfl (by simp only [List.map_toArray, List.map_cons, List.map_nil]; rfl) ?_
 with_reducible refine ((run_calls A0 c0 A1 c1 AC cC AT cT AL cL AX cX tu HDb.out.d.C0 HDb.out.d.C1 HDb.out.d.o.sees HDb.out.d.o.rows (fun _ => HDb.out.d.o.inv) HX.out HXL.out).mono (fun e w' h => h.fine (new_sysF' HDb.out.d.ok))).mono ?_
 rintro e wc ⟨BC, dC, BT, dT, BL, dL, σ2, rfl, hb, ho⟩
 refine ⟨_, rfl, ?_⟩
 have HDc := zb.mk (HDb.out.below hb)
 have HO2 := zb.mk (ho.mono (n' := 700) HDb.out.d.K.1 (Nat.le_refl _))
 have HF := zb.mk (HDc.out.put HO2.out)
 unfold set4 at HF
 unfold sysA
 have u0 := zk HDc.out.s 0
 have u1 := zk HDc.out.s 1
 have u2 := zk HDc.out.s 2
 have u3 := zk HDc.out.s 3
 have v0 := HDc.out.c50
 have v1 := HDc.out.c51
 have v2 := HDc.out.c52
 have v3 := HDc.out.c53
 clear hb ho
 refine hK.out _ _ ⟨HDc.out.c40, HDc.out.c41, HDc.out.c50, HDc.out.c51, HDc.out.c52, HDc.out.c53⟩ (fun hHeld => ?_)
 clear hK K
 refine zp (a' := ?_) ?_ ?_
 rotate_left
 ·show Act.put _ (some 22) _ = _
  simp only [Act.put, List.setIfInBounds_toArray, List.set_cons_zero, List.set_cons_succ, zg, zh]
  rfl
 refine zl (i := 8) (N := some 14) (v := ?_) (a' := ?_) (bm 12 511) rfl rfl (by kernel_rfl) (fun _ _ _ h => h) (Or.inl ⟨by rfl, ?_⟩) ?_ ?_
 rotate_left
 ·intro w'
  go_simp
  with_reducible rfl
 rotate_left
 ·simp only [Act.put, List.setIfInBounds_toArray, List.set_cons_zero, List.set_cons_succ, zg, zh]
  rfl
 refine zl (i := 9) (N := some 23) (v := ?_) (a' := ?_) (bm 12 1023) rfl rfl (by kernel_rfl) (fun _ _ _ h => h) (Or.inl ⟨by rfl, ?_⟩) ?_ ?_
 rotate_left
 ·intro w'
  go_simp
  with_reducible rfl
 rotate_left
 ·simp only [Act.put, List.setIfInBounds_toArray, List.set_cons_zero, List.set_cons_succ, zg, zh]
  rfl
 refine zl (i := 10) (N := some 24) (v := ?_) (a' := ?_) (bm 12 2047) rfl rfl (by kernel_rfl) (fun _ _ _ h => h) (Or.inl ⟨by rfl, ?_⟩) ?_ ?_
 rotate_left
 ·intro w'
  go_simp
  with_reducible rfl
 rotate_left
 ·simp only [Act.put, List.setIfInBounds_toArray, List.set_cons_zero, List.set_cons_succ, zg, zh]
  rfl
 refine yR (i := 11) (N := none) (bm 12 4095) rfl rfl (by kernel_rfl) (by decide) (fun K hK => ?_)
 refine yQ (w1 := ?_) (by rfl) rfl ?_ ?_
 rotate_left
 ·go_simp
  rfl
 refine hK.out _ _ ?_
 clear hK K
 refine yt (by kernel_rfl) ?_
 obtain ⟨Z3, hZ3⟩ : ∃ Z, Z = (((wc.setCell ⟨b5, 0, none⟩ (.slice BC σ2.C.length dC)).setCell ⟨b5, 1, none⟩ (.slice BT σ2.T.length dT)).setCell ⟨b5, 2, none⟩ (.int .i64 σ2.clk)).setCell ⟨b5, 3, none⟩ (.slice BL σ2.L.length dL) := ⟨_, rfl⟩
 rw [← hZ3] at HF ⊢
 clear hZ3
 have HD := HF
 have HNE := zb.mk (show b4 ≠ w.heap.size ∧ b5 ≠ w.heap.size ∧ b4 ≠ w.heap.size + 1 ∧ b5 ≠ w.heap.size + 1 by have := HD.out.b; omega)
 have r00 := (zd HD.out.r0 0).trans rfl
 have r01 := (zd HD.out.r0 1).trans rfl
 have KZ := zb.mk (show Z3.heap[w.heap.size + 1]? = some (.cells #[.slice none 0 0, .slice none 0 0, .int .i64 0, .slice none 0 0] 27 (0, 0)) from HD.out.r1)
 have r10 := (zd KZ.out 0).trans rfl
 have r11 := (zd KZ.out 1).trans rfl
 have r12 := (zd KZ.out 2).trans rfl
 have r13 := (zd KZ.out 3).trans rfl
 have rf00 := zk HD.out.r0 0
 have rf01 := zk HD.out.r0 1
 have rf10 := zk KZ.out 0
 have rf11 := zk KZ.out 1
 have rf12 := zk KZ.out 2
 have rf13 := zk KZ.out 3
 clear HF
 go_upto_region 4 with (fail)
 refine yc (n := 4) (S := fun w' => w'.cell? ⟨b4, 0, none⟩ = some (.slice A0 Cs.length c0) ∧ w'.cell? ⟨b4, 1, none⟩ = some (.slice A1 Bs.length c1) ∧ w'.cell? ⟨b5, 0, none⟩ = some (.slice BC σ2.C.length dC) ∧ w'.cell? ⟨b5, 1, none⟩ = some (.slice BT σ2.T.length dT) ∧ w'.cell? ⟨b5, 2, none⟩ = some (.int .i64 σ2.clk) ∧ w'.cell? ⟨b5, 3, none⟩ = some (.slice BL σ2.L.length dL)) (ds := [3]) (bm 4 0) (by kernel_rfl) rfl rfl ⟨HD.out.drew.c40, HD.out.drew.c41, HD.out.drew.c50, HD.out.drew.c51, HD.out.drew.c52, HD.out.drew.c53⟩ (fun hHeld => ?_)
 refine zA (i := 0) (N := some 25) (v := ?_) (a' := ?_) (bm 4 1) rfl rfl (by kernel_rfl) (fun _ _ _ h => h) (Or.inl ⟨by rfl, ?_⟩) hHeld ?_ ?_
 rotate_left
 ·rintro w' ⟨s0, s1, s2, s3, s4, s5⟩
  go_simp
  with_reducible rfl
 rotate_left
 ·simp only [Act.put, List.setIfInBounds_toArray, List.set_cons_zero, List.set_cons_succ, zg, zh]
  rfl
 refine zA (i := 1) (N := some 26) (v := ?_) (a' := ?_) (bm 4 3) rfl rfl (by kernel_rfl) (fun _ _ _ h => h) (Or.inl ⟨by rfl, ?_⟩) hHeld ?_ ?_
 rotate_left
 ·rintro w' ⟨s0, s1, s2, s3, s4, s5⟩
  go_simp
  with_reducible rfl
 rotate_left
 ·simp only [Act.put, List.setIfInBounds_toArray, List.set_cons_zero, List.set_cons_succ, zg, zh]
  rfl
 refine yE (i := 2) (N := none) (bm 4 7) rfl rfl (by kernel_rfl) (by decide) (fun K hK => ?_)
 refine yQ (w1 := ?_) (by rfl) rfl ?_ ?_
 rotate_left
 ·go_simp
  rfl
 refine hK.out _ _ ⟨(xS HNE.out.1 (xS HNE.out.1 HD.out.drew.c40)), (xS HNE.out.1 (xS HNE.out.1 HD.out.drew.c41)), (xS HNE.out.2.1 (xS HNE.out.2.1 HD.out.drew.c50)), (xS HNE.out.2.1 (xS HNE.out.2.1 HD.out.drew.c51)), (xS HNE.out.2.1 (xS HNE.out.2.1 HD.out.drew.c52)), (xS HNE.out.2.1 (xS HNE.out.2.1 HD.out.drew.c53))⟩ (fun hHeld => ?_)
 clear hK K
 refine yR (i := 3) (N := none) (bm 4 15) rfl rfl (by kernel_rfl) (by decide) (fun K hK => ?_)
 refine yQ (w1 := ?_) (by rfl) rfl ?_ ?_
 rotate_left
 ·go_simp
  rfl
 refine hK.out _ _ ?_
 clear hK K
 refine yt (by kernel_rfl) ?_
 obtain ⟨W6, hW6⟩ : ∃ x, x = (((((Z3.setCell ⟨w.heap.size, 0, none⟩ (.slice A0 Cs.length c0)).setCell ⟨w.heap.size, 1, none⟩ (.slice A1 Bs.length c1)).setCell ⟨w.heap.size + 1, 0, none⟩ (.slice BC σ2.C.length dC)).setCell ⟨w.heap.size + 1, 1, none⟩ (.slice BT σ2.T.length dT)).setCell ⟨w.heap.size + 1, 2, none⟩ (.int .i64 σ2.clk)).setCell ⟨w.heap.size + 1, 3, none⟩ (.slice BL σ2.L.length dL) := ⟨_, rfl⟩
 rw [← hW6]
 obtain ⟨f0, f1, fd⟩ := HD.out.final (W := W6) hW6
 have F0 := zb.mk f0
 have F1 := zb.mk f1
 have FD := zb.mk fd
 clear hW6 f0 f1 fd r00 r01 r10 r11 r12 r13 rf00 rf01 rf10 rf11 rf12 rf13 hHeld
 go_wp2
 refine bodyPost_ret (results_cc rfl _ _ w.heap.size (w.heap.size + 1) 37 27 #[.slice A0 Cs.length c0, .slice A1 Bs.length c1] #[.slice BC σ2.C.length dC, .slice BT σ2.T.length dT, .int .i64 σ2.clk, .slice BL σ2.L.length dL] (0, 0) (0, 0) _ _ rfl F0.out hup rfl (by kernel_rfl) rfl F1.out hus rfl (by kernel_rfl)) rfl ?_
 rw [HP.out]
 exact ⟨A0, c0, Cs, A1, c1, Bs, BC, dC, BT, dT, BL, dL, σ2, rfl, FD.out.drew.mono (by omega)⟩
end Go.Proofs.Ytppapibjbjmmbaa.QSY
set_option linter.unusedVariables false
set_option linter.unusedSimpArgs false
namespace Go.Proofs.Ytppapibjbjmmbaa.QSY
open Go.RowKit Go.Proofs.YtppapibjbjmmbaaW.PrintWords Go.Proofs.YtppapibjbjmmbaaW.PrintLast Go.Proofs.YtppapibjbjmmbaaW.PrintMore
def LogOf (K L : List S50) : Prop := L = [] ∨ L = K ∨ (1 < K.length ∧ L = K.set 0 { K.getD 0 z50 with f2 := (K.getD (K.length - 1) z50).f2 + 1 })
structure Dl (w0 wS w : World) (g : Nat) (m : Int) (b4 : Nat) (A0 : Option Addr) (c0 : Nat) (Cs : List Int) (A1 : Option Addr) (n1 c1 : Nat) (vL : Value) (L : List S50) : Prop where
 rd : Rdr w0 w g m
 K : Kept wS w (fun j => j = g)
 z : w0.heap.size ≤ wS.heap.size
 g : g < wS.heap.size
 b : wS.heap.size + 1 ≤ b4
 p : w.heap[b4]? = some (.cells #[.slice A0 Cs.length c0, .slice A1 n1 c1] 37 (0, 0))
 r0 : w.heap[wS.heap.size]? = some (.cells #[.slice none 0 0, .slice none 0 0] 37 (0, 0))
 P0 : Kd.R (Kd.int .i64) 3 w wS.heap.size (fun _ => True) (.slice A0 Cs.length c0) Cs
 RL : Kd.R k50 50 w wS.heap.size (fun _ => True) vL L
section
variable {w0 wS w w1 : World} {g b4 n1 : Nat} {m m' : Int} {A0 A1 : Option Addr} {c0 c1 : Nat} {Cs : List Int} {L L' : List S50} {vL v' : Value}
theorem Dl.pick (h : Dl w0 wS w g m b4 A0 c0 Cs A1 n1 c1 vL L) (hr : Rdr w0 w1 g m') (hk : Kept w w1 (fun j => j = g)) : Dl w0 wS w1 g m' b4 A0 c0 Cs A1 n1 c1 vL L :=
 ⟨hr, yD h.K hk, h.z, h.g, h.b, h.rd.kept hk h.p (by decide), h.rd.kept hk h.r0 (by decide), h.rd.R hk h.P0 (by decide), h.rd.R hk h.RL (by decide)⟩
theorem Dl.below (h : Dl w0 wS w g m b4 A0 c0 Cs A1 n1 c1 vL L) (hb : Below w.heap.size w w1) : Dl w0 wS w1 g m b4 A0 c0 Cs A1 n1 c1 vL L := h.pick (h.rd.below hb) (Kept.of_below hb _)
theorem Dl.drew (h : Dl w0 wS w g m b4 A0 c0 Cs A1 n1 c1 vL L) : Dl w0 wS w.drew g m b4 A0 c0 Cs A1 n1 c1 vL L := h.below (ze (Below.refl _ _))
theorem Dl.p0 (h : Dl w0 wS w g m b4 A0 c0 Cs A1 n1 c1 vL L) : w.cell? ⟨b4, 0, none⟩ = some (.slice A0 Cs.length c0) := (zd h.p 0).trans rfl
theorem Dl.p1 (h : Dl w0 wS w g m b4 A0 c0 Cs A1 n1 c1 vL L) : w.cell? ⟨b4, 1, none⟩ = some (.slice A1 n1 c1) := (zd h.p 1).trans rfl
theorem Dl.row (h : Dl w0 wS w g m b4 A0 c0 Cs A1 n1 c1 vL L) (hr : Kd.R k50 50 w1 wS.heap.size (fun _ => True) v' L') (hg : w.grownBy w1 vL.ownBlock) : Dl w0 wS w1 g m b4 A0 c0 Cs A1 n1 c1 v' L' := by
 have hbl := zK h.RL hg
 exact ⟨h.rd.grown h.RL (by decide) h.z hg, h.K.of_grown hg (fun k hk => .inr (Kd.yV h.RL k hk)), h.z, h.g, h.b, (hbl _ _ _ (by decide) h.p).trans h.p, (hbl _ _ _ (by decide) h.r0).trans h.r0, zR h.P0 (fun k q cells _ _ hq hc => hbl k q cells (by rw [List.mem_singleton.1 hq]; decide) hc), hr⟩
theorem Dl.when {gL cL : Nat} {n : Nat} (h : Dl w0 wS w g m b4 A0 c0 Cs A1 n1 c1 (.slice (some ⟨gL, 0, none⟩) n cL) L) (hn : 0 < n) (x : Int) : Dl w0 wS (w.setCell ⟨gL, 2, none⟩ (.int .i64 x)) g m b4 A0 c0 Cs A1 n1 c1 (.slice (some ⟨gL, 0, none⟩) n cL) (L.set 0 { L.getD 0 z50 with f2 := x }) := by
 obtain ⟨c, hcl, hM, hcc, hfr⟩ := Kd.R_elem h.RL z50 0 (Int.le_refl _) (by omega)
 obtain ⟨v3, v4, rfl, g3, g4⟩ := k50_openM hM
 obtain ⟨r1, r2⟩ := Kd.R_seg h.RL 0 (Int.le_refl _) (by omega) (seg := [.int .i64 x]) (j := 2) hcl hcc (by show 2 + 1 ≤ 6; omega) (x' := { L.getD 0 z50 with f2 := x }) (k50_mkM w wS.heap.size _ { L.getD 0 z50 with f2 := x } g3 g4) (fun _ hk => hk)
 exact h.row r1 r2
theorem Dl.at (h : Dl w0 wS w g m b4 A0 c0 Cs A1 n1 c1 vL L) (i : Nat) (hi : i < L.length) : ∃ gL cL, vL = .slice (some ⟨gL, 0, none⟩) L.length cL ∧ w.cell? ⟨gL, i * 6 + 2, none⟩ = some (.int .i64 (L.getD i z50).f2) ∧ ∀ j, w.frozen? ⟨gL, j, none⟩ = false := by
 obtain ⟨gL, cL, rfl, b0, b1, cells, hc⟩ := Kd.xT h.RL (show 0 < L.length by omega)
 obtain ⟨c, hcl, hM, hcc, hfr⟩ := Kd.R_elem h.RL z50 (i : Int) (by omega) (by omega)
 obtain ⟨v3, v4, rfl, g3, g4⟩ := k50_openM hM
 have e := hcc 2 _ rfl
 rw [Int.toNat_natCast] at e
 exact ⟨gL, cL, rfl, e, fun j => zk hc j⟩
end
theorem Dl.fin {w0 wS w : World} {g b4 n1 : Nat} {m : Int} {A0 A1 : Option Addr} {c0 c1 : Nat} {Cs : List Int} {L : List S50} {vL : Value} (h : Dl w0 wS w g m b4 A0 c0 Cs A1 n1 c1 vL L) :
  ((w.setCell ⟨wS.heap.size, 0, none⟩ (.slice A0 Cs.length c0)).setCell ⟨wS.heap.size, 1, none⟩ (.slice A1 n1 c1)).heap[wS.heap.size]? = some (.cells #[.slice A0 Cs.length c0, .slice A1 n1 c1] 37 (0, 0)) ∧
  Rdr w0 ((w.setCell ⟨wS.heap.size, 0, none⟩ (.slice A0 Cs.length c0)).setCell ⟨wS.heap.size, 1, none⟩ (.slice A1 n1 c1)) g m ∧ Kept wS ((w.setCell ⟨wS.heap.size, 0, none⟩ (.slice A0 Cs.length c0)).setCell ⟨wS.heap.size, 1, none⟩ (.slice A1 n1 c1)) (fun j => j = g) ∧
  Kd.R (Kd.int .i64) 3 ((w.setCell ⟨wS.heap.size, 0, none⟩ (.slice A0 Cs.length c0)).setCell ⟨wS.heap.size, 1, none⟩ (.slice A1 n1 c1)) wS.heap.size (fun _ => True) (.slice A0 Cs.length c0) Cs ∧ Kd.R k50 50 ((w.setCell ⟨wS.heap.size, 0, none⟩ (.slice A0 Cs.length c0)).setCell ⟨wS.heap.size, 1, none⟩ (.slice A1 n1 c1)) wS.heap.size (fun _ => True) vL L := by
 have hg : wS.heap.size ≠ g := by have := h.g; omega
 have k0 := zu (zu h.r0 0 (.slice A0 Cs.length c0)) 1 (.slice A1 n1 c1)
 exact ⟨k0, (h.rd.set hg h.z 0 _).set hg h.z 1 _, (h.K.setCell (p := ⟨wS.heap.size, 0, none⟩) (.inr (Nat.le_refl _)) _).setCell (p := ⟨wS.heap.size, 1, none⟩) (.inr (Nat.le_refl _)) _, R_box h.P0 h.r0 (by decide) _ _, R_box h.RL h.r0 (by decide) _ _⟩
theorem Ran.log {w w1 : World} {Cs : List Int} {Bs : List (List zO)} {n : Nat} {σ : St} {e : Ending} (h : Ran w Cs Bs n σ e w1) (hi : Inv Bs Cs.length σ) :
  ∃ X0 n0 d0 X1 n2 d1 clk AL cL L b, e = .returned (.tuple #[.agg #[.slice X0 n0 d0, .slice X1 n2 d1, .int .i64 clk, .slice AL (List.length L) cL], .bool b]) ∧ Below w.heap.size w w1 ∧ Kd.R k50 50 w1 w.heap.size (fun _ => True) (.slice AL (List.length L) cL) L ∧ ∃ σ', Inv Bs Cs.length σ' ∧ (L = [] ∨ L = σ'.L) := by
 obtain ⟨hb, h⟩ := h
 rcases h with ⟨_, rfl⟩ | ⟨_, BC, dC, BT, dT, BL, dL, σ', rfl, ⟨N, T, hV, hT⟩, hI, hn⟩
 ·exact ⟨none, 0, 0, none, 0, 0, 0, none, 0, [], false, rfl, hb, Kd.R_nil _ _ _ _ _, σ, hi, .inl rfl⟩
 ·exact ⟨BC, _, dC, BT, _, dT, σ'.clk, BL, dL, σ'.L, true, rfl, hb, Kd.zT hV.rL (fun _ _ => trivial), σ', hI, .inr rfl⟩
def DrawsLog (w0 w : World) (g : Nat) (m : Int) (e : Ending) (w' : World) : Prop := ∃ A0 c0 Cs A1 n1 c1 AL cL L, e = .returned (.tuple #[.agg #[.slice A0 (List.length Cs) c0, .slice A1 n1 c1], .slice AL (List.length L) cL]) ∧ (Rdr w0 w' g m ∧ Kept w w' (fun j => j = g) ∧ Kd.R (Kd.int .i64) 3 w' w.heap.size (fun _ => True) (.slice A0 (List.length Cs) c0) Cs ∧ Kd.R k50 50 w' w.heap.size (fun _ => True) (.slice AL (List.length L) cL) L) ∧ ∃ Bs σ, okF Cs Bs = true ∧ Inv Bs (List.length Cs) σ ∧ LogOf σ.L L
set_option maxHeartbeats 8000000 in
set_option maxRecDepth 100000 in
theorem log_draws {w0 w : World} {g : Nat} {m : Int} (h : Rdr w0 w g m) (hm : m ≤ 500000) : Calls Try.prog 66 #[.pointer (some ⟨g, 0, none⟩)] w (DrawsLog w0 w g (m + 6000)) := by
 have hus := Try.underlying27
 have hup := Try.underlying37
 obtain ⟨Post, hPost⟩ : ∃ P, P = DrawsLog w0 w g (m + 6000) := ⟨_, rfl⟩
 have HP := zb.mk hPost
 rw [← hPost]
 have HG := zb.mk (show g < w.heap.size by
  obtain ⟨A, c, b, p, h1, _⟩ := h
  exact zo h1)
 have HZ := zb.mk h.hb.size
 obtain ⟨W, hW⟩ : ∃ W, W = w.alloc (.cells #[.slice none 0 0, .slice none 0 0] 37) := ⟨_, rfl⟩
 have HB := zb.mk (show Below w.heap.size w W by rw [hW]; exact zc (Below.refl _ _) _)
 have HWS := zb.mk (show W.heap.size = w.heap.size + 1 by rw [hW]; simp)
 have E0 := zb.mk (show W.heap[w.heap.size]? = some (.cells #[.slice none 0 0, .slice none 0 0] 37 (0, 0)) by rw [hW]; exact heap_alloc_new _ _)
 have HR := zb.mk (h.below HB.out)
 clear h hPost
 go_enter Try.func66, Try.ntmps66
 go_upto_region 1 with (fail)
 rw [← hW]
 clear hW
 go_upto_region 2 with (go_at_call 83; refine (sys_draws HR.out (by omega)).mono ?_; rintro e w1 ⟨A0, c0, Cs, A1, c1, Bs, AC, cC, AT, cT, AL, cL, σ, rfl, hd⟩; have HD1 := zb.mk hd; unfold sysA; clear hd)
 obtain ⟨V, hV⟩ : ∃ V, V = (w1.alloc (.cells #[.slice A0 Cs.length c0, .slice A1 Bs.length c1] 37)).alloc (.cells #[.slice AC σ.C.length cC, .slice AT σ.T.length cT, .int .i64 σ.clk, .slice AL σ.L.length cL] 27) := ⟨_, rfl⟩
 have HBV := zb.mk (show Below w1.heap.size w1 V by rw [hV]; exact zc (zc (Below.refl _ _) _) _)
 have EP := zb.mk (show V.heap[w1.heap.size]? = some (.cells #[.slice A0 Cs.length c0, .slice A1 Bs.length c1] 37 (0, 0)) by rw [hV]; exact zm (heap_alloc_new _ _) _)
 have ES := zb.mk (show V.heap[w1.heap.size + 1]? = some (.cells #[.slice AC σ.C.length cC, .slice AT σ.T.length cT, .int .i64 σ.clk, .slice AL σ.L.length cL] 27 (0, 0)) by rw [hV]; exact yd (by simp))
 have HDV := zb.mk (HD1.out.below HBV.out)
 rw [← hV]
 obtain ⟨b4, hb4⟩ : ∃ b, b = w1.heap.size := ⟨_, rfl⟩
 have HB4 := zb.mk hb4
 rw [← hb4] at EP ES ⊢
 clear hV hb4
 have p0 := (zd EP.out 0).trans rfl
 have p1 := (zd EP.out 1).trans rfl
 have s0 := (zd ES.out 0).trans rfl
 have s1 := (zd ES.out 1).trans rfl
 have s2 := (zd ES.out 2).trans rfl
 have s3 := (zd ES.out 3).trans rfl
 go_upto_region 3 with (go_at_call 96; refine ((rest_calls A0 c0 A1 c1 AC cC AT cT AL cL 1000 HDV.out.C0 HDV.out.C1 HDV.out.o.sees HDV.out.o.rows (fun _ => HDV.out.o.inv) (by decide)).mono (fun e w' h => h.log HDV.out.o.inv)).mono ?_; rintro e w2 ⟨X0, n0, d0, X1, n2, d1, clk, BL, dL, L, b, rfl, hb, hL, σ', hI, hK⟩; have HB2 := zb.mk hb; have HL := zb.mk hL; have HI := zb.mk hI; have HK := zb.mk hK; clear hb hL hI hK)
 obtain ⟨Z, hZ⟩ : ∃ Z, Z = w2.alloc (.cells #[.slice X0 n0 d0, .slice X1 n2 d1, .int .i64 clk, .slice BL L.length dL] 27) := ⟨_, rfl⟩
 have EX := zb.mk (show Z.heap[w2.heap.size]? = some (.cells #[.slice X0 n0 d0, .slice X1 n2 d1, .int .i64 clk, .slice BL L.length dL] 27 (0, 0)) by rw [hZ]; exact heap_alloc_new _ _)
 have HD := zb.mk (show Dl w0 w Z g (m + 5000) b4 A0 c0 Cs A1 Bs.length c1 (.slice BL L.length dL) L by
  have bz : Below V.heap.size V Z := by rw [hZ]; exact zc HB2.out _
  have d := HDV.out.below bz
  have s1 : w.heap.size + 1 ≤ w1.heap.size := by have h1 := HWS.out; have h2 := HD1.out.K.1; omega
  have s2 := HBV.out.size
  have e := HR.out.kept HD1.out.K E0.out (by decide)
  have b1 : Below w1.heap.size w1 Z := zi HBV.out bz
  exact ⟨d.rd, yD (Kept.of_below HB.out _) d.K, HZ.out, HG.out, by have := HB4.out; omega, (bz.block _ (zo EP.out)).trans EP.out, (b1.block _ (zo e)).trans e, Kd.zP d.P0 HB.out.size, by rw [hZ]; exact Kd.zP (Kd.zN HL.out (zc (Below.refl _ _) _)) (by omega)⟩)
 have HOK := zb.mk (And.intro HDV.out.ok HI.out)
 rw [← hZ]
 clear hZ HR HB HWS E0 HD1 HBV EP ES HDV HB4 HB2 HL HI p0 p1 s0 s1 s2 s3
 have x3 := (zd EX.out 3).trans rfl
 go_upto_region 4 with (fail)
 clear x3 EX
 obtain ⟨nL, hnL⟩ : ∃ n, n = L.length := ⟨_, rfl⟩
 have HNL := zb.mk hnL
 rw [← hnL] at HD ⊢
 clear hnL
 by_cases h1 : 1 < nL
 ·have h1i : (1 : Int) < (nL : Int) := by omega
  go_upto_if 29 with (go_at_call 55; refine (zQ _ HD.out.rd (by omega) (by omega)).mono ?_; rintro e w3 ⟨y, rfl, y0, y1, y2, hr, hk⟩; have n0 := zb.mk (HD.out.pick hr hk); clear HD hr hk y0 y1 y2; have HD := n0; clear n0)
  ·rename_i hy
   have H1 := zb.mk h1
   obtain ⟨q, hq⟩ : ∃ q, q = nL - 1 := ⟨_, rfl⟩
   have HQ := zb.mk hq
   obtain ⟨gL, cL', hv, xl, hfz⟩ := HD.out.at q (by have := HNL.out; omega)
   have EW := zb.mk (show wrap64 ((nL : Int) - 1) = (q : Int) by unfold wrap64; have := HK.out; have hl := HNL.out; have hh : (nL : Int) ≤ 1000000000 := (by rcases HK.out with h | h <;> rw [h] at hl <;> first | (simp at hl; omega) | (have := HOK.out.2.len_le; omega)); omega)
   obtain ⟨hv1, hv3⟩ : BL = some ⟨gL, 0, none⟩ ∧ dL = cL' := by injection hv with a b c; exact ⟨a, c⟩
   obtain ⟨gg, cc, hw, xz, hfz2⟩ := HD.out.at 0 (by have := HNL.out; omega)
   have hgg : gg = gL := by
    rw [hv1] at hw
    injection hw with a b c
    injection a with a
    injection a with a
    exact a.symm
   subst hv1 hv3 hgg
   have HD2 := zb.mk (HD.out.when (show 0 < nL by omega))
   have q0 : (0 : Int) ≤ (q : Int) := by omega
   have q1 : (q : Int) < (nL : Int) := by omega
   have n1 : 0 < nL := by omega
   have z0 := hfz 2
   have z2 : w3.cell? ⟨gg, 2, none⟩ = some (.int .i64 (L.getD 0 z50).f2) := by simpa using xz
   obtain ⟨x, hx⟩ : ∃ x, x = (L.getD q z50).f2 := ⟨_, rfl⟩
   obtain ⟨y2, hy2⟩ : ∃ x, x = (L.getD 0 z50).f2 := ⟨_, rfl⟩
   have HX := zb.mk hx
   rw [← hx] at xl
   rw [← hy2] at z2
   have e1 := EW.out
   clear hfz hfz2 xz hv hw hq hx hy2 HD
   go_upto_region 6 with (fail)
   have HLO := zb.mk (show LogOf σ'.L (L.set 0 { L.getD 0 z50 with f2 := wrap64 (x + 1) }) by
    have hl := HNL.out
    have hq := HQ.out
    rcases HK.out with h | h
    ·rw [h] at hl; simp at hl; omega
    ·have hm : L.getD q z50 ∈ σ'.L := by rw [← h]; exact xC (by omega)
     have hw := (HOK.out.2.ents _ hm).w
     have ew : wrap64 (x + 1) = x + 1 := by rw [HX.out]; unfold wrap64; omega
     rw [ew, HX.out, h]
     refine .inr (.inr ⟨by rw [← h]; omega, ?_⟩)
     rw [show σ'.L.length - 1 = q by rw [← h]; omega])
   have HD := zb.mk (HD2.out (wrap64 (x + 1)))
   have HN2 := zb.mk (show nL = (L.set 0 { L.getD 0 z50 with f2 := wrap64 (x + 1) }).length by rw [List.length_set]; exact HNL.out)
   obtain ⟨L2, hL2⟩ : ∃ l, l = L.set 0 { L.getD 0 z50 with f2 := wrap64 (x + 1) } := ⟨_, rfl⟩
   obtain ⟨w4, hw4⟩ : ∃ y, y = w3.setCell ⟨gg, 2, none⟩ (.int .i64 (wrap64 (x + 1))) := ⟨_, rfl⟩
   rw [← hL2] at HLO HD HN2
   rw [← hw4] at HD ⊢
   clear HNL hL2 hw4 HD2 xl z2 z0 q0 q1 n1 e1
   have HNL := HN2
   have q0 := HD.out.p0
   have q1 := HD.out.p1
   have r0 := (zd HD.out.r0 0).trans rfl
   have r1 := (zd HD.out.r0 1).trans rfl
   have f0 := zk HD.out.r0 0
   have f1 := zk HD.out.r0 1
   go_wp2
   have HF := zb.mk HD.out.fin
   refine bodyPost_ret (yy rfl _ _ w.heap.size 37 #[.slice A0 Cs.length c0, .slice A1 Bs.length c1] (0, 0) _ rfl HF.out.1 hup rfl (by kernel_rfl)) rfl ?_
   rw [HP.out]
   have hz := HNL.out
   subst hz
   exact ⟨A0, c0, Cs, A1, Bs.length, c1, some ⟨gg, 0, none⟩, dL, L2, rfl, ⟨HF.out.2.1.mono (by omega), HF.out.2.2.1, HF.out.2.2.2.1, HF.out.2.2.2.2⟩, Bs, σ', HOK.out.1, HOK.out.2, HLO.out⟩
  ·rename_i hy
   have HLO := zb.mk (show LogOf σ'.L L from HK.out.imp id .inl)
   go_upto_region 6 with (fail)
   have q0 := HD.out.p0
   have q1 := HD.out.p1
   have r0 := (zd HD.out.r0 0).trans rfl
   have r1 := (zd HD.out.r0 1).trans rfl
   have f0 := zk HD.out.r0 0
   have f1 := zk HD.out.r0 1
   go_wp2
   have HF := zb.mk HD.out.fin
   refine bodyPost_ret (yy rfl _ _ w.heap.size 37 #[.slice A0 Cs.length c0, .slice A1 Bs.length c1] (0, 0) _ rfl HF.out.1 hup rfl (by kernel_rfl)) rfl ?_
   rw [HP.out]
   have hz := HNL.out
   subst hz
   exact ⟨A0, c0, Cs, A1, Bs.length, c1, BL, dL, L, rfl, ⟨HF.out.2.1.mono (by omega), HF.out.2.2.1, HF.out.2.2.2.1, HF.out.2.2.2.2⟩, Bs, σ', HOK.out.1, HOK.out.2, HLO.out⟩
 ·have h1i : ¬ (1 : Int) < (nL : Int) := by omega
  have HLO := zb.mk (show LogOf σ'.L L from HK.out.imp id .inl)
  go_upto_region 6 with (go_at_call 55; refine (zQ _ HD.out.rd (by omega) (by omega)).mono ?_; rintro e w3 ⟨y, rfl, y0, y1, y2, hr, hk⟩; have n0 := zb.mk (HD.out.pick hr hk); clear HD hr hk y0 y1 y2; have HD := n0; clear n0)
  all_goals
   have q0 := HD.out.p0
   have q1 := HD.out.p1
   have r0 := (zd HD.out.r0 0).trans rfl
   have r1 := (zd HD.out.r0 1).trans rfl
   have f0 := zk HD.out.r0 0
   have f1 := zk HD.out.r0 1
   go_wp2
   have HF := zb.mk HD.out.fin
   refine bodyPost_ret (yy rfl _ _ w.heap.size 37 #[.slice A0 Cs.length c0, .slice A1 Bs.length c1] (0, 0) _ rfl HF.out.1 hup rfl (by kernel_rfl)) rfl ?_
   rw [HP.out]
   have hz := HNL.out
   subst hz
   exact ⟨A0, c0, Cs, A1, Bs.length, c1, BL, dL, L, rfl, ⟨HF.out.2.1.mono (by omega), HF.out.2.2.1, HF.out.2.2.2.1, HF.out.2.2.2.2⟩, Bs, σ', HOK.out.1, HOK.out.2, HLO.out⟩
end Go.Proofs.Ytppapibjbjmmbaa.QSY
set_option linter.unusedVariables false
set_option linter.unusedSimpArgs false
namespace Go.Proofs.Ytppapibjbjmmbaa.QSY
open Go.RowKit Go.Proofs.YtppapibjbjmmbaaW.PrintWords Go.Proofs.YtppapibjbjmmbaaW.PrintLast Go.Proofs.YtppapibjbjmmbaaW.PrintMore
theorem open_calls {w : World} (A : Option Addr) (c : Nat) (b : List Int) (h : Kd.C (Kd.int .u8) w A b.length b) (hc : b.length ≤ c) (hb : ∀ x ∈ b, (0 : Int) ≤ x ∧ x ≤ 255) (hl : b.length ≤ 1000000000) :
  Calls Try.prog 54 #[.slice A b.length c] w fun e w' => ∃ g, e = .returned (.pointer (some ⟨g, 0, none⟩)) ∧ Rdr w w' g 0 := by
 have H := zb.mk h
 have HB := zb.mk hb
 obtain ⟨n, hn⟩ : ∃ n, n = b.length := ⟨_, rfl⟩
 have HN := zb.mk hn
 rw [← hn] at hc hl ⊢
 obtain ⟨Post, hPost⟩ : ∃ P, P = (fun (e : Ending) (w' : World) => ∃ g, e = .returned (.pointer (some ⟨g, 0, none⟩)) ∧ Rdr w w' g 0) := ⟨_, rfl⟩
 have HP := zb.mk hPost
 rw [← hPost]
 clear h hb hn hPost
 go_enter Try.func54, Try.ntmps54
 by_cases hg : (n : Int) > 2000
 ·have h2 : 2000 ≤ c := by omega
  have h3 : 2000 < n := by omega
  go_wp2
  rw [HP.out]
  refine ⟨w.heap.size, rfl, A, c, b.take 2000, 0, ?_, zc (Below.refl _ _) _, Nat.le_refl _, Kd.C_take H.out (by have := HN.out; omega), by rw [List.length_take]; omega, fun x hx => HB.out x (List.mem_of_mem_take hx), Int.le_refl _, Int.le_refl _⟩
  have e : (b.take 2000).length = 2000 := by rw [List.length_take]; have := HN.out; omega
  rw [e]
  exact heap_alloc_new _ _
 ·have h3 : ¬ 2000 < n := by omega
  go_wp2
  rw [HP.out]
  have e := HN.out
  subst e
  exact ⟨w.heap.size, rfl, A, c, b, 0, heap_alloc_new _ _, zc (Below.refl _ _) _, Nat.le_refl _, H.out, by omega, HB.out, Int.le_refl _, Int.le_refl _⟩
end Go.Proofs.Ytppapibjbjmmbaa.QSY
set_option linter.unusedVariables false
set_option linter.unusedSimpArgs false
namespace Go.Proofs.Ytppapibjbjmmbaa.QSY
open Go.RowKit Go.Proofs.YtppapibjbjmmbaaW.PrintWords Go.Proofs.YtppapibjbjmmbaaW.PrintLast Go.Proofs.YtppapibjbjmmbaaW.PrintMore
def aheadF (a b : S50) : Bool := decide (a.f2 < b.f2) || (decide (a.f2 = b.f2) && (decide (0 < a.f4.length) && decide (b.f4.length = 0)))
def ecs (e : S50) (A3 : Option Addr) (c3 : Nat) (A4 : Option Addr) (c4 : Nat) : Array Value := #[.int .i64 e.f0, .int .i64 e.f1, .int .i64 e.f2, .slice A3 e.f3.length c3, .slice A4 e.f4.length c4, .int .i64 e.f5]
set_option maxHeartbeats 4000000 in
set_option maxRecDepth 100000 in
theorem l13ahead_calls (a b : S50) (A3 : Option Addr) (c3 : Nat) (A4 : Option Addr) (c4 : Nat) (B3 : Option Addr) (d3 : Nat) (B4 : Option Addr) (d4 : Nat) (r : Bool) (w : World) (h : aheadF a b = r) :
  Calls Try.prog 65 #[.agg (ecs a A3 c3 A4 c4), .agg (ecs b B3 d3 B4 d4)] w fun e w' => e = .returned (.bool r) ∧ Below w.heap.size w w' := by
 have HH := zb.mk h
 obtain ⟨Post, hPost⟩ : ∃ P, P = fun (e : Ending) (w' : World) => e = .returned (.bool r) ∧ Below w.heap.size w w' := ⟨_, rfl⟩
 have HP := zb.mk (show ∀ e w', Post e w' ↔ (e = .returned (.bool r) ∧ Below w.heap.size w w') from fun _ _ => by rw [hPost])
 rw [← hPost]
 clear h hPost
 unfold ecs
 obtain ⟨n3, hn3⟩ : ∃ n, n = a.f3.length := ⟨_, rfl⟩
 obtain ⟨n4, hn4⟩ : ∃ n, n = a.f4.length := ⟨_, rfl⟩
 obtain ⟨m3, hm3⟩ : ∃ n, n = b.f3.length := ⟨_, rfl⟩
 obtain ⟨m4, hm4⟩ : ∃ n, n = b.f4.length := ⟨_, rfl⟩
 obtain ⟨x, hx⟩ : ∃ x, x = a.f2 := ⟨_, rfl⟩
 obtain ⟨y, hy⟩ : ∃ x, x = b.f2 := ⟨_, rfl⟩
 have HR := zb.mk (show r = (decide (x < y) || (decide (x = y) && (decide (0 < n4) && decide (m4 = 0)))) by rw [← HH.out, hx, hy, hn4, hm4]; rfl)
 rw [← hn3, ← hn4, ← hm3, ← hm4, ← hx, ← hy]
 clear hn3 hn4 hm3 hm4 hx hy HH
 obtain ⟨W, hW⟩ : ∃ W, W = (w.alloc (.cells #[.int .i64 a.f0, .int .i64 a.f1, .int .i64 x, .slice A3 n3 c3, .slice A4 n4 c4, .int .i64 a.f5] 50)).alloc (.cells #[.int .i64 b.f0, .int .i64 b.f1, .int .i64 y, .slice B3 m3 d3, .slice B4 m4 d4, .int .i64 b.f5] 50) := ⟨_, rfl⟩
 have HB := zb.mk (show Below w.heap.size w W by rw [hW]; exact zc (zc (Below.refl _ _) _) _)
 have E0 := zb.mk (show W.heap[w.heap.size]? = some (.cells #[.int .i64 a.f0, .int .i64 a.f1, .int .i64 x, .slice A3 n3 c3, .slice A4 n4 c4, .int .i64 a.f5] 50 (0, 0)) by rw [hW]; exact zm (heap_alloc_new _ _) _)
 have E1 := zb.mk (show W.heap[w.heap.size + 1]? = some (.cells #[.int .i64 b.f0, .int .i64 b.f1, .int .i64 y, .slice B3 m3 d3, .slice B4 m4 d4, .int .i64 b.f5] 50 (0, 0)) by rw [hW]; exact yd (by simp))
 go_enter Try.func65, Try.ntmps65
 go_upto_region 1 with (fail)
 rw [← hW]
 clear hW
 have x2 := (zd E0.out 2).trans rfl
 have x4 := (zd E0.out 4).trans rfl
 have y2 := (zd E1.out 2).trans rfl
 have y4 := (zd E1.out 4).trans rfl
 by_cases q1 : x < y
 ·have q2 : ¬ x = y := by omega
  go_wp2
  all_goals
   (try refine bodyPost_ret (results_tmp rfl _ _ _) rfl ?_)
   rw [HP.out]
   exact ⟨by rw [HR.out]; simp [q1], HB.out⟩
 ·by_cases q2 : x = y
  ·by_cases q3 : 0 < n4
   ·by_cases q4 : m4 = 0
    all_goals
     go_wp2
     (try refine bodyPost_ret (results_tmp rfl _ _ _) rfl ?_)
     rw [HP.out]
     exact ⟨by rw [HR.out]; simp [q1, q2, q3, q4], HB.out⟩
   ·go_wp2
    (try refine bodyPost_ret (results_tmp rfl _ _ _) rfl ?_)
    rw [HP.out]
    exact ⟨by rw [HR.out]; simp [q1, q2, q3], HB.out⟩
  ·go_wp2
   (try refine bodyPost_ret (results_tmp rfl _ _ _) rfl ?_)
   rw [HP.out]
   exact ⟨by rw [HR.out]; simp [q1, q2], HB.out⟩
end Go.Proofs.Ytppapibjbjmmbaa.QSY
set_option linter.unusedVariables false
set_option linter.unusedSimpArgs false
namespace Go.Proofs.Ytppapibjbjmmbaa.QSY
open Go.RowKit Go.Proofs.YtppapibjbjmmbaaW.PrintWords Go.Proofs.YtppapibjbjmmbaaW.PrintLast Go.Proofs.YtppapibjbjmmbaaW.PrintMore
def FreshE (w : World) (x : S50) (e : Ending) (w' : World) : Prop := ∃ A3 c3 A4 c4, e = .returned (.agg (ecs x A3 c3 A4 c4)) ∧ Below w.heap.size w w' ∧ Kd.R k45 45 w' w.heap.size (fun _ => True) (.slice A3 x.f3.length c3) x.f3 ∧ Kd.R k45 45 w' w.heap.size (fun _ => True) (.slice A4 x.f4.length c4) x.f4
set_option maxHeartbeats 4000000 in
set_option maxRecDepth 100000 in
theorem entry_calls (x : S50) (A3 : Option Addr) (c3 : Nat) (A4 : Option Addr) (c4 : Nat) (w : World) (h3 : Kd.C k45 w A3 x.f3.length x.f3) (l3 : x.f3.length ≤ c3) (m3 : x.f3.length ≤ 1000) (h4 : Kd.C k45 w A4 x.f4.length x.f4) (l4 : x.f4.length ≤ c4) (m4 : x.f4.length ≤ 1000) :
  Calls Try.prog 69 #[.agg (ecs x A3 c3 A4 c4)] w (FreshE w x) := by
 have hu := Try.underlying50
 have H3 := zb.mk h3
 have H4 := zb.mk h4
 have HM := zb.mk (And.intro (And.intro l3 m3) (And.intro l4 m4))
 obtain ⟨Post, hPost⟩ : ∃ P, P = FreshE w x := ⟨_, rfl⟩
 have HP := zb.mk hPost
 rw [← hPost]
 clear h3 h4 l3 m3 l4 m4 hPost
 unfold ecs
 obtain ⟨W, hW⟩ : ∃ W, W = (w.alloc (.cells #[.int .i64 x.f0, .int .i64 x.f1, .int .i64 x.f2, .slice A3 x.f3.length c3, .slice A4 x.f4.length c4, .int .i64 x.f5] 50)).alloc (.cells #[.int .i64 0, .int .i64 0, .int .i64 0, .slice none 0 0, .slice none 0 0, .int .i64 0] 50) := ⟨_, rfl⟩
 have HB := zb.mk (show Below w.heap.size w W by rw [hW]; exact zc (zc (Below.refl _ _) _) _)
 have HWS := zb.mk (show W.heap.size = w.heap.size + 2 by rw [hW]; simp)
 have E0 := zb.mk (show W.heap[w.heap.size]? = some (.cells #[.int .i64 x.f0, .int .i64 x.f1, .int .i64 x.f2, .slice A3 x.f3.length c3, .slice A4 x.f4.length c4, .int .i64 x.f5] 50 (0, 0)) by rw [hW]; exact zm (heap_alloc_new _ _) _)
 have E1 := zb.mk (show W.heap[w.heap.size + 1]? = some (.cells #[.int .i64 0, .int .i64 0, .int .i64 0, .slice none 0 0, .slice none 0 0, .int .i64 0] 50 (0, 0)) by rw [hW]; exact yd (by simp))
 go_enter Try.func69, Try.ntmps69
 go_upto_region 1 with (fail)
 rw [← hW]
 clear hW
 have x3 := (zd E0.out 3).trans rfl
 go_upto_region 2 with (go_at_call 99; refine (xy A3 c3 x.f3 _ (Kd.zt H3.out HB.out) HM.out.1.1 HM.out.1.2).mono ?_; rintro e wa ⟨va, rfl, hra, hba⟩; obtain ⟨B3, d3, rfl⟩ := Kd.zJ hra; have HRa := zb.mk hra; have HBa := zb.mk hba; have EA := zb.mk ((hba.block _ (zo E0.out)).trans E0.out); have y3 := zk EA.out 3; have y3c := (zd EA.out 3).trans rfl; clear hra hba x3)
 obtain ⟨V, hV⟩ : ∃ V, V = wa.setCell ⟨w.heap.size, 3, none⟩ (.slice B3 x.f3.length d3) := ⟨_, rfl⟩
 have EV := zb.mk (show V.heap[w.heap.size]? = some (.cells #[.int .i64 x.f0, .int .i64 x.f1, .int .i64 x.f2, .slice B3 x.f3.length d3, .slice A4 x.f4.length c4, .int .i64 x.f5] 50 (0, 0)) by rw [hV]; exact zu EA.out 3 _)
 have HBV := zb.mk (show Below w.heap.size w V by rw [hV]; exact (zi HB.out HBa.out).setCell (p := ⟨w.heap.size, 3, none⟩) (Nat.le_refl _) _)
 have EV1 := zb.mk (show V.heap[w.heap.size + 1]? = some (.cells #[.int .i64 0, .int .i64 0, .int .i64 0, .slice none 0 0, .slice none 0 0, .int .i64 0] 50 (0, 0)) by rw [hV]; exact (Below.heap_setCell _ ⟨w.heap.size, 3, none⟩ _ _ (by show w.heap.size + 1 ≠ w.heap.size; omega)).trans ((HBa.out.block _ (zo E1.out)).trans E1.out))
 have HRV := zb.mk (show Kd.R k45 45 V w.heap.size (fun _ => True) (.slice B3 x.f3.length d3) x.f3 by
  rw [hV]
  exact zR (Kd.zP HRa.out HB.out.size) (fun k q cells _ _ hq hc => Below.heap_setCell _ ⟨w.heap.size, 3, none⟩ _ k (fun e => by
   have e : k = w.heap.size := e
   subst e
   rw [EA.out] at hc
   injection hc with hc
   injection hc with _ hc
   rw [← hc] at hq
   exact absurd hq (by decide))))
 rw [← hV]
 clear hV HRa EA y3 y3c
 have x4 := (zd EV.out 4).trans rfl
 go_upto_region 3 with (go_at_call 99; refine (xy A4 c4 x.f4 _ (Kd.zt H4.out HBV.out) HM.out.2.1 HM.out.2.2).mono ?_; rintro e wb ⟨vb, rfl, hrb, hbb⟩; obtain ⟨B4, d4, rfl⟩ := Kd.zJ hrb; have HRb := zb.mk hrb; have HBb := zb.mk hbb; have EB := zb.mk ((hbb.block _ (zo EV.out)).trans EV.out); have y4 := zk EB.out 4; have y4c := (zd EB.out 4).trans rfl; clear hrb hbb x4)
 obtain ⟨Z, hZ⟩ : ∃ Z, Z = wb.setCell ⟨w.heap.size, 4, none⟩ (.slice B4 x.f4.length d4) := ⟨_, rfl⟩
 have EZ := zb.mk (show Z.heap[w.heap.size]? = some (.cells #[.int .i64 x.f0, .int .i64 x.f1, .int .i64 x.f2, .slice B3 x.f3.length d3, .slice B4 x.f4.length d4, .int .i64 x.f5] 50 (0, 0)) by rw [hZ]; exact zu EB.out 4 _)
 have HBZ := zb.mk (show Below w.heap.size w Z by rw [hZ]; exact (zi HBV.out HBb.out).setCell (p := ⟨w.heap.size, 4, none⟩) (Nat.le_refl _) _)
 have EZ1 := zb.mk (show Z.heap[w.heap.size + 1]? = some (.cells #[.int .i64 0, .int .i64 0, .int .i64 0, .slice none 0 0, .slice none 0 0, .int .i64 0] 50 (0, 0)) by rw [hZ]; exact (Below.heap_setCell _ ⟨w.heap.size, 4, none⟩ _ _ (by show w.heap.size + 1 ≠ w.heap.size; omega)).trans ((HBb.out.block _ (zo EV1.out)).trans EV1.out))
 have far : zb (∀ (k q : Nat) (cells : Array Value), q ≠ 50 → wb.heap[k]? = some (.cells cells q (0, 0)) → Z.heap[k]? = wb.heap[k]?) := ⟨fun k q cells hq hc => by
  rw [hZ]
  refine Below.heap_setCell _ ⟨w.heap.size, 4, none⟩ _ k (fun e => ?_)
  have e : k = w.heap.size := e
  subst e
  rw [EB.out] at hc
  injection hc with hc
  injection hc with _ hc
  exact hq hc.symm⟩
 have HRZ3 := zb.mk (show Kd.R k45 45 Z w.heap.size (fun _ => True) (.slice B3 x.f3.length d3) x.f3 from zR (Kd.zN HRV.out HBb.out) (fun k q cells _ _ hq hc => far.out k q cells (by rw [List.mem_singleton.1 hq]; decide) hc))
 have HRZ4 := zb.mk (show Kd.R k45 45 Z w.heap.size (fun _ => True) (.slice B4 x.f4.length d4) x.f4 from zR (Kd.zP HRb.out HBV.out.size) (fun k q cells _ _ hq hc => far.out k q cells (by rw [List.mem_singleton.1 hq]; decide) hc))
 rw [← hZ]
 clear hZ HRb EB y4 y4c far
 have z0 := (zd EZ.out 0).trans rfl
 have z1 := (zd EZ.out 1).trans rfl
 have z2 := (zd EZ.out 2).trans rfl
 have z3 := (zd EZ.out 3).trans rfl
 have z4 := (zd EZ.out 4).trans rfl
 have z5 := (zd EZ.out 5).trans rfl
 have r0 := (zd EZ1.out 0).trans rfl
 have r1 := (zd EZ1.out 1).trans rfl
 have r2 := (zd EZ1.out 2).trans rfl
 have r3 := (zd EZ1.out 3).trans rfl
 have r4 := (zd EZ1.out 4).trans rfl
 have r5 := (zd EZ1.out 5).trans rfl
 have f0 := zk EZ1.out 0
 have f1 := zk EZ1.out 1
 have f2 := zk EZ1.out 2
 have f3 := zk EZ1.out 3
 have f4 := zk EZ1.out 4
 have f5 := zk EZ1.out 5
 go_wp2
 have k6 := zu (zu (zu (zu (zu (zu EZ1.out 0 (.int .i64 x.f0)) 1 (.int .i64 x.f1)) 2 (.int .i64 x.f2)) 3 (.slice B3 x.f3.length d3)) 4 (.slice B4 x.f4.length d4)) 5 (.int .i64 x.f5)
 refine bodyPost_ret (results_cell_row rfl _ _ (w.heap.size + 1) 50 _ (0, 0) _ rfl k6 hu rfl (by kernel_rfl)) rfl ?_
 rw [HP.out]
 have hg : w.heap.size ≤ w.heap.size + 1 := by omega
 have far2 : ∀ (k q : Nat) (cells : Array Value), q ≠ 50 → Z.heap[k]? = some (.cells cells q (0, 0)) → ((((((Z.setCell ⟨w.heap.size + 1, 0, none⟩ (.int .i64 x.f0)).setCell ⟨w.heap.size + 1, 1, none⟩ (.int .i64 x.f1)).setCell ⟨w.heap.size + 1, 2, none⟩ (.int .i64 x.f2)).setCell ⟨w.heap.size + 1, 3, none⟩ (.slice B3 x.f3.length d3)).setCell ⟨w.heap.size + 1, 4, none⟩ (.slice B4 x.f4.length d4)).setCell ⟨w.heap.size + 1, 5, none⟩ (.int .i64 x.f5)).heap[k]? = Z.heap[k]? := fun k q cells hq hc => by
  have hne : k ≠ w.heap.size + 1 := fun e => by
   subst e
   rw [EZ1.out] at hc
   injection hc with hc
   injection hc with _ hc
   exact hq hc.symm
  exact (((((Below.heap_setCell _ ⟨w.heap.size + 1, 5, none⟩ _ k hne).trans (Below.heap_setCell _ ⟨w.heap.size + 1, 4, none⟩ _ k hne)).trans (Below.heap_setCell _ ⟨w.heap.size + 1, 3, none⟩ _ k hne)).trans (Below.heap_setCell _ ⟨w.heap.size + 1, 2, none⟩ _ k hne)).trans (Below.heap_setCell _ ⟨w.heap.size + 1, 1, none⟩ _ k hne)).trans (Below.heap_setCell _ ⟨w.heap.size + 1, 0, none⟩ _ k hne)
 exact ⟨B3, d3, B4, d4, rfl, (((((HBZ.out.setCell (p := ⟨w.heap.size + 1, 0, none⟩) hg _).setCell (p := ⟨w.heap.size + 1, 1, none⟩) hg _).setCell (p := ⟨w.heap.size + 1, 2, none⟩) hg _).setCell (p := ⟨w.heap.size + 1, 3, none⟩) hg _).setCell (p := ⟨w.heap.size + 1, 4, none⟩) hg _).setCell (p := ⟨w.heap.size + 1, 5, none⟩) hg _,
  zR HRZ3.out (fun k q cells _ _ hq hc => far2 k q cells (by rw [List.mem_singleton.1 hq]; decide) hc), zR HRZ4.out (fun k q cells _ _ hq hc => far2 k q cells (by rw [List.mem_singleton.1 hq]; decide) hc)⟩
end Go.Proofs.Ytppapibjbjmmbaa.QSY
set_option linter.unusedVariables false
set_option linter.unusedSimpArgs false
namespace Go.Proofs.Ytppapibjbjmmbaa.QSY
open Go.RowKit Go.Proofs.YtppapibjbjmmbaaW.PrintWords Go.Proofs.YtppapibjbjmmbaaW.PrintLast Go.Proofs.YtppapibjbjmmbaaW.PrintMore
def posF (x : S50) (out : List S50) : Nat → Nat
 | 0 => 0
 | k + 1 => if aheadF x (yu out (k : Int)) = true then posF x out k else k + 1
theorem posF_le (x : S50) (out : List S50) : ∀ k, posF x out k ≤ k
 | 0 => Nat.le_refl _
 | k + 1 => by unfold posF; split; exact Nat.le_succ_of_le (posF_le x out k); exact Nat.le_refl _
def insF (out : List S50) (x : S50) : List S50 := out.take (posF x out out.length) ++ [x] ++ out.drop (posF x out out.length)
theorem insF_len (out : List S50) (x : S50) : (insF out x).length = out.length + 1 := by
 have := posF_le x out out.length
 unfold insF
 simp only [List.length_append, List.length_take, List.length_drop, List.length_cons, List.length_nil]
 omega
def orderF (L : List S50) : List S50 := L.foldl insF []
theorem orderF_len (L : List S50) : (orderF L).length = L.length := by
 have h : ∀ (L o : List S50), (L.foldl insF o).length = o.length + L.length := by
  intro L
  induction L with
  | nil => intro o; simp
  | cons x L ih => intro o; rw [List.foldl_cons, ih, insF_len, List.length_cons]; omega
 unfold orderF
 rw [h]; simp
theorem orderF_succ {L : List S50} {i : Nat} (h : i < L.length) : orderF (L.take (i + 1)) = insF (orderF (L.take i)) (yu L (i : Int)) := by
 unfold orderF
 rw [List.take_succ_eq_append_getElem h, List.foldl_append]
 unfold yu
 rw [Int.toNat_natCast, List.getD_eq_getElem?_getD, List.getElem?_eq_getElem h]; rfl
def Ordered (w : World) (L : List S50) (e : Ending) (w' : World) : Prop := ∃ A c, e = .returned (.slice A (List.length L) c) ∧ Kd.N k50 50 w' w.heap.size (fun k => w.heap.size ≤ k) (.slice A (List.length L) c) (orderF L) ∧ Below w.heap.size w w'
set_option maxHeartbeats 8000000 in
set_option maxRecDepth 100000 in
theorem order_calls (A : Option Addr) (c : Nat) (L : List S50) (w : World) (hL : Kd.C k50 w A L.length L) (hl : L.length ≤ 1000000000) (hp : ∀ e ∈ L, e.f3.length ≤ 1000 ∧ e.f4.length ≤ 1000) :
  Calls Try.prog 36 #[.slice A L.length c] w (Ordered w L) := by
 have HL := zb.mk hL
 have HPL := zb.mk hp
 have HLL := zb.mk hl
 have hue := Try.underlying50
 have hues := Try.underlying25
 obtain ⟨Post, hPost⟩ : ∃ P, P = Ordered w L := ⟨_, rfl⟩
 have HP := zb.mk hPost
 rw [← hPost]
 obtain ⟨n, hn⟩ : ∃ n, n = L.length := ⟨_, rfl⟩
 have HN0 := zb.mk hn
 rw [← hn] at HLL ⊢
 obtain ⟨U, hU⟩ : ∃ U, U = w.alloc (.cells #[] 50) := ⟨_, rfl⟩
 have HNU := zb.mk (show Kd.N k50 50 U w.heap.size (fun k => w.heap.size ≤ k) (.slice (some ⟨w.heap.size, 0, none⟩) 0 0) ([] : List S50) from by rw [hU]; exact Kd.R_N (yz (heap_alloc_new _ _) (Nat.le_refl _) (Nat.le_refl _)))
 have HBU := zb.mk (show Below w.heap.size w U by rw [hU]; exact zc (Below.refl _ _) _)
 clear hL hl hp hn hPost
 go_enter Try.func36, Try.ntmps36
 go_upto_region 2 with (fail)
 rw [← hU]
 clear hU
 go_wp2
 go_loopw [3, 4] (fun v3 v4 wr => ∃ (V : World) (i : Nat) (Ao : Option Addr) (co no : Nat) (out : List S50), V = wr ∧ v3 = .slice Ao no co ∧ v4 = .int .i64 i ∧ zb (i ≤ n ∧ no = i ∧ out = orderF (L.take i)) ∧ zb (Kd.N k50 50 V w.heap.size (fun k => w.heap.size ≤ k) (.slice Ao no co) out) ∧ zb (Below w.heap.size w V)) (fun _ v4 _ => n - (intOf v4).toNat)
 case atStart => exact ⟨U, 0, _, _, 0, [], rfl, rfl, rfl, ⟨Nat.zero_le _, rfl, rfl⟩, HNU, HBU⟩
 case round =>
  clear HNU HBU
  obtain ⟨V, i, Ao, co, no, out, hV, rfl, rfl, hi, HN, HBV⟩ := hrel
  rw [← hV]
  clear hV
  by_cases hlt : (i : Int) < (n : Int)
  ·have HLI := zb.mk (show i < n by omega)
   have HNO := zb.mk (Kd.xE HN.out)
   have ei := yx (i := i) (n := n) (by omega) (show n ≤ maxLen from Nat.le_trans HLL.out (by decide))
   have i0 : (0 : Int) ≤ (i : Int) := by omega
   obtain ⟨ad, A3, c3, A4, c4, rfl, z0, z1, z2, z3, z4, z5, l3, g3, l4, g4⟩ := at_T50 HL.out (i : Int) i0 (show (i : Int) < (L.length : Int) by have := HLI.out; have := HN0.out; omega)
   rw [Int.toNat_natCast] at z0 z1 z2 z3 z4 z5
   have HSU := zb.mk (orderF_succ (L := L) (i := i) (by have := HLI.out; have := HN0.out; omega))
   have hmem : yu L (i : Int) ∈ L := xC (by rw [Int.toNat_natCast]; have := HLI.out; have := HN0.out; omega)
   have HXL := zb.mk (HPL.out _ hmem)
   obtain ⟨x, hx⟩ : ∃ x, x = yu L (i : Int) := ⟨_, rfl⟩
   have HX := zb.mk hx
   rw [← hx] at z0 z1 z2 z3 z4 z5 l3 g3 l4 g4 HXL HSU
   have HZ := zb.mk (show w.cell? (ad.add (i * 6)) = some (.int .i64 x.f0) ∧ w.cell? ⟨(ad.add (i * 6)).block, (ad.add (i * 6)).off + 1, none⟩ = some (.int .i64 x.f1) ∧ w.cell? ⟨(ad.add (i * 6)).block, (ad.add (i * 6)).off + 2, none⟩ = some (.int .i64 x.f2) ∧ w.cell? ⟨(ad.add (i * 6)).block, (ad.add (i * 6)).off + 3, none⟩ = some (.slice A3 x.f3.length c3) ∧ w.cell? ⟨(ad.add (i * 6)).block, (ad.add (i * 6)).off + 4, none⟩ = some (.slice A4 x.f4.length c4) ∧ w.cell? ⟨(ad.add (i * 6)).block, (ad.add (i * 6)).off + 5, none⟩ = some (.int .i64 x.f5) from ⟨z0, z1, z2, z3, z4, z5⟩)
   have HG3 := zb.mk (And.intro l3 g3)
   have HG4 := zb.mk (And.intro l4 g4)
   clear hx hmem z0 z1 z2 z3 z4 z5 l3 g3 l4 g4
   obtain ⟨X, hX⟩ : ∃ X, X = V := ⟨_, rfl⟩
   have HBX := zb.mk (show Below w.heap.size w X by rw [hX]; exact HBV.out)
   rw [← hX] at HN ⊢
   clear hX HBV
   go_wp2
   go_loopw [5] (fun v5 wr => ∃ (V : World) (k : Nat), V = wr ∧ v5 = .int .i64 k ∧ zb (k ≤ no ∧ posF x out no = posF x out k) ∧ zb (Kd.N k50 50 V w.heap.size (fun k => w.heap.size ≤ k) (.slice Ao no co) out) ∧ zb (Below w.heap.size w V)) (fun v5 _ => (intOf v5).toNat)
   case atStart => exact ⟨X, no, rfl, rfl, ⟨Nat.le_refl _, rfl⟩, HN, HBX⟩
   case round =>
    clear HN
    obtain ⟨V, k, hV, rfl, hk, HN, HBV⟩ := hrel
    rw [← hV]
    clear hV
    by_cases hkp : 0 < k
    ·have HKP := zb.mk hkp
     have hkpi : (0 : Int) < (k : Int) := by omega
     obtain ⟨q, hq⟩ : ∃ q, k = q + 1 := ⟨k - 1, by omega⟩
     have HQ := zb.mk hq
     have eq1 : wrap64 ((k : Int) - 1) = (q : Int) := by have h1 := hk.out.1; have h2 := HNO.out.1; have h3 := hi.out; have h4 := HLL.out; unfold wrap64; omega
     have q0 : (0 : Int) ≤ (q : Int) := by omega
     have q1 : (q : Int) < (no : Int) := by have := hk.out.1; omega
     obtain ⟨ado, B3, d3, B4, d4, hae, y0, y1, y2, y3, y4, y5, -, -, -, -⟩ := at_T50 (Kd.xE HN.out).2.2 (q : Int) q0 (show (q : Int) < (out.length : Int) by have := HNO.out.1; omega)
     rw [Int.toNat_natCast] at y0 y1 y2 y3 y4 y5
     obtain ⟨y, hy⟩ : ∃ y, y = yu out (q : Int) := ⟨_, rfl⟩
     have HY := zb.mk hy
     rw [← hy] at y0 y1 y2 y3 y4 y5
     subst hae
     have HS := zb.mk (show ∀ w', Below V.heap.size V w' → w'.cell? (ad.add (i * 6)) = some (.int .i64 x.f0) ∧ w'.cell? ⟨(ad.add (i * 6)).block, (ad.add (i * 6)).off + 1, none⟩ = some (.int .i64 x.f1) ∧ w'.cell? ⟨(ad.add (i * 6)).block, (ad.add (i * 6)).off + 2, none⟩ = some (.int .i64 x.f2) ∧ w'.cell? ⟨(ad.add (i * 6)).block, (ad.add (i * 6)).off + 3, none⟩ = some (.slice A3 x.f3.length c3) ∧ w'.cell? ⟨(ad.add (i * 6)).block, (ad.add (i * 6)).off + 4, none⟩ = some (.slice A4 x.f4.length c4) ∧ w'.cell? ⟨(ad.add (i * 6)).block, (ad.add (i * 6)).off + 5, none⟩ = some (.int .i64 x.f5) ∧ w'.cell? (ado.add (q * 6)) = some (.int .i64 y.f0) ∧ w'.cell? ⟨(ado.add (q * 6)).block, (ado.add (q * 6)).off + 1, none⟩ = some (.int .i64 y.f1) ∧ w'.cell? ⟨(ado.add (q * 6)).block, (ado.add (q * 6)).off + 2, none⟩ = some (.int .i64 y.f2) ∧ w'.cell? ⟨(ado.add (q * 6)).block, (ado.add (q * 6)).off + 3, none⟩ = some (.slice B3 y.f3.length d3) ∧ w'.cell? ⟨(ado.add (q * 6)).block, (ado.add (q * 6)).off + 4, none⟩ = some (.slice B4 y.f4.length d4) ∧ w'.cell? ⟨(ado.add (q * 6)).block, (ado.add (q * 6)).off + 5, none⟩ = some (.int .i64 y.f5) from fun w' hb => ⟨za (HBV.out.trans (zM hb HBV.out.size)) HZ.out.1, za (HBV.out.trans (zM hb HBV.out.size)) HZ.out.2.1, za (HBV.out.trans (zM hb HBV.out.size)) HZ.out.2.2.1, za (HBV.out.trans (zM hb HBV.out.size)) HZ.out.2.2.2.1, za (HBV.out.trans (zM hb HBV.out.size)) HZ.out.2.2.2.2.1, za (HBV.out.trans (zM hb HBV.out.size)) HZ.out.2.2.2.2.2, za hb y0, za hb y1, za hb y2, za hb y3, za hb y4, za hb y5⟩)
     obtain ⟨r, hr⟩ : ∃ r, aheadF x y = r := ⟨_, rfl⟩
     have HR := zb.mk hr
     have eq2 : IntKind.i64.wrap ((k : Int) - 1) = (q : Int) := (zg _).trans eq1
     clear hq hy hr y0 y1 y2 y3 y4 y5
     go_upto_region 6 with (fail)
     go_region_held3 (fun w' => w'.cell? (ad.add (i * 6)) = some (.int .i64 x.f0) ∧ w'.cell? ⟨(ad.add (i * 6)).block, (ad.add (i * 6)).off + 1, none⟩ = some (.int .i64 x.f1) ∧ w'.cell? ⟨(ad.add (i * 6)).block, (ad.add (i * 6)).off + 2, none⟩ = some (.int .i64 x.f2) ∧ w'.cell? ⟨(ad.add (i * 6)).block, (ad.add (i * 6)).off + 3, none⟩ = some (.slice A3 x.f3.length c3) ∧ w'.cell? ⟨(ad.add (i * 6)).block, (ad.add (i * 6)).off + 4, none⟩ = some (.slice A4 x.f4.length c4) ∧ w'.cell? ⟨(ad.add (i * 6)).block, (ad.add (i * 6)).off + 5, none⟩ = some (.int .i64 x.f5) ∧ w'.cell? (ado.add (q * 6)) = some (.int .i64 y.f0) ∧ w'.cell? ⟨(ado.add (q * 6)).block, (ado.add (q * 6)).off + 1, none⟩ = some (.int .i64 y.f1) ∧ w'.cell? ⟨(ado.add (q * 6)).block, (ado.add (q * 6)).off + 2, none⟩ = some (.int .i64 y.f2) ∧ w'.cell? ⟨(ado.add (q * 6)).block, (ado.add (q * 6)).off + 3, none⟩ = some (.slice B3 y.f3.length d3) ∧ w'.cell? ⟨(ado.add (q * 6)).block, (ado.add (q * 6)).off + 4, none⟩ = some (.slice B4 y.f4.length d4) ∧ w'.cell? ⟨(ado.add (q * 6)).block, (ado.add (q * 6)).off + 5, none⟩ = some (.int .i64 y.f5)) (first | exact HS.out _ (ze (Below.refl _ _)) | exact HS.out _ (zi (ze (Below.refl _ _)) (by assumption))) (first | (go_at_call 65; refine (l13ahead_calls x y A3 c3 A4 c4 B3 d3 B4 d4 r _ HR.out).mono ?_; rintro e wz ⟨rfl, hb⟩))
     have HBZ := zb.mk (zi HBV.out (zi (ze (Below.refl _ _)) hb))
     have HNZ := zb.mk (Kd.xJ (Kd.N_drew HN.out) hb)
     clear hb HN HBV
     cases r
     ·skip
      have HPK := zb.mk (show posF x out no = k by rw [hk.out.2, HQ.out]; show posF x out (q + 1) = _; rw [posF, if_neg (by rw [← HY.out, HR.out]; simp)])
      obtain ⟨Ao, hAo⟩ : ∃ A, A = some ado := ⟨_, rfl⟩
      rw [← hAo] at HNZ HNO ⊢
      have HN := HNZ
      have HBV := HBZ
      clear HNZ HBZ hkpi eq1 eq2 q0 q1 hAo HS
      obtain ⟨V, hV⟩ : ∃ V, V = wz := ⟨_, rfl⟩
      rw [← hV] at HN HBV ⊢
      clear hV
      obtain ⟨at_, hat_⟩ : ∃ a, a = k := ⟨_, rfl⟩
      have HAT := zb.mk (show at_ ≤ out.length by have h1 := HNO.out.1; have h2 := hk.out.1; omega)
      have HOL := zb.mk (show out.length ≤ 1000000000 by have h1 := HNO.out.1; have h2 := hi.out; have h3 := HLL.out; omega)
      have HAC := zb.mk (show at_ ≤ co by have h1 := HNO.out; have h2 := hk.out.1; omega)
      have ac := HAC.out
      have an : at_ ≤ no := by have h1 := HNO.out.1; have h2 := HAT.out; omega
      rw [← hat_]
      have HPS := zb.mk (show posF x out out.length = at_ by rw [← HNO.out.1, hat_]; exact HPK.out)
      clear hat_ hkp
      go_upto_region 8 with (fail)
      refine yc (n := 13) (S := fun w' => w'.cell? (ad.add (i * 6)) = some (.int .i64 x.f0) ∧ w'.cell? ⟨(ad.add (i * 6)).block, (ad.add (i * 6)).off + 1, none⟩ = some (.int .i64 x.f1) ∧ w'.cell? ⟨(ad.add (i * 6)).block, (ad.add (i * 6)).off + 2, none⟩ = some (.int .i64 x.f2) ∧ w'.cell? ⟨(ad.add (i * 6)).block, (ad.add (i * 6)).off + 3, none⟩ = some (.slice A3 x.f3.length c3) ∧ w'.cell? ⟨(ad.add (i * 6)).block, (ad.add (i * 6)).off + 4, none⟩ = some (.slice A4 x.f4.length c4) ∧ w'.cell? ⟨(ad.add (i * 6)).block, (ad.add (i * 6)).off + 5, none⟩ = some (.int .i64 x.f5)) (ds := []) (bm 13 0) (by kernel_rfl) rfl rfl ⟨(za (ze HBV.out) HZ.out.1), (za (ze HBV.out) HZ.out.2.1), (za (ze HBV.out) HZ.out.2.2.1), (za (ze HBV.out) HZ.out.2.2.2.1), (za (ze HBV.out) HZ.out.2.2.2.2.1), (za (ze HBV.out) HZ.out.2.2.2.2.2)⟩ (fun hHeld => ?_)
      refine zl (i := 1) (N := some 33) (v := ?_) (a' := ?_) (bm 13 2) rfl rfl (by kernel_rfl) (fun _ _ _ h => h) (Or.inl ⟨by rfl, ?_⟩) ?_ ?_
      rotate_left
      ·intro w'
       go_simp
       with_reducible rfl
      rotate_left
      ·simp only [Act.put, List.setIfInBounds_toArray, List.set_cons_zero, List.set_cons_succ, zg, zh]
       rfl
      refine zl (i := 2) (N := some 34) (v := ?_) (a' := ?_) (bm 13 6) rfl rfl (by kernel_rfl) (fun _ _ _ h => h) (Or.inl ⟨by rfl, ?_⟩) ?_ ?_
      rotate_left
      ·intro w'
       go_simp
       with_reducible rfl
      rotate_left
      ·simp only [Act.put, List.setIfInBounds_toArray, List.set_cons_zero, List.set_cons_succ, zg, zh]
       rfl
      refine zl (i := 3) (N := some 35) (v := ?_) (a' := ?_) (bm 13 14) rfl rfl (by kernel_rfl) (fun _ _ _ h => h) (Or.inl ⟨by rfl, ?_⟩) ?_ ?_
      rotate_left
      ·intro w'
       go_simp
       with_reducible rfl
      rotate_left
      ·simp only [Act.put, List.setIfInBounds_toArray, List.set_cons_zero, List.set_cons_succ, zg, zh]
       rfl
      refine zl (i := 5) (N := some 37) (v := ?_) (a' := ?_) (bm 13 46) rfl rfl (by kernel_rfl) (fun _ _ _ h => h) (Or.inl ⟨by rfl, ?_⟩) ?_ ?_
      rotate_left
      ·intro w'
       go_simp
       with_reducible rfl
      rotate_left
      ·simp only [Act.put, List.setIfInBounds_toArray, List.set_cons_zero, List.set_cons_succ, zg, zh]
       rfl
      refine zl (i := 6) (N := some 38) (v := ?_) (a' := ?_) (bm 13 110) rfl rfl (by kernel_rfl) (fun _ _ _ h => h) (Or.inl ⟨by rfl, ?_⟩) ?_ ?_
      rotate_left
      ·intro w'
       go_simp
       with_reducible rfl
      rotate_left
      ·simp only [Act.put, List.setIfInBounds_toArray, List.set_cons_zero, List.set_cons_succ, zg, zh]
       rfl
      refine zl (i := 7) (N := some 39) (v := ?_) (a' := ?_) (bm 13 238) rfl rfl (by kernel_rfl) (fun _ _ _ h => h) (Or.inl ⟨by rfl, ?_⟩) ?_ ?_
      rotate_left
      ·intro w'
       go_simp
       with_reducible rfl
      rotate_left
      ·simp only [Act.put, List.setIfInBounds_toArray, List.set_cons_zero, List.set_cons_succ, zg, zh]
       rfl
      refine zA (i := 8) (N := some 40) (v := ?_) (a' := ?_) (bm 13 494) rfl rfl (by kernel_rfl) (fun _ _ _ h => h) (Or.inl ⟨by rfl, ?_⟩) hHeld ?_ ?_
      rotate_left
      ·rintro w' ⟨s0, s1, s2, s3, s4, s5⟩
       go_simp
       with_reducible rfl
      rotate_left
      ·simp only [Act.put, List.setIfInBounds_toArray, List.set_cons_zero, List.set_cons_succ, zg, zh]
       rfl
      refine yE (i := 0) (N := some 32) (bm 13 495) rfl rfl (by kernel_rfl) (by decide) (fun K hK => ?_)
      refine zI (w1 := ?_) (v := ?_) (by rfl) rfl ?_ ?_
      rotate_left 2
      ·go_simp
       constructor
       ·rfl
       ·rfl
      have HB1 := zb.mk (show Below V.heap.size V (V.drew.alloc (.cells #[] 50)) from zc (ze (Below.refl _ _)) _)
      have HO1 := zb.mk (Kd.xJ (Kd.N_bound HN.out) HB1.out)
      have HE1 := zb.mk (show Kd.N k50 50 (V.drew.alloc (.cells #[] 50)) w.heap.size (fun k => w.heap.size ≤ k) (.slice (some ⟨V.heap.size, 0, none⟩) 0 0) ([] : List S50) from Kd.R_N (yz (heap_alloc_new _ _) HBV.out.size HBV.out.size))
      refine hK.out _ _ ⟨(za (zi HBV.out HB1.out) HZ.out.1), (za (zi HBV.out HB1.out) HZ.out.2.1), (za (zi HBV.out HB1.out) HZ.out.2.2.1), (za (zi HBV.out HB1.out) HZ.out.2.2.2.1), (za (zi HBV.out HB1.out) HZ.out.2.2.2.2.1), (za (zi HBV.out HB1.out) HZ.out.2.2.2.2.2)⟩ (fun hHeld => ?_)
      clear hK K
      refine zp (a' := ?_) ?_ ?_
      rotate_left
      ·show Act.put _ (some 32) _ = _
       simp only [Act.put, List.setIfInBounds_toArray, List.set_cons_zero, List.set_cons_succ, zg, zh]
       rfl
      refine yE (i := 4) (N := some 36) (bm 13 511) rfl rfl (by kernel_rfl) (by decide) (fun K hK => ?_)
      refine Kd.zZ k50 (w0 := w) w.heap.size ?hwa (.tmp 32) (.tmp 35) 25 50 _ _ ?hoa Try.underlying25 xL (by rfl) (by decide) (by decide) (.slice (some ⟨V.heap.size, 0, none⟩) 0 0) [] (out.take at_) Ao at_ co (fun k => w.heap.size ≤ k) (fun k => w.heap.size ≤ k ∧ k < V.heap.size) ?hsa ?hxa HE1.out (Kd.N_F (Kd.N_take HO1.out HAT.out)) (fun k hk => ⟨hk.1, fun e => absurd (show k = V.heap.size by simpa [Value.ownBlock] using e) (by have := hk.2; omega)⟩) (fun k hk => Nat.le_trans (Nat.le_trans HBV.out.size HB1.out.size) hk) (zi HBV.out HB1.out) (Nat.le_trans HBV.out.size HB1.out.size) (by have h1 := HAT.out; have h2 := HOL.out; simp; omega) ?_
      case hwa => rfl
      case hoa => rfl
      case hsa => rfl
      case hxa => first | rfl | (go_simp; done) | (simp; done)
      intro va wa hra hba hga hata
      obtain ⟨An, cn, rfl⟩ := Kd.xt hra
      have HNa := zb.mk hra
      have HBa := zb.mk hba
      have HOa := zb.mk (Kd.N_grown HO1.out hga (fun k hk e => absurd (show k = V.heap.size by simpa [Value.ownBlock] using e) (by have := hk.2; omega)))
      have HSa := zb.mk (show V.heap.size ≤ wa.heap.size from Nat.le_trans HB1.out.size hga.size)
      have HAa := zb.mk (show ∀ k, (Value.slice An (List.length ([] ++ out.take at_)) cn).ownBlock = some k → V.heap.size ≤ k from fun k hk => hata.elim (fun h => by rw [h] at hk; have e2 : V.heap.size = k := (by simpa [Value.ownBlock] using hk); omega) (fun ⟨b, h, h2⟩ => by rw [h] at hk; injection hk with hk; exact Nat.le_trans HB1.out.size (hk ▸ h2)))
      obtain ⟨nl, hnl⟩ : ∃ l, l = [] ++ out.take at_ := ⟨_, rfl⟩
      have HNL := zb.mk hnl
      rw [← hnl] at HNa HAa ⊢
      clear hra hba hga hata hnl
      refine hK.out _ _ ⟨(za HBa.out HZ.out.1), (za HBa.out HZ.out.2.1), (za HBa.out HZ.out.2.2.1), (za HBa.out HZ.out.2.2.2.1), (za HBa.out HZ.out.2.2.2.2.1), (za HBa.out HZ.out.2.2.2.2.2)⟩ (fun hHeld => ?_)
      clear hK K
      refine zp (a' := ?_) ?_ ?_
      rotate_left
      ·show Act.put _ (some 36) _ = _
       simp only [Act.put, List.setIfInBounds_toArray, List.set_cons_zero, List.set_cons_succ, zg, zh]
       rfl
      refine yE (i := 9) (N := some 41) (bm 13 1023) rfl rfl (by kernel_rfl) (by decide) (fun K hK => ?_)
      refine xQ Try.func69 (by kernel_rfl) rfl #[.agg (ecs x A3 c3 A4 c4)] (by rfl) rfl rfl (by simp only [List.map_toArray, List.map_cons, List.map_nil]; rfl) ?_
      with_reducible refine (entry_calls x A3 c3 A4 c4 wa (Kd.zt HG3.out.2 HBa.out) HG3.out.1 HXL.out.1 (Kd.zt HG4.out.2 HBa.out) HG4.out.1 HXL.out.2).mono ?_
      rintro e wb ⟨B3, d3, B4, d4, rfl, hb, hr3, hr4⟩
      refine ⟨_, rfl, ?_⟩
      have HBb := zb.mk hb
      have HR3 := zb.mk hr3
      have HR4 := zb.mk hr4
      have HNb := zb.mk (Kd.xJ (Kd.N_bound HNa.out) hb)
      have HOb := zb.mk (Kd.xJ HOa.out hb)
      unfold ecs
      clear hb hr3 hr4
      refine hK.out _ _ ⟨(za (zi HBa.out HBb.out) HZ.out.1), (za (zi HBa.out HBb.out) HZ.out.2.1), (za (zi HBa.out HBb.out) HZ.out.2.2.1), (za (zi HBa.out HBb.out) HZ.out.2.2.2.1), (za (zi HBa.out HBb.out) HZ.out.2.2.2.2.1), (za (zi HBa.out HBb.out) HZ.out.2.2.2.2.2)⟩ (fun hHeld => ?_)
      clear hK K
      refine zp (a' := ?_) ?_ ?_
      rotate_left
      ·show Act.put _ (some 41) _ = _
       simp only [Act.put, List.setIfInBounds_toArray, List.set_cons_zero, List.set_cons_succ, zg, zh]
       rfl
      refine yE (i := 10) (N := some 42) (bm 13 2047) rfl rfl (by kernel_rfl) (by decide) (fun K hK => ?_)
      refine zI (w1 := ?_) (v := ?_) (by rfl) rfl ?_ ?_
      rotate_left 2
      ·go_simp
       constructor
       ·rfl
       ·rfl
      refine hK.out _ _ ⟨(za (zc (zi HBa.out HBb.out) _) HZ.out.1), (za (zc (zi HBa.out HBb.out) _) HZ.out.2.1), (za (zc (zi HBa.out HBb.out) _) HZ.out.2.2.1), (za (zc (zi HBa.out HBb.out) _) HZ.out.2.2.2.1), (za (zc (zi HBa.out HBb.out) _) HZ.out.2.2.2.2.1), (za (zc (zi HBa.out HBb.out) _) HZ.out.2.2.2.2.2)⟩ (fun hHeld => ?_)
      clear hK K
      refine zp (a' := ?_) ?_ ?_
      rotate_left
      ·show Act.put _ (some 42) _ = _
       simp only [Act.put, List.setIfInBounds_toArray, List.set_cons_zero, List.set_cons_succ, zg, zh]
       rfl
      refine yE (i := 11) (N := some 43) (bm 13 4095) rfl rfl (by kernel_rfl) (by decide) (fun K hK => ?_)
      refine Kd.N_append_step k50 (w0 := w) w.heap.size ?hw2a (.tmp 36) (.tmp 42) 25 50 _ _ ?ho2a Try.underlying25 xL (by rfl) (by decide) (by decide) (.slice An nl.length cn) nl x [.int .i64 x.f0, .int .i64 x.f1, .int .i64 x.f2, .slice B3 x.f3.length d3, .slice B4 x.f4.length d4, .int .i64 x.f5] (fun k => w.heap.size ≤ k) (fun k => wa.heap.size ≤ k) ?hs2a ?hx2a (k50_mkF wb (fun k => wa.heap.size ≤ k) x (Kd.zH HR3.out).2.1 (Kd.N_F (Kd.N_mono (Kd.R_N (Kd.yI HR3.out)) (fun k hk => hk.2.1))) (Kd.zH HR4.out).2.1 (Kd.N_F (Kd.N_mono (Kd.R_N (Kd.yI HR4.out)) (fun k hk => hk.2.1)))) (fun k hk => ⟨Nat.le_trans HBa.out.size hk, fun e => by have := Kd.N_lt HNa.out k e.symm; omega⟩) (fun k hk => Nat.le_trans (Nat.le_trans HBa.out.size HBb.out.size) hk) (Kd.N_mono HNb.out (fun k hk => hk.1)) (zi HBa.out HBb.out) (Nat.le_trans HBa.out.size HBb.out.size) (by have h1 := HAT.out; have h2 := HOL.out; have h3 := HNL.out; rw [h3]; simp; omega) ?_
      case hw2a => rfl
      case ho2a => rfl
      case hs2a => rfl
      case hx2a => first | rfl | (go_simp; done) | (simp; done)
      intro vc wc hrc hbc hgc hatc
      obtain ⟨Am, nm, cm, rfl⟩ : ∃ A n c, vc = .slice A n c := by obtain ⟨A, c, e⟩ := Kd.xt hrc; exact ⟨A, _, c, e⟩
      have HNc := zb.mk hrc
      have HOM := zb.mk (show ∀ k, (Value.slice Am nm cm).ownBlock = some k → ¬ k < V.heap.size from fun k hk => hatc.elim (fun h => by rw [h] at hk; have := HAa.out k hk; omega) (fun ⟨b, h, h2⟩ => by rw [h] at hk; injection hk with hk; have h3 := HSa.out; have h4 := HBb.out.size; omega))
      have HBc := zb.mk hbc
      have HOc := zb.mk (Kd.N_grown HOb.out hgc (fun k hk e => by have := HAa.out k e.symm; have := hk.2; omega))
      clear hrc hbc hgc hatc
      refine hK.out _ _ ⟨(za HBc.out HZ.out.1), (za HBc.out HZ.out.2.1), (za HBc.out HZ.out.2.2.1), (za HBc.out HZ.out.2.2.2.1), (za HBc.out HZ.out.2.2.2.2.1), (za HBc.out HZ.out.2.2.2.2.2)⟩ (fun hHeld => ?_)
      clear hK K
      refine zp (a' := ?_) ?_ ?_
      rotate_left
      ·show Act.put _ (some 43) _ = _
       simp only [Act.put, List.setIfInBounds_toArray, List.set_cons_zero, List.set_cons_succ, zg, zh]
       rfl
      refine zl (i := 12) (N := some 6) (v := ?_) (a' := ?_) (bm 13 8191) rfl rfl (by kernel_rfl) (fun _ _ _ h => h) (Or.inl ⟨by rfl, ?_⟩) ?_ ?_
      rotate_left
      ·intro w'
       go_simp
       with_reducible rfl
      rotate_left
      ·simp only [Act.put, List.setIfInBounds_toArray, List.set_cons_zero, List.set_cons_succ, zg, zh]
       rfl
      refine yt (by kernel_rfl) ?_
      have HFC := zb.mk (show Kd.F k50 wc (fun k => w.heap.size ≤ k ∧ k < V.heap.size) (if co = at_ then Ao else Ao.map (·.add (at_ * 6))) (no - at_) (out.drop at_) from by
       have h0 : Kd.F k50 wc (fun k => w.heap.size ≤ k ∧ k < V.heap.size) Ao out.length out := by have h := Kd.N_F HOc.out; rw [HNO.out.1] at h; exact h
       have h := Kd.F_cut (c := co) (m := at_) h0 HAT.out (by have := HNO.out; omega)
       rw [List.length_drop, ← HNO.out.1] at h
       exact h)
      have HNM := zb.mk (Kd.xE HNc.out).1
      have an2 : at_ ≤ no := an
      go_wp2_with ((with_reducible refine zG (b := .append) (xs := #[.tmp 44, .tmp 47]) rfl ?_); at_builtin; refine Kd.N_append_rows k50 (w0 := w) w.heap.size rfl (.tmp 44) (.tmp 47) 25 50 _ _ rfl Try.underlying25 xL rfl (by decide) (by decide) (.slice Am nm cm) (nl ++ [x]) (out.drop at_) (if co = at_ then Ao else Ao.map (·.add (at_ * 6))) (no - at_) (co - at_) (fun k => w.heap.size ≤ k) (fun k => w.heap.size ≤ k ∧ k < V.heap.size) rfl rfl HNc.out HFC.out (fun k hk => ⟨hk.1, fun e => HOM.out k e.symm hk.2⟩) (fun k hk => Nat.le_trans HBc.out.size hk) HBc.out HBc.out.size (by have h1 := HAT.out; have h2 := HOL.out; have h3 := HNL.out; have h4 := HNO.out.1; rw [h3]; simp; omega) ?_; intro vd wd hrd hbd hgd hatd; obtain ⟨Ad, nd, cd, rfl⟩ : ∃ A n c, vd = .slice A n c := (by obtain ⟨A, c, e⟩ := Kd.xt hrd; exact ⟨A, _, c, e⟩); have HNd := zb.mk hrd; have HBd := zb.mk hbd; clear hrd hbd hgd hatd)
      go_roundw
      case rel =>
       have hout : (nl ++ [x]) ++ out.drop at_ = orderF (L.take (i + 1)) := by
        rw [HSU.out, ← hi.out.2.2, HNL.out, List.nil_append]
        unfold insF
        rw [HPS.out]
       refine ⟨_, i + 1, Ad, cd, nd, (nl ++ [x]) ++ out.drop at_, rfl, rfl, by first | rw [ei] | rfl | simp, ⟨HLI.out, ?_, hout⟩, HNd, HBd⟩
       have h1 := (Kd.xE HNd.out).1
       rw [h1, hout, HSU.out, insF_len, ← hi.out.2.2, ← HNO.out.1, hi.out.2.1]
      case measure => (try rw [ei]); have := HLI.out; simp [intOf]; omega
     ·skip
      go_wp2
      go_roundw
      case rel => exact ⟨_, q, rfl, by first | rw [eq1] | rfl, ⟨by have := HQ.out; have := hk.out.1; omega, by rw [hk.out.2, HQ.out]; show posF x out (q + 1) = _; rw [posF, if_pos (by rw [← HY.out]; exact HR.out)]⟩, HNZ, HBZ⟩
      case measure => (try rw [eq1]); have := HQ.out; simp [intOf]; omega
    ·have hk0 : k = 0 := by omega
     have HPK := zb.mk (show posF x out no = k by rw [hk.out.2, hk0]; rfl)
     have hkn : ¬ (0 : Int) < (k : Int) := by omega
     go_upto_region 6 with (fail)
     go_quiet (fail)
     obtain ⟨V2, hV⟩ : ∃ x, x = V.drewN nq := ⟨_, rfl⟩
     have HN2 := zb.mk (show Kd.N k50 50 V2 w.heap.size (fun k => w.heap.size ≤ k) (.slice Ao no co) out by rw [hV]; exact Kd.N_drewN HN.out _)
     have HB2 := zb.mk (show Below w.heap.size w V2 by rw [hV]; exact zj HBV.out _)
     rw [← hV]
     clear hV HN HBV
     have HN := HN2
     have HBV := HB2
     clear HN2 HB2
     obtain ⟨V, hV⟩ : ∃ V, V = V2 := ⟨_, rfl⟩
     rw [← hV] at HN HBV ⊢
     clear hV hkn hk0
     obtain ⟨at_, hat_⟩ : ∃ a, a = k := ⟨_, rfl⟩
     have HAT := zb.mk (show at_ ≤ out.length by have h1 := HNO.out.1; have h2 := hk.out.1; omega)
     have HOL := zb.mk (show out.length ≤ 1000000000 by have h1 := HNO.out.1; have h2 := hi.out; have h3 := HLL.out; omega)
     have HAC := zb.mk (show at_ ≤ co by have h1 := HNO.out; have h2 := hk.out.1; omega)
     have ac := HAC.out
     have an : at_ ≤ no := by have h1 := HNO.out.1; have h2 := HAT.out; omega
     rw [← hat_]
     have HPS := zb.mk (show posF x out out.length = at_ by rw [← HNO.out.1, hat_]; exact HPK.out)
     clear hat_ hkp
     go_upto_region 8 with (fail)
     refine yc (n := 13) (S := fun w' => w'.cell? (ad.add (i * 6)) = some (.int .i64 x.f0) ∧ w'.cell? ⟨(ad.add (i * 6)).block, (ad.add (i * 6)).off + 1, none⟩ = some (.int .i64 x.f1) ∧ w'.cell? ⟨(ad.add (i * 6)).block, (ad.add (i * 6)).off + 2, none⟩ = some (.int .i64 x.f2) ∧ w'.cell? ⟨(ad.add (i * 6)).block, (ad.add (i * 6)).off + 3, none⟩ = some (.slice A3 x.f3.length c3) ∧ w'.cell? ⟨(ad.add (i * 6)).block, (ad.add (i * 6)).off + 4, none⟩ = some (.slice A4 x.f4.length c4) ∧ w'.cell? ⟨(ad.add (i * 6)).block, (ad.add (i * 6)).off + 5, none⟩ = some (.int .i64 x.f5)) (ds := []) (bm 13 0) (by kernel_rfl) rfl rfl ⟨(za (ze HBV.out) HZ.out.1), (za (ze HBV.out) HZ.out.2.1), (za (ze HBV.out) HZ.out.2.2.1), (za (ze HBV.out) HZ.out.2.2.2.1), (za (ze HBV.out) HZ.out.2.2.2.2.1), (za (ze HBV.out) HZ.out.2.2.2.2.2)⟩ (fun hHeld => ?_)
     refine zl (i := 1) (N := some 33) (v := ?_) (a' := ?_) (bm 13 2) rfl rfl (by kernel_rfl) (fun _ _ _ h => h) (Or.inl ⟨by rfl, ?_⟩) ?_ ?_
     rotate_left
     ·intro w'
      go_simp
      with_reducible rfl
     rotate_left
     ·simp only [Act.put, List.setIfInBounds_toArray, List.set_cons_zero, List.set_cons_succ, zg, zh]
      rfl
     refine zl (i := 2) (N := some 34) (v := ?_) (a' := ?_) (bm 13 6) rfl rfl (by kernel_rfl) (fun _ _ _ h => h) (Or.inl ⟨by rfl, ?_⟩) ?_ ?_
     rotate_left
     ·intro w'
      go_simp
      with_reducible rfl
     rotate_left
     ·simp only [Act.put, List.setIfInBounds_toArray, List.set_cons_zero, List.set_cons_succ, zg, zh]
      rfl
     refine zl (i := 3) (N := some 35) (v := ?_) (a' := ?_) (bm 13 14) rfl rfl (by kernel_rfl) (fun _ _ _ h => h) (Or.inl ⟨by rfl, ?_⟩) ?_ ?_
     rotate_left
     ·intro w'
      go_simp
      with_reducible rfl
     rotate_left
     ·simp only [Act.put, List.setIfInBounds_toArray, List.set_cons_zero, List.set_cons_succ, zg, zh]
      rfl
     refine zl (i := 5) (N := some 37) (v := ?_) (a' := ?_) (bm 13 46) rfl rfl (by kernel_rfl) (fun _ _ _ h => h) (Or.inl ⟨by rfl, ?_⟩) ?_ ?_
     rotate_left
     ·intro w'
      go_simp
      with_reducible rfl
     rotate_left
     ·simp only [Act.put, List.setIfInBounds_toArray, List.set_cons_zero, List.set_cons_succ, zg, zh]
      rfl
     refine zl (i := 6) (N := some 38) (v := ?_) (a' := ?_) (bm 13 110) rfl rfl (by kernel_rfl) (fun _ _ _ h => h) (Or.inl ⟨by rfl, ?_⟩) ?_ ?_
     rotate_left
     ·intro w'
      go_simp
      with_reducible rfl
     rotate_left
     ·simp only [Act.put, List.setIfInBounds_toArray, List.set_cons_zero, List.set_cons_succ, zg, zh]
      rfl
     refine zl (i := 7) (N := some 39) (v := ?_) (a' := ?_) (bm 13 238) rfl rfl (by kernel_rfl) (fun _ _ _ h => h) (Or.inl ⟨by rfl, ?_⟩) ?_ ?_
     rotate_left
     ·intro w'
      go_simp
      with_reducible rfl
     rotate_left
     ·simp only [Act.put, List.setIfInBounds_toArray, List.set_cons_zero, List.set_cons_succ, zg, zh]
      rfl
     refine zA (i := 8) (N := some 40) (v := ?_) (a' := ?_) (bm 13 494) rfl rfl (by kernel_rfl) (fun _ _ _ h => h) (Or.inl ⟨by rfl, ?_⟩) hHeld ?_ ?_
     rotate_left
     ·rintro w' ⟨s0, s1, s2, s3, s4, s5⟩
      go_simp
      with_reducible rfl
     rotate_left
     ·simp only [Act.put, List.setIfInBounds_toArray, List.set_cons_zero, List.set_cons_succ, zg, zh]
      rfl
     refine yE (i := 0) (N := some 32) (bm 13 495) rfl rfl (by kernel_rfl) (by decide) (fun K hK => ?_)
     refine zI (w1 := ?_) (v := ?_) (by rfl) rfl ?_ ?_
     rotate_left 2
     ·go_simp
      constructor
      ·rfl
      ·rfl
     have HB1 := zb.mk (show Below V.heap.size V (V.drew.alloc (.cells #[] 50)) from zc (ze (Below.refl _ _)) _)
     have HO1 := zb.mk (Kd.xJ (Kd.N_bound HN.out) HB1.out)
     have HE1 := zb.mk (show Kd.N k50 50 (V.drew.alloc (.cells #[] 50)) w.heap.size (fun k => w.heap.size ≤ k) (.slice (some ⟨V.heap.size, 0, none⟩) 0 0) ([] : List S50) from Kd.R_N (yz (heap_alloc_new _ _) HBV.out.size HBV.out.size))
     refine hK.out _ _ ⟨(za (zi HBV.out HB1.out) HZ.out.1), (za (zi HBV.out HB1.out) HZ.out.2.1), (za (zi HBV.out HB1.out) HZ.out.2.2.1), (za (zi HBV.out HB1.out) HZ.out.2.2.2.1), (za (zi HBV.out HB1.out) HZ.out.2.2.2.2.1), (za (zi HBV.out HB1.out) HZ.out.2.2.2.2.2)⟩ (fun hHeld => ?_)
     clear hK K
     refine zp (a' := ?_) ?_ ?_
     rotate_left
     ·show Act.put _ (some 32) _ = _
      simp only [Act.put, List.setIfInBounds_toArray, List.set_cons_zero, List.set_cons_succ, zg, zh]
      rfl
     refine yE (i := 4) (N := some 36) (bm 13 511) rfl rfl (by kernel_rfl) (by decide) (fun K hK => ?_)
     refine Kd.zZ k50 (w0 := w) w.heap.size ?hwb (.tmp 32) (.tmp 35) 25 50 _ _ ?hob Try.underlying25 xL (by rfl) (by decide) (by decide) (.slice (some ⟨V.heap.size, 0, none⟩) 0 0) [] (out.take at_) Ao at_ co (fun k => w.heap.size ≤ k) (fun k => w.heap.size ≤ k ∧ k < V.heap.size) ?hsb ?hxb HE1.out (Kd.N_F (Kd.N_take HO1.out HAT.out)) (fun k hk => ⟨hk.1, fun e => absurd (show k = V.heap.size by simpa [Value.ownBlock] using e) (by have := hk.2; omega)⟩) (fun k hk => Nat.le_trans (Nat.le_trans HBV.out.size HB1.out.size) hk) (zi HBV.out HB1.out) (Nat.le_trans HBV.out.size HB1.out.size) (by have h1 := HAT.out; have h2 := HOL.out; simp; omega) ?_
     case hwb => rfl
     case hob => rfl
     case hsb => rfl
     case hxb => first | rfl | (go_simp; done) | (simp; done)
     intro va wa hra hba hga hata
     obtain ⟨An, cn, rfl⟩ := Kd.xt hra
     have HNa := zb.mk hra
     have HBa := zb.mk hba
     have HOa := zb.mk (Kd.N_grown HO1.out hga (fun k hk e => absurd (show k = V.heap.size by simpa [Value.ownBlock] using e) (by have := hk.2; omega)))
     have HSa := zb.mk (show V.heap.size ≤ wa.heap.size from Nat.le_trans HB1.out.size hga.size)
     have HAa := zb.mk (show ∀ k, (Value.slice An (List.length ([] ++ out.take at_)) cn).ownBlock = some k → V.heap.size ≤ k from fun k hk => hata.elim (fun h => by rw [h] at hk; have e2 : V.heap.size = k := (by simpa [Value.ownBlock] using hk); omega) (fun ⟨b, h, h2⟩ => by rw [h] at hk; injection hk with hk; exact Nat.le_trans HB1.out.size (hk ▸ h2)))
     obtain ⟨nl, hnl⟩ : ∃ l, l = [] ++ out.take at_ := ⟨_, rfl⟩
     have HNL := zb.mk hnl
     rw [← hnl] at HNa HAa ⊢
     clear hra hba hga hata hnl
     refine hK.out _ _ ⟨(za HBa.out HZ.out.1), (za HBa.out HZ.out.2.1), (za HBa.out HZ.out.2.2.1), (za HBa.out HZ.out.2.2.2.1), (za HBa.out HZ.out.2.2.2.2.1), (za HBa.out HZ.out.2.2.2.2.2)⟩ (fun hHeld => ?_)
     clear hK K
     refine zp (a' := ?_) ?_ ?_
     rotate_left
     ·show Act.put _ (some 36) _ = _
      simp only [Act.put, List.setIfInBounds_toArray, List.set_cons_zero, List.set_cons_succ, zg, zh]
      rfl
     refine yE (i := 9) (N := some 41) (bm 13 1023) rfl rfl (by kernel_rfl) (by decide) (fun K hK => ?_)
     refine xQ Try.func69 (by kernel_rfl) rfl #[.agg (ecs x A3 c3 A4 c4)] (by rfl) rfl rfl (by simp only [List.map_toArray, List.map_cons, List.map_nil]; rfl) ?_
     with_reducible refine (entry_calls x A3 c3 A4 c4 wa (Kd.zt HG3.out.2 HBa.out) HG3.out.1 HXL.out.1 (Kd.zt HG4.out.2 HBa.out) HG4.out.1 HXL.out.2).mono ?_
     rintro e wb ⟨B3, d3, B4, d4, rfl, hb, hr3, hr4⟩
     refine ⟨_, rfl, ?_⟩
     have HBb := zb.mk hb
     have HR3 := zb.mk hr3
     have HR4 := zb.mk hr4
     have HNb := zb.mk (Kd.xJ (Kd.N_bound HNa.out) hb)
     have HOb := zb.mk (Kd.xJ HOa.out hb)
     unfold ecs
     clear hb hr3 hr4
     refine hK.out _ _ ⟨(za (zi HBa.out HBb.out) HZ.out.1), (za (zi HBa.out HBb.out) HZ.out.2.1), (za (zi HBa.out HBb.out) HZ.out.2.2.1), (za (zi HBa.out HBb.out) HZ.out.2.2.2.1), (za (zi HBa.out HBb.out) HZ.out.2.2.2.2.1), (za (zi HBa.out HBb.out) HZ.out.2.2.2.2.2)⟩ (fun hHeld => ?_)
     clear hK K
     refine zp (a' := ?_) ?_ ?_
     rotate_left
     ·show Act.put _ (some 41) _ = _
      simp only [Act.put, List.setIfInBounds_toArray, List.set_cons_zero, List.set_cons_succ, zg, zh]
      rfl
     refine yE (i := 10) (N := some 42) (bm 13 2047) rfl rfl (by kernel_rfl) (by decide) (fun K hK => ?_)
     refine zI (w1 := ?_) (v := ?_) (by rfl) rfl ?_ ?_
     rotate_left 2
     ·go_simp
      constructor
      ·rfl
      ·rfl
     refine hK.out _ _ ⟨(za (zc (zi HBa.out HBb.out) _) HZ.out.1), (za (zc (zi HBa.out HBb.out) _) HZ.out.2.1), (za (zc (zi HBa.out HBb.out) _) HZ.out.2.2.1), (za (zc (zi HBa.out HBb.out) _) HZ.out.2.2.2.1), (za (zc (zi HBa.out HBb.out) _) HZ.out.2.2.2.2.1), (za (zc (zi HBa.out HBb.out) _) HZ.out.2.2.2.2.2)⟩ (fun hHeld => ?_)
     clear hK K
     refine zp (a' := ?_) ?_ ?_
     rotate_left
     ·show Act.put _ (some 42) _ = _
      simp only [Act.put, List.setIfInBounds_toArray, List.set_cons_zero, List.set_cons_succ, zg, zh]
      rfl
     refine yE (i := 11) (N := some 43) (bm 13 4095) rfl rfl (by kernel_rfl) (by decide) (fun K hK => ?_)
     refine Kd.N_append_step k50 (w0 := w) w.heap.size ?hw2b (.tmp 36) (.tmp 42) 25 50 _ _ ?ho2b Try.underlying25 xL (by rfl) (by decide) (by decide) (.slice An nl.length cn) nl x [.int .i64 x.f0, .int .i64 x.f1, .int .i64 x.f2, .slice B3 x.f3.length d3, .slice B4 x.f4.length d4, .int .i64 x.f5] (fun k => w.heap.size ≤ k) (fun k => wa.heap.size ≤ k) ?hs2b ?hx2b (k50_mkF wb (fun k => wa.heap.size ≤ k) x (Kd.zH HR3.out).2.1 (Kd.N_F (Kd.N_mono (Kd.R_N (Kd.yI HR3.out)) (fun k hk => hk.2.1))) (Kd.zH HR4.out).2.1 (Kd.N_F (Kd.N_mono (Kd.R_N (Kd.yI HR4.out)) (fun k hk => hk.2.1)))) (fun k hk => ⟨Nat.le_trans HBa.out.size hk, fun e => by have := Kd.N_lt HNa.out k e.symm; omega⟩) (fun k hk => Nat.le_trans (Nat.le_trans HBa.out.size HBb.out.size) hk) (Kd.N_mono HNb.out (fun k hk => hk.1)) (zi HBa.out HBb.out) (Nat.le_trans HBa.out.size HBb.out.size) (by have h1 := HAT.out; have h2 := HOL.out; have h3 := HNL.out; rw [h3]; simp; omega) ?_
     case hw2b => rfl
     case ho2b => rfl
     case hs2b => rfl
     case hx2b => first | rfl | (go_simp; done) | (simp; done)
     intro vc wc hrc hbc hgc hatc
     obtain ⟨Am, nm, cm, rfl⟩ : ∃ A n c, vc = .slice A n c := by obtain ⟨A, c, e⟩ := Kd.xt hrc; exact ⟨A, _, c, e⟩
     have HNc := zb.mk hrc
     have HOM := zb.mk (show ∀ k, (Value.slice Am nm cm).ownBlock = some k → ¬ k < V.heap.size from fun k hk => hatc.elim (fun h => by rw [h] at hk; have := HAa.out k hk; omega) (fun ⟨b, h, h2⟩ => by rw [h] at hk; injection hk with hk; have h3 := HSa.out; have h4 := HBb.out.size; omega))
     have HBc := zb.mk hbc
     have HOc := zb.mk (Kd.N_grown HOb.out hgc (fun k hk e => by have := HAa.out k e.symm; have := hk.2; omega))
     clear hrc hbc hgc hatc
     refine hK.out _ _ ⟨(za HBc.out HZ.out.1), (za HBc.out HZ.out.2.1), (za HBc.out HZ.out.2.2.1), (za HBc.out HZ.out.2.2.2.1), (za HBc.out HZ.out.2.2.2.2.1), (za HBc.out HZ.out.2.2.2.2.2)⟩ (fun hHeld => ?_)
     clear hK K
     refine zp (a' := ?_) ?_ ?_
     rotate_left
     ·show Act.put _ (some 43) _ = _
      simp only [Act.put, List.setIfInBounds_toArray, List.set_cons_zero, List.set_cons_succ, zg, zh]
      rfl
     refine zl (i := 12) (N := some 6) (v := ?_) (a' := ?_) (bm 13 8191) rfl rfl (by kernel_rfl) (fun _ _ _ h => h) (Or.inl ⟨by rfl, ?_⟩) ?_ ?_
     rotate_left
     ·intro w'
      go_simp
      with_reducible rfl
     rotate_left
     ·simp only [Act.put, List.setIfInBounds_toArray, List.set_cons_zero, List.set_cons_succ, zg, zh]
      rfl
     refine yt (by kernel_rfl) ?_
     have HFC := zb.mk (show Kd.F k50 wc (fun k => w.heap.size ≤ k ∧ k < V.heap.size) (if co = at_ then Ao else Ao.map (·.add (at_ * 6))) (no - at_) (out.drop at_) from by
      have h0 : Kd.F k50 wc (fun k => w.heap.size ≤ k ∧ k < V.heap.size) Ao out.length out := by have h := Kd.N_F HOc.out; rw [HNO.out.1] at h; exact h
      have h := Kd.F_cut (c := co) (m := at_) h0 HAT.out (by have := HNO.out; omega)
      rw [List.length_drop, ← HNO.out.1] at h
      exact h)
     have HNM := zb.mk (Kd.xE HNc.out).1
     have an2 : at_ ≤ no := an
     go_wp2_with ((with_reducible refine zG (b := .append) (xs := #[.tmp 44, .tmp 47]) rfl ?_); at_builtin; refine Kd.N_append_rows k50 (w0 := w) w.heap.size rfl (.tmp 44) (.tmp 47) 25 50 _ _ rfl Try.underlying25 xL rfl (by decide) (by decide) (.slice Am nm cm) (nl ++ [x]) (out.drop at_) (if co = at_ then Ao else Ao.map (·.add (at_ * 6))) (no - at_) (co - at_) (fun k => w.heap.size ≤ k) (fun k => w.heap.size ≤ k ∧ k < V.heap.size) rfl rfl HNc.out HFC.out (fun k hk => ⟨hk.1, fun e => HOM.out k e.symm hk.2⟩) (fun k hk => Nat.le_trans HBc.out.size hk) HBc.out HBc.out.size (by have h1 := HAT.out; have h2 := HOL.out; have h3 := HNL.out; have h4 := HNO.out.1; rw [h3]; simp; omega) ?_; intro vd wd hrd hbd hgd hatd; obtain ⟨Ad, nd, cd, rfl⟩ : ∃ A n c, vd = .slice A n c := (by obtain ⟨A, c, e⟩ := Kd.xt hrd; exact ⟨A, _, c, e⟩); have HNd := zb.mk hrd; have HBd := zb.mk hbd; clear hrd hbd hgd hatd)
     go_roundw
     case rel =>
      have hout : (nl ++ [x]) ++ out.drop at_ = orderF (L.take (i + 1)) := by
       rw [HSU.out, ← hi.out.2.2, HNL.out, List.nil_append]
       unfold insF
       rw [HPS.out]
      refine ⟨_, i + 1, Ad, cd, nd, (nl ++ [x]) ++ out.drop at_, rfl, rfl, by first | rw [ei] | rfl | simp, ⟨HLI.out, ?_, hout⟩, HNd, HBd⟩
      have h1 := (Kd.xE HNd.out).1
      rw [h1, hout, HSU.out, insF_len, ← hi.out.2.2, ← HNO.out.1, hi.out.2.1]
     case measure => (try rw [ei]); have := HLI.out; simp [intOf]; omega
  ·have h0 := hi.out
   have e : i = n := by omega
   have e2 : L.take i = L := List.take_of_length_le (by have := HN0.out; omega)
   go_wp2
   rw [HP.out]
   refine ⟨Ao, co, ?_, ?_, HBV.out⟩
   ·rw [← HN0.out, ← e, ← h0.2.1]
   ·rw [← HN0.out, ← e, ← h0.2.1]
    have h := HN.out
    rw [h0.2.2, e2] at h
    exact h
end Go.Proofs.Ytppapibjbjmmbaa.QSY
set_option linter.unusedVariables false
set_option linter.unusedSimpArgs false
namespace Go.Proofs.Ytppapibjbjmmbaa.QSY
open Go.RowKit Go.Proofs.YtppapibjbjmmbaaW.PrintWords Go.Proofs.YtppapibjbjmmbaaW.PrintLast Go.Proofs.YtppapibjbjmmbaaW.PrintMore
theorem byte_ok {n : Int} (h : (Lit.int .u8 n).wf = true) : (0 : Int) ≤ n ∧ n ≤ 255 := by
 simp [Lit.wf] at h
 have h1 : IntKind.u8.min = 0 := by decide
 have h2 : IntKind.u8.max = 255 := by decide
 rw [h1, h2] at h
 exact h
end Go.Proofs.Ytppapibjbjmmbaa.QSY
set_option linter.unusedVariables false
set_option linter.unusedSimpArgs false
namespace Go.Proofs.Ytppapibjbjmmbaa.QSY
open Go.RowKit Go.Proofs.YtppapibjbjmmbaaW.PrintWords Go.Proofs.YtppapibjbjmmbaaW.PrintLast Go.Proofs.YtppapibjbjmmbaaW.PrintMore
theorem LogOf.len {Bs : List (List zO)} {nC : Nat} {σ : St} {L : List S50} (h : LogOf σ.L L) (hi : Inv Bs nC σ) : L.length ≤ 1000000000 := by
 have := hi.len_le
 rcases h with rfl | rfl | ⟨_, rfl⟩
 ·simp
 ·exact this
 ·rw [List.length_set]; exact this
end Go.Proofs.Ytppapibjbjmmbaa.QSY
set_option linter.unusedVariables false
set_option linter.unusedSimpArgs false
namespace Go.Proofs.Ytppapibjbjmmbaa.QSY
open Go.RowKit Go.Proofs.YtppapibjbjmmbaaW.PrintWords Go.Proofs.YtppapibjbjmmbaaW.PrintLast Go.Proofs.YtppapibjbjmmbaaW.PrintMore
theorem LogOf.small {Bs : List (List zO)} {nC : Nat} {σ : St} {L : List S50} (h : LogOf σ.L L) (hi : Inv Bs nC σ) : ∀ e ∈ L, e.f3.length ≤ 1000 ∧ e.f4.length ≤ 1000 := by
 have hs : ∀ e ∈ σ.L, e.f3.length ≤ 1000 ∧ e.f4.length ≤ 1000 := fun e he => ⟨(hi.ents e he).r.1, (hi.ents e he).p.1⟩
 rcases h with rfl | rfl | ⟨h1, rfl⟩
 ·simp
 ·exact hs
 ·intro e he
  rcases List.mem_or_eq_of_mem_set he with he | rfl
  ·exact hs e he
  ·exact hs (σ.L.getD 0 z50) (xC (by omega))
theorem order_mem (L : List S50) : ∀ e ∈ orderF L, e ∈ L := by
 have h : ∀ (L o : List S50), ∀ e ∈ L.foldl insF o, e ∈ o ∨ e ∈ L := by
  intro L
  induction L with
  | nil => intro o e he; exact .inl he
  | cons x L ih =>
   intro o e he
   rw [List.foldl_cons] at he
   rcases ih _ e he with h | h
   ·unfold insF at h
    rcases List.mem_append.1 h with h | h
    ·rcases List.mem_append.1 h with h | h
     ·exact .inl (List.mem_of_mem_take h)
     ·exact .inr (by rw [List.mem_singleton.1 h]; exact List.mem_cons_self)
    ·exact .inl (List.mem_of_mem_drop h)
   ·exact .inr (List.mem_cons_of_mem _ h)
 intro e he
 rcases h L [] e he with h | h
 ·cases h
 ·exact h
def ReplayDrawn (w : World) (e : Ending) (w' : World) : Prop := ∃ A0 c0 Cs AL cL L, e = .returned (.tuple #[.slice A0 (List.length Cs) c0, .slice AL (List.length L) cL]) ∧ Below w.heap.size w w' ∧ (Kd.C (Kd.int .i64) w' A0 (List.length Cs) Cs ∧ Cs.length ≤ c0 ∧ Cs.length ≤ 3) ∧ (Kd.C k50 w' AL (List.length L) L ∧ L.length ≤ cL ∧ L.length ≤ 1000000000 ∧ ∀ e ∈ L, e.f3.length ≤ 1000 ∧ e.f4.length ≤ 1000)
set_option maxHeartbeats 4000000 in
set_option maxRecDepth 100000 in
theorem drawReplay_calls {w : World} (A : Option Addr) (c : Nat) (b : List Int) (h : Kd.C (Kd.int .u8) w A b.length b) (hc : b.length ≤ c) (hb : ∀ x ∈ b, (0 : Int) ≤ x ∧ x ≤ 255) (hl : b.length ≤ 1000000000) :
  Calls Try.prog 32 #[.slice A b.length c] w (ReplayDrawn w) := by
 have HO := zb.mk (open_calls A c b h hc hb hl)
 obtain ⟨n, hn⟩ : ∃ n, n = b.length := ⟨_, rfl⟩
 rw [← hn] at HO ⊢
 obtain ⟨Post, hPost⟩ : ∃ P, P = ReplayDrawn w := ⟨_, rfl⟩
 have HP := zb.mk hPost
 rw [← hPost]
 clear h hc hb hl hn hPost
 go_enter Try.func32, Try.ntmps32
 go_upto_region 3 with (first
  | (go_at_call 54; refine HO.out.mono ?_; rintro e w1 ⟨g, rfl, hr⟩; have HR := zb.mk hr; clear hr)
  | (go_at_call 66; refine (log_draws HR.out (by decide)).mono ?_; rintro e w2 ⟨A0, c0, Cs, A1, n1, c1, AL, cL, L, rfl, hd, hs⟩; have HD := zb.mk hd; have HS := zb.mk hs; clear hd hs))
 obtain ⟨nL, hnL⟩ : ∃ n, n = L.length := ⟨_, rfl⟩
 have HNL := zb.mk hnL
 have HSM := zb.mk (show L.length ≤ 1000000000 ∧ (∀ e ∈ L, e.f3.length ≤ 1000 ∧ e.f4.length ≤ 1000) ∧ Cs.length ≤ 3 by
  obtain ⟨Bs, σ, h1, h2, h3⟩ := HS.out
  exact ⟨h3.len h2, h3.small h2, new_ok h1⟩)
 obtain ⟨U, hU⟩ : ∃ U, U = w2.alloc (.cells #[.slice A0 Cs.length c0, .slice A1 n1 c1] 37) := ⟨_, rfl⟩
 have EP := zb.mk (show U.heap[w2.heap.size]? = some (.cells #[.slice A0 Cs.length c0, .slice A1 n1 c1] 37 (0, 0)) by rw [hU]; exact heap_alloc_new _ _)
 have HRU := zb.mk (show Rdr w U g (0 + 6000) by rw [hU]; exact HD.out.1.below (zc (Below.refl _ _) _))
 have HPU := zb.mk (show Kd.R (Kd.int .i64) 3 U w.heap.size (fun _ => True) (.slice A0 Cs.length c0) Cs by rw [hU]; exact Kd.zP (Kd.zN HD.out.2.2.1 (zc (Below.refl _ _) _)) HR.out.hb.size)
 have HLU := zb.mk (show Kd.R k50 50 U w.heap.size (fun _ => True) (.slice AL L.length cL) L by rw [hU]; exact Kd.zP (Kd.zN HD.out.2.2.2 (zc (Below.refl _ _) _)) HR.out.hb.size)
 obtain ⟨b5, hb5⟩ : ∃ b, b = w2.heap.size := ⟨_, rfl⟩
 rw [← hU]
 rw [← hb5] at EP ⊢
 clear hU hb5 HD HS HR
 rw [← hnL] at HLU ⊢
 clear hnL
 go_upto_if 16 with (go_at_call 55; refine (zQ _ HRU.out (by decide) (by decide)).mono ?_; rintro e w3 ⟨y, rfl, y0, y1, y2, hr, hk⟩; have HB3 := zb.mk hr.hb; have EP3 := zb.mk (HRU.out.kept hk EP.out (by decide)); have HP3 := zb.mk (HRU.out.R hk HPU.out (by decide)); have HL3 := zb.mk (HRU.out.R hk HLU.out (by decide)); clear hr hk y0 y1 y2)
 obtain ⟨V, hV⟩ : ∃ V, V = w3 := ⟨_, rfl⟩
 rw [← hV] at EP3 HP3 HL3 HB3 ⊢
 clear hV
 have p0 := (zd EP3.out 0).trans rfl
 by_cases hy : y = 0
 ·go_wp2
  rw [HP.out]
  have e := HNL.out
  subst e
  exact ⟨A0, c0, Cs, AL, cL, L, rfl, HB3.out, ⟨(Kd.zH HP3.out).2.2, (Kd.zH HP3.out).2.1, HSM.out.2.2⟩, (Kd.zH HL3.out).2.2, (Kd.zH HL3.out).2.1, HSM.out.1, HSM.out.2.1⟩
 ·have KO := zb.mk (fun (W : World) (hW : Below V.heap.size V W) => order_calls AL cL L W (Kd.zt (Kd.zH HL3.out).2.2 hW) HSM.out.1 HSM.out.2.1)
  rw [← HNL.out] at KO
  go_upto_region 5 with (fail)
  have p0 : V.cell? ⟨b5, 0, none⟩ = some (.slice A0 Cs.length c0) := p0
  refine yc (n := 6) (S := fun w' => w'.cell? ⟨b5, 0, none⟩ = some (.slice A0 Cs.length c0)) (ds := []) (bm 6 0) (by kernel_rfl) rfl rfl ((za (ze (Below.refl _ _)) p0)) (fun hHeld => ?_)
  refine zl (i := 0) (N := some 20) (v := ?_) (a' := ?_) (bm 6 1) rfl rfl (by kernel_rfl) (fun _ _ _ h => h) (Or.inl ⟨by rfl, ?_⟩) ?_ ?_
  rotate_left
  ·intro w'
   go_simp
   with_reducible rfl
  rotate_left
  ·simp only [Act.put, List.setIfInBounds_toArray, List.set_cons_zero, List.set_cons_succ, zg, zh]
   rfl
  refine zl (i := 2) (N := some 22) (v := ?_) (a' := ?_) (bm 6 5) rfl rfl (by kernel_rfl) (fun _ _ _ h => h) (Or.inl ⟨by rfl, ?_⟩) ?_ ?_
  rotate_left
  ·intro w'
   go_simp
   with_reducible rfl
  rotate_left
  ·simp only [Act.put, List.setIfInBounds_toArray, List.set_cons_zero, List.set_cons_succ, zg, zh]
   rfl
  refine zA (i := 1) (N := some 21) (v := ?_) (a' := ?_) (bm 6 7) rfl rfl (by kernel_rfl) (fun _ _ _ h => h) (Or.inl ⟨by rfl, ?_⟩) hHeld ?_ ?_
  rotate_left
  ·intro w' s0
   go_simp
   with_reducible rfl
  rotate_left
  ·simp only [Act.put, List.setIfInBounds_toArray, List.set_cons_zero, List.set_cons_succ, zg, zh]
   rfl
  refine yE (i := 3) (N := some 23) (bm 6 15) rfl rfl (by kernel_rfl) (by decide) (fun K hK => ?_)
  refine xQ Try.func36 (by kernel_rfl) rfl #[.slice AL nL cL] (by rfl) rfl rfl (by simp only [List.map_toArray, List.map_cons, List.map_nil]; rfl) ?_
  with_reducible refine (KO.out _ (ze (Below.refl _ _))).mono ?_
  rintro e wc ⟨AO, cO, rfl, hn, hb⟩
  refine ⟨_, rfl, ?_⟩
  have HNc := zb.mk hn
  have HBc := zb.mk (show Below V.heap.size V wc from zi (ze (Below.refl _ _)) hb)
  clear hn hb
  refine hK.out _ _ ((za HBc.out p0)) (fun hHeld => ?_)
  clear hK K
  refine zp (a' := ?_) ?_ ?_
  rotate_left
  ·show Act.put _ (some 23) _ = _
   simp only [Act.put, List.setIfInBounds_toArray, List.set_cons_zero, List.set_cons_succ, zg, zh]
   rfl
  refine zl (i := 4) (N := some 2) (v := ?_) (a' := ?_) (bm 6 31) rfl rfl (by kernel_rfl) (fun _ _ _ h => h) (Or.inl ⟨by rfl, ?_⟩) ?_ ?_
  rotate_left
  ·intro w'
   go_simp
   with_reducible rfl
  rotate_left
  ·simp only [Act.put, List.setIfInBounds_toArray, List.set_cons_zero, List.set_cons_succ, zg, zh]
   rfl
  refine zl (i := 5) (N := some 3) (v := ?_) (a' := ?_) (bm 6 63) rfl rfl (by kernel_rfl) (fun _ _ _ h => h) (Or.inl ⟨by rfl, ?_⟩) ?_ ?_
  rotate_left
  ·intro w'
   go_simp
   with_reducible rfl
  rotate_left
  ·simp only [Act.put, List.setIfInBounds_toArray, List.set_cons_zero, List.set_cons_succ, zg, zh]
   rfl
  refine yt (by kernel_rfl) ?_
  go_wp2
  rw [HP.out]
  refine ⟨A0, c0, Cs, AO, cO, orderF L, ?_, zi HB3.out HBc.out, ⟨Kd.zt (Kd.zH HP3.out).2.2 HBc.out, (Kd.zH HP3.out).2.1, HSM.out.2.2⟩, ?_, ?_, by rw [orderF_len]; exact HSM.out.1, fun e he => HSM.out.2.1 e (order_mem L e he)⟩
  ·rw [orderF_len]; rfl
  ·have h := (Kd.xE HNc.out).2.2
   exact h
  ·rw [orderF_len]; exact (Kd.xE HNc.out).2.1
end Go.Proofs.Ytppapibjbjmmbaa.QSY
set_option linter.unusedVariables false
set_option linter.unusedSimpArgs false
namespace Go.Proofs.Ytppapibjbjmmbaa.QSY
open Go.RowKit Go.Proofs.YtppapibjbjmmbaaW.PrintWords Go.Proofs.YtppapibjbjmmbaaW.PrintLast Go.Proofs.YtppapibjbjmmbaaW.PrintMore
set_option maxHeartbeats 4000000 in
set_option maxRecDepth 100000 in
theorem lqints_calls (A : Option Addr) (a : List Int) (na c : Nat) (B : Option Addr) (nb d : Nat) (w : World) (ha : Kd.C (Kd.int .i64) w A a.length a) (hb : Kd.C (Kd.int .i64) w B a.length a) (hna : na = a.length) (hnb : nb = a.length) :
  Calls Try.prog 17 #[.slice A na c, .slice B nb d] w fun e w' => e = .returned (.bool true) ∧ Below w.heap.size w w' := by
 have HA := zb.mk ha
 have HB := zb.mk hb
 have HN := zb.mk hna
 have HM := zb.mk (show na ≤ maxLen by rw [hna]; exact ha.2.1)
 obtain rfl : nb = na := by omega
 obtain ⟨Post, hPost⟩ : ∃ P, P = fun (e : Ending) (w' : World) => e = .returned (.bool true) ∧ Below w.heap.size w w' := ⟨_, rfl⟩
 have HP := zb.mk (show ∀ e w', Post e w' ↔ (e = .returned (.bool true) ∧ Below w.heap.size w w') from fun _ _ => by rw [hPost])
 rw [← hPost]
 clear ha hb hna hnb hPost
 go_enter Try.func17, Try.ntmps17
 go_wp2
 go_loopw [5] (fun v5 wr => ∃ (i m : Nat), wr = w.drewN m ∧ v5 = .int .i64 i ∧ zb (i ≤ nb)) (fun v5 _ => nb - (intOf v5).toNat)
 case atStart => exact ⟨0, 0, rfl, rfl, ⟨Nat.zero_le _⟩⟩
 case round =>
  obtain ⟨i, m, rfl, rfl, hi⟩ := hrel
  by_cases hlt : (i : Int) < (nb : Int)
  ·have HLI := zb.mk (show i < nb by omega)
   have en := yx (i := i) (n := nb) (by omega) HM.out
   have i0 : (0 : Int) ≤ (i : Int) := by omega
   obtain ⟨ad, rfl, z0⟩ := at_ints HA.out i (by have := HLI.out; have := HN.out; omega)
   obtain ⟨ad2, rfl, y0⟩ := at_ints HB.out i (by have := HLI.out; have := HN.out; omega)
   obtain ⟨x, hx⟩ : ∃ x, x = a.getD i 0 := ⟨_, rfl⟩
   rw [← hx] at z0 y0
   clear hx
   go_upto_region 6 with (fail)
   go_quiet (fail)
   go_wp2
   go_roundw
   case rel => exact ⟨i + 1, _, rfl, by first | rw [en] | rfl | simp, ⟨HLI.out⟩⟩
   case measure => (try rw [en]); have := HLI.out; simp [intOf]; omega
  ·go_wp2
   (try refine bodyPost_ret (results_tmp rfl _ _ _) rfl ?_)
   rw [HP.out]
   exact ⟨rfl, zj (Below.refl _ _) _⟩
def RepP (w : World) (b : Bool) (n : Nat) (r : List Int) (e : Ending) (w' : World) : Prop := ∃ A c, e = .returned (.tuple #[.slice A n c, .bool b]) ∧ n = r.length ∧ Kd.R (Kd.int .i64) 3 w' w.heap.size (fun _ => True) (.slice A n c) r ∧ Below w.heap.size w w'
theorem Replayed.some_ {w w' : World} {cs r : List Int} {L : List S50} {e : Ending} {n : Nat} (h : Replayed w cs L e w') (hr : yg cs L = some r) (hn : n = cs.length) : RepP w true n r e w' := by
 obtain ⟨v, he, hR, hb⟩ := h
 rw [hr] at he hR
 obtain ⟨A, c, rfl⟩ := Kd.zJ hR
 have e1 : n = r.length := by rw [replay_len _ _ _ hr, hn]
 have hR : Kd.R (Kd.int .i64) 3 w' w.heap.size (fun _ => True) (.slice A r.length c) r := hR
 rw [← e1] at hR
 exact ⟨A, c, by rw [he, e1]; rfl, e1, hR, hb⟩
theorem Replayed.none_ {w w' : World} {cs : List Int} {L : List S50} {e : Ending} (h : Replayed w cs L e w') (hr : yg cs L = none) : RepP w false 0 [] e w' := by
 obtain ⟨v, he, hR, hb⟩ := h
 rw [hr] at he hR
 obtain ⟨A, c, rfl⟩ := Kd.zJ hR
 exact ⟨A, c, he, rfl, hR, hb⟩
structure Rp (w1 V : World) (A0 : Option Addr) (Cs : List Int) (AL : Option Addr) (cL : Nat) (L : List S50) : Prop where
 b : Below w1.heap.size w1 V
 c : Kd.C (Kd.int .i64) w1 A0 Cs.length Cs
 n : Cs.length ≤ 3
 l : Kd.C k50 w1 AL L.length L
 lc : L.length ≤ cL
 ll : L.length ≤ 1000000000
 s : ∀ e ∈ L, e.f3.length ≤ 1000 ∧ e.f4.length ≤ 1000
end Go.Proofs.Ytppapibjbjmmbaa.QSY
