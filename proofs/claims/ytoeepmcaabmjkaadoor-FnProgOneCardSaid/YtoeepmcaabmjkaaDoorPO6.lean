import Derived.Laws.BitsAllLaws
import Derived.SizedLaws
import Derived.ChangeSlices
import Derived.Test.YtoeepmcaabmjkaaDoorPO0
import Derived.Test.YtoeepmcaabmjkaaDoorPO1
import Derived.Test.YtoeepmcaabmjkaaDoorPO2
import Derived.Test.YtoeepmcaabmjkaaDoorPO3
import Derived.Test.YtoeepmcaabmjkaaDoorPO4
import Derived.Test.YtoeepmcaabmjkaaDoorPO5
namespace Go.Proofs.YtoeepmcaabmjkaaDoor.QPO
open Go.RowKit Go.Proofs.YtoeepmcaabmjkaaDoorW.PrintWords Go.Proofs.YtoeepmcaabmjkaaDoorW.PrintLast Go.Proofs.YtoeepmcaabmjkaaDoorW.PrintMore
attribute [local go_sem] yz yx yQ yP yl yk yy yw   -- for this text's walks alone
set_option linter.unusedVariables false
set_option linter.unusedSimpArgs false
mutual
def zD.j0 : Nat → List Int → List Int → Bool → Option (Bool)
  | 0, _, _, _ => none
  | k + 1, x0, x1, x16 => if x16 = true then (some true) else ((yB.f k x0).bind fun bt304 => ((yB.f k x1).bind fun bt311 => ((yf.f k bt304.1 bt304.2).bind fun t318 => ((yf.f k bt311.1 bt311.2).bind fun t319 => ((zw.f k bt304.1 bt304.2).bind fun t320 => (if t318.toList = t320.toList then ((zw.f k bt311.1 bt311.2).bind fun t321 => (if t319.toList = t321.toList then (if t318.toList = ([] : List UInt8) then (zD.j1 k t318 t319 true bt304.1 bt304.2 bt311.1 bt311.2) else (zD.j1 k t318 t319 (t319.toList == ([] : List UInt8)) bt304.1 bt304.2 bt311.1 bt311.2)) else (none))) else (none)))))))
def zD.j1 : Nat → ByteArray → ByteArray → Bool → List Int → List (List (S52)) → List Int → List (List (S52)) → Option (Bool)
  | 0, _, _, _, _, _, _, _ => none
  | k + 1, x7, x8, x42, x311000, x311001, x318000, x318001 => if x42 = true then ((zw.f k x311000 x311001).bind fun t322 => (if x7.toList = t322.toList then ((zw.f k x318000 x318001).bind fun t323 => (some (x8.toList == t323.toList))) else (none))) else ((xw.f k x311000 x311001 x318000 x318001).bind fun t324 => (some ((x7.toList == x8.toList) == t324)))
end
def zD.f (k : Nat) (l0 : List Int) (l1 : List Int) : Option (Bool) := if (l0.length : Int) > 1048576 then (zD.j0 k l0 l1 true) else (zD.j0 k l0 l1 (decide ((l1.length : Int) > 1048576)))
set_option maxHeartbeats 8000000 in
set_option maxRecDepth 100000 in
theorem zD.calls (k : Nat) (A0 : Option Addr) (c0 : Nat) (l0 : List Int) (A1 : Option Addr) (c1 : Nat) (l1 : List Int) (r : Bool) (w : World) (hr0 : Kd.C (Kd.int .u8) w A0 l0.length l0) (hc0 : l0.length ≤ c0) (hr1 : Kd.C (Kd.int .u8) w A1 l1.length l1) (hc1 : l1.length ≤ c1) (h : zD.f k l0 l1 = some r) :
    Calls Tryd.prog 4 #[.slice A0 l0.length c0, .slice A1 l1.length c1] w fun e w' => e = .returned (.bool r) ∧ Below w.heap.size w w' := by
  have hu30 := Tryd.underlying30
  have HR0 := za.mk hr0
  have HC0 := za.mk hc0
  clear hr0 hc0
  have HR1 := za.mk hr1
  have HC1 := za.mk hc1
  clear hr1 hc1
  have HB := za.mk (Below.refl w.heap.size w)
  have H : (if (l0.length : Int) > 1048576 then (zD.j0 k l0 l1 true) else (zD.j0 k l0 l1 (decide ((l1.length : Int) > 1048576)))) = some r := h
  clear h
  have HC3 := za.mk H
  clear H
  go_enter Tryd.func4, Tryd.ntmps4
  go_upto_region 1 with (fail)
  go_cut [16] (fun v16 wc => ∃ (kq : Nat) (x16_2 : Bool), v16 = .bool x16_2 ∧ za (zD.j0 kq l0 l1 x16_2 = some r) ∧ za (kq ≤ k) ∧ za (Below w.heap.size w wc))
  case first =>
    have H := HC3.out
    clear HC3
    by_cases c4 : (l0.length : Int) > 1048576
    · rw [if_pos c4] at H
      have c4b0 : decide (1048576 < (l0.length : Int)) = true := decide_eq_true c4
      have c4b1 : decide (1048576 < l0.length) = true := decide_eq_true (by omega)
      clear c4
      (first | rw [c4b0] | (simp only [zn, zo]; rw [c4b0]) | skip)
      have H' := za.mk H
      clear H
      go_wp2
      go_meet
      case rel => exact ⟨_, (true), (by first | rfl | (simp; done) | (simp [*]; done)), H', ⟨by first | omega | exact Nat.le_refl _⟩, ⟨by repeat (with_reducible first | exact HB.out | apply zc | apply zb | apply zd)⟩⟩
    · rw [if_neg c4] at H
      have c4b0 : decide (1048576 < (l0.length : Int)) = false := decide_eq_false c4
      have c4b1 : decide (1048576 < l0.length) = false := decide_eq_false (by omega)
      clear c4
      (first | rw [c4b0] | (simp only [zn, zo]; rw [c4b0]) | skip)
      have H' := za.mk H
      clear H
      go_wp2
      go_meet
      case rel => exact ⟨_, (decide ((l1.length : Int) > 1048576)), (by first | rfl | (simp; done) | (simp [*]; done)), H', ⟨by first | omega | exact Nat.le_refl _⟩, ⟨by repeat (with_reducible first | exact HB.out | apply zc | apply zb | apply zd)⟩⟩
  case rest =>
    clear HC3
    try clear c1
    try clear p2
    try clear c4
    try clear c4b0
    try clear c4b1
    obtain ⟨kq, x16_2, rfl, HA, HJ2, HB⟩ := hcut
    cases kq with
    | zero => exact absurd HA.out (by simp [zD.j0])
    | succ kj2 =>
      have H := HA.out
      clear HA
      simp only [zD.j0] at H
      by_cases c5 : x16_2 = true
      · subst c5
        have H1 : (some true) = some r := by rw [if_pos rfl] at H; exact H
        clear H
        have H := H1
        clear H1
        obtain rfl := Option.some.inj H
        go_wp2
        go_ret
        exact ⟨by first | rfl | (simp [zr, zq] <;> rfl) | (simp [*, zr, zq] <;> rfl), by repeat (with_reducible first | exact HB.out | apply zc | apply zb | apply zd)⟩
      · replace c5 := Bool.eq_false_iff.mpr c5
        subst c5
        have H1 : ((yB.f kj2 l0).bind fun bt304 => ((yB.f kj2 l1).bind fun bt311 => ((yf.f kj2 bt304.1 bt304.2).bind fun t318 => ((yf.f kj2 bt311.1 bt311.2).bind fun t319 => ((zw.f kj2 bt304.1 bt304.2).bind fun t320 => (if t318.toList = t320.toList then ((zw.f kj2 bt311.1 bt311.2).bind fun t321 => (if t319.toList = t321.toList then (if t318.toList = ([] : List UInt8) then (zD.j1 kj2 t318 t319 true bt304.1 bt304.2 bt311.1 bt311.2) else (zD.j1 kj2 t318 t319 (t319.toList == ([] : List UInt8)) bt304.1 bt304.2 bt311.1 bt311.2)) else (none))) else (none))))))) = some r := by rw [if_neg (show ¬ (false = true) by decide)] at H; exact H
        clear H
        have H := H1
        clear H1
        replace H := Option.bind_eq_some_iff.mp H
        obtain ⟨⟨t304, t307⟩, A60, H⟩ := H
        replace H : ((yB.f kj2 l1).bind fun bt311 => ((yf.f kj2 t304 t307).bind fun t318 => ((yf.f kj2 bt311.1 bt311.2).bind fun t319 => ((zw.f kj2 t304 t307).bind fun t320 => (if t318.toList = t320.toList then ((zw.f kj2 bt311.1 bt311.2).bind fun t321 => (if t319.toList = t321.toList then (if t318.toList = ([] : List UInt8) then (zD.j1 kj2 t318 t319 true t304 t307 bt311.1 bt311.2) else (zD.j1 kj2 t318 t319 (t319.toList == ([] : List UInt8)) t304 t307 bt311.1 bt311.2)) else (none))) else (none)))))) = some r := H
        have A6 := za.mk A60
        clear A60
        replace H := Option.bind_eq_some_iff.mp H
        obtain ⟨⟨t311, t314⟩, A70, H⟩ := H
        replace H : ((yf.f kj2 t304 t307).bind fun t318 => ((yf.f kj2 t311 t314).bind fun t319 => ((zw.f kj2 t304 t307).bind fun t320 => (if t318.toList = t320.toList then ((zw.f kj2 t311 t314).bind fun t321 => (if t319.toList = t321.toList then (if t318.toList = ([] : List UInt8) then (zD.j1 kj2 t318 t319 true t304 t307 t311 t314) else (zD.j1 kj2 t318 t319 (t319.toList == ([] : List UInt8)) t304 t307 t311 t314)) else (none))) else (none))))) = some r := H
        have A7 := za.mk A70
        clear A70
        replace H := Option.bind_eq_some_iff.mp H
        obtain ⟨t318, A80, H⟩ := H
        replace H : ((yf.f kj2 t311 t314).bind fun t319 => ((zw.f kj2 t304 t307).bind fun t320 => (if t318.toList = t320.toList then ((zw.f kj2 t311 t314).bind fun t321 => (if t319.toList = t321.toList then (if t318.toList = ([] : List UInt8) then (zD.j1 kj2 t318 t319 true t304 t307 t311 t314) else (zD.j1 kj2 t318 t319 (t319.toList == ([] : List UInt8)) t304 t307 t311 t314)) else (none))) else (none)))) = some r := H
        have A8 := za.mk A80
        clear A80
        replace H := Option.bind_eq_some_iff.mp H
        obtain ⟨t319, A90, H⟩ := H
        replace H : ((zw.f kj2 t304 t307).bind fun t320 => (if t318.toList = t320.toList then ((zw.f kj2 t311 t314).bind fun t321 => (if t319.toList = t321.toList then (if t318.toList = ([] : List UInt8) then (zD.j1 kj2 t318 t319 true t304 t307 t311 t314) else (zD.j1 kj2 t318 t319 (t319.toList == ([] : List UInt8)) t304 t307 t311 t314)) else (none))) else (none))) = some r := H
        have A9 := za.mk A90
        clear A90
        have HC10 := za.mk H
        clear H
        go_upto_region 7 with (first | ((with_reducible refine zx (f := 11) rfl ?_); refine z6 (some 18) rfl rfl Tryd.func11 (by kernel_rfl) rfl #[.slice A0 l0.length c0] rfl (by (try simp only [List.map_toArray, List.map_cons, List.map_nil]); first | done | rfl | (simp only [List.length_drop, List.length_take]; rfl)) ?_; (with_reducible refine (yB.calls kj2 _ _ l0 t304 t307 _ ?side1 ?side2 A6.out).mono ?_); (case side1 => repeat (first | exact (Kd.zX HR0.out HB.out) | (with_reducible refine Kd.yg ?_ _) | (with_reducible refine Kd.yi ?_ _) | (with_reducible refine Kd.yG ?_))); (case side2 => exact HC0.out); rintro e w11 ⟨v305, v308, rfl, ho0, ho1, hb⟩; refine ⟨_, rfl, ?_⟩; have n0_ := za.mk (Kd.yq ho0 (zy (by repeat (with_reducible first | exact HB.out | apply zc | apply zb | apply zd)))); have n1_ := za.mk (Kd.yq ho1 (zy (by repeat (with_reducible first | exact HB.out | apply zc | apply zb | apply zd)))); have n2_ := za.mk (zp (by repeat (with_reducible first | exact HB.out | apply zc | apply zb | apply zd)) hb); clear HB; have HO306 := n0_; have HO309 := n1_; have HB := n2_; clear n0_ n1_ n2_; (try clear hb); (try clear hb2); (try clear hk); (try clear hi); (try clear ho0); (try clear ho1)) | ((with_reducible refine zY (N := 5) rfl ?_); (try (refine xK (by rfl) ?_; dsimp only)); refine ye ?hg (N := 5) ?hd (cs := #[.slice none 0 0, .slice none 0 0]) (t := 30) ?hr ?_; (case hd => rfl); (case hg => rfl); (case hr => first | (go_simp; done) | (go_simp; rfl)); intro gb310 hg w12 hbox hb; have n0_ := za.mk (Kd.yc (by (with_reducible repeat (first | apply Kd.zE | apply Kd.zG | apply Kd.zT)); exact HO306.out) hb); have n1_ := za.mk (Kd.yc (by (with_reducible repeat (first | apply Kd.zE | apply Kd.zG | apply Kd.zT)); exact HO309.out) hb); have n2_ := za.mk (zp (by repeat (with_reducible first | exact HB.out | apply zc | apply zb | apply zd)) hb); have n3_ := za.mk (hbox); have n4_ := za.mk ((by rw [hg]; exact (zy (by repeat (with_reducible first | exact HB.out | apply zc | apply zb | apply zd))) : w.heap.size ≤ gb310)); have n5_ := za.mk ((by rw [hg]; exact (zy (by repeat (with_reducible first | exact HB.out | apply zc | apply zb | apply zd))) : w.heap.size ≤ gb310)); clear HO306; clear HO309; clear HB; have HO306 := n0_; have HO309 := n1_; have HB := n2_; have BK310 := n3_; have GW310 := n4_; have GE310 := n5_; clear n0_ n1_ n2_ n3_ n4_ n5_; clear hb hbox hg; obtain ⟨Ao13, co13, eo13⟩ := Kd.yn HO306.out; subst eo13; have hcz14_0 : w12.cell? ⟨gb310, 0, none⟩ = some (.slice none 0 0) := (zf BK310.out 0).trans rfl; have hcz14_1 : w12.cell? ⟨gb310, 1, none⟩ = some (.slice none 0 0) := (zf BK310.out 1).trans rfl; have hfz14_0 := zg BK310.out 0; have hfz14_1 := zg BK310.out 1; obtain ⟨Ao15, co15, eo15⟩ := Kd.yn HO309.out; subst eo15) | ((with_reducible refine zx (f := 11) rfl ?_); refine z6 (some 20) rfl rfl Tryd.func11 (by kernel_rfl) rfl #[.slice A1 l1.length c1] rfl (by (try simp only [List.map_toArray, List.map_cons, List.map_nil]); first | done | rfl | (simp only [List.length_drop, List.length_take]; rfl)) ?_; (with_reducible refine (yB.calls kj2 _ _ l1 t311 t314 _ ?side1 ?side2 A7.out).mono ?_); (case side1 => exact Kd.zX HR1.out (by repeat (with_reducible first | exact HB.out | apply zc | apply zb | apply zd | refine zh ?_ GE310.out))); (case side2 => exact HC1.out); rintro e w16 ⟨v312, v315, rfl, ho0, ho1, hb⟩; refine ⟨_, rfl, ?_⟩; have n0_ := za.mk (Kd.R_elder' (by (with_reducible repeat (first | apply Kd.zE | apply Kd.zG | apply Kd.zT)); exact (Kd.zZ (Kd.xq (p := ⟨gb310, 1, none⟩) (Kd.xq (p := ⟨gb310, 0, none⟩) (Kd.y6 HO306.out BK310.out (by decide)) (fun _ hk => hk.2) (.slice Ao13 t304.length co13)) (fun _ hk => hk.2) (.slice Ao15 t307.length co15)) (fun _ h_ => h_.1))) (Kd.xM ho0) hb); have n1_ := za.mk (Kd.zZ (Kd.R_told (Kd.R_told (Kd.R_old (by (with_reducible repeat (first | apply Kd.zE | apply Kd.zG | apply Kd.zT)); exact (Kd.zZ (Kd.xq (p := ⟨gb310, 1, none⟩) (Kd.xq (p := ⟨gb310, 0, none⟩) (Kd.y6 HO309.out BK310.out (by decide)) (fun _ hk => hk.2) (.slice Ao13 t304.length co13)) (fun _ hk => hk.2) (.slice Ao15 t307.length co15)) (fun _ h_ => h_.1))) hb) (Kd.xM ho0)) (Kd.xM ho1)) (fun _ h_ => h_.1)); have n2_ := za.mk (Kd.yq (Kd.R_new' ho0 (Kd.R_lt (by (with_reducible repeat (first | apply Kd.zE | apply Kd.zG | apply Kd.zT)); exact (Kd.zZ (Kd.xq (p := ⟨gb310, 1, none⟩) (Kd.xq (p := ⟨gb310, 0, none⟩) (Kd.y6 HO306.out BK310.out (by decide)) (fun _ hk => hk.2) (.slice Ao13 t304.length co13)) (fun _ hk => hk.2) (.slice Ao15 t307.length co15)) (fun _ h_ => h_.1))))) (zy (by repeat (with_reducible first | exact HB.out | apply zc | apply zb | apply zd | refine zh ?_ GE310.out)))); have n3_ := za.mk (Kd.yq (Kd.R_new' (Kd.R_new' ho1 (Kd.R_lt (by (with_reducible repeat (first | apply Kd.zE | apply Kd.zG | apply Kd.zT)); exact (Kd.zZ (Kd.xq (p := ⟨gb310, 1, none⟩) (Kd.xq (p := ⟨gb310, 0, none⟩) (Kd.y6 HO306.out BK310.out (by decide)) (fun _ hk => hk.2) (.slice Ao13 t304.length co13)) (fun _ hk => hk.2) (.slice Ao15 t307.length co15)) (fun _ h_ => h_.1))))) (Kd.R_lt (by (with_reducible repeat (first | apply Kd.zE | apply Kd.zG | apply Kd.zT)); exact (Kd.zZ (Kd.xq (p := ⟨gb310, 1, none⟩) (Kd.xq (p := ⟨gb310, 0, none⟩) (Kd.y6 HO309.out BK310.out (by decide)) (fun _ hk => hk.2) (.slice Ao13 t304.length co13)) (fun _ hk => hk.2) (.slice Ao15 t307.length co15)) (fun _ h_ => h_.1))))) (zy (by repeat (with_reducible first | exact HB.out | apply zc | apply zb | apply zd | refine zh ?_ GE310.out)))); have n4_ := za.mk (zI (g := gb310) (o := .cells #[.slice Ao13 t304.length co13, .slice Ao15 t307.length co15] 30 (0, 0)) (by (with_reducible repeat (first | refine zl ?_ _ | refine zm ?_ | refine zj ?_ _)); refine yH (cs := #[.slice Ao13 t304.length co13, .slice none 0 0]) ?_ 1 _ rfl; (with_reducible repeat (first | refine zl ?_ _ | refine zm ?_ | refine zj ?_ _)); refine yH (cs := #[.slice none 0 0, .slice none 0 0]) ?_ 0 _ rfl; (with_reducible repeat (first | refine zl ?_ _ | refine zm ?_ | refine zj ?_ _)); exact BK310.out) hb); have n5_ := za.mk (zp (by repeat (with_reducible first | exact HB.out | apply zc | apply zb | apply zd | refine zh ?_ GE310.out)) hb); clear HO306; clear HO309; clear BK310; clear HB; have HO306 := n0_; have HO309 := n1_; have HO313 := n2_; have HO316 := n3_; have BK310 := n4_; have HB := n5_; clear n0_ n1_ n2_ n3_ n4_ n5_; (try clear hb); (try clear hb2); (try clear hk); (try clear hi); (try clear ho0); (try clear ho1)) | ((with_reducible refine zY (N := 6) rfl ?_); (try (refine xK (by rfl) ?_; dsimp only)); refine ye ?hg (N := 6) ?hd (cs := #[.slice none 0 0, .slice none 0 0]) (t := 30) ?hr ?_; (case hd => rfl); (case hg => rfl); (case hr => first | (go_simp; done) | (go_simp; rfl)); intro gb317 hg w17 hbox hb; have n0_ := za.mk (Kd.yc (by (with_reducible repeat (first | apply Kd.zE | apply Kd.zG | apply Kd.zT)); exact HO306.out) hb); have n1_ := za.mk (Kd.yc (by (with_reducible repeat (first | apply Kd.zE | apply Kd.zG | apply Kd.zT)); exact HO309.out) hb); have n2_ := za.mk (Kd.yc (by (with_reducible repeat (first | apply Kd.zE | apply Kd.zG | apply Kd.zT)); exact HO313.out) hb); have n3_ := za.mk (Kd.yc (by (with_reducible repeat (first | apply Kd.zE | apply Kd.zG | apply Kd.zT)); exact HO316.out) hb); have n4_ := za.mk (zI (g := gb310) (o := .cells #[.slice Ao13 t304.length co13, .slice Ao15 t307.length co15] 30 (0, 0)) (by (with_reducible repeat (first | refine zl ?_ _ | refine zm ?_ | refine zj ?_ _)); exact BK310.out) hb); have n5_ := za.mk (zp (by repeat (with_reducible first | exact HB.out | apply zc | apply zb | apply zd | refine zh ?_ GE310.out)) hb); have n6_ := za.mk (hbox); have n7_ := za.mk ((by rw [hg]; exact (zy (by repeat (with_reducible first | exact HB.out | apply zc | apply zb | apply zd | refine zh ?_ GE310.out))) : w.heap.size ≤ gb317)); have n8_ := za.mk ((by rw [hg]; exact (zy (by repeat (with_reducible first | exact HB.out | apply zc | apply zb | apply zd | refine zh ?_ GE310.out))) : w.heap.size ≤ gb317)); have n9_ := za.mk ((by rw [hg]; exact Nat.ne_of_lt (yO (g := gb310) (o := .cells #[.slice Ao13 t304.length co13, .slice Ao15 t307.length co15] 30 (0, 0)) (by (with_reducible repeat (first | refine zl ?_ _ | refine zm ?_ | refine zj ?_ _)); exact BK310.out)) : gb310 ≠ gb317)); have n10_ := za.mk ((by rw [hg]; exact Nat.ne_of_gt (yO (g := gb310) (o := .cells #[.slice Ao13 t304.length co13, .slice Ao15 t307.length co15] 30 (0, 0)) (by (with_reducible repeat (first | refine zl ?_ _ | refine zm ?_ | refine zj ?_ _)); exact BK310.out)) : gb317 ≠ gb310)); clear HO306; clear HO309; clear HO313; clear HO316; clear BK310; clear HB; have HO306 := n0_; have HO309 := n1_; have HO313 := n2_; have HO316 := n3_; have BK310 := n4_; have HB := n5_; have BK317 := n6_; have GW317 := n7_; have GE317 := n8_; have NB310_317 := n9_; have NB317_310 := n10_; clear n0_ n1_ n2_ n3_ n4_ n5_ n6_ n7_ n8_ n9_ n10_; clear hb hbox hg; obtain ⟨Ao18, co18, eo18⟩ := Kd.yn HO313.out; subst eo18; have hnb19 := NB317_310.out; have hnc19 := NB310_317.out; have hcz20_0 : w17.cell? ⟨gb317, 0, none⟩ = some (.slice none 0 0) := (zf BK317.out 0).trans rfl; have hcz20_1 : w17.cell? ⟨gb317, 1, none⟩ = some (.slice none 0 0) := (zf BK317.out 1).trans rfl; have hfz20_0 := zg BK317.out 0; have hfz20_1 := zg BK317.out 1; obtain ⟨Ao21, co21, eo21⟩ := Kd.yn HO316.out; subst eo21; have hcz22_0 : w17.cell? ⟨gb310, 0, none⟩ = some (.slice Ao13 t304.length co13) := (zf BK310.out 0).trans rfl; have hcz22_1 : w17.cell? ⟨gb310, 1, none⟩ = some (.slice Ao15 t307.length co15) := (zf BK310.out 1).trans rfl; have hfz22_0 := zg BK310.out 0; have hfz22_1 := zg BK310.out 1) | ((with_reducible refine zx (f := 9) rfl ?_); refine z6 (some 22) rfl rfl Tryd.func9 (by kernel_rfl) rfl #[.agg #[.slice Ao13 t304.length co13, .slice Ao15 t307.length co15]] rfl (by (try simp only [List.map_toArray, List.map_cons, List.map_nil]); first | done | rfl | (simp only [List.length_drop, List.length_take]; rfl)) ?_; (with_reducible refine (yf.calls kj2 _ _ t304 _ _ t307 t318 _ ?side1 ?side2 ?side3 ?side4 A8.out).mono ?_); (case side1 => refine (Kd.zU (e := 3) (base := w.heap.size) (ok := fun k_ => (True ∧ some k_ ≠ (.slice Ao18 t311.length co18 : Value).ownBlock)) (n := t304.length) (c := co13) ?_).2.2; exact (by (with_reducible repeat (first | apply Kd.zE | apply Kd.zG | apply Kd.zT)); exact (Kd.zZ (Kd.xq (p := ⟨gb317, 1, none⟩) (Kd.xq (p := ⟨gb317, 0, none⟩) (Kd.y6 HO306.out BK317.out (by decide)) (fun _ hk => hk.2) (.slice Ao18 t311.length co18)) (fun _ hk => hk.2) (.slice Ao21 t314.length co21)) (fun _ h_ => h_.1)))); (case side2 => exact (Kd.zU HO306.out).2.1); (case side3 => refine (Kd.zU (e := 48) (base := w.heap.size) (ok := fun k_ => ((some k_ ≠ (.slice Ao13 t304.length co13 : Value).ownBlock ∧ some k_ ≠ (.slice Ao18 t311.length co18 : Value).ownBlock) ∧ some k_ ≠ (.slice Ao21 t314.length co21 : Value).ownBlock)) (n := t307.length) (c := co15) ?_).2.2; exact (by (with_reducible repeat (first | apply Kd.zE | apply Kd.zG | apply Kd.zT)); exact (Kd.zZ (Kd.xq (p := ⟨gb317, 1, none⟩) (Kd.xq (p := ⟨gb317, 0, none⟩) (Kd.y6 HO309.out BK317.out (by decide)) (fun _ hk => hk.2) (.slice Ao18 t311.length co18)) (fun _ hk => hk.2) (.slice Ao21 t314.length co21)) (fun _ h_ => h_.1)))); (case side4 => exact (Kd.zU HO309.out).2.1); rintro e w23 ⟨rfl, hb⟩; refine ⟨_, rfl, ?_⟩; have n0_ := za.mk (Kd.yc (by (with_reducible repeat (first | apply Kd.zE | apply Kd.zG | apply Kd.zT)); exact (Kd.zZ (Kd.xq (p := ⟨gb317, 1, none⟩) (Kd.xq (p := ⟨gb317, 0, none⟩) (Kd.y6 HO306.out BK317.out (by decide)) (fun _ hk => hk.2) (.slice Ao18 t311.length co18)) (fun _ hk => hk.2) (.slice Ao21 t314.length co21)) (fun _ h_ => h_.1))) hb); have n1_ := za.mk (Kd.yc (by (with_reducible repeat (first | apply Kd.zE | apply Kd.zG | apply Kd.zT)); exact (Kd.zZ (Kd.xq (p := ⟨gb317, 1, none⟩) (Kd.xq (p := ⟨gb317, 0, none⟩) (Kd.y6 HO309.out BK317.out (by decide)) (fun _ hk => hk.2) (.slice Ao18 t311.length co18)) (fun _ hk => hk.2) (.slice Ao21 t314.length co21)) (fun _ h_ => h_.1))) hb); have n2_ := za.mk (Kd.yc (by (with_reducible repeat (first | apply Kd.zE | apply Kd.zG | apply Kd.zT)); exact (Kd.zZ (Kd.xq (p := ⟨gb317, 1, none⟩) (Kd.xq (p := ⟨gb317, 0, none⟩) (Kd.y6 HO313.out BK317.out (by decide)) (fun _ hk => hk.2) (.slice Ao18 t311.length co18)) (fun _ hk => hk.2) (.slice Ao21 t314.length co21)) (fun _ h_ => h_.1))) hb); have n3_ := za.mk (Kd.yc (by (with_reducible repeat (first | apply Kd.zE | apply Kd.zG | apply Kd.zT)); exact (Kd.zZ (Kd.xq (p := ⟨gb317, 1, none⟩) (Kd.xq (p := ⟨gb317, 0, none⟩) (Kd.y6 HO316.out BK317.out (by decide)) (fun _ hk => hk.2) (.slice Ao18 t311.length co18)) (fun _ hk => hk.2) (.slice Ao21 t314.length co21)) (fun _ h_ => h_.1))) hb); have n4_ := za.mk (zI (g := gb310) (o := .cells #[.slice Ao13 t304.length co13, .slice Ao15 t307.length co15] 30 (0, 0)) (by (with_reducible repeat (first | refine zl ?_ _ | refine zm ?_ | refine zj ?_ _)); refine blk_far ?_ NB310_317.out _; (with_reducible repeat (first | refine zl ?_ _ | refine zm ?_ | refine zj ?_ _)); refine blk_far ?_ NB310_317.out _; (with_reducible repeat (first | refine zl ?_ _ | refine zm ?_ | refine zj ?_ _)); exact BK310.out) hb); have n5_ := za.mk (zI (g := gb317) (o := .cells #[.slice Ao18 t311.length co18, .slice Ao21 t314.length co21] 30 (0, 0)) (by (with_reducible repeat (first | refine zl ?_ _ | refine zm ?_ | refine zj ?_ _)); refine yH (cs := #[.slice Ao18 t311.length co18, .slice none 0 0]) ?_ 1 _ rfl; (with_reducible repeat (first | refine zl ?_ _ | refine zm ?_ | refine zj ?_ _)); refine yH (cs := #[.slice none 0 0, .slice none 0 0]) ?_ 0 _ rfl; (with_reducible repeat (first | refine zl ?_ _ | refine zm ?_ | refine zj ?_ _)); exact BK317.out) hb); have n6_ := za.mk (zp (by repeat (with_reducible first | exact HB.out | apply zc | apply zb | apply zd | refine zh ?_ GE310.out | refine zh ?_ GE317.out)) hb); clear HO306; clear HO309; clear HO313; clear HO316; clear BK310; clear BK317; clear HB; have HO306 := n0_; have HO309 := n1_; have HO313 := n2_; have HO316 := n3_; have BK310 := n4_; have BK317 := n5_; have HB := n6_; clear n0_ n1_ n2_ n3_ n4_ n5_ n6_; (try clear hb); (try clear hb2); (try clear hk); (try clear hi); have hcz24_0 : w23.cell? ⟨gb317, 0, none⟩ = some (.slice Ao18 t311.length co18) := (zf BK317.out 0).trans rfl; have hcz24_1 : w23.cell? ⟨gb317, 1, none⟩ = some (.slice Ao21 t314.length co21) := (zf BK317.out 1).trans rfl; have hfz24_0 := zg BK317.out 0; have hfz24_1 := zg BK317.out 1) | ((with_reducible refine zx (f := 9) rfl ?_); refine z6 (some 24) rfl rfl Tryd.func9 (by kernel_rfl) rfl #[.agg #[.slice Ao18 t311.length co18, .slice Ao21 t314.length co21]] rfl (by (try simp only [List.map_toArray, List.map_cons, List.map_nil]); first | done | rfl | (simp only [List.length_drop, List.length_take]; rfl)) ?_; (with_reducible refine (yf.calls kj2 _ _ t311 _ _ t314 t319 _ ?side1 ?side2 ?side3 ?side4 A9.out).mono ?_); (case side1 => repeat (first | exact (Kd.zU HO313.out).2.2 | (with_reducible refine Kd.yg ?_ _) | (with_reducible refine Kd.yi ?_ _) | (with_reducible refine Kd.yG ?_))); (case side2 => exact (Kd.zU HO313.out).2.1); (case side3 => repeat (first | exact (Kd.zU HO316.out).2.2 | (with_reducible refine Kd.yg ?_ _) | (with_reducible refine Kd.yi ?_ _) | (with_reducible refine Kd.yG ?_))); (case side4 => exact (Kd.zU HO316.out).2.1); rintro e w25 ⟨rfl, hb⟩; refine ⟨_, rfl, ?_⟩; have n0_ := za.mk (Kd.yc (by (with_reducible repeat (first | apply Kd.zE | apply Kd.zG | apply Kd.zT)); exact HO306.out) hb); have n1_ := za.mk (Kd.yc (by (with_reducible repeat (first | apply Kd.zE | apply Kd.zG | apply Kd.zT)); exact HO309.out) hb); have n2_ := za.mk (Kd.yc (by (with_reducible repeat (first | apply Kd.zE | apply Kd.zG | apply Kd.zT)); exact HO313.out) hb); have n3_ := za.mk (Kd.yc (by (with_reducible repeat (first | apply Kd.zE | apply Kd.zG | apply Kd.zT)); exact HO316.out) hb); have n4_ := za.mk (zI (g := gb310) (o := .cells #[.slice Ao13 t304.length co13, .slice Ao15 t307.length co15] 30 (0, 0)) (by (with_reducible repeat (first | refine zl ?_ _ | refine zm ?_ | refine zj ?_ _)); exact BK310.out) hb); have n5_ := za.mk (zI (g := gb317) (o := .cells #[.slice Ao18 t311.length co18, .slice Ao21 t314.length co21] 30 (0, 0)) (by (with_reducible repeat (first | refine zl ?_ _ | refine zm ?_ | refine zj ?_ _)); exact BK317.out) hb); have n6_ := za.mk (zp (by repeat (with_reducible first | exact HB.out | apply zc | apply zb | apply zd | refine zh ?_ GE310.out | refine zh ?_ GE317.out)) hb); clear HO306; clear HO309; clear HO313; clear HO316; clear BK310; clear BK317; clear HB; have HO306 := n0_; have HO309 := n1_; have HO313 := n2_; have HO316 := n3_; have BK310 := n4_; have BK317 := n5_; have HB := n6_; clear n0_ n1_ n2_ n3_ n4_ n5_ n6_; (try clear hb); (try clear hb2); (try clear hk); (try clear hi)))
        (try simp only [Act.put, List.setIfInBounds_toArray, List.set_cons_zero, List.set_cons_succ])
        go_cut [42] (fun v42 wc => ∃ (kq : Nat) (x42_9 : Bool), v42 = .bool x42_9 ∧ za (zD.j1 kq t318 t319 x42_9 t304 t307 t311 t314 = some r) ∧ za (kq ≤ kj2) ∧ za (Kd.R (Kd.int .i64) 3 wc w.heap.size (fun k_ => some k_ ≠ ((.slice Ao18 t311.length co18) : Value).ownBlock) (.slice Ao13 t304.length co13) t304) ∧ za (Kd.R (Kd.slice 52 k52) 48 wc w.heap.size (fun k_ => some k_ ≠ ((.slice Ao13 t304.length co13) : Value).ownBlock ∧ some k_ ≠ ((.slice Ao18 t311.length co18) : Value).ownBlock ∧ some k_ ≠ ((.slice Ao21 t314.length co21) : Value).ownBlock) (.slice Ao15 t307.length co15) t307) ∧ za (Kd.R (Kd.int .i64) 3 wc w.heap.size (fun k_ => some k_ ≠ ((.slice Ao13 t304.length co13) : Value).ownBlock) (.slice Ao18 t311.length co18) t311) ∧ za (Kd.R (Kd.slice 52 k52) 48 wc w.heap.size (fun k_ => some k_ ≠ ((.slice Ao13 t304.length co13) : Value).ownBlock ∧ some k_ ≠ ((.slice Ao15 t307.length co15) : Value).ownBlock ∧ some k_ ≠ ((.slice Ao18 t311.length co18) : Value).ownBlock) (.slice Ao21 t314.length co21) t314) ∧ za (wc.heap[gb310]? = some (.cells #[(.slice Ao13 t304.length co13), (.slice Ao15 t307.length co15)] 30 (0, 0))) ∧ za (wc.heap[gb317]? = some (.cells #[(.slice Ao18 t311.length co18), (.slice Ao21 t314.length co21)] 30 (0, 0))) ∧ za (Below w.heap.size w wc))
        case first =>
          have H := HC10.out
          clear HC10
          replace H := Option.bind_eq_some_iff.mp H
          obtain ⟨t320, A260, H⟩ := H
          replace H : (if t318.toList = t320.toList then ((zw.f kj2 t311 t314).bind fun t321 => (if t319.toList = t321.toList then (if t318.toList = ([] : List UInt8) then (zD.j1 kj2 t318 t319 true t304 t307 t311 t314) else (zD.j1 kj2 t318 t319 (t319.toList == ([] : List UInt8)) t304 t307 t311 t314)) else (none))) else (none)) = some r := H
          have A26 := za.mk A260
          clear A260
          by_cases c27 : t318.toList = t320.toList
          · rw [if_pos c27] at H
            have c27b0 : (t318.toList == t320.toList) = true := beq_iff_eq.mpr c27
            have c27b1 : (t318.toList != t320.toList) = false := bne_eq_false_iff_eq.mpr c27
            clear c27
            (first | rw [c27b0] | (simp only [zn, zo]; rw [c27b0]) | skip)
            replace H := Option.bind_eq_some_iff.mp H
            obtain ⟨t321, A280, H⟩ := H
            replace H : (if t319.toList = t321.toList then (if t318.toList = ([] : List UInt8) then (zD.j1 kj2 t318 t319 true t304 t307 t311 t314) else (zD.j1 kj2 t318 t319 (t319.toList == ([] : List UInt8)) t304 t307 t311 t314)) else (none)) = some r := H
            have A28 := za.mk A280
            clear A280
            by_cases c29 : t319.toList = t321.toList
            · rw [if_pos c29] at H
              have c29b0 : (t319.toList == t321.toList) = true := beq_iff_eq.mpr c29
              have c29b1 : (t319.toList != t321.toList) = false := bne_eq_false_iff_eq.mpr c29
              clear c29
              by_cases c30 : t318.toList = ([] : List UInt8)
              · rw [if_pos c30] at H
                have c30b0 : (t318.toList == ([] : List UInt8)) = true := beq_iff_eq.mpr c30
                have c30b1 : (t318.toList != ([] : List UInt8)) = false := bne_eq_false_iff_eq.mpr c30
                clear c30
                have H' := za.mk H
                clear H
                have hnb31 := NB310_317.out
                have hnc31 := NB317_310.out
                have hcz32_0 : w25.cell? ⟨gb310, 0, none⟩ = some (.slice Ao13 t304.length co13) := (zf BK310.out 0).trans rfl
                have hcz32_1 : w25.cell? ⟨gb310, 1, none⟩ = some (.slice Ao15 t307.length co15) := (zf BK310.out 1).trans rfl
                have hfz32_0 := zg BK310.out 0
                have hfz32_1 := zg BK310.out 1
                go_wp2_with (first | ((with_reducible refine zx (f := 7) rfl ?_); refine z6 (some 27) rfl rfl Tryd.func7 (by kernel_rfl) rfl #[.agg #[.slice Ao13 t304.length co13, .slice Ao15 t307.length co15]] rfl (by (try simp only [List.map_toArray, List.map_cons, List.map_nil]); first | done | rfl | (simp only [List.length_drop, List.length_take]; rfl)) ?_; (with_reducible refine (zw.calls kj2 _ _ t304 _ _ t307 t320 _ ?side1 ?side2 ?side3 ?side4 A26.out).mono ?_); (case side1 => repeat (first | exact (Kd.zU HO306.out).2.2 | (with_reducible refine Kd.yg ?_ _) | (with_reducible refine Kd.yi ?_ _) | (with_reducible refine Kd.yG ?_))); (case side2 => exact (Kd.zU HO306.out).2.1); (case side3 => repeat (first | exact (Kd.zU HO309.out).2.2 | (with_reducible refine Kd.yg ?_ _) | (with_reducible refine Kd.yi ?_ _) | (with_reducible refine Kd.yG ?_))); (case side4 => exact (Kd.zU HO309.out).2.1); rintro e w33 ⟨rfl, hb⟩; refine ⟨_, rfl, ?_⟩; have n0_ := za.mk (Kd.yc (by (with_reducible repeat (first | apply Kd.zE | apply Kd.zG | apply Kd.zT)); exact HO306.out) hb); have n1_ := za.mk (Kd.yc (by (with_reducible repeat (first | apply Kd.zE | apply Kd.zG | apply Kd.zT)); exact HO309.out) hb); have n2_ := za.mk (Kd.yc (by (with_reducible repeat (first | apply Kd.zE | apply Kd.zG | apply Kd.zT)); exact HO313.out) hb); have n3_ := za.mk (Kd.yc (by (with_reducible repeat (first | apply Kd.zE | apply Kd.zG | apply Kd.zT)); exact HO316.out) hb); have n4_ := za.mk (zI (g := gb310) (o := .cells #[.slice Ao13 t304.length co13, .slice Ao15 t307.length co15] 30 (0, 0)) (by (with_reducible repeat (first | refine zl ?_ _ | refine zm ?_ | refine zj ?_ _)); exact BK310.out) hb); have n5_ := za.mk (zI (g := gb317) (o := .cells #[.slice Ao18 t311.length co18, .slice Ao21 t314.length co21] 30 (0, 0)) (by (with_reducible repeat (first | refine zl ?_ _ | refine zm ?_ | refine zj ?_ _)); exact BK317.out) hb); have n6_ := za.mk (zp (by repeat (with_reducible first | exact HB.out | apply zc | apply zb | apply zd | refine zh ?_ GE310.out | refine zh ?_ GE317.out)) hb); clear HO306; clear HO309; clear HO313; clear HO316; clear BK310; clear BK317; clear HB; have HO306 := n0_; have HO309 := n1_; have HO313 := n2_; have HO316 := n3_; have BK310 := n4_; have BK317 := n5_; have HB := n6_; clear n0_ n1_ n2_ n3_ n4_ n5_ n6_; (try clear hb); (try clear hb2); (try clear hk); (try clear hi); have hcz34_0 : w33.cell? ⟨gb317, 0, none⟩ = some (.slice Ao18 t311.length co18) := (zf BK317.out 0).trans rfl; have hcz34_1 : w33.cell? ⟨gb317, 1, none⟩ = some (.slice Ao21 t314.length co21) := (zf BK317.out 1).trans rfl; have hfz34_0 := zg BK317.out 0; have hfz34_1 := zg BK317.out 1) | (go_at_call 7; (with_reducible refine (zw.calls kj2 _ _ t311 _ _ t314 t321 _ ?side1 ?side2 ?side3 ?side4 A28.out).mono ?_); (case side1 => repeat (first | exact (Kd.zU HO313.out).2.2 | (with_reducible refine Kd.yg ?_ _) | (with_reducible refine Kd.yi ?_ _) | (with_reducible refine Kd.yG ?_))); (case side2 => exact (Kd.zU HO313.out).2.1); (case side3 => repeat (first | exact (Kd.zU HO316.out).2.2 | (with_reducible refine Kd.yg ?_ _) | (with_reducible refine Kd.yi ?_ _) | (with_reducible refine Kd.yG ?_))); (case side4 => exact (Kd.zU HO316.out).2.1); rintro e w35 ⟨rfl, hb⟩; have n0_ := za.mk (Kd.yc (by (with_reducible repeat (first | apply Kd.zE | apply Kd.zG | apply Kd.zT)); exact HO306.out) hb); have n1_ := za.mk (Kd.yc (by (with_reducible repeat (first | apply Kd.zE | apply Kd.zG | apply Kd.zT)); exact HO309.out) hb); have n2_ := za.mk (Kd.yc (by (with_reducible repeat (first | apply Kd.zE | apply Kd.zG | apply Kd.zT)); exact HO313.out) hb); have n3_ := za.mk (Kd.yc (by (with_reducible repeat (first | apply Kd.zE | apply Kd.zG | apply Kd.zT)); exact HO316.out) hb); have n4_ := za.mk (zI (g := gb310) (o := .cells #[.slice Ao13 t304.length co13, .slice Ao15 t307.length co15] 30 (0, 0)) (by (with_reducible repeat (first | refine zl ?_ _ | refine zm ?_ | refine zj ?_ _)); exact BK310.out) hb); have n5_ := za.mk (zI (g := gb317) (o := .cells #[.slice Ao18 t311.length co18, .slice Ao21 t314.length co21] 30 (0, 0)) (by (with_reducible repeat (first | refine zl ?_ _ | refine zm ?_ | refine zj ?_ _)); exact BK317.out) hb); have n6_ := za.mk (zp (by repeat (with_reducible first | exact HB.out | apply zc | apply zb | apply zd | refine zh ?_ GE310.out | refine zh ?_ GE317.out)) hb); clear HO306; clear HO309; clear HO313; clear HO316; clear BK310; clear BK317; clear HB; have HO306 := n0_; have HO309 := n1_; have HO313 := n2_; have HO316 := n3_; have BK310 := n4_; have BK317 := n5_; have HB := n6_; clear n0_ n1_ n2_ n3_ n4_ n5_ n6_; (try clear hb); (try clear hb2); (try clear hk); (try clear hi)))
                go_meet
                case rel => exact ⟨_, (true), (by first | rfl | (simp; done) | (simp [*]; done)), H', ⟨by have := HJ2.out; first | omega | exact Nat.le_refl _⟩, ⟨by (with_reducible repeat (first | apply Kd.zE | apply Kd.zG | apply Kd.zT)); exact Kd.zZ HO306.out (fun _ hk => hk.2)⟩, ⟨by (with_reducible repeat (first | apply Kd.zE | apply Kd.zG | apply Kd.zT)); exact Kd.zZ HO309.out (fun _ hk => ⟨hk.1.1, ⟨hk.1.2, hk.2⟩⟩)⟩, ⟨by (with_reducible repeat (first | apply Kd.zE | apply Kd.zG | apply Kd.zT)); exact Kd.zZ HO313.out (fun _ hk => hk.2)⟩, ⟨by (with_reducible repeat (first | apply Kd.zE | apply Kd.zG | apply Kd.zT)); exact Kd.zZ HO316.out (fun _ hk => ⟨hk.1.2, ⟨hk.2, hk.1.1⟩⟩)⟩, ⟨by (with_reducible repeat (first | refine zl ?_ _ | refine zm ?_ | refine zj ?_ _)); exact BK310.out⟩, ⟨by (with_reducible repeat (first | refine zl ?_ _ | refine zm ?_ | refine zj ?_ _)); exact BK317.out⟩, ⟨by repeat (with_reducible first | exact HB.out | apply zc | apply zb | apply zd | refine zh ?_ GE310.out | refine zh ?_ GE317.out)⟩⟩
              · rw [if_neg c30] at H
                have c30b0 : (t318.toList == ([] : List UInt8)) = false := beq_eq_false_iff_ne.mpr c30
                have c30b1 : (t318.toList != ([] : List UInt8)) = true := bne_iff_ne.mpr c30
                have H' := za.mk H
                clear H
                have hnb36 := NB310_317.out
                have hnc36 := NB317_310.out
                have hcz37_0 : w25.cell? ⟨gb310, 0, none⟩ = some (.slice Ao13 t304.length co13) := (zf BK310.out 0).trans rfl
                have hcz37_1 : w25.cell? ⟨gb310, 1, none⟩ = some (.slice Ao15 t307.length co15) := (zf BK310.out 1).trans rfl
                have hfz37_0 := zg BK310.out 0
                have hfz37_1 := zg BK310.out 1
                go_wp2_with (first | ((with_reducible refine zx (f := 7) rfl ?_); refine z6 (some 27) rfl rfl Tryd.func7 (by kernel_rfl) rfl #[.agg #[.slice Ao13 t304.length co13, .slice Ao15 t307.length co15]] rfl (by (try simp only [List.map_toArray, List.map_cons, List.map_nil]); first | done | rfl | (simp only [List.length_drop, List.length_take]; rfl)) ?_; (with_reducible refine (zw.calls kj2 _ _ t304 _ _ t307 t320 _ ?side1 ?side2 ?side3 ?side4 A26.out).mono ?_); (case side1 => repeat (first | exact (Kd.zU HO306.out).2.2 | (with_reducible refine Kd.yg ?_ _) | (with_reducible refine Kd.yi ?_ _) | (with_reducible refine Kd.yG ?_))); (case side2 => exact (Kd.zU HO306.out).2.1); (case side3 => repeat (first | exact (Kd.zU HO309.out).2.2 | (with_reducible refine Kd.yg ?_ _) | (with_reducible refine Kd.yi ?_ _) | (with_reducible refine Kd.yG ?_))); (case side4 => exact (Kd.zU HO309.out).2.1); rintro e w38 ⟨rfl, hb⟩; refine ⟨_, rfl, ?_⟩; have n0_ := za.mk (Kd.yc (by (with_reducible repeat (first | apply Kd.zE | apply Kd.zG | apply Kd.zT)); exact HO306.out) hb); have n1_ := za.mk (Kd.yc (by (with_reducible repeat (first | apply Kd.zE | apply Kd.zG | apply Kd.zT)); exact HO309.out) hb); have n2_ := za.mk (Kd.yc (by (with_reducible repeat (first | apply Kd.zE | apply Kd.zG | apply Kd.zT)); exact HO313.out) hb); have n3_ := za.mk (Kd.yc (by (with_reducible repeat (first | apply Kd.zE | apply Kd.zG | apply Kd.zT)); exact HO316.out) hb); have n4_ := za.mk (zI (g := gb310) (o := .cells #[.slice Ao13 t304.length co13, .slice Ao15 t307.length co15] 30 (0, 0)) (by (with_reducible repeat (first | refine zl ?_ _ | refine zm ?_ | refine zj ?_ _)); exact BK310.out) hb); have n5_ := za.mk (zI (g := gb317) (o := .cells #[.slice Ao18 t311.length co18, .slice Ao21 t314.length co21] 30 (0, 0)) (by (with_reducible repeat (first | refine zl ?_ _ | refine zm ?_ | refine zj ?_ _)); exact BK317.out) hb); have n6_ := za.mk (zp (by repeat (with_reducible first | exact HB.out | apply zc | apply zb | apply zd | refine zh ?_ GE310.out | refine zh ?_ GE317.out)) hb); clear HO306; clear HO309; clear HO313; clear HO316; clear BK310; clear BK317; clear HB; have HO306 := n0_; have HO309 := n1_; have HO313 := n2_; have HO316 := n3_; have BK310 := n4_; have BK317 := n5_; have HB := n6_; clear n0_ n1_ n2_ n3_ n4_ n5_ n6_; (try clear hb); (try clear hb2); (try clear hk); (try clear hi); have hcz39_0 : w38.cell? ⟨gb317, 0, none⟩ = some (.slice Ao18 t311.length co18) := (zf BK317.out 0).trans rfl; have hcz39_1 : w38.cell? ⟨gb317, 1, none⟩ = some (.slice Ao21 t314.length co21) := (zf BK317.out 1).trans rfl; have hfz39_0 := zg BK317.out 0; have hfz39_1 := zg BK317.out 1) | (go_at_call 7; (with_reducible refine (zw.calls kj2 _ _ t311 _ _ t314 t321 _ ?side1 ?side2 ?side3 ?side4 A28.out).mono ?_); (case side1 => repeat (first | exact (Kd.zU HO313.out).2.2 | (with_reducible refine Kd.yg ?_ _) | (with_reducible refine Kd.yi ?_ _) | (with_reducible refine Kd.yG ?_))); (case side2 => exact (Kd.zU HO313.out).2.1); (case side3 => repeat (first | exact (Kd.zU HO316.out).2.2 | (with_reducible refine Kd.yg ?_ _) | (with_reducible refine Kd.yi ?_ _) | (with_reducible refine Kd.yG ?_))); (case side4 => exact (Kd.zU HO316.out).2.1); rintro e w40 ⟨rfl, hb⟩; have n0_ := za.mk (Kd.yc (by (with_reducible repeat (first | apply Kd.zE | apply Kd.zG | apply Kd.zT)); exact HO306.out) hb); have n1_ := za.mk (Kd.yc (by (with_reducible repeat (first | apply Kd.zE | apply Kd.zG | apply Kd.zT)); exact HO309.out) hb); have n2_ := za.mk (Kd.yc (by (with_reducible repeat (first | apply Kd.zE | apply Kd.zG | apply Kd.zT)); exact HO313.out) hb); have n3_ := za.mk (Kd.yc (by (with_reducible repeat (first | apply Kd.zE | apply Kd.zG | apply Kd.zT)); exact HO316.out) hb); have n4_ := za.mk (zI (g := gb310) (o := .cells #[.slice Ao13 t304.length co13, .slice Ao15 t307.length co15] 30 (0, 0)) (by (with_reducible repeat (first | refine zl ?_ _ | refine zm ?_ | refine zj ?_ _)); exact BK310.out) hb); have n5_ := za.mk (zI (g := gb317) (o := .cells #[.slice Ao18 t311.length co18, .slice Ao21 t314.length co21] 30 (0, 0)) (by (with_reducible repeat (first | refine zl ?_ _ | refine zm ?_ | refine zj ?_ _)); exact BK317.out) hb); have n6_ := za.mk (zp (by repeat (with_reducible first | exact HB.out | apply zc | apply zb | apply zd | refine zh ?_ GE310.out | refine zh ?_ GE317.out)) hb); clear HO306; clear HO309; clear HO313; clear HO316; clear BK310; clear BK317; clear HB; have HO306 := n0_; have HO309 := n1_; have HO313 := n2_; have HO316 := n3_; have BK310 := n4_; have BK317 := n5_; have HB := n6_; clear n0_ n1_ n2_ n3_ n4_ n5_ n6_; (try clear hb); (try clear hb2); (try clear hk); (try clear hi)))
                go_meet
                case rel => exact ⟨_, ((t319.toList == ([] : List UInt8))), (by first | rfl | (simp; done) | (simp [*]; done)), H', ⟨by have := HJ2.out; first | omega | exact Nat.le_refl _⟩, ⟨by (with_reducible repeat (first | apply Kd.zE | apply Kd.zG | apply Kd.zT)); exact Kd.zZ HO306.out (fun _ hk => hk.2)⟩, ⟨by (with_reducible repeat (first | apply Kd.zE | apply Kd.zG | apply Kd.zT)); exact Kd.zZ HO309.out (fun _ hk => ⟨hk.1.1, ⟨hk.1.2, hk.2⟩⟩)⟩, ⟨by (with_reducible repeat (first | apply Kd.zE | apply Kd.zG | apply Kd.zT)); exact Kd.zZ HO313.out (fun _ hk => hk.2)⟩, ⟨by (with_reducible repeat (first | apply Kd.zE | apply Kd.zG | apply Kd.zT)); exact Kd.zZ HO316.out (fun _ hk => ⟨hk.1.2, ⟨hk.2, hk.1.1⟩⟩)⟩, ⟨by (with_reducible repeat (first | refine zl ?_ _ | refine zm ?_ | refine zj ?_ _)); exact BK310.out⟩, ⟨by (with_reducible repeat (first | refine zl ?_ _ | refine zm ?_ | refine zj ?_ _)); exact BK317.out⟩, ⟨by repeat (with_reducible first | exact HB.out | apply zc | apply zb | apply zd | refine zh ?_ GE310.out | refine zh ?_ GE317.out)⟩⟩
            · rw [if_neg c29] at H
              exact absurd H (by simp)
          · rw [if_neg c27] at H
            exact absurd H (by simp)
        case rest =>
          clear HC10
          try clear c1
          try clear c2
          try clear p2
          try clear c3
          try clear c4
          try clear c4b0
          try clear c4b1
          try clear c5
          try clear c7
          try clear c9
          try clear c11
          try clear c19
          try clear c27
          try clear c27b0
          try clear c27b1
          try clear c29
          try clear c29b0
          try clear c29b1
          try clear c30
          try clear c30b0
          try clear c30b1
          try clear c31
          try clear c36
          try clear c41
          try clear c46
          try clear hcz14_0
          try clear hcz14_1
          try clear hcz20_0
          try clear hcz20_1
          try clear hcz22_0
          try clear hcz22_1
          try clear hcz24_0
          try clear hcz24_1
          try clear hcz32_0
          try clear hcz32_1
          try clear hcz34_0
          try clear hcz34_1
          try clear hcz37_0
          try clear hcz37_1
          try clear hcz39_0
          try clear hcz39_1
          try clear hcz42_0
          try clear hcz42_1
          try clear hcz44_0
          try clear hcz44_1
          try clear hcz47_0
          try clear hcz47_1
          try clear hfz14_0
          try clear hfz14_1
          try clear hfz20_0
          try clear hfz20_1
          try clear hfz22_0
          try clear hfz22_1
          try clear hfz24_0
          try clear hfz24_1
          try clear hfz32_0
          try clear hfz32_1
          try clear hfz34_0
          try clear hfz34_1
          try clear hfz37_0
          try clear hfz37_1
          try clear hfz39_0
          try clear hfz39_1
          try clear hfz42_0
          try clear hfz42_1
          try clear hfz44_0
          try clear hfz44_1
          try clear hfz47_0
          try clear hfz47_1
          try clear p2
          obtain ⟨kq, x42_9, rfl, HA, HJ9, HO_311000, HO_311001, HO_318000, HO_318001, BK310, BK317, HB⟩ := hcut
          cases kq with
          | zero => exact absurd HA.out (by simp [zD.j1])
          | succ kj9 =>
            have H := HA.out
            clear HA
            simp only [zD.j1] at H
            by_cases c49 : x42_9 = true
            · subst c49
              have H1 : ((zw.f kj9 t304 t307).bind fun t322 => (if t318.toList = t322.toList then ((zw.f kj9 t311 t314).bind fun t323 => (some (t319.toList == t323.toList))) else (none))) = some r := by rw [if_pos rfl] at H; exact H
              clear H
              have H := H1
              clear H1
              replace H := Option.bind_eq_some_iff.mp H
              obtain ⟨t322, A500, H⟩ := H
              replace H : (if t318.toList = t322.toList then ((zw.f kj9 t311 t314).bind fun t323 => (some (t319.toList == t323.toList))) else (none)) = some r := H
              have A50 := za.mk A500
              clear A500
              by_cases c51 : t318.toList = t322.toList
              · rw [if_pos c51] at H
                have c51b0 : (t318.toList == t322.toList) = true := beq_iff_eq.mpr c51
                have c51b1 : (t318.toList != t322.toList) = false := bne_eq_false_iff_eq.mpr c51
                clear c51
                replace H := Option.bind_eq_some_iff.mp H
                obtain ⟨t323, A520, H⟩ := H
                replace H : (some (t319.toList == t323.toList)) = some r := H
                have A52 := za.mk A520
                clear A520
                obtain rfl := Option.some.inj H
                have hnb53 := NB310_317.out
                have hnc53 := NB317_310.out
                have hcz54_0 : wc.cell? ⟨gb310, 0, none⟩ = some (.slice Ao13 t304.length co13) := (zf BK310.out 0).trans rfl
                have hcz54_1 : wc.cell? ⟨gb310, 1, none⟩ = some (.slice Ao15 t307.length co15) := (zf BK310.out 1).trans rfl
                have hfz54_0 := zg BK310.out 0
                have hfz54_1 := zg BK310.out 1
                go_wp2_with (first | ((with_reducible refine zx (f := 7) rfl ?_); refine z6 (some 45) rfl rfl Tryd.func7 (by kernel_rfl) rfl #[.agg #[.slice Ao13 t304.length co13, .slice Ao15 t307.length co15]] rfl (by (try simp only [List.map_toArray, List.map_cons, List.map_nil]); first | done | rfl | (simp only [List.length_drop, List.length_take]; rfl)) ?_; (with_reducible refine (zw.calls kj9 _ _ t304 _ _ t307 t322 _ ?side1 ?side2 ?side3 ?side4 A50.out).mono ?_); (case side1 => repeat (first | exact (Kd.zU HO_311000.out).2.2 | (with_reducible refine Kd.yg ?_ _) | (with_reducible refine Kd.yi ?_ _) | (with_reducible refine Kd.yG ?_))); (case side2 => exact (Kd.zU HO_311000.out).2.1); (case side3 => repeat (first | exact (Kd.zU HO_311001.out).2.2 | (with_reducible refine Kd.yg ?_ _) | (with_reducible refine Kd.yi ?_ _) | (with_reducible refine Kd.yG ?_))); (case side4 => exact (Kd.zU HO_311001.out).2.1); rintro e w55 ⟨rfl, hb⟩; refine ⟨_, rfl, ?_⟩; have n0_ := za.mk (Kd.yc (by (with_reducible repeat (first | apply Kd.zE | apply Kd.zG | apply Kd.zT)); exact HO_311000.out) hb); have n1_ := za.mk (Kd.yc (by (with_reducible repeat (first | apply Kd.zE | apply Kd.zG | apply Kd.zT)); exact HO_311001.out) hb); have n2_ := za.mk (Kd.yc (by (with_reducible repeat (first | apply Kd.zE | apply Kd.zG | apply Kd.zT)); exact HO_318000.out) hb); have n3_ := za.mk (Kd.yc (by (with_reducible repeat (first | apply Kd.zE | apply Kd.zG | apply Kd.zT)); exact HO_318001.out) hb); have n4_ := za.mk (zI (g := gb310) (o := .cells #[.slice Ao13 t304.length co13, .slice Ao15 t307.length co15] 30 (0, 0)) (by (with_reducible repeat (first | refine zl ?_ _ | refine zm ?_ | refine zj ?_ _)); exact BK310.out) hb); have n5_ := za.mk (zI (g := gb317) (o := .cells #[.slice Ao18 t311.length co18, .slice Ao21 t314.length co21] 30 (0, 0)) (by (with_reducible repeat (first | refine zl ?_ _ | refine zm ?_ | refine zj ?_ _)); exact BK317.out) hb); have n6_ := za.mk (zp (by repeat (with_reducible first | exact HB.out | apply zc | apply zb | apply zd | refine zh ?_ GE310.out | refine zh ?_ GE317.out)) hb); clear HO_311000; clear HO_311001; clear HO_318000; clear HO_318001; clear BK310; clear BK317; clear HB; have HO_311000 := n0_; have HO_311001 := n1_; have HO_318000 := n2_; have HO_318001 := n3_; have BK310 := n4_; have BK317 := n5_; have HB := n6_; clear n0_ n1_ n2_ n3_ n4_ n5_ n6_; (try clear hb); (try clear hb2); (try clear hk); (try clear hi); have hcz56_0 : w55.cell? ⟨gb317, 0, none⟩ = some (.slice Ao18 t311.length co18) := (zf BK317.out 0).trans rfl; have hcz56_1 : w55.cell? ⟨gb317, 1, none⟩ = some (.slice Ao21 t314.length co21) := (zf BK317.out 1).trans rfl; have hfz56_0 := zg BK317.out 0; have hfz56_1 := zg BK317.out 1) | (go_at_call 7; (with_reducible refine (zw.calls kj9 _ _ t311 _ _ t314 t323 _ ?side1 ?side2 ?side3 ?side4 A52.out).mono ?_); (case side1 => repeat (first | exact (Kd.zU HO_318000.out).2.2 | (with_reducible refine Kd.yg ?_ _) | (with_reducible refine Kd.yi ?_ _) | (with_reducible refine Kd.yG ?_))); (case side2 => exact (Kd.zU HO_318000.out).2.1); (case side3 => repeat (first | exact (Kd.zU HO_318001.out).2.2 | (with_reducible refine Kd.yg ?_ _) | (with_reducible refine Kd.yi ?_ _) | (with_reducible refine Kd.yG ?_))); (case side4 => exact (Kd.zU HO_318001.out).2.1); rintro e w57 ⟨rfl, hb⟩; have n0_ := za.mk (Kd.yc (by (with_reducible repeat (first | apply Kd.zE | apply Kd.zG | apply Kd.zT)); exact HO_311000.out) hb); have n1_ := za.mk (Kd.yc (by (with_reducible repeat (first | apply Kd.zE | apply Kd.zG | apply Kd.zT)); exact HO_311001.out) hb); have n2_ := za.mk (Kd.yc (by (with_reducible repeat (first | apply Kd.zE | apply Kd.zG | apply Kd.zT)); exact HO_318000.out) hb); have n3_ := za.mk (Kd.yc (by (with_reducible repeat (first | apply Kd.zE | apply Kd.zG | apply Kd.zT)); exact HO_318001.out) hb); have n4_ := za.mk (zI (g := gb310) (o := .cells #[.slice Ao13 t304.length co13, .slice Ao15 t307.length co15] 30 (0, 0)) (by (with_reducible repeat (first | refine zl ?_ _ | refine zm ?_ | refine zj ?_ _)); exact BK310.out) hb); have n5_ := za.mk (zI (g := gb317) (o := .cells #[.slice Ao18 t311.length co18, .slice Ao21 t314.length co21] 30 (0, 0)) (by (with_reducible repeat (first | refine zl ?_ _ | refine zm ?_ | refine zj ?_ _)); exact BK317.out) hb); have n6_ := za.mk (zp (by repeat (with_reducible first | exact HB.out | apply zc | apply zb | apply zd | refine zh ?_ GE310.out | refine zh ?_ GE317.out)) hb); clear HO_311000; clear HO_311001; clear HO_318000; clear HO_318001; clear BK310; clear BK317; clear HB; have HO_311000 := n0_; have HO_311001 := n1_; have HO_318000 := n2_; have HO_318001 := n3_; have BK310 := n4_; have BK317 := n5_; have HB := n6_; clear n0_ n1_ n2_ n3_ n4_ n5_ n6_; (try clear hb); (try clear hb2); (try clear hk); (try clear hi)))
                go_ret
                exact ⟨by first | rfl | (simp [zr, zq] <;> rfl) | (simp [*, zr, zq] <;> rfl), by repeat (with_reducible first | exact HB.out | apply zc | apply zb | apply zd | refine zh ?_ GE310.out | refine zh ?_ GE317.out)⟩
              · rw [if_neg c51] at H
                exact absurd H (by simp)
            · replace c49 := Bool.eq_false_iff.mpr c49
              subst c49
              have H1 : ((xw.f kj9 t304 t307 t311 t314).bind fun t324 => (some ((t318.toList == t319.toList) == t324))) = some r := by rw [if_neg (show ¬ (false = true) by decide)] at H; exact H
              clear H
              have H := H1
              clear H1
              replace H := Option.bind_eq_some_iff.mp H
              obtain ⟨t324, A610, H⟩ := H
              replace H : (some ((t318.toList == t319.toList) == t324)) = some r := H
              have A61 := za.mk A610
              clear A610
              obtain rfl := Option.some.inj H
              have hnb62 := NB310_317.out
              have hnc62 := NB317_310.out
              have hcz63_0 : wc.cell? ⟨gb310, 0, none⟩ = some (.slice Ao13 t304.length co13) := (zf BK310.out 0).trans rfl
              have hcz63_1 : wc.cell? ⟨gb310, 1, none⟩ = some (.slice Ao15 t307.length co15) := (zf BK310.out 1).trans rfl
              have hfz63_0 := zg BK310.out 0
              have hfz63_1 := zg BK310.out 1
              have hcz64_0 : wc.cell? ⟨gb317, 0, none⟩ = some (.slice Ao18 t311.length co18) := (zf BK317.out 0).trans rfl
              have hcz64_1 : wc.cell? ⟨gb317, 1, none⟩ = some (.slice Ao21 t314.length co21) := (zf BK317.out 1).trans rfl
              have hfz64_0 := zg BK317.out 0
              have hfz64_1 := zg BK317.out 1
              go_wp2_with (first | ((with_reducible refine zx (f := 12) rfl ?_); refine z6 (some 58) rfl rfl Tryd.func12 (by kernel_rfl) rfl #[.agg #[.slice Ao13 t304.length co13, .slice Ao15 t307.length co15], .agg #[.slice Ao18 t311.length co18, .slice Ao21 t314.length co21]] rfl (by (try simp only [List.map_toArray, List.map_cons, List.map_nil]); first | done | rfl | (simp only [List.length_drop, List.length_take]; rfl)) ?_; (with_reducible refine (xw.calls kj9 _ _ t304 _ _ t307 _ _ t311 _ _ t314 t324 _ ?side1 ?side2 ?side3 ?side4 ?side5 ?side6 ?side7 ?side8 A61.out).mono ?_); (case side1 => repeat (first | exact (Kd.zU HO_311000.out).2.2 | (with_reducible refine Kd.yg ?_ _) | (with_reducible refine Kd.yi ?_ _) | (with_reducible refine Kd.yG ?_))); (case side2 => exact (Kd.zU HO_311000.out).2.1); (case side3 => repeat (first | exact (Kd.zU HO_311001.out).2.2 | (with_reducible refine Kd.yg ?_ _) | (with_reducible refine Kd.yi ?_ _) | (with_reducible refine Kd.yG ?_))); (case side4 => exact (Kd.zU HO_311001.out).2.1); (case side5 => repeat (first | exact (Kd.zU HO_318000.out).2.2 | (with_reducible refine Kd.yg ?_ _) | (with_reducible refine Kd.yi ?_ _) | (with_reducible refine Kd.yG ?_))); (case side6 => exact (Kd.zU HO_318000.out).2.1); (case side7 => repeat (first | exact (Kd.zU HO_318001.out).2.2 | (with_reducible refine Kd.yg ?_ _) | (with_reducible refine Kd.yi ?_ _) | (with_reducible refine Kd.yG ?_))); (case side8 => exact (Kd.zU HO_318001.out).2.1); rintro e w65 ⟨rfl, hb⟩; refine ⟨_, rfl, ?_⟩; have n0_ := za.mk (Kd.yc (by (with_reducible repeat (first | apply Kd.zE | apply Kd.zG | apply Kd.zT)); exact HO_311000.out) hb); have n1_ := za.mk (Kd.yc (by (with_reducible repeat (first | apply Kd.zE | apply Kd.zG | apply Kd.zT)); exact HO_311001.out) hb); have n2_ := za.mk (Kd.yc (by (with_reducible repeat (first | apply Kd.zE | apply Kd.zG | apply Kd.zT)); exact HO_318000.out) hb); have n3_ := za.mk (Kd.yc (by (with_reducible repeat (first | apply Kd.zE | apply Kd.zG | apply Kd.zT)); exact HO_318001.out) hb); have n4_ := za.mk (zI (g := gb310) (o := .cells #[.slice Ao13 t304.length co13, .slice Ao15 t307.length co15] 30 (0, 0)) (by (with_reducible repeat (first | refine zl ?_ _ | refine zm ?_ | refine zj ?_ _)); exact BK310.out) hb); have n5_ := za.mk (zI (g := gb317) (o := .cells #[.slice Ao18 t311.length co18, .slice Ao21 t314.length co21] 30 (0, 0)) (by (with_reducible repeat (first | refine zl ?_ _ | refine zm ?_ | refine zj ?_ _)); exact BK317.out) hb); have n6_ := za.mk (zp (by repeat (with_reducible first | exact HB.out | apply zc | apply zb | apply zd | refine zh ?_ GE310.out | refine zh ?_ GE317.out)) hb); clear HO_311000; clear HO_311001; clear HO_318000; clear HO_318001; clear BK310; clear BK317; clear HB; have HO_311000 := n0_; have HO_311001 := n1_; have HO_318000 := n2_; have HO_318001 := n3_; have BK310 := n4_; have BK317 := n5_; have HB := n6_; clear n0_ n1_ n2_ n3_ n4_ n5_ n6_; (try clear hb); (try clear hb2); (try clear hk); (try clear hi)))
              go_ret
              exact ⟨by first | rfl | (simp [zr, zq] <;> rfl) | (simp [*, zr, zq] <;> rfl), by repeat (with_reducible first | exact HB.out | apply zc | apply zb | apply zd | refine zh ?_ GE310.out | refine zh ?_ GE317.out)⟩
def zD.Pure : Prop := ∀ (l0 : List Int) (l1 : List Int), l0.length ≤ maxLen → l0.length * 1 ≤ 140737488351232 → (∀ x ∈ l0, (Lit.int .u8 x).wf = true) → l1.length ≤ maxLen → l1.length * 1 ≤ 140737488351232 → (∀ x ∈ l1, (Lit.int .u8 x).wf = true) → ∃ k, zD.f k l0 l1 = some true
theorem zD.walk (P : zD.Pure) (a0 : Option Addr) (len0 cap0 : Nat) (z0 : List Int) (a1 : Option Addr) (len1 cap1 : Nat) (z1 : List Int) (w : World) (w0 : (a0 = none ∧ len0 = 0 ∧ cap0 = 0 ∧ z0 = []) ∨ ∃ x, a0 = some x ∧ len0 ≤ cap0 ∧ cap0 ≤ maxLen ∧ z0.length = cap0 ∧ (∀ i, i < z0.length → w.cell? (x.add i) = some (.int .u8 (z0.getD i 0))) ∧ ∀ n ∈ z0, (Lit.int .u8 n).wf = true) (y0 : len0 * 1 ≤ 140737488351232) (w1 : (a1 = none ∧ len1 = 0 ∧ cap1 = 0 ∧ z1 = []) ∨ ∃ x, a1 = some x ∧ len1 ≤ cap1 ∧ cap1 ≤ maxLen ∧ z1.length = cap1 ∧ (∀ i, i < z1.length → w.cell? (x.add i) = some (.int .u8 (z1.getD i 0))) ∧ ∀ n ∈ z1, (Lit.int .u8 n).wf = true) (y1 : len1 * 1 ≤ 140737488351232) :
    Calls Tryd.prog 4 #[.slice a0 len0 cap0, .slice a1 len1 cap1] w fun e w' => e = .returned (.bool true) ∧ Below w.heap.size w w' := by
  obtain ⟨l0, rfl, hr0, hm0, hw0, hc0⟩ := yS.ofRowC w0
  obtain ⟨l1, rfl, hr1, hm1, hw1, hc1⟩ := yS.ofRowC w1
  obtain ⟨k, h⟩ := P l0 l1 hm0 y0 hw0 hm1 y1 hw1
  refine (zD.calls k _ _ l0 _ _ l1 true w (Kd.C_of_reads (d := (0 : Int)) (h1 := fun _ => rfl) hr0) hc0 (Kd.C_of_reads (d := (0 : Int)) (h1 := fun _ => rfl) hr1) hc1 h).mono ?_
  rintro e w' ⟨rfl, hd⟩
  exact ⟨rfl, hd⟩
end Go.Proofs.YtoeepmcaabmjkaaDoor.QPO
namespace Go.Proofs.YtoeepmcaabmjkaaDoor.PProg
open Go.RowKit Go.Proofs.YtoeepmcaabmjkaaDoor.QPO Go.Proofs.YtoeepmcaabmjkaaDoorW.PrintWords Go.Proofs.YtoeepmcaabmjkaaDoorW.PrintLast
theorem w64 {i : Int} (h0 : -9223372036854775808 ≤ i) (h1 : i ≤ 9223372036854775807) : wrap64 i = i := by
  unfold wrap64
  omega
theorem down {P : Nat → Prop} {n : Nat} (he : P n) (hs : ∀ i, i < n → P (i + 1) → P i) : ∀ i, i ≤ n → P i := by
  intro i hi
  obtain ⟨d, hd⟩ : ∃ d, n = i + d := ⟨n - i, by omega⟩
  induction d generalizing i with
  | zero =>
    have : i = n := by omega
    rw [this]
    exact he
  | succ d ih => exact hs i (by omega) (ih (i + 1) (by omega) (by omega))
theorem zS {α : Type} {c : Prop} [Decidable c] {f g : Nat → Option α} {r : α} (hc : c) (h : Ev f r) : Ev (fun n => if c then f n else g n) r := by
  simp only [if_pos hc]
  exact h
theorem zL {α : Type} {c : Prop} [Decidable c] {f g : Nat → Option α} {r : α} (hc : ¬ c) (h : Ev g r) : Ev (fun n => if c then f n else g n) r := by
  simp only [if_neg hc]
  exact h
theorem rdI (l : List Int) (i : Nat) (hi : i < l.length) : rd l (i : Int) = l[i] := by
  simp [rd, List.getD, hi]
theorem rdAi (l : List S52) (i : Nat) (hi : i < l.length) : zM l (i : Int) = l[i] := by
  simp [zM, List.getD, hi]
theorem rdBi (l : List (List S52)) (i : Nat) (hi : i < l.length) : zR l (i : Int) = l[i] := by
  simp [zR, List.getD, hi]
end Go.Proofs.YtoeepmcaabmjkaaDoor.PProg
namespace Go.Proofs.YtoeepmcaabmjkaaDoor.PTree
open Go.RowKit Go.Proofs.YtoeepmcaabmjkaaDoor.QPO Go.Proofs.YtoeepmcaabmjkaaDoorW.PrintWords Go.Proofs.YtoeepmcaabmjkaaDoorW.PrintLast Go.Proofs.YtoeepmcaabmjkaaDoor.PProg
theorem rdD (l : List S82) (i : Nat) (hi : i < l.length) : zP l (i : Int) = l[i] := by
  simp [zP, List.getD, hi]
def inB (x lo hi : Int) : Bool := decide (lo ≤ x) && decide (x ≤ hi)
theorem l6In_eq (x lo hi : Int) : zK.f x lo hi = some (inB x lo hi) := by
  unfold zK.f inB
  by_cases h : x ≥ lo
  · rw [if_pos h, decide_eq_true h, Bool.true_and]
  · rw [if_neg h, decide_eq_false h, Bool.false_and]
theorem isPlace_eq (x n : Int) : yJ.f x n = some (inB x 0 (n - 1)) := by
  unfold yJ.f inB
  by_cases h : 0 ≤ x
  · rw [if_pos h, decide_eq_true h, Bool.true_and]
    congr 1
    exact decide_eq_decide.2 (by omega)
  · rw [if_neg h, decide_eq_false h, Bool.false_and]
theorem isReg_eq (x : Int) : yr.f x = some (inB x 0 2) := by
  unfold yr.f
  rw [isPlace_eq]
  rfl
theorem isNum_eq (x : Int) : xt.f x = some (inB x 0 99) := by
  unfold xt.f
  rw [isPlace_eq]
  rfl
def deedB (k a b cells : Int) : Bool :=
  if k = 1 then inB a 0 2 && inB b 0 (cells - 1) else if k = 2 then inB a 0 (cells - 1) && inB b 0 2 else if k = 3 then inB a 0 2 && inB b 0 99
  else if k = 4 then inB a 0 2 && inB b 0 2 else if k = 5 then inB a 0 2 && (b == 0) else false
theorem some_and (p q : Bool) : (if p = true then some q else some false) = some (p && q) := by cases p <;> rfl
theorem l1Deed_eq (k a b c : Int) (h0 : 0 ≤ c) (h1 : c ≤ 3) : xE.f k a b c = some (deedB k a b c) := by
  unfold xE.f deedB
  simp only [l6In_eq, Option.bind_some, some_and, w64 (show -9223372036854775808 ≤ c - 1 by omega) (show c - 1 ≤ 9223372036854775807 by omega)]
  repeat' (first | rfl | split)
theorem deedOk_eq (k a b c : Int) : ((zW.f k a b).bind fun t => xc.f t c) = some (deedB k a b c) := by
  unfold zW.f xc.f deedB
  simp only [Option.bind_some, isReg_eq, isPlace_eq, isNum_eq, some_and]
  by_cases h1 : k = 1
  · subst h1; simp
  by_cases h2 : k = 2
  · subst h2; simp
  by_cases h3 : k = 3
  · subst h3; simp
  by_cases h4 : k = 4
  · subst h4; simp
  by_cases h5 : k = 5
  · subst h5
    by_cases h6 : b = 0
    · subst h6; simp
    · simp [h6]
  · simp [h1, h2, h3, h4, h5]
def dB (cells : Int) (d : S82) : Bool := deedB d.f0 d.f1 d.f2 cells
def okC (l : List S82) (cells : Int) : Bool := (inB cells 0 3 && decide (l.length ≤ 5)) && l.all (dB cells)
theorem implOk_ev (l : List S82) (cells : Int) (hl : l.length ≤ 9223372036854775806) : Ev (fun k => zO.f k l cells) (okC l cells) := by
  have key : ∀ i, i ≤ l.length → Ev (fun k => zO.l0 k cells l (l.length : Int) (i : Int)) ((l.drop i).all (dB cells)) := by
    refine down ?_ ?_
    · refine Ev.step (fun k => by rw [zO.l0, if_neg (by omega)]) ?_
      rw [List.drop_length, List.all_nil]
      exact Ev.now _
    · intro i hi ih
      rw [List.drop_eq_getElem_cons hi, List.all_cons]
      have hd : ∀ (f : Bool → Option Bool), ((zW.f l[i].f0 l[i].f1 l[i].f2).bind fun t => (xc.f t cells).bind f) = f (dB cells l[i]) := by
        intro f
        have := deedOk_eq l[i].f0 l[i].f1 l[i].f2 cells
        unfold dB
        have e : ((zW.f l[i].f0 l[i].f1 l[i].f2).bind fun t => (xc.f t cells).bind f) = (((zW.f l[i].f0 l[i].f1 l[i].f2).bind fun t => xc.f t cells).bind f) := by rw [Option.bind_assoc]
        rw [e, this]
        rfl
      cases hb : dB cells l[i] with
      | true =>
        rw [Bool.true_and]
        refine Ev.step (fun k => ?_) ih
        rw [zO.l0, if_pos (by omega), if_pos (by omega), if_pos (by omega), rdD l i hi, hd, hb, if_pos rfl, w64 (by omega) (by omega)]
        rfl
      | false =>
        rw [Bool.false_and]
        refine Ev.step (fun k => ?_) (Ev.now false)
        rw [zO.l0, if_pos (by omega), if_pos (by omega), if_pos (by omega), rdD l i hi, hd, hb, if_neg Bool.false_ne_true]
  have k0 := key 0 (Nat.zero_le _)
  unfold zO.f okC inB
  by_cases h0 : cells < 0
  · refine zS h0 ?_
    rw [decide_eq_false (p := 0 ≤ cells) (by omega)]
    simp only [Bool.false_and]
    exact Ev.step (fun k => by rw [zO.j0, if_pos rfl]) (Ev.now _)
  · refine zL h0 ?_
    by_cases h1 : cells > 3
    · refine zS h1 ?_
      rw [decide_eq_false (p := cells ≤ 3) (by omega)]
      simp only [Bool.and_false, Bool.false_and]
      exact Ev.step (fun k => by rw [zO.j0, if_pos rfl]) (Ev.now _)
    · refine zL h1 ?_
      rw [decide_eq_true (p := 0 ≤ cells) (by omega), decide_eq_true (p := cells ≤ 3) (by omega)]
      simp only [Bool.true_and]
      by_cases h2 : l.length ≤ 5
      · rw [decide_eq_true h2, Bool.true_and, decide_eq_false (p := (l.length : Int) > 5) (by omega)]
        exact Ev.step (fun k => by rw [zO.j0, if_neg Bool.false_ne_true]; rfl) k0
      · rw [decide_eq_false h2, Bool.false_and, decide_eq_true (p := (l.length : Int) > 5) (by omega)]
        exact Ev.step (fun k => by rw [zO.j0, if_pos rfl]) (Ev.now _)
theorem ev_eq {α : Type} {f : Nat → Option α} {r : α} (h : ∀ k, f k = some r) : Ev f r := Ev.congr (fun k => h k) (Ev.now r)
def xB (cells body bodies : Int) (a : S52) : Bool :=
  if a.f0 = 1 ∧ a.f2.length = 0 ∧ a.f3 = 0 then okC a.f1 cells
  else if a.f0 = 2 ∧ a.f1.length = 0 ∧ a.f3 = 0 then kidsOk a.f2 body bodies
  else if a.f0 = 3 ∧ a.f1.length = 0 ∧ a.f2.length = 0 ∧ a.f3 = 0 then true
  else if a.f0 = 4 ∧ a.f1.length = 0 ∧ a.f2.length = 0 then inB a.f3 0 2
  else false
theorem implAct_ev (cells body bodies : Int) (a : S52) (h1 : a.f1.length ≤ 1048576) : Ev (fun k => xJ.f k a.f0 a.f1 a.f2 a.f3 cells body bodies) (xB cells body bodies a) := by
  unfold xJ.f xB
  by_cases c1 : a.f0 = 1 ∧ a.f2.length = 0 ∧ a.f3 = 0
  · rw [if_pos c1]
    exact zS c1 (implOk_ev _ _ (by omega))
  rw [if_neg c1]
  refine zL c1 (ev_eq fun _ => ?_)
  by_cases c2 : a.f0 = 2 ∧ a.f1.length = 0 ∧ a.f3 = 0
  · rw [if_pos c2, if_pos c2]
  rw [if_neg c2, if_neg c2]
  by_cases c3 : a.f0 = 3 ∧ a.f1.length = 0 ∧ a.f2.length = 0 ∧ a.f3 = 0
  · rw [if_pos c3, if_pos c3]
  rw [if_neg c3, if_neg c3]
  by_cases c4 : a.f0 = 4 ∧ a.f1.length = 0 ∧ a.f2.length = 0
  · rw [if_pos c4, if_pos c4, isReg_eq]
  rw [if_neg c4, if_neg c4]
theorem specKids_ev (l : List Int) (body bodies : Int) (hl : l.length ≤ 1048576) (hb0 : 0 ≤ body) (hb1 : body ≤ 1048576) (hn0 : 0 ≤ bodies) (hn1 : bodies ≤ 1048576) : Ev (fun k => yu.f k l body bodies) (kidsOk l body bodies) := by
  have one : ∀ x : Int, inB x (body + 1) (bodies - 1) = kidOk body bodies x := by
    intro x
    unfold inB kidOk
    rw [Bool.eq_iff_iff]
    simp
    omega
  have key : ∀ i, i ≤ l.length → Ev (fun k => yu.l0 k l body bodies (i : Int)) ((l.drop i).all (kidOk body bodies) && (decide (1 ≤ l.length) && decide (l.length ≤ 2))) := by
    refine down ?_ ?_
    · rw [List.drop_length, List.all_nil, Bool.true_and]
      refine Ev.step (fun k => ?_) (Ev.now _)
      rw [yu.l0, if_neg (by omega), l6In_eq, Option.bind_some]
      unfold inB
      congr 1
      rw [Bool.eq_iff_iff]
      simp
      omega
    · intro i hi ih
      rw [List.drop_eq_getElem_cons hi, List.all_cons]
      cases hb : kidOk body bodies l[i] with
      | true =>
        rw [Bool.true_and]
        refine Ev.step (fun k => ?_) ih
        rw [yu.l0, if_pos (by omega), if_pos (by omega), rdI l i hi, w64 (i := body + 1) (by omega) (by omega), w64 (i := bodies - 1) (by omega) (by omega), l6In_eq, one, hb, Option.bind_some, if_pos rfl, w64 (by omega) (by omega)]
        rfl
      | false =>
        rw [Bool.false_and, Bool.false_and]
        refine Ev.step (fun k => ?_) (Ev.now false)
        rw [yu.l0, if_pos (by omega), if_pos (by omega), rdI l i hi, w64 (i := body + 1) (by omega) (by omega), w64 (i := bodies - 1) (by omega) (by omega), l6In_eq, one, hb, Option.bind_some, if_neg Bool.false_ne_true]
  have := key 0 (Nat.zero_le _)
  rw [List.drop_zero] at this
  exact this
theorem specDeeds_ev (l0 : List Int) (l1 : List (List S52)) (k0 : Int) (l : List S82) (l2 : List Int) (r : Int) (hl : l.length ≤ 1048576) (hc : l0.length ≤ 3) : Ev (fun k => zC.l0 k 0 l0 l1 k0 l l2 r) (okC l (l0.length : Int)) := by
  have key : ∀ i, i ≤ l.length → Ev (fun k => zC.l0 k (i : Int) l0 l1 k0 l l2 r) ((l.drop i).all (dB (l0.length : Int)) && decide (l.length ≤ 5)) := by
    refine down ?_ ?_
    · rw [List.drop_length, List.all_nil, Bool.true_and]
      refine Ev.step (fun k => ?_) (Ev.now _)
      rw [zC.l0, if_neg (by omega)]
      congr 1
      exact decide_eq_decide.2 (by omega)
    · intro i hi ih
      rw [List.drop_eq_getElem_cons hi, List.all_cons]
      cases hb : dB (l0.length : Int) l[i] with
      | true =>
        rw [Bool.true_and]
        refine Ev.step (fun k => ?_) ih
        unfold dB at hb
        rw [zC.l0, if_pos (by omega), if_pos (by omega), rdD l i hi, l1Deed_eq _ _ _ _ (by omega) (by omega), hb, Option.bind_some, if_pos rfl, w64 (by omega) (by omega)]
        rfl
      | false =>
        rw [Bool.false_and, Bool.false_and]
        refine Ev.step (fun k => ?_) (Ev.now false)
        unfold dB at hb
        rw [zC.l0, if_pos (by omega), if_pos (by omega), rdD l i hi, l1Deed_eq _ _ _ _ (by omega) (by omega), hb, Option.bind_some, if_neg Bool.false_ne_true]
  have := key 0 (Nat.zero_le _)
  rw [List.drop_zero] at this
  have e : okC l (l0.length : Int) = (l.all (dB (l0.length : Int)) && decide (l.length ≤ 5)) := by
    unfold okC inB
    rw [decide_eq_true (p := 0 ≤ (l0.length : Int)) (by omega), decide_eq_true (p := (l0.length : Int) ≤ 3) (by omega), Bool.true_and, Bool.true_and, Bool.and_comm]
  rw [e]
  exact this
theorem specAct_ev (l0 : List Int) (l1 : List (List S52)) (body : Int) (a : S52) (hc : l0.length ≤ 3) (hn : l1.length ≤ 4) (hb0 : 0 ≤ body) (hb1 : body ≤ 4) (h1 : a.f1.length ≤ 1048576) (h2 : a.f2.length ≤ 1048576) :
    Ev (fun k => zC.f k l0 l1 body a.f0 a.f1 a.f2 a.f3) (xB (l0.length : Int) body (l1.length : Int) a) := by
  obtain ⟨k0, d, m, r⟩ := a
  dsimp only at h1 h2 ⊢
  have bad : ∀ f : Nat → Option Bool, (∀ k, f k = zC.j0 k body true l0 l1 k0 d m r) → Ev f false := fun f hf => Ev.congr hf (Ev.step (fun k => by rw [zC.j0, if_pos rfl]) (Ev.now false))
  have good : ∀ (f : Nat → Option Bool) (z : Bool), (∀ k, f k = zC.j0 k body false l0 l1 k0 d m r) → Ev (fun k => if k0 = 1 then (zC.l0 k 0 l0 l1 k0 d m r) else (if k0 = 2 then ((yu.f k m body (l1.length : Int)).bind fun t125 => (some t125)) else (if k0 = 3 then (some true) else (if k0 = 4 then ((zK.f r 0 2).bind fun t126 => (some t126)) else (some false))))) z → Ev f z :=
    fun f z hf hz => Ev.congr hf (Ev.step (fun k => by rw [zC.j0, if_neg Bool.false_ne_true]) hz)
  have e1 : ∀ l : List S82, ((l.length : Int) > 0) = (¬ l.length = 0) := fun l => propext (by omega)
  have e2 : ∀ l : List Int, ((l.length : Int) > 0) = (¬ l.length = 0) := fun l => propext (by omega)
  by_cases k1 : k0 = 1
  · subst k1
    by_cases c : m.length = 0
    · by_cases c' : r = 0
      · refine good _ _ (fun k => by unfold zC.f; simp [c, c']) ?_
        have e : xB (l0.length : Int) body (l1.length : Int) ⟨1, d, m, r⟩ = okC d (l0.length : Int) := if_pos ⟨rfl, c, c'⟩
        rw [e]
        exact zS rfl (specDeeds_ev _ _ _ _ _ _ h1 hc)
      · have : xB (l0.length : Int) body (l1.length : Int) ⟨1, d, m, r⟩ = false := by unfold xB; simp [c']
        rw [this]
        exact bad _ (fun k => by unfold zC.f; simp [c, bne_iff_ne.2 c'])
    · have : xB (l0.length : Int) body (l1.length : Int) ⟨1, d, m, r⟩ = false := by unfold xB; simp; intro h; rw [h] at c; exact absurd rfl c
      rw [this]
      exact bad _ (fun k => by unfold zC.f; simp only [e2, c]; simp)
  by_cases k2 : k0 = 2
  · subst k2
    by_cases c : d.length = 0
    · by_cases c' : r = 0
      · refine good _ _ (fun k => by unfold zC.f; simp [c, c']) ?_
        have e : xB (l0.length : Int) body (l1.length : Int) ⟨2, d, m, r⟩ = kidsOk m body (l1.length : Int) := (if_neg (by dsimp only; omega)).trans (if_pos ⟨rfl, c, c'⟩)
        rw [e]
        exact zL (by omega) (zS rfl (Ev.bind (specKids_ev _ _ _ h2 hb0 (by omega) (by omega) (by omega)) (Ev.now _)))
      · have : xB (l0.length : Int) body (l1.length : Int) ⟨2, d, m, r⟩ = false := by unfold xB; simp [c']
        rw [this]
        exact bad _ (fun k => by unfold zC.f; simp [c, bne_iff_ne.2 c'])
    · have : xB (l0.length : Int) body (l1.length : Int) ⟨2, d, m, r⟩ = false := by unfold xB; simp; intro h; rw [h] at c; exact absurd rfl c
      rw [this]
      exact bad _ (fun k => by unfold zC.f; simp only [e1, c]; simp)
  by_cases cd : d.length = 0
  · by_cases cm : m.length = 0
    · by_cases k4 : k0 = 4
      · subst k4
        refine good _ _ (fun k => by unfold zC.f; simp [cd, cm]) ?_
        have e : xB (l0.length : Int) body (l1.length : Int) ⟨4, d, m, r⟩ = inB r 0 2 := (if_neg (by dsimp only; omega)).trans ((if_neg (by dsimp only; omega)).trans ((if_neg (by dsimp only; omega)).trans (if_pos ⟨rfl, cd, cm⟩)))
        rw [e]
        exact zL (by omega) (zL (by omega) (zL (by omega) (zS rfl (ev_eq fun _ => by rw [l6In_eq]; rfl))))
      · by_cases c' : r = 0
        · refine good _ _ (fun k => by unfold zC.f; simp [cd, cm, c', k1, k2, k4]) ?_
          refine zL k1 (zL k2 (ev_eq fun _ => ?_))
          by_cases k3 : k0 = 3
          · have e : xB (l0.length : Int) body (l1.length : Int) ⟨k0, d, m, r⟩ = true := (if_neg (by dsimp only; omega)).trans ((if_neg (by dsimp only; omega)).trans (if_pos ⟨k3, cd, cm, c'⟩))
            rw [e, if_pos k3]
          · have e : xB (l0.length : Int) body (l1.length : Int) ⟨k0, d, m, r⟩ = false := (if_neg (by dsimp only; omega)).trans ((if_neg (by dsimp only; omega)).trans ((if_neg (by dsimp only; omega)).trans (if_neg (by dsimp only; omega))))
            rw [e, if_neg k3, if_neg k4]
        · have : xB (l0.length : Int) body (l1.length : Int) ⟨k0, d, m, r⟩ = false := by
            unfold xB
            dsimp only
            rw [if_neg (by omega), if_neg (by omega), if_neg (by omega), if_neg (by omega)]
          rw [this]
          exact bad _ (fun k => by unfold zC.f; simp [cd, cm, bne_iff_ne.2 c', k1, k2, k4])
    · have : xB (l0.length : Int) body (l1.length : Int) ⟨k0, d, m, r⟩ = false := by
        unfold xB
        dsimp only
        rw [if_neg (by omega), if_neg (by omega), if_neg (by omega), if_neg (by omega)]
      rw [this]
      exact bad _ (fun k => by unfold zC.f; simp only [e2, cd, cm, k1, k2]; simp)
  · have : xB (l0.length : Int) body (l1.length : Int) ⟨k0, d, m, r⟩ = false := by
      unfold xB
      dsimp only
      rw [if_neg (by omega), if_neg (by omega), if_neg (by omega), if_neg (by omega)]
    rw [this]
    exact bad _ (fun k => by unfold zC.f; simp only [e1, cd, k1]; simp)
def bodyB (cells bodies : Int) (i : Nat) (l : List S52) : Bool := decide (l.length ≤ 4) && l.all (xB cells (i : Int) bodies)
def restB (cells bodies : Int) : Nat → List (List S52) → Bool
  | _, [] => true
  | i, l :: ls => bodyB cells bodies i l && restB cells bodies (i + 1) ls
def formB (l0 : List Int) (l1 : List (List S52)) : Bool :=
  (decide (l0.length ≤ 3) && decide (1 ≤ l1.length ∧ l1.length ≤ 4)) && (l0.all (fun x => inB x 0 99) && restB (l0.length : Int) (l1.length : Int) 0 l1)
def Small (l0 : List Int) (l1 : List (List S52)) : Prop := l0.length ≤ 1048576 ∧ l1.length ≤ 1048576 ∧ ∀ b ∈ l1, b.length ≤ 1048576 ∧ ∀ x ∈ b, x.f1.length ≤ 1048576 ∧ x.f2.length ≤ 1048576
theorem inner_ev (cells body bodies : Int) : ∀ l : List S52, (∀ x ∈ l, x.f1.length ≤ 1048576) → Ev (fun k => innerF k cells body bodies l) (l.all (xB cells body bodies))
  | [], _ => Ev.now true
  | a :: l, h => by
    simp only [innerF, List.all_cons]
    refine Ev.bind (implAct_ev cells body bodies a (h a List.mem_cons_self)) ?_
    cases xB cells body bodies a with
    | true =>
      rw [Bool.true_and]
      exact zS rfl (inner_ev cells body bodies l (fun x hx => h x (List.mem_cons_of_mem _ hx)))
    | false => exact zL Bool.false_ne_true (Ev.now _)
theorem outer_ev (cells bodies : Int) : ∀ (ls : List (List S52)) (i : Nat), (∀ b ∈ ls, ∀ x ∈ b, x.f1.length ≤ 1048576) → Ev (fun k => outerF k cells bodies i ls) (restB cells bodies i ls)
  | [], _, _ => Ev.now true
  | l :: ls, i, h => by
    simp only [outerF, restB, bodyB]
    by_cases c : l.length > 4
    · rw [decide_eq_false (by omega), Bool.false_and, Bool.false_and]
      exact zS c (Ev.now _)
    · rw [decide_eq_true (by omega), Bool.true_and]
      refine zL c (Ev.bind (inner_ev cells (i : Int) bodies l (h l List.mem_cons_self)) ?_)
      cases l.all (xB cells (i : Int) bodies) with
      | true =>
        rw [Bool.true_and]
        exact zS rfl (outer_ev cells bodies ls (i + 1) (fun b hb => h b (List.mem_cons_of_mem _ hb)))
      | false => exact zL Bool.false_ne_true (Ev.now _)
theorem allNums_ev (l : List Int) (hl : l.length ≤ 1048576) : Ev (fun k => yo.f k l) (l.all (fun x => inB x 0 99)) := by
  have key : ∀ i, i ≤ l.length → Ev (fun k => yo.l0 k l (l.length : Int) (i : Int)) ((l.drop i).all (fun x => inB x 0 99)) := by
    refine down ?_ ?_
    · rw [List.drop_length, List.all_nil]
      exact Ev.step (fun k => by rw [yo.l0, if_neg (by omega)]) (Ev.now _)
    · intro i hi ih
      rw [List.drop_eq_getElem_cons hi, List.all_cons]
      cases hb : inB l[i] 0 99 with
      | true =>
        rw [Bool.true_and]
        refine Ev.step (fun k => ?_) ih
        rw [yo.l0, if_pos (by omega), if_pos (by omega), if_pos (by omega), rdI l i hi, isNum_eq, hb, Option.bind_some, if_pos rfl, w64 (by omega) (by omega)]
        rfl
      | false =>
        rw [Bool.false_and]
        refine Ev.step (fun k => ?_) (Ev.now false)
        rw [yo.l0, if_pos (by omega), if_pos (by omega), if_pos (by omega), rdI l i hi, isNum_eq, hb, Option.bind_some, if_neg Bool.false_ne_true]
  have := key 0 (Nat.zero_le _)
  rw [List.drop_zero] at this
  exact this
theorem specForm_ev (l0 : List Int) (l1 : List (List S52)) (h : Small l0 l1) : Ev (fun k => zB.f k l0 l1) (formB l0 l1) := by
  unfold zB.f formB
  have bad : Ev (fun k => zB.j0 k true l0 l1) false := Ev.step (fun k => by rw [zB.j0, if_pos rfl]) (Ev.now false)
  by_cases c : l0.length ≤ 3
  · refine zL (by omega) ?_
    rw [decide_eq_true c, Bool.true_and]
    simp only [l6In_eq, Option.bind_some]
    by_cases d : 1 ≤ l1.length ∧ l1.length ≤ 4
    · have e : inB (l1.length : Int) 1 4 = true := by unfold inB; rw [decide_eq_true (by omega), decide_eq_true (by omega)]; rfl
      rw [e, decide_eq_true d, Bool.true_and]
      refine Ev.step (fun k => by rw [Bool.not_true, zB.j0, if_neg Bool.false_ne_true]) ?_
      have acts : ∀ i, (hi : i < l1.length) → l1[i].length ≤ 4 → ∀ R, Ev (fun k => zB.l1 k ((i + 1 : Nat) : Int) l0 l1) R → ∀ j, j ≤ l1[i].length → Ev (fun k => zB.l2 k (i : Int) (j : Int) l0 l1) ((l1[i].drop j).all (xB (l0.length : Int) (i : Int) (l1.length : Int)) && R) := by
        intro i hi hl R hR
        refine down ?_ ?_
        · rw [List.drop_length, List.all_nil, Bool.true_and]
          refine Ev.step (fun k => ?_) hR
          rw [zB.l2, if_pos (by omega), if_pos (by omega), rdBi l1 i hi, if_neg (by omega), w64 (by omega) (by omega)]
          rfl
        · intro j hj ih
          rw [List.drop_eq_getElem_cons hj, List.all_cons]
          have sm := (h.2.2 l1[i] (List.getElem_mem hi)).2 l1[i][j] (List.getElem_mem hj)
          have ha := specAct_ev l0 l1 (i : Int) l1[i][j] c d.2 (by omega) (by omega) sm.1 sm.2
          refine Ev.step (fun k => by rw [zB.l2, if_pos (by omega), if_pos (by omega), rdBi l1 i hi, if_pos (by omega), if_pos (by omega), rdAi _ j hj]) (Ev.bind ha ?_)
          cases xB (l0.length : Int) (i : Int) (l1.length : Int) l1[i][j] with
          | true =>
            rw [Bool.true_and]
            refine zS rfl (Ev.congr (fun k => ?_) ih)
            rw [w64 (by omega) (by omega)]
            rfl
          | false =>
            rw [Bool.false_and, Bool.false_and]
            exact zL Bool.false_ne_true (Ev.now _)
      have bods : ∀ i, i ≤ l1.length → Ev (fun k => zB.l1 k (i : Int) l0 l1) (restB (l0.length : Int) (l1.length : Int) i (l1.drop i)) := by
        refine down ?_ ?_
        · have e : restB (l0.length : Int) (l1.length : Int) l1.length [] = true := by simp [restB]
          rw [List.drop_length, e]
          exact Ev.step (fun k => by rw [zB.l1, if_neg (by omega)]) (Ev.now _)
        · intro i hi ih
          rw [List.drop_eq_getElem_cons hi]
          unfold restB bodyB
          by_cases q : l1[i].length ≤ 4
          · rw [decide_eq_true q, Bool.true_and]
            have := acts i hi q _ ih 0 (Nat.zero_le _)
            rw [List.drop_zero] at this
            refine Ev.step (fun k => ?_) this
            rw [zB.l1, if_pos (by omega), if_pos (by omega), rdBi l1 i hi, if_neg (by omega)]
            rfl
          · rw [decide_eq_false q, Bool.false_and, Bool.false_and]
            refine Ev.step (fun k => ?_) (Ev.now false)
            rw [zB.l1, if_pos (by omega), if_pos (by omega), rdBi l1 i hi, if_pos (by omega)]
      have key : ∀ i, i ≤ l0.length → Ev (fun k => zB.l0 k (i : Int) l0 l1) ((l0.drop i).all (fun x => inB x 0 99) && restB (l0.length : Int) (l1.length : Int) 0 l1) := by
        refine down ?_ ?_
        · rw [List.drop_length, List.all_nil, Bool.true_and]
          have := bods 0 (Nat.zero_le _)
          rw [List.drop_zero] at this
          refine Ev.step (fun k => ?_) this
          rw [zB.l0, if_neg (by omega)]
          rfl
        · intro i hi ih
          rw [List.drop_eq_getElem_cons hi, List.all_cons]
          cases hb : inB l0[i] 0 99 with
          | true =>
            rw [Bool.true_and]
            refine Ev.step (fun k => ?_) ih
            rw [zB.l0, if_pos (by omega), if_pos (by omega), rdI l0 i hi, l6In_eq, hb, Option.bind_some, if_pos rfl, w64 (by omega) (by omega)]
            rfl
          | false =>
            rw [Bool.false_and, Bool.false_and]
            refine Ev.step (fun k => ?_) (Ev.now false)
            rw [zB.l0, if_pos (by omega), if_pos (by omega), rdI l0 i hi, l6In_eq, hb, Option.bind_some, if_neg Bool.false_ne_true]
      have := key 0 (Nat.zero_le _)
      rw [List.drop_zero] at this
      exact this
    · have e : inB (l1.length : Int) 1 4 = false := by
        unfold inB
        rw [← Bool.not_eq_true, Bool.and_eq_true, decide_eq_true_iff, decide_eq_true_iff]
        omega
      rw [e, decide_eq_false d, Bool.false_and]
      exact bad
  · rw [decide_eq_false c, Bool.false_and, Bool.false_and]
    exact zS (by omega) bad
theorem rest_at {cells bodies : Int} : ∀ {ls : List (List S52)} {i : Nat}, restB cells bodies i ls = true → ∀ j (hj : j < ls.length), bodyB cells bodies (i + j) ls[j] = true
  | [], _, _, j, hj => absurd hj (by simp)
  | l :: ls, i, h, j, hj => by
    unfold restB at h
    rw [Bool.and_eq_true] at h
    match j, hj with
    | 0, _ => exact h.1
    | j + 1, hj =>
      have := rest_at h.2 j (by simp at hj; omega)
      rw [show i + 1 + j = i + (j + 1) by omega] at this
      exact this
theorem kids_behind {cells body bodies : Int} {a : S52} (h : xB cells body bodies a = true) : a.f2.length ≤ 2 ∧ ∀ x ∈ a.f2, body < x ∧ x < bodies := by
  unfold xB at h
  have z : a.f2.length = 0 → a.f2.length ≤ 2 ∧ ∀ x ∈ a.f2, body < x ∧ x < bodies := fun e => ⟨by omega, fun x hx => by rw [List.length_eq_zero_iff.1 e] at hx; cases hx⟩
  split at h
  · rename_i c; exact z c.2.1
  · split at h
    · unfold kidsOk at h
      rw [Bool.and_eq_true, List.all_eq_true, Bool.and_eq_true, decide_eq_true_iff, decide_eq_true_iff] at h
      refine ⟨h.2.2, fun x hx => ?_⟩
      have := h.1 x hx
      unfold kidOk at this
      simp at this
      omega
    · split at h
      · rename_i c; exact z c.2.2.1
      · split at h
        · rename_i c; exact z c.2.2
        · cases h
structure Form (l1 : List (List S52)) : Prop where
  few : 1 ≤ l1.length ∧ l1.length ≤ 4
  acts : ∀ b (hb : b < l1.length), l1[b].length ≤ 4
  kids : ∀ b (hb : b < l1.length), ∀ a ∈ l1[b], a.f2.length ≤ 2 ∧ ∀ x ∈ a.f2, (b : Int) < x ∧ x < (l1.length : Int)
theorem form_of {l0 : List Int} {l1 : List (List S52)} (h : formB l0 l1 = true) : Form l1 := by
  unfold formB at h
  rw [Bool.and_eq_true, Bool.and_eq_true, Bool.and_eq_true, decide_eq_true_iff, decide_eq_true_iff] at h
  have r := fun b hb => rest_at h.2.2 b hb
  refine ⟨h.1.2, fun b hb => ?_, fun b hb a ha => ?_⟩
  · have := r b hb
    unfold bodyB at this
    rw [Bool.and_eq_true, decide_eq_true_iff] at this
    exact this.1
  · have := r b hb
    unfold bodyB at this
    rw [Bool.and_eq_true, List.all_eq_true] at this
    have := kids_behind (this.2 a ha)
    rw [Nat.zero_add] at this
    exact this
theorem tree_ev {l0 : List Int} {l1 : List (List S52)} (h : Form l1) : ∀ (d b : Nat), b < l1.length → l1.length ≤ b + d → ∃ T : Int, Ev (fun k => zN.f k l0 l1 (b : Int)) T ∧ Ev (fun k => z8.f k l0 l1 (b : Int)) T
  | 0, b, hb, hd => absurd hb (by omega)
  | d + 1, b, hb, hd => by
    have hl := h.acts b hb
    have kid : ∀ x : Int, (b : Int) < x → x < (l1.length : Int) → ∃ T : Int, Ev (fun k => zN.f k l0 l1 x) T ∧ Ev (fun k => z8.f k l0 l1 x) T := by
      intro x h0 h1
      have := tree_ev (l0 := l0) h d x.toNat (by omega) (by omega)
      rw [Int.toNat_of_nonneg (by omega)] at this
      exact this
    have acts : ∀ i, i ≤ l1[b].length → ∀ s : Int, ∃ T : Int, Ev (fun k => zN.l0 k (b : Int) s (i : Int) l0 l1) T ∧ Ev (fun k => z8.l0 k s l1[b] (l1[b].length : Int) (i : Int) l0 l1) T := by
      refine down ?_ ?_
      · intro s
        refine ⟨s, Ev.step (fun k => ?_) (Ev.now _), Ev.step (fun k => ?_) (Ev.now _)⟩
        · rw [zN.l0, if_pos (by omega), if_pos (by omega), rdBi l1 b hb, if_neg (by omega)]
        · rw [z8.l0, if_neg (by omega)]
      · intro i hi ih s
        obtain ⟨hk, hx⟩ := h.kids b hb l1[b][i] (List.getElem_mem hi)
        have inner : ∀ j, j ≤ l1[b][i].f2.length → ∀ s : Int, ∃ T : Int, Ev (fun k => zN.l1 k (b : Int) s (i : Int) l1[b][i].f2 (j : Int) l0 l1) T ∧ Ev (fun k => z8.l1 k s l1[b] (l1[b].length : Int) (i : Int) l1[b][i].f2 (l1[b][i].f2.length : Int) (j : Int) l0 l1) T := by
          refine down ?_ ?_
          · intro s
            obtain ⟨T, t1, t2⟩ := ih s
            refine ⟨T, Ev.step (fun k => ?_) t1, Ev.step (fun k => ?_) t2⟩
            · rw [zN.l1, if_neg (by omega), w64 (by omega) (by omega)]
              rfl
            · rw [z8.l1, if_neg (by omega), w64 (by omega) (by omega)]
              rfl
          · intro j hj ih2 s
            obtain ⟨q0, q1⟩ := hx _ (List.getElem_mem hj)
            obtain ⟨t, u1, u2⟩ := kid _ q0 q1
            obtain ⟨T, t1, t2⟩ := ih2 (wrap64 (s + t))
            refine ⟨T, Ev.step (fun k => by rw [zN.l1, if_pos (by omega), if_pos (by omega), rdI _ j hj]) (Ev.bind u1 (Ev.congr (fun k => ?_) t1)), Ev.step (fun k => by rw [z8.l1, if_pos (by omega), if_pos (by omega), if_pos (by omega), rdI _ j hj]) (Ev.bind u2 (Ev.congr (fun k => ?_) t2))⟩
            · rw [w64 (i := (j : Int) + 1) (by omega) (by omega)]
              rfl
            · rw [w64 (i := (j : Int) + 1) (by omega) (by omega)]
              rfl
        obtain ⟨T, t1, t2⟩ := inner 0 (Nat.zero_le _) s
        refine ⟨T, Ev.step (fun k => ?_) t1, Ev.step (fun k => ?_) t2⟩
        · rw [zN.l0, if_pos (by omega), if_pos (by omega), rdBi l1 b hb, if_pos (by omega), if_pos (by omega), rdAi _ i hi]
          rfl
        · rw [z8.l0, if_pos (by omega), if_pos (by omega), if_pos (by omega), rdAi _ i hi]
          rfl
    obtain ⟨T, t1, t2⟩ := acts 0 (Nat.zero_le _) 1
    refine ⟨T, Ev.step (fun k => ?_) t1, Ev.step (fun k => ?_) t2⟩
    · rw [zN.f]
      rfl
    · rw [z8.f, if_pos (by omega), if_pos (by omega), rdBi l1 b hb]
      rfl
theorem ok_ev (l0 : List Int) (l1 : List (List S52)) (h : Small l0 l1) : ∃ R : Bool, Ev (fun k => yY.f k l0 l1) R ∧ Ev (fun k => xp.f k l0 l1) R ∧ (R = true → formB l0 l1 = true) := by
  have sf := specForm_ev l0 l1 h
  cases hf : formB l0 l1 with
  | true =>
    rw [hf] at sf
    have fm := form_of hf
    obtain ⟨T, t1, t2⟩ := tree_ev (l0 := l0) fm 4 0 (by have := fm.few; omega) (by have := fm.few; omega)
    refine ⟨decide (T ≤ 7), ?_, ?_, fun _ => rfl⟩
    · unfold yY.f
      exact Ev.bind sf (zS rfl (Ev.bind t1 (Ev.now _)))
    · unfold formB at hf
      rw [Bool.and_eq_true, Bool.and_eq_true, Bool.and_eq_true, decide_eq_true_iff, decide_eq_true_iff] at hf
      obtain ⟨⟨h3, h4⟩, h5, h6⟩ := hf
      have an := allNums_ev l0 h.1
      have ou := outer_ev (l0.length : Int) (l1.length : Int) l1 0 (fun b hb x hx => ((h.2.2 b hb).2 x hx).1)
      rw [h5] at an
      rw [h6] at ou
      unfold xp.f
      exact zL (by omega) (Ev.bind an (zS rfl (zL (by omega) (Ev.bind ou (zS rfl (Ev.bind t2 (Ev.now _)))))))
  | false =>
    rw [hf] at sf
    refine ⟨false, ?_, ?_, fun q => by cases q⟩
    · unfold yY.f
      exact Ev.bind sf (zL Bool.false_ne_true (Ev.now _))
    · have an := allNums_ev l0 h.1
      have ou := outer_ev (l0.length : Int) (l1.length : Int) l1 0 (fun b hb x hx => ((h.2.2 b hb).2 x hx).1)
      unfold xp.f
      by_cases c : l0.length > 3
      · exact zS c (Ev.now _)
      refine zL c (Ev.bind an ?_)
      cases h5 : l0.all (fun x => inB x 0 99) with
      | false => exact zL Bool.false_ne_true (Ev.now _)
      | true =>
        refine zS rfl ?_
        by_cases c2 : l1.length < 1 ∨ 4 < l1.length
        · exact zS c2 (Ev.now _)
        refine zL c2 (Ev.bind ou ?_)
        cases h6 : restB (l0.length : Int) (l1.length : Int) 0 l1 with
        | false => exact zL Bool.false_ne_true (Ev.now _)
        | true =>
          exfalso
          unfold formB at hf
          rw [h5, h6, decide_eq_true (show l0.length ≤ 3 by omega), decide_eq_true (show 1 ≤ l1.length ∧ l1.length ≤ 4 by omega)] at hf
          cases hf
end Go.Proofs.YtoeepmcaabmjkaaDoor.PTree
namespace Go.Proofs.YtoeepmcaabmjkaaDoor.PText
open Go.RowKit Go.Proofs.YtoeepmcaabmjkaaDoor.QPO Go.Proofs.YtoeepmcaabmjkaaDoorW.PrintWords Go.Proofs.YtoeepmcaabmjkaaDoorW.PrintLast Go.Proofs.YtoeepmcaabmjkaaDoor.PProg Go.Proofs.YtoeepmcaabmjkaaDoor.PTree
theorem xg {x lo hi : Int} (h : inB x lo hi = true) : lo ≤ x ∧ x ≤ hi := by
  unfold inB at h
  rwa [Bool.and_eq_true, decide_eq_true_iff, decide_eq_true_iff] at h
theorem nums_one (a : Int) : (strOfNums [a]).size = 1 := rfl
theorem byte_at {c a : Int} (h0 : 0 ≤ a) (h1 : a ≤ 2) (hc : 0 ≤ c) (hc' : c ≤ 200) : (wrap64 (c + a)) % 256 = c + a := by
  unfold wrap64
  omega
theorem xo {a : Int} (h : 0 ≤ a ∧ a ≤ 2) : ym.f a = some (strOfNums [114 + a]) := if_pos h
theorem cell_some {a : Int} (h : 0 ≤ a ∧ a ≤ 2) : y8.f a = some (strOfNums [65 + a]) := if_pos h
theorem Itoa_some {a : Int} (h : 0 ≤ a ∧ a ≤ 99) : ∃ x, yA.f a = some x := ⟨_, if_pos h⟩
theorem digit (n : Nat) (h : n < 10) : (⟨(Lib.decDigits n).toArray⟩ : ByteArray) = strOfNums [48 + (n : Int)] := by
  rw [Lib.decDigits_one h]
  have : ∀ n : Fin 10, (⟨[UInt8.ofNat (48 + n.1)].toArray⟩ : ByteArray) = strOfNums [48 + (n.1 : Int)] := by decide +kernel
  exact this ⟨n, h⟩
theorem digits (n : Nat) (h1 : ¬ n < 10) (h2 : n < 100) : (⟨(Lib.decDigits n).toArray⟩ : ByteArray) = strOfNums [48 + ((n / 10 : Nat) : Int)] ++ strOfNums [48 + ((n % 10 : Nat) : Int)] := by
  rw [Lib.decDigits_two h1 h2]
  have : ∀ n : Fin 100, (⟨[UInt8.ofNat (48 + n.1 / 10), UInt8.ofNat (48 + n.1 % 10)].toArray⟩ : ByteArray) = strOfNums [48 + ((n.1 / 10 : Nat) : Int)] ++ strOfNums [48 + ((n.1 % 10 : Nat) : Int)] := by decide +kernel
  exact this ⟨n, h2⟩
theorem dec_ev {a : Int} {x : ByteArray} (h : yA.f a = some x) : Ev (fun k => yd.f k a) x := by
  unfold yA.f at h
  split at h
  · rename_i c
    injection h with h
    subst h
    obtain ⟨n, rfl⟩ := Int.eq_ofNat_of_zero_le c.1
    have hn : n < 100 := by omega
    rw [Int.toNat_natCast]
    have one : ∀ m : Nat, m < 10 → Ev (fun k => yd.f k (m : Int)) (strOfNums [48 + (m : Int)]) := fun m hm => by
      refine Ev.step (fun k => ?_) (Ev.now _)
      rw [yd.f, if_neg (by omega), if_neg (by omega), if_pos (by omega), show (wrap64 (48 + (m : Int))) % 256 = 48 + (m : Int) by unfold wrap64; omega]
    by_cases c1 : n < 10
    · rw [digit n c1]
      exact one n c1
    · rw [digits n c1 hn]
      have e1 : wrap64 (Int.tdiv (n : Int) 10) = ((n / 10 : Nat) : Int) := by
        rw [Int.tdiv_eq_ediv_of_nonneg (by omega), w64 (by omega) (by omega)]
        omega
      have e2 : (wrap64 (48 + (Int.tmod (n : Int) 10))) % 256 = 48 + ((n % 10 : Nat) : Int) := by
        rw [Int.tmod_eq_emod_of_nonneg (by omega), w64 (by omega) (by omega)]
        omega
      refine Ev.step (f := fun k => (yd.f k ((n / 10 : Nat) : Int)).bind fun t => if t.size + 1 ≤ 9223372036854775807 then some (t ++ strOfNums [48 + ((n % 10 : Nat) : Int)]) else none) (fun k => ?_) ?_
      · rw [yd.f, if_neg (by omega), if_neg (by omega), if_neg (by omega), e1, e2]
        rfl
      · refine Ev.bind (one (n / 10) (by omega)) ?_
        rw [nums_one]
        exact zS (by omega) (Ev.now _)
  · cases h
theorem deed_ev (d : S82) (cells : Int) (hc : cells ≤ 3) (h : dB cells d = true) : ∃ x, ((zW.f d.f0 d.f1 d.f2).bind fun p => yj.f p) = some x ∧ Ev (fun k => yU.f k d.f0 d.f1 d.f2) x := by
  unfold dB deedB at h
  have eq61 : (⟨#[61]⟩ : ByteArray).size = 1 := rfl
  have eq43 : (⟨#[43]⟩ : ByteArray).size = 1 := rfl
  by_cases h1 : d.f0 = 1
  · rw [if_pos h1, Bool.and_eq_true] at h
    have r1 := xg h.1
    have r2 := xg h.2
    refine ⟨strOfNums [114 + d.f1] ++ (⟨#[61]⟩ : ByteArray) ++ strOfNums [65 + d.f2], ?_, ?_⟩
    · unfold zW.f yj.f
      simp [h1, xo r1, cell_some (a := d.f2) (by omega)]
    · refine ev_eq fun k => ?_
      unfold yU.f
      simp [h1, nums_one, byte_at r1.1 r1.2, byte_at (c := 65) (a := d.f2) (by omega) (by omega), ByteArray.size_append, eq61]
  rw [if_neg h1] at h
  by_cases h2 : d.f0 = 2
  · rw [if_pos h2, Bool.and_eq_true] at h
    have r1 := xg h.1
    have r2 := xg h.2
    refine ⟨strOfNums [65 + d.f1] ++ (⟨#[61]⟩ : ByteArray) ++ strOfNums [114 + d.f2], ?_, ?_⟩
    · unfold zW.f yj.f
      simp [h2, xo r2, cell_some (a := d.f1) (by omega)]
    · refine ev_eq fun k => ?_
      unfold yU.f
      simp [h2, nums_one, byte_at r2.1 r2.2, byte_at (c := 65) (a := d.f1) (by omega) (by omega), ByteArray.size_append, eq61]
  rw [if_neg h2] at h
  by_cases h3 : d.f0 = 3
  · rw [if_pos h3, Bool.and_eq_true] at h
    have r1 := xg h.1
    obtain ⟨x, hx⟩ := Itoa_some (xg h.2)
    refine ⟨strOfNums [114 + d.f1] ++ (⟨#[61]⟩ : ByteArray) ++ x, ?_, ?_⟩
    · unfold zW.f yj.f
      simp [h3, xo r1, hx]
    · unfold yU.f
      have sx := xF hx
      simp only [Option.bind_some, byte_at r1.1 r1.2 (show (0 : Int) ≤ 114 by omega) (by omega)]
      refine zL (by omega) (zL (by omega) (zS h3 ?_))
      rw [nums_one]
      refine zS (by omega) (Ev.bind (dec_ev hx) ?_)
      rw [ByteArray.size_append, nums_one, eq61]
      exact zS (by omega) (Ev.now _)
  rw [if_neg h3] at h
  by_cases h4 : d.f0 = 4
  · rw [if_pos h4, Bool.and_eq_true] at h
    have r1 := xg h.1
    have r2 := xg h.2
    refine ⟨strOfNums [114 + d.f1] ++ (⟨#[43]⟩ : ByteArray) ++ strOfNums [114 + d.f2], ?_, ?_⟩
    · unfold zW.f yj.f
      simp [h4, xo r1, xo r2]
    · refine ev_eq fun k => ?_
      unfold yU.f
      simp [h4, nums_one, byte_at r1.1 r1.2, byte_at (c := 114) r2.1 r2.2, ByteArray.size_append, eq43]
  rw [if_neg h4] at h
  by_cases h5 : d.f0 = 5
  · rw [if_pos h5, Bool.and_eq_true] at h
    have r1 := xg h.1
    have r2 : d.f2 = 0 := by simpa using h.2
    refine ⟨strOfNums [114 + d.f1] ++ (⟨#[63]⟩ : ByteArray), ?_, ?_⟩
    · unfold zW.f yj.f
      simp [h5, r2, xo r1]
    · refine ev_eq fun k => ?_
      unfold yU.f
      simp [h5, nums_one, byte_at r1.1 r1.2]
  rw [if_neg h5] at h
  cases h
def tail (b : ByteArray) (xs : List ByteArray) : ByteArray := xs.foldl (fun o x => (o ++ (⟨#[32]⟩ : ByteArray)) ++ x) b
theorem join_tail (xs : List ByteArray) : ∀ b : ByteArray, joinB b xs = tail b xs := by
  induction xs with
  | nil =>
    intro b
    unfold joinB tail
    rw [List.map_cons, Lib.join_cons]
    simp [Lib.joinTail]
  | cons x xs ih =>
    intro b
    show _ = tail ((b ++ (⟨#[32]⟩ : ByteArray)) ++ x) xs
    rw [← ih]
    unfold joinB
    simp only [List.map_cons, Lib.join_cons]
    congr 1
    simp [Lib.joinTail, List.append_assoc]
theorem tail_size (xs : List ByteArray) : ∀ b : ByteArray, (∀ x ∈ xs, x.size ≤ 4) → (tail b xs).size ≤ b.size + 5 * xs.length := by
  induction xs with
  | nil => intro b _; simp [tail]
  | cons x xs ih =>
    intro b h
    have h1 := ih ((b ++ (⟨#[32]⟩ : ByteArray)) ++ x) (fun y hy => h y (List.mem_cons_of_mem _ hy))
    have h2 := h x List.mem_cons_self
    have e : (⟨#[32]⟩ : ByteArray).size = 1 := rfl
    rw [ByteArray.size_append, ByteArray.size_append, e] at h1
    simp only [List.length_cons]
    show (tail ((b ++ (⟨#[32]⟩ : ByteArray)) ++ x) xs).size ≤ _
    omega
theorem blank_size (X : ByteArray) : (X ++ (⟨#[32]⟩ : ByteArray)).size = X.size + 1 := by rw [ByteArray.size_append]; rfl
theorem deeds_ev (k0 : Int) (l : List S82) (l2 : List Int) (r0 cells : Int) (hc : cells ≤ 3) (hl : l.length ≤ 5) (hd : ∀ d ∈ l, dB cells d = true) : ∀ i, i ≤ l.length → ∀ (X : ByteArray) (xs : List ByteArray) (r : ByteArray), xN (l.drop i) = some xs → X.size ≤ 1000 + 5 * i →
    Ev (fun k => zV.l1 k (tail X xs) 0 k0 l l2 r0) r → Ev (fun k => zV.l0 k X (i : Int) k0 l l2 r0) r := by
  refine down ?_ ?_
  · intro X xs r hx hX hr
    rw [List.drop_length] at hx
    injection hx with hx
    subst hx
    exact Ev.step (fun k => by rw [zV.l0, if_neg (by omega)]; rfl) hr
  · intro i hi ih X xs r hx hX hr
    rw [List.drop_eq_getElem_cons hi, xN] at hx
    obtain ⟨p, hp, hx⟩ := Option.bind_eq_some_iff.1 hx
    obtain ⟨x, hx1, hx⟩ := Option.bind_eq_some_iff.1 hx
    obtain ⟨ys, hy, hx⟩ := Option.bind_eq_some_iff.1 hx
    injection hx with hx
    subst hx
    obtain ⟨x', e1, ev⟩ := deed_ev l[i] cells hc (hd _ (List.getElem_mem hi))
    rw [hp, Option.bind_some, hx1] at e1
    injection e1 with e1
    subst e1
    have sx := deedText_size hx1
    refine Ev.step (f := fun k => (yU.f k l[i].f0 l[i].f1 l[i].f2).bind fun t => if (X ++ (⟨#[32]⟩ : ByteArray)).size + t.size ≤ 9223372036854775807 then zV.l0 k ((X ++ (⟨#[32]⟩ : ByteArray)) ++ t) ((i + 1 : Nat) : Int) k0 l l2 r0 else none) (fun k => ?_) (Ev.bind ev ?_)
    · rw [zV.l0, if_pos (by omega), if_pos (by omega), if_pos (by omega), rdD l i hi, w64 (by omega) (by omega)]
      rfl
    · rw [blank_size]
      refine zS (by omega) (ih _ ys r hy ?_ hr)
      rw [ByteArray.size_append, blank_size]
      omega
theorem kids_ev (k0 : Int) (l1 : List S82) (l : List Int) (r0 : Int) (hk : ¬ k0 = 4) (hl : l.length ≤ 5) : ∀ i, i ≤ l.length → ∀ (X : ByteArray) (xs : List ByteArray), kidsF (l.drop i) = some xs → X.size ≤ 2000 + 5 * i →
    Ev (fun k => zV.l1 k X (i : Int) k0 l1 l r0) (tail X xs) := by
  refine down ?_ ?_
  · intro X xs hx hX
    rw [List.drop_length] at hx
    injection hx with hx
    subst hx
    exact Ev.step (fun k => by rw [zV.l1, if_neg (by omega), if_neg hk]; rfl) (Ev.now _)
  · intro i hi ih X xs hx hX
    rw [List.drop_eq_getElem_cons hi, kidsF] at hx
    obtain ⟨x, hx1, hx⟩ := Option.bind_eq_some_iff.1 hx
    obtain ⟨ys, hy, hx⟩ := Option.bind_eq_some_iff.1 hx
    injection hx with hx
    subst hx
    have sx := xF hx1
    refine Ev.step (f := fun k => (yd.f k l[i]).bind fun t => if (X ++ (⟨#[32]⟩ : ByteArray)).size + t.size ≤ 9223372036854775807 then zV.l1 k ((X ++ (⟨#[32]⟩ : ByteArray)) ++ t) ((i + 1 : Nat) : Int) k0 l1 l r0 else none) (fun k => ?_) (Ev.bind (dec_ev hx1) ?_)
    · rw [zV.l1, if_pos (by omega), if_pos (by omega), if_pos (by omega), rdI l i hi, w64 (by omega) (by omega)]
      rfl
    · rw [blank_size]
      refine zS (by omega) (ih _ ys hy ?_)
      rw [ByteArray.size_append, blank_size]
      omega
theorem deeds_some (cells : Int) (hc : cells ≤ 3) : ∀ l : List S82, (∀ d ∈ l, dB cells d = true) → ∃ xs, xN l = some xs
  | [], _ => ⟨[], rfl⟩
  | d :: l, h => by
    obtain ⟨x, e, _⟩ := deed_ev d cells hc (h d List.mem_cons_self)
    obtain ⟨p, hp, hx⟩ := Option.bind_eq_some_iff.1 e
    obtain ⟨xs, hxs⟩ := deeds_some cells hc l (fun y hy => h y (List.mem_cons_of_mem _ hy))
    exact ⟨x :: xs, by rw [xN, hp, Option.bind_some, hx, Option.bind_some, hxs, Option.bind_some]⟩
theorem kids_some : ∀ l : List Int, (∀ d ∈ l, 0 ≤ d ∧ d ≤ 99) → ∃ xs, kidsF l = some xs
  | [], _ => ⟨[], rfl⟩
  | d :: l, h => by
    obtain ⟨x, e⟩ := Itoa_some (h d List.mem_cons_self)
    obtain ⟨xs, hxs⟩ := kids_some l (fun y hy => h y (List.mem_cons_of_mem _ hy))
    exact ⟨x :: xs, by rw [kidsF, e, Option.bind_some, hxs, Option.bind_some]⟩
theorem act_ev (a : S52) (cells body bodies : Int) (hc : cells ≤ 3) (hb : bodies ≤ 4) (hb0 : 0 ≤ body) (h : xB cells body bodies a = true) : ∃ x, yp.f a.f0 a.f1 a.f2 a.f3 = some x ∧ Ev (fun k => zV.f k a.f0 a.f1 a.f2 a.f3) x := by
  have kb := kids_behind h
  have nil2 : a.f2.length = 0 → ∀ (X : ByteArray) (k0 : Int), ¬ k0 = 4 → X.size ≤ 2000 → Ev (fun k => zV.l1 k X 0 k0 a.f1 a.f2 a.f3) X := fun e X k0 hk hX => by
    have := kids_ev k0 a.f1 a.f2 a.f3 hk (by omega) 0 (by omega) X [] (by rw [List.length_eq_zero_iff.1 e]; rfl) (by omega)
    exact this
  unfold xB at h
  by_cases c1 : a.f0 = 1 ∧ a.f2.length = 0 ∧ a.f3 = 0
  · rw [if_pos c1] at h
    unfold okC at h
    rw [Bool.and_eq_true, Bool.and_eq_true, decide_eq_true_iff, List.all_eq_true] at h
    obtain ⟨xs, hxs⟩ := deeds_some cells hc a.f1 h.2
    obtain ⟨n1, n2⟩ := deeds_small hxs
    have ts := tail_size xs ⟨#[116, 114, 121]⟩ n2
    have e3 : (⟨#[116, 114, 121]⟩ : ByteArray).size = 3 := rfl
    refine ⟨joinB ⟨#[116, 114, 121]⟩ xs, ?_, ?_⟩
    · unfold yp.f
      rw [if_neg (by omega), if_pos c1, hxs, Option.bind_some]
    · rw [join_tail]
      unfold zV.f
      simp only [Option.bind_some, c1.1]
      refine zS (by omega) (zS (by decide) ?_)
      refine deeds_ev 1 a.f1 a.f2 a.f3 cells hc h.1.2 h.2 0 (by omega) _ xs _ (by rw [List.drop_zero]; exact hxs) (by decide) ?_
      exact nil2 c1.2.1 _ 1 (by omega) (by show (tail ⟨#[116, 114, 121]⟩ xs).size ≤ 2000; omega)
  rw [if_neg c1] at h
  have nil1 : a.f1.length = 0 → ∀ (X r : ByteArray) (k0 : Int), X.size ≤ 1000 → Ev (fun k => zV.l1 k X 0 k0 a.f1 a.f2 a.f3) r → Ev (fun k => zV.l0 k X 0 k0 a.f1 a.f2 a.f3) r := fun e X r k0 hX hr => by
    have z := List.length_eq_zero_iff.1 e
    exact deeds_ev k0 a.f1 a.f2 a.f3 3 (by omega) (by omega) (by rw [z]; intro d hd; cases hd) 0 (by omega) X [] r (by rw [z]; rfl) (by omega) hr
  by_cases c2 : a.f0 = 2 ∧ a.f1.length = 0 ∧ a.f3 = 0
  · obtain ⟨xs, hxs⟩ := kids_some a.f2 (fun x hx => by have := kb.2 x hx; omega)
    refine ⟨joinB ⟨#[102, 111, 114, 107]⟩ xs, ?_, ?_⟩
    · unfold yp.f
      rw [if_neg (by omega), if_neg c1, if_pos c2, hxs, Option.bind_some]
    · rw [join_tail]
      unfold zV.f
      simp only [Option.bind_some, c2.1]
      refine zS (by omega) (zS (by decide) ?_)
      refine nil1 c2.2.1 _ _ 2 (by decide) ?_
      exact kids_ev 2 a.f1 a.f2 a.f3 (by omega) (by omega) 0 (by omega) _ xs (by rw [List.drop_zero]; exact hxs) (by decide)
  rw [if_neg c2] at h
  by_cases c3 : a.f0 = 3 ∧ a.f1.length = 0 ∧ a.f2.length = 0 ∧ a.f3 = 0
  · refine ⟨⟨#[102, 97, 105, 108]⟩, ?_, ?_⟩
    · unfold yp.f
      rw [if_neg (by omega), if_neg c1, if_neg c2, if_pos c3]
    · unfold zV.f
      simp only [Option.bind_some, c3.1]
      refine zS (by omega) (zS (by decide) ?_)
      exact nil1 c3.2.1 _ _ 3 (by decide) (nil2 c3.2.2.1 _ 3 (by omega) (by decide))
  rw [if_neg c3] at h
  by_cases c4 : a.f0 = 4 ∧ a.f1.length = 0 ∧ a.f2.length = 0
  · rw [if_pos c4] at h
    have r1 := xg h
    refine ⟨(⟨#[102, 97, 105, 108, 105, 102, 32]⟩ : ByteArray) ++ strOfNums [114 + a.f3], ?_, ?_⟩
    · unfold yp.f
      rw [if_neg (by omega), if_neg c1, if_neg c2, if_neg c3, if_pos c4, xo r1, Option.bind_some]
    · unfold zV.f
      simp only [Option.bind_some, c4.1]
      refine zS (by omega) (zS (by decide) ?_)
      refine nil1 c4.2.1 _ _ 4 (by decide) ?_
      refine Ev.step (fun k => ?_) (Ev.now _)
      show zV.l1 (k + 1) (⟨#[102, 97, 105, 108, 105, 102]⟩ : ByteArray) 0 4 a.f1 a.f2 a.f3 = _
      rw [zV.l1, if_neg (by omega), if_pos rfl, if_pos (by decide), byte_at r1.1 r1.2 (by omega) (by omega)]
      rw [Option.bind_some, nums_one, if_pos (by decide)]
      rfl
  rw [if_neg c4] at h
  cases h
theorem cells_ev (l : List Int) (l1 : List (List S52)) (hl : l.length ≤ 3) : ∀ i, i ≤ l.length → ∀ (X u r : ByteArray), cellT X (l.drop i) = some u → u.size ≤ 1000000000 →
    Ev (fun k => zw.l1 k (u ++ (⟨#[10]⟩ : ByteArray)) 0 l l1) r → Ev (fun k => zw.l0 k X (i : Int) l l1) r := by
  refine down ?_ ?_
  · intro X u r hx hu hr
    rw [List.drop_length] at hx
    injection hx with hx
    subst hx
    exact Ev.step (fun k => by rw [zw.l0, if_neg (by omega), if_pos (by omega)]) hr
  · intro i hi ih X u r hx hu hr
    rw [List.drop_eq_getElem_cons hi, cellT] at hx
    have hX : ¬ (X.size > 1000000000) := fun c => by rw [if_pos c] at hx; cases hx
    rw [if_neg hX] at hx
    obtain ⟨x, hx1, hx⟩ := Option.bind_eq_some_iff.1 hx
    have sx := xF hx1
    refine Ev.step (f := fun k => (yd.f k l[i]).bind fun t => if (X ++ (⟨#[32]⟩ : ByteArray)).size + t.size ≤ 9223372036854775807 then zw.l0 k ((X ++ (⟨#[32]⟩ : ByteArray)) ++ t) ((i + 1 : Nat) : Int) l l1 else none) (fun k => ?_) (Ev.bind (dec_ev hx1) ?_)
    · rw [zw.l0, if_pos (by omega), if_pos (by omega), if_pos (by omega), rdI l i hi, w64 (by omega) (by omega)]
      rfl
    · rw [blank_size]
      exact zS (by omega) (ih _ u r (by rw [ByteArray.append_assoc]; exact hx) hu hr)
theorem acts_ev (l0 : List Int) (l1 : List (List S52)) (b : Nat) (hb : b < l1.length) (hn : l1.length ≤ 4) (hl : l1[b].length ≤ 4) (hc : l0.length ≤ 3) (ha : ∀ a ∈ l1[b], xB (l0.length : Int) (b : Int) (l1.length : Int) a = true) : ∀ i, i ≤ l1[b].length → ∀ (X u r : ByteArray), actT X (l1[b].drop i) = some u →
    Ev (fun k => zw.l1 k u ((b + 1 : Nat) : Int) l0 l1) r → Ev (fun k => zw.l2 k X (b : Int) (i : Int) l0 l1) r := by
  refine down ?_ ?_
  · intro X u r hx hr
    rw [List.drop_length] at hx
    injection hx with hx
    subst hx
    exact Ev.step (fun k => by rw [zw.l2, if_pos (by omega), if_pos (by omega), rdBi l1 b hb, if_neg (by omega), w64 (by omega) (by omega)]; rfl) hr
  · intro i hi ih X u r hx hr
    rw [List.drop_eq_getElem_cons hi, actT] at hx
    have hX : ¬ (X.size > 1000000000) := fun c => by rw [if_pos c] at hx; cases hx
    rw [if_neg hX] at hx
    obtain ⟨x, hx1, hx⟩ := Option.bind_eq_some_iff.1 hx
    have sx := actText_size hx1
    obtain ⟨x', e1, ev⟩ := act_ev l1[b][i] (l0.length : Int) (b : Int) (l1.length : Int) (by omega) (by omega) (by omega) (ha _ (List.getElem_mem hi))
    rw [hx1] at e1
    injection e1 with e1
    subst e1
    refine Ev.step (f := fun k => (zV.f k l1[b][i].f0 l1[b][i].f1 l1[b][i].f2 l1[b][i].f3).bind fun t => if X.size + t.size ≤ 9223372036854775807 then (if (X ++ t).size + 1 ≤ 9223372036854775807 then zw.l2 k ((X ++ t) ++ (⟨#[10]⟩ : ByteArray)) (b : Int) ((i + 1 : Nat) : Int) l0 l1 else none) else none) (fun k => ?_) (Ev.bind ev ?_)
    · rw [zw.l2, if_pos (by omega), if_pos (by omega), rdBi l1 b hb, if_pos (by omega), if_pos (by omega), rdAi _ i hi, w64 (by omega) (by omega)]
      rfl
    · rw [ByteArray.size_append]
      exact zS (by omega) (zS (by omega) (ih _ u r (by rw [ByteArray.append_assoc]; exact hx) hr))
theorem bods_ev (l0 : List Int) (l1 : List (List S52)) (hn : l1.length ≤ 4) (hc : l0.length ≤ 3) (hr0 : restB (l0.length : Int) (l1.length : Int) 0 l1 = true) : ∀ i, i ≤ l1.length → ∀ (X u : ByteArray), bodT X (l1.drop i) = some u →
    Ev (fun k => zw.l1 k X (i : Int) l0 l1) u := by
  refine down ?_ ?_
  · intro X u hx
    rw [List.drop_length] at hx
    injection hx with hx
    subst hx
    exact Ev.step (fun k => by rw [zw.l1, if_neg (by omega)]) (Ev.now _)
  · intro i hi ih X u hx
    rw [List.drop_eq_getElem_cons hi, bodT] at hx
    have hX : ¬ (X.size > 1000000000) := fun c => by rw [if_pos c] at hx; cases hx
    rw [if_neg hX] at hx
    obtain ⟨v, hv, hx⟩ := Option.bind_eq_some_iff.1 hx
    have rb := rest_at hr0 i hi
    rw [Nat.zero_add] at rb
    unfold bodyB at rb
    rw [Bool.and_eq_true, decide_eq_true_iff, List.all_eq_true] at rb
    refine Ev.step (f := fun k => zw.l2 k (X ++ (⟨#[98, 111, 100, 121, 10]⟩ : ByteArray)) (i : Int) 0 l0 l1) (fun k => ?_) ?_
    · rw [zw.l1, if_pos (by omega), if_pos (by omega)]
    · exact acts_ev l0 l1 i hi hn rb.1 hc rb.2 0 (by omega) _ v u (by rw [List.drop_zero]; exact hv) (ih v u hx)
theorem cellT_some : ∀ (l : List Int) (X : ByteArray), (∀ d ∈ l, 0 ≤ d ∧ d ≤ 99) → X.size + 3 * l.length ≤ 1000000000 → ∃ u, cellT X l = some u ∧ u.size ≤ X.size + 3 * l.length
  | [], X, _, _ => ⟨X, rfl, by simp⟩
  | d :: l, X, h, hX => by
    simp only [List.length_cons] at hX
    obtain ⟨x, e⟩ := Itoa_some (h d List.mem_cons_self)
    have sx := xF e
    have s1 : (X ++ ((⟨#[32]⟩ : ByteArray) ++ x)).size = X.size + (1 + x.size) := by rw [ByteArray.size_append, ByteArray.size_append]; rfl
    obtain ⟨u, hu, su⟩ := cellT_some l (X ++ ((⟨#[32]⟩ : ByteArray) ++ x)) (fun y hy => h y (List.mem_cons_of_mem _ hy)) (by omega)
    exact ⟨u, by rw [cellT, if_neg (by omega), e, Option.bind_some]; exact hu, by simp only [List.length_cons]; omega⟩
theorem actT_some (cells body bodies : Int) (hc : cells ≤ 3) (hb : bodies ≤ 4) (hb0 : 0 ≤ body) : ∀ (l : List S52) (X : ByteArray), (∀ a ∈ l, xB cells body bodies a = true) → X.size + 100001 * l.length ≤ 1000000000 → ∃ u, actT X l = some u ∧ u.size ≤ X.size + 100001 * l.length
  | [], X, _, _ => ⟨X, rfl, by simp⟩
  | a :: l, X, h, hX => by
    simp only [List.length_cons] at hX
    obtain ⟨x, e, _⟩ := act_ev a cells body bodies hc hb hb0 (h a List.mem_cons_self)
    have sx := actText_size e
    have s1 : (X ++ (x ++ (⟨#[10]⟩ : ByteArray))).size = X.size + (x.size + 1) := by rw [ByteArray.size_append, ByteArray.size_append]; rfl
    obtain ⟨u, hu, su⟩ := actT_some cells body bodies hc hb hb0 l (X ++ (x ++ (⟨#[10]⟩ : ByteArray))) (fun y hy => h y (List.mem_cons_of_mem _ hy)) (by omega)
    exact ⟨u, by rw [actT, if_neg (by omega), e, Option.bind_some]; exact hu, by simp only [List.length_cons]; omega⟩
theorem bodT_some (cells bodies : Int) (hc : cells ≤ 3) (hb : bodies ≤ 4) : ∀ (ls : List (List S52)) (i : Nat) (X : ByteArray), restB cells bodies i ls = true → X.size + 500000 * ls.length ≤ 900000000 → ∃ u, bodT X ls = some u ∧ u.size ≤ X.size + 500000 * ls.length
  | [], _, X, _, _ => ⟨X, rfl, by simp⟩
  | l :: ls, i, X, h, hX => by
    simp only [List.length_cons] at hX
    unfold restB bodyB at h
    rw [Bool.and_eq_true, Bool.and_eq_true, decide_eq_true_iff, List.all_eq_true] at h
    have s1 : (X ++ (⟨#[98, 111, 100, 121, 10]⟩ : ByteArray)).size = X.size + 5 := by rw [ByteArray.size_append]; rfl
    obtain ⟨v, hv, sv⟩ := actT_some cells (i : Int) bodies hc hb (by omega) l (X ++ (⟨#[98, 111, 100, 121, 10]⟩ : ByteArray)) h.1.2 (by have := h.1.1; omega)
    obtain ⟨u, hu, su⟩ := bodT_some cells bodies hc hb ls (i + 1) v h.2 (by have := h.1.1; omega)
    exact ⟨u, by rw [bodT, if_neg (by omega), hv, Option.bind_some]; exact hu, by have := h.1.1; simp only [List.length_cons]; omega⟩
theorem text_ev (l0 : List Int) (l1 : List (List S52)) (h : Small l0 l1) : ∃ T : ByteArray, Ev (fun k => zw.f k l0 l1) T ∧ Ev (fun k => yf.f k l0 l1) T := by
  obtain ⟨R, r1, r2, r3⟩ := ok_ev l0 l1 h
  unfold zw.f yf.f
  cases R with
  | false => exact ⟨⟨#[]⟩, Ev.bind r1 (zL Bool.false_ne_true (Ev.now _)), Ev.bind r2 (zL Bool.false_ne_true (Ev.now _))⟩
  | true =>
    have fm := r3 rfl
    unfold formB at fm
    rw [Bool.and_eq_true, Bool.and_eq_true, Bool.and_eq_true, decide_eq_true_iff, decide_eq_true_iff, List.all_eq_true] at fm
    obtain ⟨⟨h3, h4⟩, h5, h6⟩ := fm
    have e5 : (⟨#[99, 101, 108, 108, 115]⟩ : ByteArray).size = 5 := rfl
    obtain ⟨t, ht, st⟩ := cellT_some l0 ⟨#[99, 101, 108, 108, 115]⟩ (fun d hd => xg (h5 d hd)) (by omega)
    have s1 : (t ++ (⟨#[10]⟩ : ByteArray)).size = t.size + 1 := by rw [ByteArray.size_append]; rfl
    obtain ⟨u, hu, su⟩ := bodT_some (l0.length : Int) (l1.length : Int) (by omega) (by omega) l1 0 (t ++ (⟨#[10]⟩ : ByteArray)) h6 (by omega)
    refine ⟨u, Ev.bind r1 (zS rfl ?_), Ev.bind r2 (zS rfl (ev_eq fun k => ?_))⟩
    · refine cells_ev l0 l1 h3 0 (by omega) _ t u (by rw [List.drop_zero]; exact ht) (by omega) ?_
      exact bods_ev l0 l1 h4.2 h3 h6 0 (by omega) _ u (by rw [List.drop_zero]; exact hu)
    · rw [ht, Option.bind_some, if_neg (by omega)]
      exact hu
end Go.Proofs.YtoeepmcaabmjkaaDoor.PText
namespace Go.Proofs.YtoeepmcaabmjkaaDoor.PInj
open Go.RowKit Go.Proofs.YtoeepmcaabmjkaaDoor.QPO Go.Proofs.YtoeepmcaabmjkaaDoorW.PrintWords Go.Proofs.YtoeepmcaabmjkaaDoorW.PrintLast Go.Proofs.YtoeepmcaabmjkaaDoor.PProg Go.Proofs.YtoeepmcaabmjkaaDoor.PTree Go.Proofs.YtoeepmcaabmjkaaDoor.PText
abbrev by_ (b : ByteArray) : List UInt8 := b.data.toList
theorem by_app (a b : ByteArray) : by_ (a ++ b) = by_ a ++ by_ b := by simp [by_]
theorem by_inj {a b : ByteArray} (h : by_ a = by_ b) : a = b := by
  cases a; cases b
  simp only [by_] at h
  congr 1
  exact Array.toList_inj.1 h
theorem sep_inj (c : UInt8) : ∀ (a b r s : List UInt8), c ∉ a → c ∉ b → a ++ c :: r = b ++ c :: s → a = b ∧ r = s
  | [], [], _, _, _, _, h => ⟨rfl, by simpa using h⟩
  | [], y :: b, _, _, _, hb, h => by
    simp only [List.nil_append, List.cons_append, List.cons.injEq] at h
    exact absurd (h.1 ▸ List.mem_cons_self) hb
  | x :: a, [], _, _, ha, _, h => by
    simp only [List.nil_append, List.cons_append, List.cons.injEq] at h
    exact absurd (h.1 ▸ List.mem_cons_self) ha
  | x :: a, y :: b, r, s, ha, hb, h => by
    simp only [List.cons_append, List.cons.injEq] at h
    obtain ⟨e1, e2⟩ := sep_inj c a b r s (fun q => ha (List.mem_cons_of_mem _ q)) (fun q => hb (List.mem_cons_of_mem _ q)) h.2
    exact ⟨by rw [h.1, e1], e2⟩
def put (c : UInt8) (xs : List (List UInt8)) : List UInt8 := (xs.map (fun x => x ++ [c])).flatten
theorem put_cons (c : UInt8) (x : List UInt8) (xs : List (List UInt8)) : put c (x :: xs) = x ++ c :: put c xs := by simp [put]
theorem put_app (c : UInt8) (xs ys : List (List UInt8)) : put c (xs ++ ys) = put c xs ++ put c ys := by simp [put]
theorem put_inj (c : UInt8) : ∀ (xs ys : List (List UInt8)), (∀ x ∈ xs, c ∉ x) → (∀ y ∈ ys, c ∉ y) → put c xs = put c ys → xs = ys
  | [], [], _, _, _ => rfl
  | [], y :: ys, _, _, h => by rw [put_cons] at h; simp [put] at h
  | x :: xs, [], _, _, h => by rw [put_cons] at h; simp [put] at h
  | x :: xs, y :: ys, hx, hy, h => by
    rw [put_cons, put_cons] at h
    obtain ⟨e1, e2⟩ := sep_inj c _ _ _ _ (hx x List.mem_cons_self) (hy y List.mem_cons_self) h
    rw [e1, put_inj c xs ys (fun z hz => hx z (List.mem_cons_of_mem _ hz)) (fun z hz => hy z (List.mem_cons_of_mem _ hz)) e2]
theorem tail_put (xs : List ByteArray) : ∀ b : ByteArray, by_ (tail b xs) ++ [32] = put 32 ((b :: xs).map by_) := by
  induction xs with
  | nil => intro b; simp [tail, put]
  | cons x xs ih =>
    intro b
    have := ih ((b ++ (⟨#[32]⟩ : ByteArray)) ++ x)
    show by_ (tail ((b ++ (⟨#[32]⟩ : ByteArray)) ++ x) xs) ++ [32] = _
    rw [this]
    have e32 : by_ (⟨#[32]⟩ : ByteArray) = [32] := rfl
    simp only [List.map_cons, put_cons, by_app, e32]
    simp only [List.append_assoc, List.cons_append, List.nil_append]
theorem mapped {c : UInt8} {b : ByteArray} {xs : List ByteArray} (hb : c ∉ by_ b) (hx : ∀ x ∈ xs, c ∉ by_ x) : ∀ y ∈ (b :: xs).map by_, c ∉ y := by
  intro y hy
  obtain ⟨z, hz, rfl⟩ := List.mem_map.1 hy
  rcases List.mem_cons.1 hz with rfl | hz
  · exact hb
  · exact hx z hz
theorem tail_inj {b c : ByteArray} {xs ys : List ByteArray} (hb : (32 : UInt8) ∉ by_ b) (hc : (32 : UInt8) ∉ by_ c) (hx : ∀ x ∈ xs, (32 : UInt8) ∉ by_ x) (hy : ∀ y ∈ ys, (32 : UInt8) ∉ by_ y) (h : tail b xs = tail c ys) : b = c ∧ xs = ys := by
  have e : put 32 ((b :: xs).map by_) = put 32 ((c :: ys).map by_) := by rw [← tail_put, ← tail_put, h]
  have := put_inj 32 _ _ (mapped hb hx) (mapped hc hy) e
  rw [List.map_cons, List.map_cons, List.cons.injEq] at this
  refine ⟨by_inj this.1, ?_⟩
  exact (List.map_inj_right (fun x y hxy => by_inj hxy)).1 this.2
def undec : List UInt8 → Int
  | [a] => (a.toNat : Int) - 48
  | [a, b] => ((a.toNat : Int) - 48) * 10 + ((b.toNat : Int) - 48)
  | _ => -1
theorem one_dec : ∀ n : Fin 10, undec (by_ (strOfNums [48 + (n.1 : Int)])) = (n.1 : Int) ∧ (32 : UInt8) ∉ by_ (strOfNums [48 + (n.1 : Int)]) ∧ (10 : UInt8) ∉ by_ (strOfNums [48 + (n.1 : Int)]) := by decide +kernel
theorem two_dec : ∀ n : Fin 100, undec (by_ (strOfNums [48 + ((n.1 / 10 : Nat) : Int)] ++ strOfNums [48 + ((n.1 % 10 : Nat) : Int)])) = (n.1 : Int) ∧ (32 : UInt8) ∉ by_ (strOfNums [48 + ((n.1 / 10 : Nat) : Int)] ++ strOfNums [48 + ((n.1 % 10 : Nat) : Int)]) ∧ (10 : UInt8) ∉ by_ (strOfNums [48 + ((n.1 / 10 : Nat) : Int)] ++ strOfNums [48 + ((n.1 % 10 : Nat) : Int)]) := by decide +kernel
theorem Itoa_read {a : Int} {x : ByteArray} (h : yA.f a = some x) : undec (by_ x) = a ∧ (32 : UInt8) ∉ by_ x ∧ (10 : UInt8) ∉ by_ x := by
  unfold yA.f at h
  split at h
  · rename_i c
    injection h with h
    subst h
    obtain ⟨n, rfl⟩ := Int.eq_ofNat_of_zero_le c.1
    have hn : n < 100 := by omega
    rw [Int.toNat_natCast]
    by_cases c1 : n < 10
    · rw [digit n c1]
      exact one_dec ⟨n, c1⟩
    · rw [digits n c1 hn]
      exact two_dec ⟨n, hn⟩
  · cases h
def undeed : List UInt8 → Int × Int × Int
  | [x, 61, y] => if x ≥ 114 then (if y ≥ 65 then (1, (x.toNat : Int) - 114, (y.toNat : Int) - 65) else (3, (x.toNat : Int) - 114, undec [y])) else (2, (x.toNat : Int) - 65, (y.toNat : Int) - 114)
  | [x, 61, y, z] => (3, (x.toNat : Int) - 114, undec [y, z])
  | [x, 43, y] => (4, (x.toNat : Int) - 114, (y.toNat : Int) - 114)
  | [x, 63] => (5, (x.toNat : Int) - 114, 0)
  | _ => (0, 0, 0)
def Word (l : List UInt8) (d : Int × Int × Int) : Prop := undeed l = d ∧ (32 : UInt8) ∉ l ∧ (10 : UInt8) ∉ l
instance (l : List UInt8) (d : Int × Int × Int) : Decidable (Word l d) := inferInstanceAs (Decidable (_ ∧ _))
theorem word1 : ∀ a b : Fin 3, Word (by_ (strOfNums [114 + (a.1 : Int)] ++ (⟨#[61]⟩ : ByteArray) ++ strOfNums [65 + (b.1 : Int)])) (1, a.1, b.1) := by decide +kernel
theorem word2 : ∀ a b : Fin 3, Word (by_ (strOfNums [65 + (a.1 : Int)] ++ (⟨#[61]⟩ : ByteArray) ++ strOfNums [114 + (b.1 : Int)])) (2, a.1, b.1) := by decide +kernel
theorem word3a : ∀ (a : Fin 3) (n : Fin 10), Word (by_ (strOfNums [114 + (a.1 : Int)] ++ (⟨#[61]⟩ : ByteArray) ++ strOfNums [48 + (n.1 : Int)])) (3, a.1, n.1) := by decide +kernel
theorem word3b : ∀ (a : Fin 3) (n : Fin 100), Word (by_ (strOfNums [114 + (a.1 : Int)] ++ (⟨#[61]⟩ : ByteArray) ++ (strOfNums [48 + ((n.1 / 10 : Nat) : Int)] ++ strOfNums [48 + ((n.1 % 10 : Nat) : Int)]))) (3, a.1, n.1) := by decide +kernel
theorem word4 : ∀ a b : Fin 3, Word (by_ (strOfNums [114 + (a.1 : Int)] ++ (⟨#[43]⟩ : ByteArray) ++ strOfNums [114 + (b.1 : Int)])) (4, a.1, b.1) := by decide +kernel
theorem word5 : ∀ a : Fin 3, Word (by_ (strOfNums [114 + (a.1 : Int)] ++ (⟨#[63]⟩ : ByteArray))) (5, a.1, 0) := by decide +kernel
theorem fin3 {a : Int} (h : 0 ≤ a ∧ a ≤ 2) : ∃ n : Fin 3, a = (n.1 : Int) := ⟨⟨a.toNat, by omega⟩, by simp; omega⟩
theorem deed_word (d : S82) (cells : Int) (hc : cells ≤ 3) (h : dB cells d = true) {x : ByteArray} (hx : ((zW.f d.f0 d.f1 d.f2).bind fun p => yj.f p) = some x) : Word (by_ x) (d.f0, d.f1, d.f2) := by
  unfold dB deedB at h
  by_cases h1 : d.f0 = 1
  · rw [if_pos h1, Bool.and_eq_true] at h
    have r1 := xg h.1
    have r2 := xg h.2
    unfold zW.f yj.f at hx
    simp [h1, xo r1, cell_some (a := d.f2) (by omega)] at hx
    obtain ⟨a, ea⟩ := fin3 r1
    obtain ⟨b, eb⟩ := fin3 (a := d.f2) (by omega)
    rw [← hx, h1, ea, eb]
    exact word1 a b
  rw [if_neg h1] at h
  by_cases h2 : d.f0 = 2
  · rw [if_pos h2, Bool.and_eq_true] at h
    have r1 := xg h.1
    have r2 := xg h.2
    unfold zW.f yj.f at hx
    simp [h2, xo r2, cell_some (a := d.f1) (by omega)] at hx
    obtain ⟨a, ea⟩ := fin3 (a := d.f1) (by omega)
    obtain ⟨b, eb⟩ := fin3 r2
    rw [← hx, h2, ea, eb]
    exact word2 a b
  rw [if_neg h2] at h
  by_cases h3 : d.f0 = 3
  · rw [if_pos h3, Bool.and_eq_true] at h
    have r1 := xg h.1
    have r2 := xg h.2
    obtain ⟨y, hy⟩ := Itoa_some r2
    unfold zW.f yj.f at hx
    simp [h3, xo r1, hy] at hx
    obtain ⟨a, ea⟩ := fin3 r1
    obtain ⟨n, en⟩ := Int.eq_ofNat_of_zero_le r2.1
    have hn : n < 100 := by omega
    unfold yA.f at hy
    rw [if_pos r2, en, Int.toNat_natCast] at hy
    injection hy with hy
    rw [← hx, h3, ea, en, ← hy]
    by_cases c1 : n < 10
    · rw [digit n c1]
      exact word3a a ⟨n, c1⟩
    · rw [digits n c1 hn]
      exact word3b a ⟨n, hn⟩
  rw [if_neg h3] at h
  by_cases h4 : d.f0 = 4
  · rw [if_pos h4, Bool.and_eq_true] at h
    have r1 := xg h.1
    have r2 := xg h.2
    unfold zW.f yj.f at hx
    simp [h4, xo r1, xo r2] at hx
    obtain ⟨a, ea⟩ := fin3 r1
    obtain ⟨b, eb⟩ := fin3 r2
    rw [← hx, h4, ea, eb]
    exact word4 a b
  rw [if_neg h4] at h
  by_cases h5 : d.f0 = 5
  · rw [if_pos h5, Bool.and_eq_true] at h
    have r1 := xg h.1
    have r2 : d.f2 = 0 := by simpa using h.2
    unfold zW.f yj.f at hx
    simp [h5, r2, xo r1] at hx
    obtain ⟨a, ea⟩ := fin3 r1
    rw [← hx, h5, ea, r2]
    exact word5 a
  rw [if_neg h5] at h
  cases h
theorem deeds_words (cells : Int) (hc : cells ≤ 3) : ∀ (l : List S82) (xs : List ByteArray), (∀ d ∈ l, dB cells d = true) → xN l = some xs → xs.map (fun x => undeed (by_ x)) = l.map (fun d => (d.f0, d.f1, d.f2)) ∧ (∀ x ∈ xs, (32 : UInt8) ∉ by_ x) ∧ ∀ x ∈ xs, (10 : UInt8) ∉ by_ x
  | [], xs, _, h => by
    injection h with h
    subst h
    exact ⟨rfl, by simp, by simp⟩
  | d :: l, xs, hd, h => by
    rw [xN] at h
    obtain ⟨p, hp, h⟩ := Option.bind_eq_some_iff.1 h
    obtain ⟨x, hx, h⟩ := Option.bind_eq_some_iff.1 h
    obtain ⟨ys, hy, h⟩ := Option.bind_eq_some_iff.1 h
    injection h with h
    subst h
    obtain ⟨w1, w2, w3⟩ := deed_word d cells hc (hd d List.mem_cons_self) (x := x) (by rw [hp, Option.bind_some, hx])
    obtain ⟨i1, i2, i3⟩ := deeds_words cells hc l ys (fun y hy => hd y (List.mem_cons_of_mem _ hy)) hy
    refine ⟨by rw [List.map_cons, List.map_cons, w1, i1], fun y hy => ?_, fun y hy => ?_⟩
    · rcases List.mem_cons.1 hy with rfl | hy
      · exact w2
      · exact i2 y hy
    · rcases List.mem_cons.1 hy with rfl | hy
      · exact w3
      · exact i3 y hy
theorem kids_words : ∀ (l : List Int) (xs : List ByteArray), kidsF l = some xs → xs.map (fun x => undec (by_ x)) = l ∧ (∀ x ∈ xs, (32 : UInt8) ∉ by_ x) ∧ ∀ x ∈ xs, (10 : UInt8) ∉ by_ x
  | [], xs, h => by
    injection h with h
    subst h
    exact ⟨rfl, by simp, by simp⟩
  | d :: l, xs, h => by
    rw [kidsF] at h
    obtain ⟨x, hx, h⟩ := Option.bind_eq_some_iff.1 h
    obtain ⟨ys, hy, h⟩ := Option.bind_eq_some_iff.1 h
    injection h with h
    subst h
    obtain ⟨w1, w2, w3⟩ := Itoa_read hx
    obtain ⟨i1, i2, i3⟩ := kids_words l ys hy
    refine ⟨by rw [List.map_cons, w1, i1], fun y hy => ?_, fun y hy => ?_⟩
    · rcases List.mem_cons.1 hy with rfl | hy
      · exact w2
      · exact i2 y hy
    · rcases List.mem_cons.1 hy with rfl | hy
      · exact w3
      · exact i3 y hy
structure Words (a : S52) (x : ByteArray) (b : ByteArray) (xs : List ByteArray) : Prop where
  text : x = tail b xs
  blank : (32 : UInt8) ∉ by_ b ∧ ∀ y ∈ xs, (32 : UInt8) ∉ by_ y
  line : (10 : UInt8) ∉ by_ b ∧ ∀ y ∈ xs, (10 : UInt8) ∉ by_ y
  form : (a.f0 = 1 ∧ a.f2 = [] ∧ a.f3 = 0 ∧ b = ⟨#[116, 114, 121]⟩ ∧ xs.map (fun x => undeed (by_ x)) = a.f1.map (fun d => (d.f0, d.f1, d.f2)))
    ∨ (a.f0 = 2 ∧ a.f1 = [] ∧ a.f3 = 0 ∧ b = ⟨#[102, 111, 114, 107]⟩ ∧ xs.map (fun x => undec (by_ x)) = a.f2)
    ∨ (a.f0 = 3 ∧ a.f1 = [] ∧ a.f2 = [] ∧ a.f3 = 0 ∧ b = ⟨#[102, 97, 105, 108]⟩)
    ∨ (a.f0 = 4 ∧ a.f1 = [] ∧ a.f2 = [] ∧ b = ⟨#[102, 97, 105, 108, 105, 102]⟩ ∧ ∃ n : Fin 3, a.f3 = n.1 ∧ xs = [strOfNums [114 + (n.1 : Int)]])
theorem reg_word : ∀ n : Fin 3, (32 : UInt8) ∉ by_ (strOfNums [114 + (n.1 : Int)]) ∧ (10 : UInt8) ∉ by_ (strOfNums [114 + (n.1 : Int)]) := by decide +kernel
theorem reg_inj : ∀ n m : Fin 3, strOfNums [114 + (n.1 : Int)] = strOfNums [114 + (m.1 : Int)] → n = m := by decide +kernel
theorem act_words (a : S52) (cells body bodies : Int) (hc : cells ≤ 3) (h : xB cells body bodies a = true) {x : ByteArray} (hx : yp.f a.f0 a.f1 a.f2 a.f3 = some x) : ∃ b xs, Words a x b xs := by
  unfold xB at h
  unfold yp.f at hx
  have cs : ¬ (a.f1.length > 1000 ∨ a.f2.length > 1000) := fun c => by rw [if_pos c] at hx; cases hx
  rw [if_neg cs] at hx
  by_cases c1 : a.f0 = 1 ∧ a.f2.length = 0 ∧ a.f3 = 0
  · rw [if_pos c1] at h hx
    unfold okC at h
    rw [Bool.and_eq_true, List.all_eq_true] at h
    obtain ⟨xs, hxs, hx⟩ := Option.bind_eq_some_iff.1 hx
    injection hx with hx
    obtain ⟨w1, w2, w3⟩ := deeds_words cells hc a.f1 xs h.2 hxs
    exact ⟨_, xs, by rw [← hx, join_tail], ⟨by decide, w2⟩, ⟨by decide, w3⟩, .inl ⟨c1.1, List.length_eq_zero_iff.1 c1.2.1, c1.2.2, rfl, w1⟩⟩
  rw [if_neg c1] at h hx
  by_cases c2 : a.f0 = 2 ∧ a.f1.length = 0 ∧ a.f3 = 0
  · rw [if_pos c2] at hx
    obtain ⟨xs, hxs, hx⟩ := Option.bind_eq_some_iff.1 hx
    injection hx with hx
    obtain ⟨w1, w2, w3⟩ := kids_words a.f2 xs hxs
    exact ⟨_, xs, by rw [← hx, join_tail], ⟨by decide, w2⟩, ⟨by decide, w3⟩, .inr (.inl ⟨c2.1, List.length_eq_zero_iff.1 c2.2.1, c2.2.2, rfl, w1⟩)⟩
  rw [if_neg c2] at h hx
  by_cases c3 : a.f0 = 3 ∧ a.f1.length = 0 ∧ a.f2.length = 0 ∧ a.f3 = 0
  · rw [if_pos c3] at hx
    injection hx with hx
    exact ⟨_, [], by rw [← hx]; rfl, ⟨by decide, by simp⟩, ⟨by decide, by simp⟩, .inr (.inr (.inl ⟨c3.1, List.length_eq_zero_iff.1 c3.2.1, List.length_eq_zero_iff.1 c3.2.2.1, c3.2.2.2, rfl⟩))⟩
  rw [if_neg c3] at h hx
  by_cases c4 : a.f0 = 4 ∧ a.f1.length = 0 ∧ a.f2.length = 0
  · rw [if_pos c4] at h hx
    have r1 := xg h
    rw [xo r1, Option.bind_some] at hx
    injection hx with hx
    obtain ⟨n, en⟩ := fin3 r1
    obtain ⟨g1, g2⟩ := reg_word n
    refine ⟨⟨#[102, 97, 105, 108, 105, 102]⟩, [strOfNums [114 + (n.1 : Int)]], by rw [← hx, en]; rfl, ⟨by decide, ?_⟩, ⟨by decide, ?_⟩, .inr (.inr (.inr ⟨c4.1, List.length_eq_zero_iff.1 c4.2.1, List.length_eq_zero_iff.1 c4.2.2, rfl, n, en, rfl⟩))⟩
    · intro y hy
      rw [List.mem_singleton.1 hy]
      exact g1
    · intro y hy
      rw [List.mem_singleton.1 hy]
      exact g2
  rw [if_neg c4] at h
  cases h
theorem deed_eq {d e : S82} (h : (d.f0, d.f1, d.f2) = (e.f0, e.f1, e.f2)) : d = e := by
  cases d; cases e
  simpa using h
theorem act_inj {a a' : S52} {x b b' : ByteArray} {xs xs' : List ByteArray} (h : Words a x b xs) (h' : Words a' x b' xs') : a = a' := by
  obtain ⟨rfl, rfl⟩ := tail_inj h.blank.1 h'.blank.1 h.blank.2 h'.blank.2 (h.text.symm.trans h'.text)
  cases a; cases a'
  rcases h.form with ⟨p1, p2, p3, p4, p5⟩ | ⟨p1, p2, p3, p4, p5⟩ | ⟨p1, p2, p3, p3', p4⟩ | ⟨p1, p2, p3, p4, n, p5, p6⟩ <;>
  rcases h'.form with ⟨q1, q2, q3, q4, q5⟩ | ⟨q1, q2, q3, q4, q5⟩ | ⟨q1, q2, q3, q3', q4⟩ | ⟨q1, q2, q3, q4, m, q5, q6⟩ <;>
  first
  | (exact absurd (p4.symm.trans q4) (by decide))
  | (dsimp only at *
     subst p1 p2 p3 q1 q2 q3
     have e := p5.symm.trans q5
     rw [(List.map_inj_right (fun x y hxy => deed_eq hxy)).1 e])
  | (dsimp only at *
     subst p1 p2 p3 q1 q2 q3
     rw [← p5, ← q5])
  | (dsimp only at *
     subst p1 p2 p3 p3' q1 q2 q3 q3'
     rfl)
  | (dsimp only at *
     subst p1 p2 p3 q1 q2 q3 p5 q5
     have e := p6.symm.trans q6
     injection e with e _
     rw [reg_inj _ _ e])
end Go.Proofs.YtoeepmcaabmjkaaDoor.PInj
namespace Go.Proofs.YtoeepmcaabmjkaaDoor.PLq
open Go.RowKit Go.Proofs.YtoeepmcaabmjkaaDoor.QPO Go.Proofs.YtoeepmcaabmjkaaDoorW.PrintWords Go.Proofs.YtoeepmcaabmjkaaDoorW.PrintLast Go.Proofs.YtoeepmcaabmjkaaDoor.PProg Go.Proofs.YtoeepmcaabmjkaaDoor.PTree Go.Proofs.YtoeepmcaabmjkaaDoor.PText Go.Proofs.YtoeepmcaabmjkaaDoor.PInj
theorem dec_cons {α : Type} [DecidableEq α] (x y : α) (l m : List α) : decide (x :: l = y :: m) = (decide (x = y) && decide (l = m)) := by
  rw [← Bool.decide_and]
  exact decide_eq_decide.2 (by rw [List.cons.injEq])
theorem lqInts_ev (l m : List Int) (hl : l.length ≤ 1048576) : Ev (fun k => yv.f k l m) (decide (l = m)) := by
  unfold yv.f
  by_cases c : (l.length : Int) = (m.length : Int)
  · refine zS c ?_
    have key : ∀ i, i ≤ l.length → Ev (fun k => yv.l0 k l m (i : Int)) (decide (l.drop i = m.drop i)) := by
      refine down ?_ ?_
      · rw [List.drop_length, List.drop_eq_nil_of_le (by omega)]
        exact Ev.step (fun k => by rw [yv.l0, if_neg (by omega)]; rfl) (Ev.now _)
      · intro i hi ih
        rw [List.drop_eq_getElem_cons hi, List.drop_eq_getElem_cons (show i < m.length by omega), dec_cons]
        by_cases e : l[i] = m[i]'(by omega)
        · rw [decide_eq_true e, Bool.true_and]
          refine Ev.step (fun k => ?_) ih
          rw [yv.l0, if_pos (by omega), if_pos (by omega), if_pos (by omega), rdI l i hi, rdI m i (by omega), if_pos e, w64 (by omega) (by omega)]
          rfl
        · rw [decide_eq_false e, Bool.false_and]
          refine Ev.step (fun k => ?_) (Ev.now false)
          rw [yv.l0, if_pos (by omega), if_pos (by omega), if_pos (by omega), rdI l i hi, rdI m i (by omega), if_neg e]
    exact key 0 (Nat.zero_le _)
  · rw [decide_eq_false (fun e => c (by rw [e]))]
    exact zL c (Ev.now _)
theorem deed_dec (d e : S82) : (!(d.f0 == e.f0) || (!(d.f1 == e.f1) || !(d.f2 == e.f2))) = !(decide (d = e)) := by
  cases d; cases e
  simp only [S82.mk.injEq, Bool.decide_and, Bool.not_and]
  rfl
theorem lqDeeds_ev (l m : List S82) (hl : l.length ≤ 1048576) : Ev (fun k => yD.f k l m) (decide (l = m)) := by
  unfold yD.f
  by_cases c : (l.length : Int) = (m.length : Int)
  · refine zS c ?_
    have key : ∀ i, i ≤ l.length → Ev (fun k => yD.l0 k l m (i : Int)) (decide (l.drop i = m.drop i)) := by
      refine down ?_ ?_
      · rw [List.drop_length, List.drop_eq_nil_of_le (by omega)]
        exact Ev.step (fun k => by rw [yD.l0, if_neg (by omega)]; rfl) (Ev.now _)
      · intro i hi ih
        rw [List.drop_eq_getElem_cons hi, List.drop_eq_getElem_cons (show i < m.length by omega), dec_cons]
        have dd := deed_dec l[i] (m[i]'(by omega))
        by_cases e : l[i] = m[i]'(by omega)
        · rw [decide_eq_true e] at dd
          rw [decide_eq_true e, Bool.true_and]
          refine Ev.step (fun k => ?_) ih
          rw [yD.l0, if_pos (by omega), if_pos (by omega), if_pos (by omega), rdD l i hi, rdD m i (by omega), dd, if_neg (by decide), w64 (by omega) (by omega)]
          rfl
        · rw [decide_eq_false e] at dd
          rw [decide_eq_false e, Bool.false_and]
          refine Ev.step (fun k => ?_) (Ev.now false)
          rw [yD.l0, if_pos (by omega), if_pos (by omega), if_pos (by omega), rdD l i hi, rdD m i (by omega), dd, if_pos (by decide)]
    exact key 0 (Nat.zero_le _)
  · rw [decide_eq_false (fun e => c (by rw [e]))]
    exact zL c (Ev.now _)
theorem act_dec (a b : S52) : decide (a = b) = (decide (a.f0 = b.f0) && (decide (a.f3 = b.f3) && (decide (a.f2 = b.f2) && decide (a.f1 = b.f1)))) := by
  cases a; cases b
  simp only [S52.mk.injEq, ← Bool.decide_and]
  exact decide_eq_decide.2 ⟨fun h => ⟨h.1, h.2.2.2, h.2.2.1, h.2.1⟩, fun h => ⟨h.1, h.2.2.2, h.2.2.1, h.2.1⟩⟩
theorem lqA_ev (a b : S52) (h1 : a.f1.length ≤ 1048576) (h2 : a.f2.length ≤ 1048576) : Ev (fun k => lqA k a b) (decide (a = b)) := by
  rw [act_dec]
  unfold lqA
  by_cases c1 : a.f0 = b.f0
  · rw [decide_eq_true c1, Bool.true_and]
    refine zS c1 ?_
    by_cases c2 : a.f3 = b.f3
    · rw [decide_eq_true c2, Bool.true_and]
      refine zS c2 (Ev.bind (lqInts_ev _ _ h2) ?_)
      by_cases c3 : a.f2 = b.f2
      · rw [decide_eq_true c3, Bool.true_and]
        exact zS rfl (lqDeeds_ev _ _ h1)
      · rw [decide_eq_false c3, Bool.false_and]
        exact zL Bool.false_ne_true (Ev.now _)
    · rw [decide_eq_false c2, Bool.false_and]
      exact zL c2 (Ev.now _)
  · rw [decide_eq_false c1, Bool.false_and]
    exact zL c1 (Ev.now _)
theorem lqR_ev : ∀ (l m : List S52), l.length = m.length → (∀ x ∈ l, x.f1.length ≤ 1048576 ∧ x.f2.length ≤ 1048576) → Ev (fun k => lqR k l m) (decide (l = m))
  | [], [], _, _ => Ev.now true
  | [], _ :: _, h, _ => by simp at h
  | _ :: _, [], h, _ => by simp at h
  | a :: l, b :: m, h, hs => by
    rw [dec_cons]
    simp only [lqR]
    refine Ev.bind (lqA_ev a b (hs a List.mem_cons_self).1 (hs a List.mem_cons_self).2) ?_
    by_cases c : a = b
    · rw [decide_eq_true c, Bool.true_and]
      exact zS rfl (lqR_ev l m (by simpa using h) (fun x hx => hs x (List.mem_cons_of_mem _ hx)))
    · rw [decide_eq_false c, Bool.false_and]
      exact zL Bool.false_ne_true (Ev.now _)
theorem lqB_ev : ∀ (l m : List (List S52)), l.length = m.length → (∀ y ∈ l, ∀ x ∈ y, x.f1.length ≤ 1048576 ∧ x.f2.length ≤ 1048576) → Ev (fun k => lqB k l m) (decide (l = m))
  | [], [], _, _ => Ev.now true
  | [], _ :: _, h, _ => by simp at h
  | _ :: _, [], h, _ => by simp at h
  | a :: l, b :: m, h, hs => by
    rw [dec_cons]
    simp only [lqB]
    by_cases c0 : a.length = b.length
    · refine zS c0 (Ev.bind (lqR_ev a b c0 (hs a List.mem_cons_self)) ?_)
      by_cases c : a = b
      · rw [decide_eq_true c, Bool.true_and]
        exact zS rfl (lqB_ev l m (by simpa using h) (fun x hx => hs x (List.mem_cons_of_mem _ hx)))
      · rw [decide_eq_false c, Bool.false_and]
        exact zL Bool.false_ne_true (Ev.now _)
    · rw [decide_eq_false (fun e => c0 (by rw [e])), Bool.false_and]
      exact zL c0 (Ev.now _)
theorem lqProg_ev (l0 : List Int) (l1 : List (List S52)) (m0 : List Int) (m1 : List (List S52)) (h : Small l0 l1) : Ev (fun k => xw.f k l0 l1 m0 m1) (decide (l0 = m0 ∧ l1 = m1)) := by
  unfold xw.f
  refine Ev.bind (lqInts_ev l0 m0 h.1) ?_
  by_cases c : l0 = m0
  · rw [decide_eq_true c]
    refine zS rfl ?_
    by_cases c1 : l1.length = m1.length
    · rw [show decide (l0 = m0 ∧ l1 = m1) = decide (l1 = m1) from decide_eq_decide.2 ⟨fun q => q.2, fun q => ⟨c, q⟩⟩]
      exact zS c1 (lqB_ev l1 m1 c1 (fun y hy => (h.2.2 y hy).2))
    · rw [decide_eq_false (fun q => c1 (by rw [q.2]))]
      exact zL c1 (Ev.now _)
  · rw [decide_eq_false c, decide_eq_false (fun q => c q.1)]
    exact zL Bool.false_ne_true (Ev.now _)
theorem tail_no (xs : List ByteArray) : ∀ b : ByteArray, (10 : UInt8) ∉ by_ b → (∀ x ∈ xs, (10 : UInt8) ∉ by_ x) → (10 : UInt8) ∉ by_ (tail b xs) := by
  induction xs with
  | nil => intro b hb _; exact hb
  | cons x xs ih =>
    intro b hb hx
    show (10 : UInt8) ∉ by_ (tail ((b ++ (⟨#[32]⟩ : ByteArray)) ++ x) xs)
    refine ih _ ?_ (fun y hy => hx y (List.mem_cons_of_mem _ hy))
    rw [by_app, by_app, List.mem_append, List.mem_append]
    rintro ((q | q) | q)
    · exact hb q
    · exact absurd q (by decide)
    · exact hx x List.mem_cons_self q
theorem tail_head (xs : List ByteArray) : ∀ b : ByteArray, ∃ r, by_ (tail b xs) = by_ b ++ r := by
  induction xs with
  | nil => intro b; exact ⟨[], by simp [tail]⟩
  | cons x xs ih =>
    intro b
    obtain ⟨r, hr⟩ := ih ((b ++ (⟨#[32]⟩ : ByteArray)) ++ x)
    exact ⟨by_ (⟨#[32]⟩ : ByteArray) ++ (by_ x ++ r), by show by_ (tail ((b ++ (⟨#[32]⟩ : ByteArray)) ++ x) xs) = _; rw [hr, by_app, by_app, List.append_assoc, List.append_assoc]⟩
theorem cellT_tail : ∀ (l : List Int) (X u : ByteArray), cellT X l = some u → ∃ xs, kidsF l = some xs ∧ u = tail X xs
  | [], X, u, h => by
    injection h with h
    exact ⟨[], rfl, h.symm⟩
  | d :: l, X, u, h => by
    rw [cellT] at h
    have hX : ¬ (X.size > 1000000000) := fun c => by rw [if_pos c] at h; cases h
    rw [if_neg hX] at h
    obtain ⟨x, hx, h⟩ := Option.bind_eq_some_iff.1 h
    obtain ⟨xs, h1, h2⟩ := cellT_tail l _ u h
    exact ⟨x :: xs, by rw [kidsF, hx, Option.bind_some, h1, Option.bind_some], by rw [h2, ← ByteArray.append_assoc]; rfl⟩
def actX (a : S52) : List UInt8 := by_ ((yp.f a.f0 a.f1 a.f2 a.f3).getD ⟨#[]⟩)
theorem actT_by : ∀ (l : List S52) (X u : ByteArray), actT X l = some u → by_ u = by_ X ++ put 10 (l.map actX) ∧ ∀ a ∈ l, ∃ x, yp.f a.f0 a.f1 a.f2 a.f3 = some x
  | [], X, u, h => by
    injection h with h
    subst h
    exact ⟨by simp [put], by simp⟩
  | a :: l, X, u, h => by
    rw [actT] at h
    have hX : ¬ (X.size > 1000000000) := fun c => by rw [if_pos c] at h; cases h
    rw [if_neg hX] at h
    obtain ⟨x, hx, h⟩ := Option.bind_eq_some_iff.1 h
    obtain ⟨h1, h2⟩ := actT_by l _ u h
    have ex : actX a = by_ x := by unfold actX; rw [hx]; rfl
    have e10 : by_ (⟨#[10]⟩ : ByteArray) = [10] := rfl
    refine ⟨?_, fun b hb => ?_⟩
    · rw [h1, List.map_cons, put_cons, ex, by_app, by_app, e10]
      simp only [List.append_assoc, List.cons_append, List.nil_append]
    · rcases List.mem_cons.1 hb with rfl | hb
      · exact ⟨x, hx⟩
      · exact h2 b hb
def bodyL : List UInt8 := [98, 111, 100, 121]
def linesOf (ls : List (List S52)) : List (List UInt8) := ls.flatMap (fun l => bodyL :: l.map actX)
theorem bodT_by : ∀ (ls : List (List S52)) (X u : ByteArray), bodT X ls = some u → by_ u = by_ X ++ put 10 (linesOf ls) ∧ ∀ l ∈ ls, ∀ a ∈ l, ∃ x, yp.f a.f0 a.f1 a.f2 a.f3 = some x
  | [], X, u, h => by
    injection h with h
    subst h
    exact ⟨by simp [put, linesOf], by simp⟩
  | l :: ls, X, u, h => by
    rw [bodT] at h
    have hX : ¬ (X.size > 1000000000) := fun c => by rw [if_pos c] at h; cases h
    rw [if_neg hX] at h
    obtain ⟨v, hv, h⟩ := Option.bind_eq_some_iff.1 h
    obtain ⟨g1, g2⟩ := actT_by l _ v hv
    obtain ⟨h1, h2⟩ := bodT_by ls v u h
    have e10 : by_ (⟨#[98, 111, 100, 121, 10]⟩ : ByteArray) = bodyL ++ [10] := rfl
    refine ⟨?_, fun b hb => ?_⟩
    · have el : linesOf (l :: ls) = (bodyL :: l.map actX) ++ linesOf ls := rfl
      rw [h1, g1, el, put_app, put_cons, by_app, e10]
      simp only [List.append_assoc, List.cons_append, List.nil_append]
    · rcases List.mem_cons.1 hb with rfl | hb
      · exact g2
      · exact h2 b hb
theorem mark_inj {α : Type} (w : α) : ∀ (x y r s : List α), (∀ z ∈ x, z ≠ w) → (∀ z ∈ y, z ≠ w) → (r = [] ∨ ∃ t, r = w :: t) → (s = [] ∨ ∃ t, s = w :: t) → x ++ r = y ++ s → x = y ∧ r = s
  | [], [], _, _, _, _, _, _, h => ⟨rfl, h⟩
  | [], b :: y, r, s, _, hy, hr, _, h => by
    rcases hr with rfl | ⟨t, rfl⟩
    · simp at h
    · simp only [List.nil_append, List.cons_append, List.cons.injEq] at h
      exact absurd h.1.symm (hy b List.mem_cons_self)
  | a :: x, [], r, s, hx, _, _, hs, h => by
    rcases hs with rfl | ⟨t, rfl⟩
    · simp at h
    · simp only [List.nil_append, List.cons_append, List.cons.injEq] at h
      exact absurd h.1 (hx a List.mem_cons_self)
  | a :: x, b :: y, r, s, hx, hy, hr, hs, h => by
    simp only [List.cons_append, List.cons.injEq] at h
    obtain ⟨e1, e2⟩ := mark_inj w x y r s (fun z hz => hx z (List.mem_cons_of_mem _ hz)) (fun z hz => hy z (List.mem_cons_of_mem _ hz)) hr hs h.2
    exact ⟨by rw [h.1, e1], e2⟩
theorem rows_inj {α : Type} (w : α) : ∀ (xs ys : List (List α)), (∀ x ∈ xs, ∀ z ∈ x, z ≠ w) → (∀ y ∈ ys, ∀ z ∈ y, z ≠ w) → xs.flatMap (fun x => w :: x) = ys.flatMap (fun y => w :: y) → xs = ys
  | [], [], _, _, _ => rfl
  | [], _ :: _, _, _, h => by simp at h
  | _ :: _, [], _, _, h => by simp at h
  | x :: xs, y :: ys, hx, hy, h => by
    have st : ∀ zs : List (List α), zs.flatMap (fun z => w :: z) = [] ∨ ∃ t, zs.flatMap (fun z => w :: z) = w :: t := fun zs => by
      cases zs with
      | nil => exact .inl rfl
      | cons z zs => exact .inr ⟨_, rfl⟩
    simp only [List.flatMap_cons, List.cons_append, List.cons.injEq, true_and] at h
    obtain ⟨e1, e2⟩ := mark_inj w x y _ _ (hx x List.mem_cons_self) (hy y List.mem_cons_self) (st xs) (st ys) h
    rw [e1, rows_inj w xs ys (fun z hz => hx z (List.mem_cons_of_mem _ hz)) (fun z hz => hy z (List.mem_cons_of_mem _ hz)) e2]
theorem map_inj_on {α β : Type} (f : α → β) : ∀ (l m : List α), (∀ a ∈ l, ∀ b ∈ m, f a = f b → a = b) → l.map f = m.map f → l = m
  | [], [], _, _ => rfl
  | [], _ :: _, _, h => by simp at h
  | _ :: _, [], _, h => by simp at h
  | a :: l, b :: m, hi, h => by
    simp only [List.map_cons, List.cons.injEq] at h
    rw [hi a List.mem_cons_self b List.mem_cons_self h.1, map_inj_on f l m (fun x hx y hy => hi x (List.mem_cons_of_mem _ hx) y (List.mem_cons_of_mem _ hy)) h.2]
def InForm (a : S52) : Prop := ∃ cells body bodies : Int, cells ≤ 3 ∧ xB cells body bodies a = true ∧ ∃ x, yp.f a.f0 a.f1 a.f2 a.f3 = some x
theorem inForm_words {a : S52} (h : InForm a) : ∃ x b xs, by_ x = actX a ∧ Words a x b xs := by
  obtain ⟨cells, body, bodies, hc, ha, x, hx⟩ := h
  obtain ⟨b, xs, w⟩ := act_words a cells body bodies hc ha hx
  exact ⟨x, b, xs, by unfold actX; rw [hx]; rfl, w⟩
theorem actX_inj {a b : S52} (ha : InForm a) (hb : InForm b) (h : actX a = actX b) : a = b := by
  obtain ⟨x, b1, xs, e1, w1⟩ := inForm_words ha
  obtain ⟨y, b2, ys, e2, w2⟩ := inForm_words hb
  obtain rfl : x = y := by_inj (e1.trans (h.trans e2.symm))
  exact act_inj w1 w2
theorem actX_no {a : S52} (ha : InForm a) : (10 : UInt8) ∉ actX a := by
  obtain ⟨x, b, xs, e, w⟩ := inForm_words ha
  rw [← e, w.text]
  exact tail_no xs b w.line.1 w.line.2
theorem actX_ne {a : S52} (ha : InForm a) : actX a ≠ bodyL := by
  obtain ⟨x, b, xs, e, w⟩ := inForm_words ha
  obtain ⟨r, hr⟩ := tail_head xs b
  rw [← e, w.text, hr]
  rcases w.form with ⟨-, -, -, rfl, -⟩ | ⟨-, -, -, rfl, -⟩ | ⟨-, -, -, -, rfl⟩ | ⟨-, -, -, rfl, -⟩ <;> simp [by_, bodyL]
theorem rest_forms {cells bodies : Int} {ls : List (List S52)} {i : Nat} (hc : cells ≤ 3) (h : restB cells bodies i ls = true) (hx : ∀ l ∈ ls, ∀ a ∈ l, ∃ x, yp.f a.f0 a.f1 a.f2 a.f3 = some x) : ∀ l ∈ ls, ∀ a ∈ l, InForm a := by
  intro l hl a ha
  obtain ⟨j, hj, rfl⟩ := List.getElem_of_mem hl
  have := rest_at h j hj
  unfold bodyB at this
  rw [Bool.and_eq_true, List.all_eq_true] at this
  exact ⟨cells, _, bodies, hc, this.2 a ha, hx _ hl a ha⟩
structure Told (l0 : List Int) (l1 : List (List S52)) (T : ByteArray) : Prop where
  acts : ∀ l ∈ l1, ∀ a ∈ l, InForm a
  text : ∃ xs, kidsF l0 = some xs ∧ by_ T = put 10 (by_ (tail ⟨#[99, 101, 108, 108, 115]⟩ xs) :: linesOf l1)
theorem told_ev (l0 : List Int) (l1 : List (List S52)) (h : Small l0 l1) : ∃ T : ByteArray, Ev (fun k => zw.f k l0 l1) T ∧ Ev (fun k => yf.f k l0 l1) T ∧ (T = ⟨#[]⟩ ∨ Told l0 l1 T) := by
  obtain ⟨R, r1, r2, r3⟩ := ok_ev l0 l1 h
  obtain ⟨T, t1, t2⟩ := text_ev l0 l1 h
  refine ⟨T, t1, t2, ?_⟩
  obtain ⟨k1, e1⟩ := r2
  obtain ⟨k2, e2⟩ := t2
  have f1 : xp.f (max k1 k2) l0 l1 = some R := e1 (max k1 k2) (by omega)
  have f2 : yf.f (max k1 k2) l0 l1 = some T := e2 (max k1 k2) (by omega)
  simp only [yf.f] at f2
  rw [f1, Option.bind_some] at f2
  cases R with
  | false =>
    rw [if_neg Bool.false_ne_true] at f2
    injection f2 with f2
    exact .inl f2.symm
  | true =>
    rw [if_pos rfl] at f2
    obtain ⟨t, ht, f2⟩ := Option.bind_eq_some_iff.1 f2
    have ts : ¬ (t.size > 1000000000) := fun c => by rw [if_pos c] at f2; cases f2
    rw [if_neg ts] at f2
    have fm := r3 rfl
    unfold formB at fm
    rw [Bool.and_eq_true, Bool.and_eq_true, Bool.and_eq_true, decide_eq_true_iff, decide_eq_true_iff, List.all_eq_true] at fm
    obtain ⟨xs, hx, et⟩ := cellT_tail _ _ _ ht
    obtain ⟨b1, b2⟩ := bodT_by _ _ _ f2
    refine .inr ⟨rest_forms (by have := fm.1.1; omega) fm.2.2 b2, xs, hx, ?_⟩
    have e10 : by_ (⟨#[10]⟩ : ByteArray) = [10] := rfl
    rw [b1, put_cons, by_app, e10, et]
    simp only [List.append_assoc, List.cons_append, List.nil_append]
theorem lines_no {l0 : List Int} {l1 : List (List S52)} {xs : List ByteArray} (ha : ∀ l ∈ l1, ∀ a ∈ l, InForm a) (hx : kidsF l0 = some xs) : ∀ z ∈ by_ (tail ⟨#[99, 101, 108, 108, 115]⟩ xs) :: linesOf l1, (10 : UInt8) ∉ z := by
  intro z hz
  rcases List.mem_cons.1 hz with rfl | hz
  · exact tail_no xs _ (by decide) (kids_words l0 xs hx).2.2
  · obtain ⟨l, hl, hz⟩ := List.mem_flatMap.1 hz
    rcases List.mem_cons.1 hz with rfl | hz
    · decide
    · obtain ⟨a, h1, rfl⟩ := List.mem_map.1 hz
      exact actX_no (ha l hl a h1)
theorem told_inj {l0 m0 : List Int} {l1 m1 : List (List S52)} {T : ByteArray} (h : Told l0 l1 T) (h' : Told m0 m1 T) : l0 = m0 ∧ l1 = m1 := by
  obtain ⟨xs, hx, e⟩ := h.text
  obtain ⟨ys, hy, e'⟩ := h'.text
  have q := put_inj 10 _ _ (lines_no h.acts hx) (lines_no h'.acts hy) (e.symm.trans e')
  rw [List.cons.injEq] at q
  have k1 := kids_words l0 xs hx
  have k2 := kids_words m0 ys hy
  obtain ⟨-, q1⟩ := tail_inj (by decide) (by decide) k1.2.1 k2.2.1 (by_inj q.1)
  refine ⟨by rw [← k1.1, ← k2.1, q1], ?_⟩
  have q2 := q.2
  have ef : ∀ ls : List (List S52), linesOf ls = (ls.map (List.map actX)).flatMap (fun x => bodyL :: x) := fun ls => by
    induction ls with
    | nil => rfl
    | cons l ls ih => show (bodyL :: l.map actX) ++ linesOf ls = _; rw [ih]; rfl
  rw [ef, ef] at q2
  have ne : ∀ ls : List (List S52), (∀ l ∈ ls, ∀ a ∈ l, InForm a) → ∀ x ∈ ls.map (List.map actX), ∀ z ∈ x, z ≠ bodyL := fun ls hs x hx z hz => by
    obtain ⟨l, h1, rfl⟩ := List.mem_map.1 hx
    obtain ⟨a, h2, rfl⟩ := List.mem_map.1 hz
    exact actX_ne (hs l h1 a h2)
  have q3 := rows_inj bodyL _ _ (ne l1 h.acts) (ne m1 h'.acts) q2
  exact map_inj_on _ l1 m1 (fun l hl m hm e => map_inj_on _ l m (fun a ha b hb e => actX_inj (h.acts l hl a ha) (h'.acts m hm b hb) e) e) q3
end Go.Proofs.YtoeepmcaabmjkaaDoor.PLq
namespace Go.Proofs.YtoeepmcaabmjkaaDoor.PDraw
open Go.RowKit Go.Proofs.YtoeepmcaabmjkaaDoor.QPO Go.Proofs.YtoeepmcaabmjkaaDoorW.PrintWords Go.Proofs.YtoeepmcaabmjkaaDoorW.PrintLast Go.Proofs.YtoeepmcaabmjkaaDoor.PProg
theorem i64_xor (a b : Int) (h1 : 0 ≤ a) (h2 : a < 9223372036854775808) (h3 : 0 ≤ b) (h4 : b < 9223372036854775808) : 0 ≤ Go.bits .xor .i64 a b := by
  obtain ⟨A, rfl⟩ := Int.eq_ofNat_of_zero_le h1
  obtain ⟨B, rfl⟩ := Int.eq_ofNat_of_zero_le h3
  have hx : A ^^^ B < 2 ^ 63 := Nat.xor_lt_two_pow (by omega) (by omega)
  show (0 : Int) ≤ IntKind.i64.wrap ((BitVec.ofInt 64 (A : Int) ^^^ BitVec.ofInt 64 (B : Int)).toNat : Int)
  rw [BitVec.toNat_xor, ofInt_u64 A (by omega), ofInt_u64 B (by omega)]
  simp [IntKind.wrap, IntKind.bits, IntKind.signed]
  omega
theorem tmod_in {a n : Int} (ha : 0 ≤ a) (hn : 1 ≤ n) : 0 ≤ Int.tmod a n ∧ Int.tmod a n < n :=
  ⟨Int.tmod_nonneg n ha, Int.tmod_lt_of_pos a (by omega)⟩
def Bytes (b : List Int) : Prop := ∀ x ∈ b, 0 ≤ x ∧ x ≤ 255
theorem rd_byte {b : List Int} (hb : Bytes b) (i : Int) : 0 ≤ rd b i ∧ rd b i ≤ 255 := by
  unfold rd
  rw [List.getD_eq_getElem?_getD]
  cases h : b[i.toNat]? with
  | none => simp
  | some x => exact hb x (List.mem_of_getElem? h)
theorem yC (b : List Int) (hb : Bytes b) (hl : b.length ≤ 2000) (n p : Int) (hp : 0 ≤ p) (hp' : p ≤ 1000000) (hn : n ≤ 1000000000) :
    ∃ r, Ev (fun k => zi.f k b p n) (r, p + 1) ∧ 0 ≤ r ∧ (1 ≤ n → r < n) ∧ (n < 1 → r = 0) := by
  have e1 : wrap64 (p + 1) = p + 1 := w64 (by omega) (by omega)
  have e0 : wrap64 (p + 1 - 1) = p := by rw [show p + 1 - 1 = p by omega]; exact w64 (by omega) (by omega)
  by_cases h1 : n < 1
  · refine ⟨0, ?_, by omega, by omega, fun _ => rfl⟩
    unfold zi.f
    refine zS h1 (Ev.step (fun k => ?_) (Ev.now _))
    rw [zi.j0, if_pos rfl, e1]
  · by_cases h2 : b.length = 0
    · refine ⟨0, ?_, by omega, by omega, fun _ => rfl⟩
      unfold zi.f
      refine zL h1 (Ev.step (fun k => ?_) (Ev.now _))
      rw [zi.j0, if_pos (by simp [h2]), e1]
    · have hne : ((b.length : Int) == 0) = false := by simp; intro h; exact h2 (by simp [h])
      by_cases h3 : p < (b.length : Int)
      · have hr := rd_byte hb p
        have hw : wrap64 (rd b p) = rd b p := w64 (by omega) (by omega)
        refine ⟨Int.tmod (rd b p) n, ?_, (tmod_in hr.1 (by omega)).1, fun _ => (tmod_in hr.1 (by omega)).2, by omega⟩
        unfold zi.f
        refine zL h1 (Ev.step (fun k => ?_) (Ev.now _))
        rw [zi.j0, hne, if_neg Bool.false_ne_true, e1, e0, if_pos h3, if_pos hp, if_neg (by omega), hw]
      · have hL : 1 ≤ (b.length : Int) := by omega
        have m1 := tmod_in (a := p) hp hL
        have e7 : wrap64 (p * 7) = p * 7 := w64 (by omega) (by omega)
        have e73 : wrap64 (p * 7 + 3) = p * 7 + 3 := w64 (by omega) (by omega)
        have m2 := tmod_in (a := p * 7 + 3) (by omega) hL
        have r1 := rd_byte hb (Int.tmod p (b.length : Int))
        have r2 := rd_byte hb (Int.tmod (p * 7 + 3) (b.length : Int))
        generalize hA : rd b (Int.tmod p (b.length : Int)) = A at r1
        generalize hB : rd b (Int.tmod (p * 7 + 3) (b.length : Int)) = B at r2
        have q1 : 0 ≤ Int.tdiv p (b.length : Int) := Int.tdiv_nonneg hp (by omega)
        have q2 : Int.tdiv p (b.length : Int) ≤ p := by
          rw [Int.tdiv_eq_ediv_of_nonneg hp]
          exact Int.ediv_le_self _ hp
        generalize hQ : Int.tdiv p (b.length : Int) = Q at q1 q2
        have eX : wrap64 ((wrap64 ((wrap64 ((wrap64 ((wrap64 A) * 131)) + (wrap64 ((wrap64 B) * 1117)))) + (wrap64 (p * 29)))) + (wrap64 ((wrap64 Q) * 53))) = A * 131 + B * 1117 + p * 29 + Q * 53 := by
          rw [w64 (i := A) (by omega) (by omega), w64 (i := B) (by omega) (by omega), w64 (i := Q) (by omega) (by omega), w64 (i := A * 131) (by omega) (by omega),
            w64 (i := B * 1117) (by omega) (by omega), w64 (i := A * 131 + B * 1117) (by omega) (by omega), w64 (i := p * 29) (by omega) (by omega), w64 (i := A * 131 + B * 1117 + p * 29) (by omega) (by omega),
            w64 (i := Q * 53) (by omega) (by omega), w64 (by omega) (by omega)]
        have t1 : 0 ≤ Int.tdiv (A * 131 + B * 1117 + p * 29 + Q * 53) 64 := Int.tdiv_nonneg (by omega) (by omega)
        have t2 : Int.tdiv (A * 131 + B * 1117 + p * 29 + Q * 53) 64 ≤ A * 131 + B * 1117 + p * 29 + Q * 53 := by
          rw [Int.tdiv_eq_ediv_of_nonneg (by omega)]
          exact Int.ediv_le_self _ (by omega)
        generalize hT : Int.tdiv (A * 131 + B * 1117 + p * 29 + Q * 53) 64 = T at t1 t2
        have hx := i64_xor (A * 131 + B * 1117 + p * 29 + Q * 53) T (by omega) (by omega) t1 (by omega)
        generalize hX : Go.bits .xor .i64 (A * 131 + B * 1117 + p * 29 + Q * 53) T = X at hx
        refine ⟨Int.tmod X n, ?_, (tmod_in hx (by omega)).1, fun _ => (tmod_in hx (by omega)).2, by omega⟩
        unfold zi.f
        refine zL h1 (Ev.step (fun k => ?_) (Ev.now _))
        rw [zi.j0, hne, if_neg Bool.false_ne_true, e1, e0, if_neg h3, if_neg (by omega), if_pos m1.1, if_pos m1.2, e7, e73, if_pos m2.1, if_pos m2.2, if_neg (by omega), hA, hB, hQ, eX, hT,
          w64 (i := T) (by omega) (by omega), hX]
theorem open_ev (l : List Int) (hl : ∀ x ∈ l, (Lit.int .u8 x).wf = true) : ∃ b, xD.f l = some (b, 0) ∧ Bytes b ∧ b.length ≤ 2000 := by
  have hb : Bytes l := by
    intro x hx
    have := hl x hx
    simp [Lit.wf, IntKind.min, IntKind.max, IntKind.bits, IntKind.signed] at this
    omega
  unfold xD.f
  by_cases h : (l.length : Int) > 2000
  · rw [if_pos h, if_pos (by omega)]
    exact ⟨_, rfl, fun x hx => hb x (List.mem_of_mem_take hx), by rw [List.length_take]; omega⟩
  · rw [if_neg h]
    exact ⟨l, rfl, hb, by omega⟩
theorem l71Deed_ev (b : List Int) (hb : Bytes b) (hl : b.length ≤ 2000) (n p : Int) (hp : 0 ≤ p) (hp' : p ≤ 100000) (hn : n ≤ 1000000000) :
    ∃ r : Int × Int × Int × Int, Ev (fun k => zH.f k b p n) r ∧ p ≤ r.2.2.2 ∧ r.2.2.2 ≤ p + 3 := by
  unfold zH.f
  by_cases h : n = 0
  · obtain ⟨a, ea, -⟩ := yC b hb hl 3 p hp (by omega) (by omega)
    obtain ⟨c, ec, -⟩ := yC b hb hl 5 (p + 1) (by omega) (by omega) (by omega)
    exact ⟨(3, a, c, p + 1 + 1), zS h (Ev.bind ea (Ev.bind ec (Ev.now _))), by dsimp only; omega, by dsimp only; omega⟩
  · obtain ⟨a, ea, a0, a1, -⟩ := yC b hb hl 10 p hp (by omega) (by omega)
    have J1 : ∀ v : Bool, ∃ r : Int × Int × Int × Int, Ev (fun k => zH.j1 k n a v b (p + 1)) r ∧ p ≤ r.2.2.2 ∧ r.2.2.2 ≤ p + 3 := by
      intro v
      cases v with
      | true =>
        obtain ⟨c, ec, -⟩ := yC b hb hl n (p + 1) (by omega) (by omega) (by omega)
        obtain ⟨d, ed, -⟩ := yC b hb hl 3 (p + 1 + 1) (by omega) (by omega) (by omega)
        exact ⟨(2, c, d, p + 1 + 1 + 1), Ev.step (fun k => by rw [zH.j1, if_pos rfl]) (by exact Ev.bind ec (Ev.bind ed (Ev.now _))), by dsimp only; omega, by dsimp only; omega⟩
      | false =>
        obtain ⟨c, ec, -⟩ := yC b hb hl 3 (p + 1) (by omega) (by omega) (by omega)
        obtain ⟨d, ed, -⟩ := yC b hb hl 8 (p + 1 + 1) (by omega) (by omega) (by omega)
        obtain ⟨f, ef, -⟩ := yC b hb hl 3 (p + 1 + 1) (by omega) (by omega) (by omega)
        by_cases h7 : a = 7
        · exact ⟨(3, c, d, p + 1 + 1 + 1), Ev.step (fun k => by rw [zH.j1, if_neg Bool.false_ne_true, if_pos h7]) (by exact Ev.bind ec (Ev.bind ed (Ev.now _))), by dsimp only; omega, by dsimp only; omega⟩
        · by_cases h8 : a = 8
          · exact ⟨(4, c, f, p + 1 + 1 + 1), Ev.step (fun k => by rw [zH.j1, if_neg Bool.false_ne_true, if_neg h7, if_pos h8]) (by exact Ev.bind ec (Ev.bind ef (Ev.now _))), by dsimp only; omega, by dsimp only; omega⟩
          · exact ⟨(5, c, 0, p + 1 + 1), Ev.step (fun k => by rw [zH.j1, if_neg Bool.false_ne_true, if_neg h7, if_neg h8]) (by exact Ev.bind ec (Ev.now _)), by dsimp only; omega, by dsimp only; omega⟩
    have J0 : ∀ v : Bool, ∃ r : Int × Int × Int × Int, Ev (fun k => zH.j0 k n a v b (p + 1)) r ∧ p ≤ r.2.2.2 ∧ r.2.2.2 ≤ p + 3 := by
      intro v
      cases v with
      | true =>
        obtain ⟨c, ec, -⟩ := yC b hb hl 3 (p + 1) (by omega) (by omega) (by omega)
        obtain ⟨d, ed, -⟩ := yC b hb hl n (p + 1 + 1) (by omega) (by omega) (by omega)
        exact ⟨(1, c, d, p + 1 + 1 + 1), Ev.step (fun k => by rw [zH.j0, if_pos rfl]) (by exact Ev.bind ec (Ev.bind ed (Ev.now _))), by dsimp only; omega, by dsimp only; omega⟩
      | false =>
        by_cases h4 : a = 4
        · obtain ⟨r, er, h⟩ := J1 (a == 4)
          exact ⟨r, Ev.step (fun k => by rw [zH.j0, if_neg Bool.false_ne_true, if_pos h4]) er, h⟩
        · by_cases h5 : a = 5
          · obtain ⟨r, er, h⟩ := J1 (a == 5)
            exact ⟨r, Ev.step (fun k => by rw [zH.j0, if_neg Bool.false_ne_true, if_neg h4, if_pos h5]) er, h⟩
          · obtain ⟨r, er, h⟩ := J1 (a == 6)
            exact ⟨r, Ev.step (fun k => by rw [zH.j0, if_neg Bool.false_ne_true, if_neg h4, if_neg h5]) er, h⟩
    by_cases h0 : a = 0
    · obtain ⟨r, er, hr⟩ := J0 (a == 0)
      exact ⟨r, zL h (Ev.bind ea (zS h0 er)), hr⟩
    · by_cases h1 : a = 1
      · obtain ⟨r, er, hr⟩ := J0 (a == 1)
        exact ⟨r, zL h (Ev.bind ea (zL h0 (zS h1 er))), hr⟩
      · by_cases h2 : a = 2
        · obtain ⟨r, er, hr⟩ := J0 (a == 2)
          exact ⟨r, zL h (Ev.bind ea (zL h0 (zL h1 (zS h2 er)))), hr⟩
        · obtain ⟨r, er, hr⟩ := J0 (a == 3)
          exact ⟨r, zL h (Ev.bind ea (zL h0 (zL h1 (zL h2 er)))), hr⟩
theorem l71Deeds_ev (b : List Int) (hb : Bytes b) (hl : b.length ≤ 2000) (n p : Int) (hp : 0 ≤ p) (hp' : p ≤ 10000) (hn : n ≤ 1000000000) :
    ∃ r : List S82 × Int, Ev (fun k => zJ.f k b p n) r ∧ r.1.length ≤ 5 ∧ p ≤ r.2 ∧ r.2 ≤ p + 22 := by
  have L0 : ∀ (m : Nat) (d : List S82) (q : Int), p ≤ q → q + 3 * m ≤ 20000 → d.length + m ≤ 5 → m ≤ 5 →
      ∃ r : List S82 × Int, Ev (fun k => zJ.l0 k n d (m : Int) b q) r ∧ r.1.length ≤ 5 ∧ p ≤ r.2 ∧ r.2 ≤ q + 3 * m := by
    intro m
    induction m with
    | zero =>
      intro d q h1 h2 h3 h4
      exact ⟨(d, q), Ev.step (fun k => by rw [zJ.l0, if_neg (by omega)]) (Ev.now _), by dsimp only; omega, by dsimp only; omega, by dsimp only; omega⟩
    | succ m ih =>
      intro d q h1 h2 h3 h4
      obtain ⟨t, et, t1, t2⟩ := l71Deed_ev b hb hl n q (by omega) (by omega) hn
      obtain ⟨r, er, k1, k2, k3⟩ := ih (d ++ [⟨t.1, t.2.1, t.2.2.1⟩]) t.2.2.2 (by omega) (by omega) (by rw [List.length_append]; simp; omega) (by omega)
      refine ⟨r, Ev.step (fun k => by rw [zJ.l0, if_pos (by omega)]) ?_, k1, k2, by omega⟩
      refine Ev.bind et (zS (by omega) ?_)
      rw [w64 (by omega) (by omega), show ((m + 1 : Nat) : Int) - 1 = (m : Int) by omega]
      exact er
  have J0 : ∀ (v : Bool) (q : Int), p ≤ q → q ≤ p + 1 → ∃ r : List S82 × Int, Ev (fun k => zJ.j0 k n v b q) r ∧ r.1.length ≤ 5 ∧ p ≤ r.2 ∧ r.2 ≤ p + 22 := by
    intro v q h1 h2
    cases v with
    | true =>
      obtain ⟨c, ec, -⟩ := yC b hb hl n q (by omega) (by omega) (by omega)
      obtain ⟨d, ed, -⟩ := yC b hb hl 4 (q + 1) (by omega) (by omega) (by omega)
      exact ⟨_, Ev.step (fun k => by rw [zJ.j0, if_pos rfl]) (by exact Ev.bind ec (Ev.bind ed (Ev.now _))), by simp, by dsimp only; omega, by dsimp only; omega⟩
    | false =>
      obtain ⟨c, ec, c0, c1, -⟩ := yC b hb hl 5 q (by omega) (by omega) (by omega)
      have c1 := c1 (by omega)
      obtain ⟨r, er, r1, r2, r3⟩ := L0 (1 + c).toNat [] (q + 1) (by omega) (by omega) (by simp; omega) (by omega)
      rw [show (((1 + c).toNat : Nat) : Int) = 1 + c by omega] at er
      refine ⟨r, Ev.step (fun k => by rw [zJ.j0, if_neg Bool.false_ne_true]) ?_, r1, r2, by omega⟩
      refine Ev.bind ec ?_
      rw [w64 (by omega) (by omega)]
      exact er
  unfold zJ.f
  by_cases h : n > 0
  · obtain ⟨a, ea, -⟩ := yC b hb hl 3 p hp (by omega) (by omega)
    obtain ⟨r, er, h1⟩ := J0 (a == 0) (p + 1) (by omega) (by omega)
    exact ⟨r, zS h (Ev.bind ea er), h1⟩
  · obtain ⟨r, er, h1⟩ := J0 false p (by omega) (by omega)
    exact ⟨r, zL h er, h1⟩
end Go.Proofs.YtoeepmcaabmjkaaDoor.PDraw
namespace Go.Proofs.YtoeepmcaabmjkaaDoor.PProgD
open Go.RowKit Go.Proofs.YtoeepmcaabmjkaaDoor.QPO Go.Proofs.YtoeepmcaabmjkaaDoorW.PrintWords Go.Proofs.YtoeepmcaabmjkaaDoorW.PrintLast Go.Proofs.YtoeepmcaabmjkaaDoor.PProg Go.Proofs.YtoeepmcaabmjkaaDoor.PDraw Go.Proofs.YtoeepmcaabmjkaaDoor.PTree
def Few (x : S52) : Prop := x.f1.length ≤ 5 ∧ x.f2.length ≤ 2
theorem l71Body_ev (b : List Int) (hb : Bytes b) (hl : b.length ≤ 2000) (i n c p : Int) (hi : 0 ≤ i) (hi' : i ≤ 100) (hn : 0 ≤ n) (hn' : n ≤ 100) (hc : c ≤ 100) (hp : 0 ≤ p) (hp' : p ≤ 9000) :
    ∃ r : List S52 × Int, Ev (fun k => zv.f k b p i n c) r ∧ r.1.length ≤ 3 ∧ (∀ x ∈ r.1, Few x) ∧ p ≤ r.2 ∧ r.2 ≤ p + 76 := by
  have ei : wrap64 (i + 1) = i + 1 := w64 (by omega) (by omega)
  have en : wrap64 (wrap64 (n - i) - 1) = n - i - 1 := by rw [w64 (show -9223372036854775808 ≤ n - i by omega) (by omega)]; exact w64 (by omega) (by omega)
  have L0 : ∀ (m : Nat) (d : List S52) (q : Int), p ≤ q → q + 25 * m ≤ p + 200 → d.length + m ≤ 3 → (∀ x ∈ d, Few x) →
      ∃ r : List S52 × Int, Ev (fun k => zv.l0 k i n c d (m : Int) b q) r ∧ r.1.length ≤ 3 ∧ (∀ x ∈ r.1, Few x) ∧ p ≤ r.2 ∧ r.2 ≤ q + 25 * m := by
    intro m
    induction m with
    | zero =>
      intro d q h1 h2 h3 h4
      exact ⟨(d, q), Ev.step (fun k => by rw [zv.l0, if_neg (by omega)]) (Ev.now _), by dsimp only; omega, h4, by dsimp only; omega, by dsimp only; omega⟩
    | succ m ih =>
      intro d q h1 h2 h3 h4
      have em : wrap64 (((m + 1 : Nat) : Int) - 1) = (m : Int) := by rw [w64 (by omega) (by omega)]; omega
      have ON : ∀ q', q ≤ q' → q' ≤ q + 25 → ∃ r : List S52 × Int, Ev (fun k => zv.l0 k i n c d (wrap64 (((m + 1 : Nat) : Int) - 1)) b q') r ∧ r.1.length ≤ 3 ∧ (∀ x ∈ r.1, Few x) ∧ p ≤ r.2 ∧ r.2 ≤ q + 25 * ((m + 1 : Nat) : Int) := by
        intro q' g1 g2
        obtain ⟨r, er, k1, k2, k3, k4⟩ := ih d q' (by omega) (by omega) (by omega) h4
        rw [em]
        exact ⟨r, er, k1, k2, k3, by omega⟩
      have GO : ∀ (x : S52) (q' : Int), Few x → q ≤ q' → q' ≤ q + 25 → ∃ r : List S52 × Int, Ev (fun k => if d.length < 2199023255552 then zv.l0 k i n c (d ++ [x]) (wrap64 (((m + 1 : Nat) : Int) - 1)) b q' else none) r ∧ r.1.length ≤ 3 ∧ (∀ x ∈ r.1, Few x) ∧ p ≤ r.2 ∧ r.2 ≤ q + 25 * ((m + 1 : Nat) : Int) := by
        intro x q' hx g1 g2
        obtain ⟨r, er, k1, k2, k3, k4⟩ := ih (d ++ [x]) q' (by omega) (by omega) (by rw [List.length_append]; simp; omega) (fun y hy => by
          rcases List.mem_append.1 hy with hy | hy
          · exact h4 y hy
          · rw [List.mem_singleton.1 hy]; exact hx)
        rw [em]
        exact ⟨r, zS (by omega) er, k1, k2, k3, by omega⟩
      have J1 : ∀ v : Bool, ∃ r : List S52 × Int, Ev (fun k => zv.j1 k i n c d ((m + 1 : Nat) : Int) v b (q + 1)) r ∧ r.1.length ≤ 3 ∧ (∀ x ∈ r.1, Few x) ∧ p ≤ r.2 ∧ r.2 ≤ q + 25 * ((m + 1 : Nat) : Int) := by
        intro v
        cases v with
        | true =>
          by_cases hlt : wrap64 (i + 1) < n
          · obtain ⟨x, ex, -⟩ := yC b hb hl (wrap64 (wrap64 (n - i) - 1)) (q + 1) (by omega) (by omega) (by rw [en]; omega)
            obtain ⟨y, ey, -⟩ := yC b hb hl 3 (q + 1 + 1) (by omega) (by omega) (by omega)
            by_cases hy : y > 0
            · obtain ⟨z, ez, -⟩ := yC b hb hl (wrap64 (wrap64 (n - i) - 1)) (q + 1 + 1 + 1) (by omega) (by omega) (by rw [en]; omega)
              obtain ⟨r, er, hr⟩ := GO ⟨2, [], [wrap64 (wrap64 (i + 1) + x)] ++ [wrap64 (wrap64 (i + 1) + z)], 0⟩ (q + 1 + 1 + 1 + 1) ⟨by simp, by simp⟩ (by omega) (by omega)
              exact ⟨r, Ev.step (fun k => by rw [zv.j1, if_pos rfl]) (by exact zS hlt (Ev.bind ex (Ev.bind (Ev.now _) (Ev.bind ey (zS hy (Ev.bind ez (zS (by simp) er))))))), hr⟩
            · obtain ⟨r, er, hr⟩ := GO ⟨2, [], [wrap64 (wrap64 (i + 1) + x)], 0⟩ (q + 1 + 1 + 1) ⟨by simp, by simp⟩ (by omega) (by omega)
              exact ⟨r, Ev.step (fun k => by rw [zv.j1, if_pos rfl]) (by exact zS hlt (Ev.bind ex (Ev.bind (Ev.now _) (Ev.bind ey (zL hy er))))), hr⟩
          · obtain ⟨r, er, hr⟩ := ON (q + 1) (by omega) (by omega)
            exact ⟨r, Ev.step (fun k => by rw [zv.j1, if_pos rfl]) (by exact zL hlt er), hr⟩
        | false =>
          obtain ⟨t, et, t1, t2, t3⟩ := l71Deeds_ev b hb hl c (q + 1) (by omega) (by omega) (by omega)
          obtain ⟨r, er, hr⟩ := GO ⟨1, t.1, [], 0⟩ t.2 ⟨t1, by simp⟩ (by omega) (by omega)
          exact ⟨r, Ev.step (fun k => by rw [zv.j1, if_neg Bool.false_ne_true]) (by exact Ev.bind et er), hr⟩
      obtain ⟨a, ea, -⟩ := yC b hb hl 12 q (by omega) (by omega) (by omega)
      have ST : ∀ {r : List S52 × Int} {g : Nat → Option (List S52 × Int)}, (∀ k, zv.l0 (k + 1) i n c d ((m + 1 : Nat) : Int) b q = g k) → Ev g r → Ev (fun k => zv.l0 k i n c d ((m + 1 : Nat) : Int) b q) r := fun h1 h2 => Ev.step h1 h2
      by_cases h0 : a = 0
      · obtain ⟨f, ef, -⟩ := yC b hb hl 2 (q + 1) (by omega) (by omega) (by omega)
        by_cases hf : f = 0
        · obtain ⟨r, er, hr⟩ := GO ⟨3, [], [], 0⟩ (q + 1 + 1) ⟨by simp, by simp⟩ (by omega) (by omega)
          exact ⟨r, ST (fun k => by rw [zv.l0, if_pos (by omega)]) (by exact Ev.bind ea (zS h0 (Ev.bind ef (zS hf er)))), hr⟩
        · obtain ⟨r, er, hr⟩ := ON (q + 1 + 1) (by omega) (by omega)
          exact ⟨r, ST (fun k => by rw [zv.l0, if_pos (by omega)]) (by exact Ev.bind ea (zS h0 (Ev.bind ef (zL hf er)))), hr⟩
      · by_cases h1 : a = 1
        · obtain ⟨f, ef, -⟩ := yC b hb hl 3 (q + 1) (by omega) (by omega) (by omega)
          obtain ⟨r, er, hr⟩ := GO ⟨4, [], [], f⟩ (q + 1 + 1) ⟨by simp, by simp⟩ (by omega) (by omega)
          exact ⟨r, ST (fun k => by rw [zv.l0, if_pos (by omega)]) (by exact Ev.bind ea (zL h0 (zS h1 (Ev.bind ef er)))), hr⟩
        · by_cases h2 : a = 2
          · obtain ⟨r, er, hr⟩ := J1 (a == 2)
            exact ⟨r, ST (fun k => by rw [zv.l0, if_pos (by omega)]) (by exact Ev.bind ea (zL h0 (zL h1 (zS h2 er)))), hr⟩
          · by_cases h3 : a = 3
            · obtain ⟨r, er, hr⟩ := J1 (a == 3)
              exact ⟨r, ST (fun k => by rw [zv.l0, if_pos (by omega)]) (by exact Ev.bind ea (zL h0 (zL h1 (zL h2 (zS h3 er))))), hr⟩
            · by_cases h5 : a = 4
              · obtain ⟨r, er, hr⟩ := J1 (a == 4)
                exact ⟨r, ST (fun k => by rw [zv.l0, if_pos (by omega)]) (by exact Ev.bind ea (zL h0 (zL h1 (zL h2 (zL h3 (zS h5 er)))))), hr⟩
              · obtain ⟨r, er, hr⟩ := J1 (a == 5)
                exact ⟨r, ST (fun k => by rw [zv.l0, if_pos (by omega)]) (by exact Ev.bind ea (zL h0 (zL h1 (zL h2 (zL h3 (zL h5 er)))))), hr⟩
  obtain ⟨a, ea, a0, a1, -⟩ := yC b hb hl 3 p hp (by omega) (by omega)
  have a1 := a1 (by omega)
  obtain ⟨r, er, r1, r2, r3, r4⟩ := L0 (1 + a).toNat [] (p + 1) (by omega) (by omega) (by simp; omega) (by simp)
  rw [show (((1 + a).toNat : Nat) : Int) = 1 + a by omega] at er r4
  unfold zv.f
  refine ⟨r, Ev.bind ea ?_, r1, r2, r3, by omega⟩
  rw [w64 (by omega) (by omega)]
  exact er
def Bnd (c : Nat) (l1 : List (List S52)) : Prop := ∀ y ∈ l1, y.length ≤ c ∧ ∀ x ∈ y, Few x
def Nice (l0 : List Int) (l1 : List (List S52)) : Prop := (1 ≤ l0.length ∧ l0.length ≤ 3) ∧ (1 ≤ l1.length ∧ l1.length ≤ 4) ∧ Bnd 3 l1
theorem small_of {c : Nat} {l0 : List Int} {l1 : List (List S52)} (h0 : l0.length ≤ 1000) (h1 : l1.length ≤ 1000) (hc : c ≤ 1000) (h : Bnd c l1) : Small l0 l1 :=
  ⟨by omega, by omega, fun y hy => ⟨by have := (h y hy).1; omega, fun x hx => by obtain ⟨a, b⟩ := (h y hy).2 x hx; exact ⟨by omega, by omega⟩⟩⟩
theorem cells_ev (b : List Int) (hb : Bytes b) (hl : b.length ≤ 2000) : ∀ (n : Nat) (l : List Int) (p : Int), 0 ≤ p → p + n ≤ 9000 → ∃ r, Ev (fun k => cellsF k b n l p) r ∧ r.1.length = l.length + n ∧ p ≤ r.2 ∧ r.2 ≤ p + n
  | 0, l, p, h0, h1 => ⟨(l, p), Ev.now _, by simp, by simp, by simp⟩
  | n + 1, l, p, h0, h1 => by
    obtain ⟨c, ec, c0, c1, -⟩ := yC b hb hl 5 p h0 (by omega) (by omega)
    have c1 := c1 (by omega)
    obtain ⟨r, er, r1, r2, r3⟩ := cells_ev b hb hl n (l ++ [nums5.getD c.toNat 0]) (p + 1) (by omega) (by omega)
    refine ⟨r, ?_, ?_, by omega, by omega⟩
    · simp only [cellsF]
      exact Ev.bind ec (zS ⟨c0, c1⟩ er)
    · rw [r1, List.length_append]
      simp
      omega
theorem bodies_ev (b : List Int) (hb : Bytes b) (hl : b.length ≤ 2000) (bodies cells : Int) (g0 : 0 ≤ bodies) (g1 : bodies ≤ 100) (g2 : cells ≤ 100) : ∀ (n : Nat) (i : Int) (l : List (List S52)) (p : Int), 0 ≤ i → i + n ≤ 100 → 0 ≤ p → p + 76 * n ≤ 9000 → Bnd 3 l →
    ∃ r, Ev (fun k => bodiesF k b bodies cells n i l p) r ∧ r.1.length = l.length + n ∧ Bnd 3 r.1 ∧ p ≤ r.2 ∧ r.2 ≤ p + 76 * n
  | 0, i, l, p, _, _, h0, h1, h2 => ⟨(l, p), Ev.now _, by simp, h2, by simp, by simp⟩
  | n + 1, i, l, p, i0, i1, h0, h1, h2 => by
    obtain ⟨t, et, t1, t2, t3, t4⟩ := l71Body_ev b hb hl i bodies cells p i0 (by omega) g0 g1 g2 h0 (by omega)
    obtain ⟨r, er, r1, r2, r3, r4⟩ := bodies_ev b hb hl bodies cells g0 g1 g2 n (i + 1) (l ++ [t.1]) t.2 (by omega) (by omega) (by omega) (by omega) (fun y hy => by
      rcases List.mem_append.1 hy with hy | hy
      · exact h2 y hy
      · rw [List.mem_singleton.1 hy]; exact ⟨t1, t2⟩)
    refine ⟨r, ?_, ?_, r2, by omega, by omega⟩
    · simp only [bodiesF]
      exact Ev.bind et er
    · rw [r1, List.length_append]
      simp
      omega
theorem bnd_set {c : Nat} {l : List (List S52)} (h : Bnd c l) {v : List S52} (hv : v.length ≤ c) (hf : ∀ x ∈ v, Few x) : Bnd c (l.set 0 v) := fun y hy => by
  rcases List.mem_or_eq_of_mem_set hy with hy | rfl
  · exact h y hy
  · exact ⟨hv, hf⟩
theorem fork_ev (b : List Int) (hb : Bytes b) (hl : b.length ≤ 2000) (bodies cells : Int) (g0 : 2 ≤ bodies) (g1 : bodies ≤ 4) (g2 : cells ≤ 100) (l0 : List Int) (l1 : List (List S52)) (p : Int) (h0 : 0 ≤ p) (h1 : p ≤ 8000) (hB : Bnd 3 l1) :
    ∃ r, Ev (fun k => forkF k b bodies cells l0 l1 p) r ∧ r.1 = l0 ∧ r.2.1.length = l1.length ∧ Bnd 3 r.2.1 ∧ p ≤ r.2.2 ∧ r.2.2 ≤ p + 24 := by
  unfold forkF
  obtain ⟨e, ee, -⟩ := yC b hb hl 4 p h0 (by omega) (by omega)
  by_cases he : e > 0
  · obtain ⟨x, ex, x0, x1, -⟩ := yC b hb hl (bodies - 1) (p + 1) (by omega) (by omega) (by omega)
    have x1 := x1 (by omega)
    obtain ⟨t, et, t1, t2, t3⟩ := l71Deeds_ev b hb hl cells (p + 1 + 1) (by omega) (by omega) (by omega)
    refine ⟨(l0, l1.set 0 [⟨2, [], [1, 1 + x], 0⟩, ⟨1, t.1, [], 0⟩], t.2), Ev.bind ee (zS he (Ev.bind ex (zS ⟨x0, by omega⟩ (Ev.bind et (Ev.now _))))), rfl, by simp, bnd_set hB (by simp) (fun y hy => ?_), by dsimp only; omega, by dsimp only; omega⟩
    rcases List.mem_cons.1 hy with rfl | hy
    · exact ⟨by simp, by simp⟩
    · rw [List.mem_singleton.1 hy]; exact ⟨t1, by simp⟩
  · exact ⟨(l0, l1, p + 1), Ev.bind ee (zL he (Ev.now _)), rfl, rfl, hB, by dsimp only; omega, by dsimp only; omega⟩
theorem one_ev (b : List Int) (hb : Bytes b) (hl : b.length ≤ 2000) (p : Int) (h0 : 0 ≤ p) (h1 : p ≤ 7000) : ∃ r, Ev (fun k => oneF k b p) r ∧ Nice r.1 r.2.1 ∧ p ≤ r.2.2 ∧ r.2.2 ≤ p + 340 := by
  unfold oneF
  obtain ⟨c, ec, c0, c1, -⟩ := yC b hb hl 3 p h0 (by omega) (by omega)
  have c1 := c1 (by omega)
  obtain ⟨l, el, k1, k2, k3⟩ := cells_ev b hb hl (1 + c).toNat [] (p + 1) (by omega) (by omega)
  obtain ⟨d, ed, d0, d1, -⟩ := yC b hb hl 3 l.2 (by omega) (by omega) (by omega)
  have d1 := d1 (by omega)
  obtain ⟨m, em, m1, m2, m3, m4⟩ := bodies_ev b hb hl (2 + d) (1 + c) (by omega) (by omega) (by omega) (2 + d).toNat 0 [] (l.2 + 1) (by omega) (by omega) (by omega) (by omega) (by intro y hy; simp at hy)
  obtain ⟨f, ef, f1, f2, f3, f4, f5⟩ := fork_ev b hb hl (2 + d) (1 + c) (by omega) (by omega) (by omega) l.1 m.1 m.2 (by omega) (by omega) m2
  simp only [List.length_nil, Nat.zero_add] at k1 m1
  exact ⟨f, Ev.bind ec (zS ⟨c0, c1⟩ (Ev.bind el (Ev.bind ed (zS ⟨d0, d1⟩ (Ev.bind em ef))))), ⟨by rw [f1]; omega, by omega, f3⟩, by omega, by omega⟩
theorem prog_ev (b : List Int) (hb : Bytes b) (hl : b.length ≤ 2000) : ∀ (n : Nat) (p : Int), 0 ≤ p → p + 340 * n ≤ 7000 → ∃ r, Ev (fun k => progF k b n p) r ∧ Nice r.1 r.2.1 ∧ p ≤ r.2.2 ∧ r.2.2 ≤ p + 340 * n
  | 0, p, h0, h1 => ⟨_, Ev.now _, ⟨⟨by simp, by simp⟩, ⟨by simp, by simp⟩, fun y hy => by
      rcases List.mem_cons.1 hy with rfl | hy
      · exact ⟨by simp, fun x hx => by rw [List.mem_singleton.1 hx]; exact ⟨by simp, by simp⟩⟩
      · rw [List.mem_singleton.1 hy]; exact ⟨by simp, fun x hx => by rw [List.mem_singleton.1 hx]; exact ⟨by simp, by simp⟩⟩⟩, by simp, by simp⟩
  | n + 1, p, h0, h1 => by
    obtain ⟨r, er, r1, r2, r3⟩ := one_ev b hb hl p h0 (by omega)
    obtain ⟨R, o1, _, _⟩ := ok_ev r.1 r.2.1 (small_of (c := 3) (by have := r1.1; omega) (by have := r1.2.1; omega) (by omega) r1.2.2)
    obtain ⟨q, eq, q1, q2, q3⟩ := prog_ev b hb hl n r.2.2 (by omega) (by omega)
    cases R with
    | true => exact ⟨r, by simp only [progF]; exact Ev.bind er (Ev.bind o1 (zS rfl (Ev.now _))), r1, by omega, by omega⟩
    | false => exact ⟨q, by simp only [progF]; exact Ev.bind er (Ev.bind o1 (zL Bool.false_ne_true eq)), q1, by omega, by omega⟩
theorem l71Prog_ev (b : List Int) (hb : Bytes b) (hl : b.length ≤ 2000) (p : Int) (h0 : 0 ≤ p) (h1 : p ≤ 3000) : ∃ r, Ev (fun k => xx.f k b p) r ∧ Nice r.1 r.2.1 ∧ p ≤ r.2.2 ∧ r.2.2 ≤ p + 3400 := by
  obtain ⟨r, er, r1, r2, r3⟩ := prog_ev b hb hl 10 p h0 (by omega)
  exact ⟨r, er, r1, r2, by omega⟩
theorem bnd_app {c : Nat} {l : List (List S52)} (h : Bnd c l) (h0 : 0 < l.length) {x : S52} (hx : Few x) : Bnd (c + 1) (app0 l x) ∧ (app0 l x).length = l.length := by
  have hm : l.getD 0 [] ∈ l := by
    rw [List.getD_eq_getElem?_getD, List.getElem?_eq_getElem h0]
    exact List.getElem_mem h0
  obtain ⟨m1, m2⟩ := h _ hm
  refine ⟨bnd_set (fun y hy => ⟨Nat.le_succ_of_le (h y hy).1, (h y hy).2⟩) (by rw [List.length_append]; simp; exact m1) (fun y hy => ?_), app0_len l x⟩
  rcases List.mem_append.1 hy with hy | hy
  · exact m2 y hy
  · rw [List.mem_singleton.1 hy]; exact hx
theorem bend_ev (b : List Int) (hb : Bytes b) (hl : b.length ≤ 2000) (c : Int) (l0 : List Int) (l1 : List (List S52)) (p : Int) (h0 : 0 ≤ p) (h1 : p ≤ 9000) (hN : Nice l0 l1) :
    ∃ r, Ev (fun k => bendF k b c l0 l1 p) r ∧ Small r.1 r.2.1 ∧ p ≤ r.2.2 ∧ r.2.2 ≤ p + 3 := by
  obtain ⟨n0, n1, nB⟩ := hN
  have hp : 0 < l1.length := by omega
  have A : ∀ x : S52, Few x → Small l0 (app0 l1 x) := fun x hx => by
    obtain ⟨b1, b2⟩ := bnd_app nB hp hx
    exact small_of (by first | omega | (dsimp only; omega) | (simp; omega)) (by first | omega | (dsimp only; omega) | (simp; omega)) (by omega) b1
  unfold bendF
  by_cases c0 : c = 0
  · obtain ⟨d, ed, d0, d1, -⟩ := yC b hb hl 2 p h0 (by omega) (by omega)
    have d1 := d1 (by omega)
    exact ⟨_, zS c0 (Ev.bind ed (zS ⟨d0, d1⟩ (Ev.now _))), small_of (by first | omega | (dsimp only; omega) | (simp; omega)) (by first | omega | (dsimp only; omega) | (simp; omega)) (by omega) nB, by dsimp only; omega, by dsimp only; omega⟩
  by_cases c1 : c = 1
  · exact ⟨_, zL c0 (zS c1 (Ev.now _)), small_of (by first | omega | (dsimp only; omega) | (simp; omega)) (by first | omega | (dsimp only; omega) | (simp; omega)) (by omega) nB, by dsimp only; omega, by dsimp only; omega⟩
  by_cases c2 : c = 2
  · obtain ⟨d, ed, -⟩ := yC b hb hl 7 p h0 (by omega) (by omega)
    exact ⟨_, zL c0 (zL c1 (zS c2 (Ev.bind ed (Ev.now _)))), A _ ⟨by simp, by simp⟩, by dsimp only; omega, by dsimp only; omega⟩
  by_cases c3 : c = 3
  · obtain ⟨d, ed, -⟩ := yC b hb hl 6 p h0 (by omega) (by omega)
    exact ⟨_, zL c0 (zL c1 (zL c2 (zS c3 (Ev.bind ed (Ev.now _))))), A _ ⟨by simp, by simp⟩, by dsimp only; omega, by dsimp only; omega⟩
  by_cases c4 : c = 4
  · obtain ⟨d, ed, -⟩ := yC b hb hl 7 p h0 (by omega) (by omega)
    obtain ⟨e, ee, -⟩ := yC b hb hl 5 (p + 1) (by omega) (by omega) (by omega)
    obtain ⟨f, ef, -⟩ := yC b hb hl 5 (p + 1 + 1) (by omega) (by omega) (by omega)
    exact ⟨_, zL c0 (zL c1 (zL c2 (zL c3 (zS c4 (Ev.bind ed (Ev.bind ee (Ev.bind ef (Ev.now _)))))))), A _ ⟨by simp, by simp⟩, by dsimp only; omega, by dsimp only; omega⟩
  by_cases c5 : c = 5
  · refine ⟨_, zL c0 (zL c1 (zL c2 (zL c3 (zL c4 (zS c5 (Ev.now _)))))), small_of (c := 3) (by first | omega | (dsimp only; omega) | (simp; omega)) (by first | omega | (dsimp only; omega) | (simp; omega)) (by omega) (fun y hy => ?_), by dsimp only; omega, by dsimp only; omega⟩
    rcases List.mem_append.1 hy with hy | hy
    · exact nB y hy
    · have : y = [] := by simpa using hy
      subst this
      exact ⟨by simp, by simp⟩
  by_cases c6 : c = 6
  · obtain ⟨d, ed, -⟩ := yC b hb hl 5 p h0 (by omega) (by omega)
    exact ⟨_, zL c0 (zL c1 (zL c2 (zL c3 (zL c4 (zL c5 (zS c6 (Ev.bind ed (Ev.now _)))))))), A _ ⟨by simp, by simp⟩, by dsimp only; omega, by dsimp only; omega⟩
  have fx : Few (⟨3, [], [], 0⟩ : S52) := ⟨by simp, by simp⟩
  obtain ⟨b1, e1⟩ := bnd_app nB hp fx
  obtain ⟨b2, e2⟩ := bnd_app b1 (by omega) fx
  obtain ⟨b3, e3⟩ := bnd_app b2 (by omega) fx
  obtain ⟨b4, e4⟩ := bnd_app b3 (by omega) fx
  obtain ⟨b5, e5⟩ := bnd_app b4 (by omega) fx
  exact ⟨_, zL c0 (zL c1 (zL c2 (zL c3 (zL c4 (zL c5 (zL c6 (Ev.now _))))))), small_of (by first | omega | (dsimp only; omega) | (simp; omega)) (by first | omega | (dsimp only; omega) | (simp; omega)) (by omega) b5, by dsimp only; omega, by dsimp only; omega⟩
theorem l71Bent_ev (b : List Int) (hb : Bytes b) (hl : b.length ≤ 2000) (l0 : List Int) (l1 : List (List S52)) (p : Int) (h0 : 0 ≤ p) (h1 : p ≤ 8000) (hN : Nice l0 l1) :
    ∃ r, Ev (fun k => xn.f k b p l0 l1) r ∧ Small r.1 r.2.1 ∧ p ≤ r.2.2 ∧ r.2.2 ≤ p + 4 := by
  obtain ⟨c, ec, -⟩ := yC b hb hl 8 p h0 (by omega) (by omega)
  obtain ⟨r, er, r1, r2, r3⟩ := bend_ev b hb hl c l0 l1 (p + 1) (by omega) (by omega) hN
  have hok : bendOk l0 l1 := ⟨by have := hN.1; omega, by have := hN.2.1; omega, List.all_eq_true.2 (fun y hy => decide_eq_true (by have := (hN.2.2 y hy).1; omega))⟩
  unfold xn.f
  exact ⟨r, zS hok (Ev.bind ec er), r1, by omega, by omega⟩
theorem nice_small {l0 : List Int} {l1 : List (List S52)} (h : Nice l0 l1) : Small l0 l1 := small_of (c := 3) (by have := h.1; omega) (by have := h.2.1; omega) (by omega) h.2.2
theorem l71Any_ev (b : List Int) (hb : Bytes b) (hl : b.length ≤ 2000) (p : Int) (h0 : 0 ≤ p) (h1 : p ≤ 3000) : ∃ r, Ev (fun k => xv.f k b p) r ∧ Small r.1 r.2.1 ∧ p ≤ r.2.2 ∧ r.2.2 ≤ p + 3500 := by
  obtain ⟨x, ex, x1, x2, x3⟩ := l71Prog_ev b hb hl p h0 h1
  obtain ⟨d, ed, -⟩ := yC b hb hl 14 x.2.2 (by omega) (by omega) (by omega)
  unfold xv.f
  by_cases c : d = 0
  · obtain ⟨r, er, r1, r2, r3⟩ := l71Bent_ev b hb hl x.1 x.2.1 (x.2.2 + 1) (by omega) (by omega) x1
    exact ⟨(r.1, r.2.1, r.2.2), Ev.bind ex (Ev.bind ed (zS c (Ev.bind er (Ev.now _)))), r1, by dsimp only; omega, by dsimp only; omega⟩
  · exact ⟨(x.1, x.2.1, x.2.2 + 1), Ev.bind ex (Ev.bind ed (zL c (Ev.now _))), nice_small x1, by dsimp only; omega, by dsimp only; omega⟩
end Go.Proofs.YtoeepmcaabmjkaaDoor.PProgD
namespace Go.Proofs.YtoeepmcaabmjkaaDoor.Pure
open Go.RowKit Go.Proofs.YtoeepmcaabmjkaaDoor.QPO Go.Proofs.YtoeepmcaabmjkaaDoorW.PrintWords Go.Proofs.YtoeepmcaabmjkaaDoorW.PrintLast Go.Proofs.YtoeepmcaabmjkaaDoor.PProg Go.Proofs.YtoeepmcaabmjkaaDoor.PDraw Go.Proofs.YtoeepmcaabmjkaaDoor.PTree Go.Proofs.YtoeepmcaabmjkaaDoor.PText Go.Proofs.YtoeepmcaabmjkaaDoor.PInj Go.Proofs.YtoeepmcaabmjkaaDoor.PLq Go.Proofs.YtoeepmcaabmjkaaDoor.PProgD
theorem drawText_ev (l : List Int) (hl : ∀ x ∈ l, (Lit.int .u8 x).wf = true) : ∃ r, Ev (fun k => yB.f k l) r ∧ Small r.1 r.2 := by
  obtain ⟨b, eb, b1, b2⟩ := open_ev l hl
  obtain ⟨x, ex, x1, x2, x3⟩ := l71Any_ev b b1 b2 0 (by omega) (by omega)
  unfold yB.f
  rw [eb]
  exact ⟨_, Ev.bind (Ev.now _) (Ev.bind ex (Ev.now _)), x1⟩
theorem toList_inj {a b : ByteArray} : a.toList = b.toList ↔ a = b := ⟨fun h => by_inj (by rw [by_, by_, ← ByteArray.toList_eq, ← ByteArray.toList_eq]; exact h), fun h => by rw [h]⟩
theorem FnProgOne : zD.Pure := by
  intro l0 l1 _ _ w0 _ _ w1
  refine Ev.rounds (g := fun k => zD.f k l0 l1) ?_
  have big : Ev (fun k => zD.j0 k l0 l1 true) true := Ev.step (fun k => by rw [zD.j0, if_pos rfl]) (Ev.now true)
  have main : Ev (fun k => zD.j0 k l0 l1 false) true := by
    obtain ⟨p, ep, sp⟩ := drawText_ev l0 w0
    obtain ⟨q, eq, sq⟩ := drawText_ev l1 w1
    obtain ⟨T, a1, a2, a3⟩ := told_ev p.1 p.2 sp
    obtain ⟨U, b1, b2, b3⟩ := told_ev q.1 q.2 sq
    have lq := lqProg_ev p.1 p.2 q.1 q.2 sp
    have weak : Ev (fun k => zD.j1 k T U true p.1 p.2 q.1 q.2) true := by
      refine Ev.step (fun k => by rw [zD.j1, if_pos rfl]) (Ev.bind a1 (zS rfl (Ev.bind b1 ?_)))
      exact ev_eq fun _ => congrArg some (beq_self_eq_true _)
    refine Ev.step (fun k => by rw [zD.j0, if_neg Bool.false_ne_true]) ?_
    refine Ev.bind ep (Ev.bind eq (Ev.bind a2 (Ev.bind b2 (Ev.bind a1 (zS rfl (Ev.bind b1 (zS rfl ?_)))))))
    by_cases c1 : T.toList = ([] : List UInt8)
    · exact zS c1 weak
    refine zL c1 ?_
    by_cases c2 : U.toList = ([] : List UInt8)
    · rw [beq_iff_eq.2 c2]
      exact weak
    rw [beq_eq_false_iff_ne.2 c2]
    have emp : (⟨#[]⟩ : ByteArray).toList = [] := by rw [ByteArray.toList_eq]
    have d1 := a3.resolve_left (fun e => c1 (by rw [e]; exact emp))
    have d2 := b3.resolve_left (fun e => c2 (by rw [e]; exact emp))
    refine Ev.step (fun k => by rw [zD.j1, if_neg Bool.false_ne_true]) (Ev.bind lq ?_)
    have e : ((T.toList == U.toList) == decide (p.1 = q.1 ∧ p.2 = q.2)) = true := by
      by_cases c : p.1 = q.1 ∧ p.2 = q.2
      · have : T = U := by
          obtain ⟨k1, h1⟩ := a2
          obtain ⟨k2, h2⟩ := b2
          have g1 : yf.f (max k1 k2) p.1 p.2 = some T := h1 _ (by omega)
          have g2 : yf.f (max k1 k2) q.1 q.2 = some U := h2 _ (by omega)
          rw [c.1, c.2, g2] at g1
          injection g1 with g1
          exact g1.symm
        rw [decide_eq_true c, this]
        simp
      · have ne : (T.toList == U.toList) = false := beq_eq_false_iff_ne.2 (fun e => c (told_inj d1 (by rw [toList_inj.1 e]; exact d2)))
        rw [decide_eq_false c, ne]
        rfl
    exact ev_eq fun _ => congrArg some e
  unfold zD.f
  by_cases c : (l0.length : Int) > 1048576
  · exact zS c big
  · refine zL c ?_
    cases decide ((l1.length : Int) > 1048576) with
    | true => exact big
    | false => exact main
end Go.Proofs.YtoeepmcaabmjkaaDoor.Pure
namespace Go.Proofs.YtoeepmcaabmjkaaDoorW.PrintWords
open Go.ChangeShapes Go.WideShapes
theorem sized_ints {H : Type} {enc : TypeId × Value → H} {P : Program} {W : World} {base : Nat} {spare : Nat → Bool} {held : Bool} {t e : TypeId} {k : IntKind} {a : Option Addr} {len cap : Nat} {d : DataW H} {ps : List MemPlace} {ts : List TypeId} {ds : List (DataW H)} {j : Nat}
    (hsz : (DataW.weightsEach P ts ds).all (· ≤ reachBytes) = true) (ht : ts[j]? = some t) (hd : ds[j]? = some d) (hu : P.underlying t = some (.slice e)) (he : P.underlying e = some (.int k)) (hc : P.cellsOf e = 1) {B : Nat} (hB : P.bytesOf e = B)
    (h : DataW.Trod enc P W base spare held t (.slice a len cap) d ps) : len * B ≤ 140737488351232 := by
  obtain ⟨fuel, hf⟩ := h
  rcases open_ints hu he hc hf with ⟨hcs, _⟩ | ⟨x, l, c, zs, hcs, _, hl, _, hz, hx, _, _⟩
  · simp [Value.cells] at hcs
    obtain ⟨rfl, rfl, rfl⟩ := hcs
    simp
  · simp [Value.cells] at hcs
    obtain ⟨rfl, rfl, rfl⟩ := hcs
    obtain ⟨hx, _⟩ := Prod.mk.inj hx
    subst hx
    have z := sized_slice hsz ht hd hu
    rw [hB] at z
    have hl2 : len ≤ zs.length := by
      rw [hz]
      split
      · exact hl
      · exact Nat.le_refl _
    have h1 : (lits (H := H) k (zs.take len)).length + (lits (H := H) k (zs.drop len)).length = zs.length := by
      simp [lits]
      omega
    rw [h1] at z
    exact Nat.le_trans (Nat.mul_le_mul_right _ hl2) z
end Go.Proofs.YtoeepmcaabmjkaaDoorW.PrintWords
