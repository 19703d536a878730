import Derived.Test.YtoeepmcaabmjkaaDoorPO0
import Derived.Test.YtoeepmcaabmjkaaDoorPO1
import Derived.Test.YtoeepmcaabmjkaaDoorPO2
namespace Go.Proofs.YtoeepmcaabmjkaaDoor.QPO
open Go.RowKit Go.Proofs.YtoeepmcaabmjkaaDoorW.PrintWords Go.Proofs.YtoeepmcaabmjkaaDoorW.PrintLast Go.Proofs.YtoeepmcaabmjkaaDoorW.PrintMore
attribute [local go_sem] yz yx yQ yP yl yk yy yw   -- for this text's walks alone
set_option linter.unusedVariables false
set_option linter.unusedSimpArgs false
def cellT (t : ByteArray) : List Int → Option ByteArray
  | [] => some t
  | d :: l => if t.size > 1000000000 then none else (yA.f d).bind fun x => cellT (t ++ ((⟨#[32]⟩ : ByteArray) ++ x)) l
def actT (t : ByteArray) : List S52 → Option ByteArray
  | [] => some t
  | a :: l => if t.size > 1000000000 then none else (yp.f a.f0 a.f1 a.f2 a.f3).bind fun x => actT (t ++ (x ++ (⟨#[10]⟩ : ByteArray))) l
def bodT (t : ByteArray) : List (List S52) → Option ByteArray
  | [] => some t
  | l :: ls => if t.size > 1000000000 then none else (actT (t ++ (⟨#[98, 111, 100, 121, 10]⟩ : ByteArray)) l).bind fun u => bodT u ls
def yf.f (k : Nat) (l0 : List Int) (l1 : List (List S52)) : Option ByteArray :=
  (xp.f k l0 l1).bind fun ok => if ok = true then (cellT ⟨#[99, 101, 108, 108, 115]⟩ l0).bind fun t => (if t.size > 1000000000 then none else bodT (t ++ (⟨#[10]⟩ : ByteArray)) l1) else some (⟨#[]⟩ : ByteArray)
theorem actText_size {k : Int} {l1 : List S82} {l2 : List Int} {r : Int} {t : ByteArray} (h : yp.f k l1 l2 r = some t) : t.size ≤ 100000 := by
  unfold yp.f at h
  have cs : ¬ (l1.length > 1000 ∨ l2.length > 1000) := fun c => by rw [if_pos c] at h; cases h
  rw [if_neg cs] at h
  split at h
  · obtain ⟨xs, hx, h⟩ := Option.bind_eq_some_iff.1 h
    obtain ⟨h1, h2⟩ := deeds_small hx
    injection h with h
    rw [← h]
    exact join_len _ xs (by decide) (by omega) h2
  · split at h
    · obtain ⟨xs, hx, h⟩ := Option.bind_eq_some_iff.1 h
      obtain ⟨h1, h2⟩ := kids_small hx
      injection h with h
      rw [← h]
      exact join_len _ xs (by decide) (by omega) h2
    · split at h
      · injection h with h
        rw [← h]
        decide
      · split at h
        · obtain ⟨x, hx, h⟩ := Option.bind_eq_some_iff.1 h
          have := yR hx
          injection h with h
          rw [← h, ByteArray.size_append]
          have e : (⟨#[102, 97, 105, 108, 105, 102, 32]⟩ : ByteArray).size = 7 := rfl
          omega
        · injection h with h
          rw [← h]
          decide
set_option maxHeartbeats 8000000 in
set_option maxRecDepth 100000 in
theorem yf.calls (k : Nat) (A0_0 : Option Addr) (c0_0 : Nat) (l0_0 : List Int) (A0_1 : Option Addr) (c0_1 : Nat) (l0_1 : List (List (S52))) (r : ByteArray) (w : World) (hr0_0 : Kd.C (Kd.int .i64) w A0_0 l0_0.length l0_0) (hc0_0 : l0_0.length ≤ c0_0) (hr0_1 : Kd.C (Kd.slice 52 k52) w A0_1 l0_1.length l0_1) (hc0_1 : l0_1.length ≤ c0_1) (h : yf.f k l0_0 l0_1 = some r) :
    Calls Tryd.prog 9 #[.agg #[.slice A0_0 l0_0.length c0_0, .slice A0_1 l0_1.length c0_1]] w fun e w' => e = .returned (.string r) ∧ Below w.heap.size w w' := by
  have hu1 := Tryd.underlying30
  have hu2 := Tryd.underlying52
  unfold yf.f at h
  obtain ⟨ok, ho, h⟩ := Option.bind_eq_some_iff.1 h
  have HO := za.mk ho
  have HR0 := za.mk hr0_0
  have HC0 := za.mk hc0_0
  have HR1 := za.mk hr0_1
  have HC1 := za.mk hc0_1
  clear ho hr0_0 hc0_0 hr0_1 hc0_1
  have HM := za.mk (show l0_1.length ≤ 9223372036854775807 from HR1.out.2.1)
  have HM0 := za.mk (show l0_0.length ≤ 9223372036854775807 from HR0.out.2.1)
  replace h := za.mk h
  have hb0 : (w.alloc (.cells #[.slice A0_0 l0_0.length c0_0, .slice A0_1 l0_1.length c0_1] 30)).heap[w.heap.size]? = some (.cells #[.slice A0_0 l0_0.length c0_0, .slice A0_1 l0_1.length c0_1] 30 (0, 0)) := heap_alloc_new w _
  replace hb0 := za.mk hb0
  go_enter Tryd.func9, Tryd.ntmps9
  go_wp2_with (fail)
  refine (xp.calls k A0_0 c0_0 l0_0 A0_1 c0_1 l0_1 ok _ (Kd.yg HR0.out _) HC0.out (Kd.yg HR1.out _) HC1.out HO.out).mono ?_
  rintro e w1 ⟨rfl, hb1⟩
  have HB := za.mk (xe (zc (Below.refl w.heap.size w) _) (by simp) hb1)
  have HBX := za.mk (zI hb0.out hb1)
  clear hb0 hb1 HO
  cases ok with
  | false =>
    have h := h.out
    rw [if_neg Bool.false_ne_true] at h
    injection h with h
    subst h
    go_wp2
    go_ret
    exact ⟨rfl, HB.out⟩
  | true =>
    have h := h.out
    rw [if_pos rfl] at h
    obtain ⟨t0, ht0, h⟩ := Option.bind_eq_some_iff.1 h
    have ht0 := za.mk ht0
    have h := za.mk h
    have xb0 : w1.cell? ⟨w.heap.size, 0, none⟩ = some (.slice A0_0 l0_0.length c0_0) := (zf HBX.out 0).trans rfl
    go_wp2_with (fail)
    go_loopg [16, 3] l0_0.length (fun n v16 v3 w' => ∃ (i : Int) (t : ByteArray), v16 = .int .i64 i ∧ v3 = .string t ∧ za (i + n = l0_0.length ∧ 0 ≤ i) ∧ za (cellT t (l0_0.drop i.toNat) = some t0) ∧ za (Below w.heap.size w w') ∧ za (w'.heap[w.heap.size]? = some (.cells #[.slice A0_0 l0_0.length c0_0, .slice A0_1 l0_1.length c0_1] 30 (0, 0))))
    case atStart => exact ⟨0, ⟨#[99, 101, 108, 108, 115]⟩, rfl, rfl, ⟨by simp⟩, by simpa using ht0, HB, HBX⟩
    case round =>
      clear HB HBX ht0 xb0
      obtain ⟨i, t, rfl, rfl, hi, H, HB, HBX⟩ := hrel
      cases gk with
      | succ m =>
        have cb : decide (i < l0_0.length) = true := by have := hi.out; exact decide_eq_true (by omega)
        obtain ⟨ad, eA, hq0⟩ := Kd.xu HR0.out i (by have := hi.out; omega) (by have := hi.out; omega)
        subst eA
        have hil : i.toNat < l0_0.length := by have := hi.out; omega
        obtain ⟨x, hx⟩ : ∃ x, x = rd l0_0 i := ⟨_, rfl⟩
        rw [← hx] at hq0
        replace hq0 := zA HB.out hq0
        have H := H.out
        have hd : l0_0.drop i.toNat = x :: l0_0.drop (i + 1).toNat := by
          rw [List.drop_eq_getElem_cons hil, hx, rd, List.getD_eq_getElem?_getD, List.getElem?_eq_getElem hil, show (i + 1).toNat = i.toNat + 1 by have := hi.out; omega]
          rfl
        rw [hd] at H
        clear hd hx hil
        unfold cellT at H
        have ts : ¬ (t.size > 1000000000) := fun c => by rw [if_pos c] at H; cases H
        rw [if_neg ts] at H
        obtain ⟨y, hy, H⟩ := Option.bind_eq_some_iff.1 H
        have sy := xF hy
        have s1 : ¬ (9223372036854775807 < 1 + y.size) := by omega
        have s2 : ¬ (9223372036854775807 < t.size + (1 + y.size)) := by omega
        replace hy := za.mk hy
        replace H := za.mk H
        have hip : 0 ≤ i := hi.out.2
        have hil : i < (l0_0.length : Int) := by have := hi.out; omega
        have ei : wrap64 (i + 1) = i + 1 := by have h1 := HM0.out; unfold wrap64; omega
        replace ts := za.mk ts
        replace sy := za.mk sy
        go_wp2_with (fail)
        refine (yA.calls x y _ hy.out).mono ?_
        rintro e w3 ⟨rfl, rfl⟩
        go_wp2
        go_roundg m
        case measure => exact Nat.lt_succ_self _
        case rel => exact ⟨i + 1, t ++ ((⟨#[32]⟩ : ByteArray) ++ y), by first | rfl | (simp [ei]; done), rfl, ⟨by have h1 := hi.out; omega⟩, H, HB, HBX⟩
      | zero =>
        have cb : decide (i < l0_0.length) = false := by have := hi.out; exact decide_eq_false (by omega)
        have H := H.out
        rw [List.drop_eq_nil_of_le (by have := hi.out; omega)] at H
        injection H with H
        subst H
        have h := h.out
        have ts : ¬ (t.size > 1000000000) := fun c => by rw [if_pos c] at h; cases h
        rw [if_neg ts] at h
        have h := za.mk h
        have s1 : ¬ (9223372036854775807 < t.size + 1) := by omega
        have xb1 : wr.cell? ⟨w.heap.size, 1, none⟩ = some (.slice A0_1 l0_1.length c0_1) := (zf HBX.out 1).trans rfl
        go_wp2_with (fail)
        obtain ⟨wo, ewo⟩ : ∃ wo, wo = wr := ⟨_, rfl⟩
        rw [← ewo]
        clear xb1 hi ts
        have HBo := za.mk (show Below w.heap.size w wo by rw [ewo]; exact HB.out)
        have HBXo := za.mk (show wo.heap[w.heap.size]? = some (.cells #[.slice A0_0 l0_0.length c0_0, .slice A0_1 l0_1.length c0_1] 30 (0, 0)) by rw [ewo]; exact HBX.out)
        clear ewo HB HBX
        go_loopg [31, 3] l0_1.length (fun n v31 v3 w' => ∃ (x : Int) (u : ByteArray), v31 = .int .i64 x ∧ v3 = .string u ∧ za (x + n = l0_1.length ∧ 0 ≤ x) ∧ za (bodT u (l0_1.drop x.toNat) = some r) ∧ za (Below w.heap.size w w') ∧ za (w'.heap[w.heap.size]? = some (.cells #[.slice A0_0 l0_0.length c0_0, .slice A0_1 l0_1.length c0_1] 30 (0, 0))))
        case atStart => exact ⟨0, t ++ (⟨#[10]⟩ : ByteArray), rfl, rfl, ⟨by simp⟩, ⟨h.out⟩, HBo, HBXo⟩
        case round =>
          clear HBo HBXo h
          obtain ⟨x, u, rfl, rfl, hx, H, HB, HBX⟩ := hrel
          obtain ⟨wo, rfl⟩ : ∃ wo, wo = wr := ⟨_, rfl⟩
          cases gk with
          | succ m =>
            have cb : decide (x < l0_1.length) = true := by have := hx.out; exact decide_eq_true (by omega)
            obtain ⟨ad, B1, c1, l, ea, hl, hxc, hlc, hlr⟩ := C_rows (Kd.zX HR1.out HB.out) x.toNat (by have := hx.out; omega)
            cases ea
            have HLC := za.mk hlc
            have HLR := za.mk hlr
            have HLM := za.mk (show l.length ≤ 9223372036854775807 from hlr.2.1)
            clear hlc hlr
            have H := H.out
            have hdrop : l0_1.drop x.toNat = l :: l0_1.drop (x.toNat + 1) := by
              obtain ⟨hlt, rfl⟩ := List.getElem?_eq_some_iff.1 hl
              exact List.drop_eq_getElem_cons hlt
            rw [hdrop, bodT] at H
            clear hdrop hl
            have ts : ¬ (u.size > 1000000000) := fun c => by rw [if_pos c] at H; cases H
            rw [if_neg ts] at H
            obtain ⟨u1, hu1_, H⟩ := Option.bind_eq_some_iff.1 H
            have s1 : ¬ (9223372036854775807 < u.size + 5) := by omega
            have HN := za.mk H
            have HU := za.mk hu1_
            clear H hu1_
            have p0 : 0 ≤ x := hx.out.2
            have p1 : x < (l0_1.length : Int) := by have := hx.out; omega
            have ei : wrap64 (x + 1) = x + 1 := by have h1 := HM.out; unfold wrap64; omega
            have TS := za.mk ts
            clear ts
            go_wp2_with (fail)
            go_loopg [39, 3] l.length (fun n v39 v3 w' => ∃ (y : Int) (v : ByteArray), v39 = .int .i64 y ∧ v3 = .string v ∧ za (y + n = l.length ∧ 0 ≤ y) ∧ za (actT v (l.drop y.toNat) = some u1) ∧ za (Below wo.heap.size wo w') ∧ za (w'.heap[w.heap.size]? = some (.cells #[.slice A0_0 l0_0.length c0_0, .slice (some ad) l0_1.length c0_1] 30 (0, 0))))
            case atStart => exact ⟨0, u ++ (⟨#[98, 111, 100, 121, 10]⟩ : ByteArray), rfl, rfl, ⟨by simp⟩, by simpa using HU, ⟨Below.refl _ _⟩, HBX⟩
            case round =>
              clear HU HBX
              obtain ⟨y, v, rfl, rfl, hy, H, HBi, HBX⟩ := hrel
              cases gk with
              | succ m2 =>
                have cb2 : decide (y < l.length) = true := by have := hy.out; exact decide_eq_true (by omega)
                have q0 : 0 ≤ y := hy.out.2
                have q1 : y < (l.length : Int) := by have := hy.out; omega
                obtain ⟨ad2, D1, d1, D2, d2, ea2, hya, hyb, hyc, hyd, hle1, hre1, hle2, hre2⟩ := at_T52 (Kd.zX HLR.out HBi.out) y q0 q1
                cases ea2
                obtain ⟨a, ha⟩ : ∃ a, a = zM l y := ⟨_, rfl⟩
                rw [← ha] at hya hyb hyc hyd hle1 hre1 hle2 hre2
                have hdrop : l.drop y.toNat = a :: l.drop (y.toNat + 1) := by
                  have hlt : y.toNat < l.length := by omega
                  rw [List.drop_eq_getElem_cons hlt, ha]
                  simp [zM, List.getD, hlt]
                have H := H.out
                clear ha
                rw [hdrop, actT] at H
                clear hdrop
                have ts : ¬ (v.size > 1000000000) := fun c => by rw [if_pos c] at H; cases H
                rw [if_neg ts] at H
                obtain ⟨z, hz, H⟩ := Option.bind_eq_some_iff.1 H
                have sz := actText_size hz
                have s2 : ¬ (9223372036854775807 < z.size + 1) := by omega
                have s3 : ¬ (9223372036854775807 < v.size + (z.size + 1)) := by omega
                have HZ := za.mk hz
                have HN2 := za.mk H
                have HRe1 := za.mk hre1
                have HRe2 := za.mk hre2
                clear hz H hre1 hre2 hle1 hle2 ts sz
                have ei2 : wrap64 (y + 1) = y + 1 := by have h1 := HLM.out; unfold wrap64; omega
                go_upto_region 17 with (fail)
                obtain ⟨wa, hwa⟩ : ∃ wa, wa = wr.alloc (.cells #[.int .i64 a.f0, .slice D1 a.f1.length d1, .slice D2 a.f2.length d2, .int .i64 a.f3] 52) := ⟨_, rfl⟩
                rw [← hwa]
                have HBA := za.mk (show Below wr.heap.size wr wa by rw [hwa]; exact zc (Below.refl _ _) _)
                have HA := za.mk (show wa.heap[wr.heap.size]? = some (.cells #[.int .i64 a.f0, .slice D1 a.f1.length d1, .slice D2 a.f2.length d2, .int .i64 a.f3] 52 (0, 0)) by rw [hwa]; exact heap_alloc_new wr _)
                clear hwa
                have HBXA := za.mk ((HBA.out.block _ (yO HBX.out)).trans HBX.out)
                have HRA := za.mk (Kd.zX HRe1.out HBA.out)
                have HRB := za.mk (Kd.zX HRe2.out HBA.out)
                have HS := za.mk (show ∀ w', Below wa.heap.size wa w' → (Below wa.heap.size wa w' ∧ w'.cell? ⟨wr.heap.size, 0, none⟩ = some (.int .i64 a.f0) ∧ w'.cell? ⟨wr.heap.size, 1, none⟩ = some (.slice D1 a.f1.length d1) ∧ w'.cell? ⟨wr.heap.size, 2, none⟩ = some (.slice D2 a.f2.length d2) ∧ w'.cell? ⟨wr.heap.size, 3, none⟩ = some (.int .i64 a.f3)) from fun w' hb => ⟨hb, (zf ((hb.block _ (yO HA.out)).trans HA.out) 0).trans rfl, (zf ((hb.block _ (yO HA.out)).trans HA.out) 1).trans rfl, (zf ((hb.block _ (yO HA.out)).trans HA.out) 2).trans rfl, (zf ((hb.block _ (yO HA.out)).trans HA.out) 3).trans rfl⟩)
                clear hya hyb hyc hyd hxc
                obtain ⟨sb, r2, r3, r4, r5⟩ := HS.out wa (Below.refl _ _)
                go_wp2_with (fail)
                refine (impl_partOfAct.calls a.f0 D1 a.f1.length d1 D2 a.f2.length d2 a.f3 _).mono ?_
                rintro e wq ⟨rfl, hq_⟩
                have hq0 := za.mk (zp (Below.refl _ wa) hq_)
                clear hq_
                go_wp2_with (fail)
                refine (yp.calls a.f0 D1 d1 a.f1 D2 d2 a.f2 a.f3 z _ (Kd.zX HRA.out hq0.out) (Kd.zX HRB.out hq0.out) HZ.out).mono ?_
                rintro e wz ⟨rfl, hz_⟩
                have hz0 := za.mk (zp hq0.out hz_)
                clear hz_ hq0
                go_wp2
                go_roundg m2
                case measure => exact Nat.lt_succ_self _
                case rel => exact ⟨y + 1, v ++ (z ++ (⟨#[10]⟩ : ByteArray)), by first | rfl | (simp [ei2]; done), rfl, ⟨by have h1 := hy.out; omega⟩, ⟨by rw [show (y + 1).toNat = y.toNat + 1 by omega]; exact HN2.out⟩, ⟨zp (zp HBi.out HBA.out) hz0.out⟩, ⟨(hz0.out.block _ (yO HBXA.out)).trans HBXA.out⟩⟩
              | zero =>
                have cb2 : decide (y < l.length) = false := by have := hy.out; exact decide_eq_false (by omega)
                have H := H.out
                rw [List.drop_eq_nil_of_le (by have := hy.out; omega)] at H
                injection H with H
                subst H
                go_wp2
                go_roundg m
                case measure => exact Nat.lt_succ_self _
                case rel => exact ⟨x + 1, v, by first | rfl | (simp [ei]; done), rfl, ⟨by have h1 := hx.out; omega⟩, ⟨by rw [show (x + 1).toNat = x.toNat + 1 by omega]; exact HN.out⟩, ⟨zp HB.out HBi.out⟩, HBX⟩
          | zero =>
            have cb : decide (x < l0_1.length) = false := by have := hx.out; exact decide_eq_false (by omega)
            have H := H.out
            rw [List.drop_eq_nil_of_le (by have := hx.out; omega)] at H
            injection H with H
            subst H
            go_wp2
            go_ret
            exact ⟨rfl, HB.out⟩
end Go.Proofs.YtoeepmcaabmjkaaDoor.QPO
namespace Go.Proofs.YtoeepmcaabmjkaaDoor.QPO
open Go.RowKit Go.Proofs.YtoeepmcaabmjkaaDoorW.PrintWords Go.Proofs.YtoeepmcaabmjkaaDoorW.PrintLast Go.Proofs.YtoeepmcaabmjkaaDoorW.PrintMore
attribute [local go_sem] yz yx yQ yP yl yk yy yw   -- for this text's walks alone
set_option linter.unusedVariables false
set_option linter.unusedSimpArgs false
def ze (w0 W : World) (g : Nat) (f0 : List Int) (f1 : Int) : Prop := ∃ A0 c0, W.heap[g]? = some (.cells #[.slice A0 f0.length c0, .int .i64 f1] 102 (0, 0)) ∧ w0.heap.size ≤ g ∧ Kd.C (Kd.int .u8) w0 A0 f0.length f0
theorem ze.grown {w0 W : World} {g : Nat} {f0 : List Int} {f1 : Int} {W1 : World} {row : Option Nat} (h : ze w0 W g f0 f1) (hw : W.grownBy W1 row) (hne : some g ≠ row) : ze w0 W1 g f0 f1 := by
  obtain ⟨A0, c0, hb, hg, hr0⟩ := h
  exact ⟨A0, c0, xm hb hw hne, hg, hr0⟩
theorem ze.kept {w0 W : World} {g : Nat} {f0 : List Int} {f1 : Int} {W1 : World} {S : Nat → Prop} (h : ze w0 W g f0 f1) (hk : Kept W W1 S) (hne : ¬ S g) : ze w0 W1 g f0 f1 := by
  obtain ⟨A0, c0, hb, hg, hr0⟩ := h
  exact ⟨A0, c0, blk_kept hb hk hne, hg, hr0⟩
theorem ze.below {w0 W : World} {g : Nat} {f0 : List Int} {f1 : Int} {W1 : World} (h : ze w0 W g f0 f1) (hw : Below W.heap.size W W1) : ze w0 W1 g f0 f1 := h.grown (grown_of_below hw none) (by simp)
theorem ze.alloc {w0 W : World} {g : Nat} {f0 : List Int} {f1 : Int} (h : ze w0 W g f0 f1) (o : Obj) : ze w0 (W.alloc o) g f0 f1 := h.below (zc (Below.refl _ _) o)
theorem ze.drewN {w0 W : World} {g : Nat} {f0 : List Int} {f1 : Int} (h : ze w0 W g f0 f1) (m : Nat) : ze w0 (W.drewN m) g f0 f1 := h
theorem ze.drew {w0 W : World} {g : Nat} {f0 : List Int} {f1 : Int} (h : ze w0 W g f0 f1) : ze w0 W.drew g f0 f1 := h
theorem ze.at_ {w0 W : World} {g : Nat} {f0 : List Int} {f1 : Int} {w' : World} {m : Nat} (hq : W.drewN m = w') (h : ze w0 W g f0 f1) : ze w0 w' g f0 f1 := by subst hq; exact ze.drewN h m
theorem ze.apart {w0 W : World} {g : Nat} {f0 : List Int} {f1 : Int} {α : Type} {d : Kd α} {e : Nat} {base : Nat} {ok : Nat → Prop} {v : Value} {xs : List α} (h : ze w0 W g f0 f1) (ho : d.R e W base ok v xs) (ht : ∀ q, q ∈ e :: d.E → q ≠ 102) : d.R e W base (fun k => ok k ∧ k ≠ g) v xs := by
  obtain ⟨A0, c0, hb, hg, hr0⟩ := h
  exact Kd.y6 ho hb ht
theorem ze.own_ne {w0 W : World} {g : Nat} {f0 : List Int} {f1 : Int} {α : Type} {d : Kd α} {e : Nat} {base : Nat} {ok : Nat → Prop} {v : Value} {xs : List α} (h : ze w0 W g f0 f1) (ho : d.R e W base ok v xs) (ht : e ≠ 102) : some g ≠ v.ownBlock := by
  obtain ⟨A0, c0, hb, hg, hr0⟩ := h
  exact Kd.R_ne ho hb ht
theorem ze.apartS {w0 W : World} {g : Nat} {f0 : List Int} {f1 : Int} {α : Type} {d : Kd α} {e : Nat} {base : Nat} {ok : Nat → Prop} {v : Value} {xs : List α} (h : ze w0 W g f0 f1) (ho : d.S e W base ok v xs) (ht : ∀ q, q ∈ e :: d.E → q ≠ 102) : d.S e W base (fun k => ok k ∧ k ≠ g) v xs := by
  obtain ⟨A0, c0, hb, hg, hr0⟩ := h
  exact Kd.S_types ho hb ht
theorem ze.own_neS {w0 W : World} {g : Nat} {f0 : List Int} {f1 : Int} {α : Type} {d : Kd α} {e : Nat} {base : Nat} {ok : Nat → Prop} {v : Value} {xs : List α} (h : ze w0 W g f0 f1) (ho : d.S e W base ok v xs) (ht : e ≠ 102) : some g ≠ v.ownBlock := by
  obtain ⟨A0, c0, hb, hg, hr0⟩ := h
  exact Kd.S_ne ho hb ht
theorem ze.lt {w0 W : World} {g : Nat} {f0 : List Int} {f1 : Int} (h : ze w0 W g f0 f1) : g < W.heap.size := by
  obtain ⟨A0, c0, hb, hg, hr0⟩ := h
  exact yO hb
theorem ze.ge {w0 W : World} {g : Nat} {f0 : List Int} {f1 : Int} (h : ze w0 W g f0 f1) : w0.heap.size ≤ g := by
  obtain ⟨A0, c0, hb, hg, hr0⟩ := h
  exact hg
theorem ze.ne_blk {w0 W : World} {g : Nat} {f0 : List Int} {f1 : Int} {a : Nat} {cs : Array Value} {t : TypeId} {fr : Nat × Nat} (h : ze w0 W g f0 f1) (hb2 : W.heap[a]? = some (.cells cs t fr)) (ht : t ≠ 102) : g ≠ a := by
  obtain ⟨A0, c0, hb, hg, hr0⟩ := h
  rintro rfl
  rw [hb] at hb2
  injection hb2 with hb2
  injection hb2 with _ ht2
  exact ht ht2.symm
theorem ze.far {w0 W : World} {g : Nat} {f0 : List Int} {f1 : Int} {p : Addr} (h : ze w0 W g f0 f1) (hne : g ≠ p.block) (u : Value) : ze w0 (W.setCell p u) g f0 f1 := by
  obtain ⟨A0, c0, hb, hg, hr0⟩ := h
  exact ⟨A0, c0, blk_far hb hne u, hg, hr0⟩
theorem cellS102_0 {W : World} {g : Nat} {A0 : Option Addr} {c0 : Nat} {f0 : List Int} {f1 : Int} (h : W.heap[g]? = some (.cells #[.slice A0 f0.length c0, .int .i64 f1] 102 (0, 0))) : W.cell? ⟨g, 0, none⟩ = some (.slice A0 f0.length c0) := (zf h 0).trans rfl
theorem cellS102_1 {W : World} {g : Nat} {A0 : Option Addr} {c0 : Nat} {f0 : List Int} {f1 : Int} (h : W.heap[g]? = some (.cells #[.slice A0 f0.length c0, .int .i64 f1] 102 (0, 0))) : W.cell? ⟨g, 1, none⟩ = some (.int .i64 f1) := (zf h 1).trans rfl
theorem ze.set_1 {w0 W : World} {g : Nat} {f0 : List Int} {f1 : Int} (h : ze w0 W g f0 f1) (x : Int) : ze w0 (W.setCell ⟨g, 1, none⟩ (.int .i64 x)) g f0 x := by
  obtain ⟨A0, c0, hb, hg, hr0⟩ := h
  exact ⟨A0, c0, by simpa using yT hb 1 (.int .i64 x), hg, hr0⟩
def zi.j0 : Nat → Int → Bool → List Int → Int → Option (Int × Int)
  | 0, _, _, _, _ => none
  | k + 1, x1, x24, x1000, x1001 => if x24 = true then (some (0, x1001)) else (if (wrap64 (x1001 - 1)) < (x1000.length : Int) then (if 0 ≤ (wrap64 (x1001 - 1)) then (if x1 = 0 then (none) else (some (Int.tmod (wrap64 (rd x1000 (wrap64 (x1001 - 1)))) x1, x1001))) else (none)) else (if (x1000.length : Int) = 0 then (none) else (if 0 ≤ (Int.tmod (wrap64 (x1001 - 1)) (x1000.length : Int)) then (if (Int.tmod (wrap64 (x1001 - 1)) (x1000.length : Int)) < (x1000.length : Int) then (if 0 ≤ (Int.tmod (wrap64 ((wrap64 ((wrap64 (x1001 - 1)) * 7)) + 3)) (x1000.length : Int)) then (if (Int.tmod (wrap64 ((wrap64 ((wrap64 (x1001 - 1)) * 7)) + 3)) (x1000.length : Int)) < (x1000.length : Int) then (if x1 = 0 then (none) else (some (Int.tmod (Go.bits .xor .i64 (wrap64 ((wrap64 ((wrap64 ((wrap64 ((wrap64 (rd x1000 (Int.tmod (wrap64 (x1001 - 1)) (x1000.length : Int)))) * 131)) + (wrap64 ((wrap64 (rd x1000 (Int.tmod (wrap64 ((wrap64 ((wrap64 (x1001 - 1)) * 7)) + 3)) (x1000.length : Int)))) * 1117)))) + (wrap64 ((wrap64 (x1001 - 1)) * 29)))) + (wrap64 ((wrap64 (Int.tdiv (wrap64 (x1001 - 1)) (x1000.length : Int))) * 53)))) (wrap64 (Int.tdiv (wrap64 ((wrap64 ((wrap64 ((wrap64 ((wrap64 (rd x1000 (Int.tmod (wrap64 (x1001 - 1)) (x1000.length : Int)))) * 131)) + (wrap64 ((wrap64 (rd x1000 (Int.tmod (wrap64 ((wrap64 ((wrap64 (x1001 - 1)) * 7)) + 3)) (x1000.length : Int)))) * 1117)))) + (wrap64 ((wrap64 (x1001 - 1)) * 29)))) + (wrap64 ((wrap64 (Int.tdiv (wrap64 (x1001 - 1)) (x1000.length : Int))) * 53)))) 64))) x1, x1001))) else (none)) else (none)) else (none)) else (none))))
def zi.f (k : Nat) (s0_0 : List Int) (s0_1 : Int) (a1 : Int) : Option (Int × Int) := if a1 < 1 then (zi.j0 k a1 true s0_0 (wrap64 (s0_1 + 1))) else (zi.j0 k a1 ((s0_0.length : Int) == 0) s0_0 (wrap64 (s0_1 + 1)))
set_option maxHeartbeats 8000000 in
set_option maxRecDepth 100000 in
theorem zi.calls (k : Nat) (g : Nat) (s0_0 : List Int) (s0_1 : Int) (a1 : Int) (r1 : Int) (r2 : Int) (w0 w : World) (hI : ze w0 w g s0_0 s0_1) (hB : Below w0.heap.size w0 w) (h : zi.f k s0_0 s0_1 a1 = some (r1, r2)) :
    Calls Tryd.prog 56 #[.pointer (some ⟨g, 0, none⟩), .int .i64 a1] w fun e w' => e = .returned (.int .i64 r1) ∧ ze w0 w' g s0_0 r2 ∧ Below w0.heap.size w0 w' ∧ zk w w' g none := by
  have HI0 := za.mk hI
  have HK := za.mk (zk.refl w g none)
  have HL := za.mk hB.size
  clear hI
  have HW0 := za.mk hB.size
  have HB := za.mk hB
  clear hB
  have H : (if a1 < 1 then (zi.j0 k a1 true s0_0 (wrap64 (s0_1 + 1))) else (zi.j0 k a1 ((s0_0.length : Int) == 0) s0_0 (wrap64 (s0_1 + 1)))) = some (r1, r2) := h
  clear h
  have HC3 := za.mk H
  clear H
  obtain ⟨ASz4_0, cSz4_0, HGz4, hgz4, HSz4_0⟩ := HI0.out
  have hcz4_0 := cellS102_0 HGz4
  have hcz4_1 := cellS102_1 HGz4
  have hfz4_1 := zg HGz4 1
  clear HGz4 hgz4
  go_enter Tryd.func56, Tryd.ntmps56
  go_upto_region 2 with (fail)
  repeat (go_quiet (fail); go_upto_region 2 with (fail))
  go_cut [24] (fun v24 wc => ∃ (kq : Nat) (x24_2 : Bool), v24 = .bool x24_2 ∧ za (zi.j0 kq a1 x24_2 s0_0 (wrap64 (s0_1 + 1)) = some (r1, r2)) ∧ za (kq ≤ k) ∧ za (ze w0 wc g s0_0 (wrap64 (s0_1 + 1))) ∧ za (zk w wc g none) ∧ za (Below w0.heap.size w0 wc))
  case first =>
    have H := HC3.out
    clear HC3
    by_cases c5 : a1 < 1
    · rw [if_pos c5] at H
      have c5b0 : decide (a1 < 1) = true := decide_eq_true c5
      clear c5
      (first | rw [c5b0] | (simp only [zn, zo]; rw [c5b0]) | skip)
      have H' := za.mk H
      clear H
      go_wp2
      repeat (go_quiet (fail); try go_wp2)
      go_meet
      case rel => exact ⟨_, (true), (by first | rfl | (simp; done) | (simp [*]; done)), H', ⟨by first | omega | exact Nat.le_refl _⟩, ⟨by repeat (with_reducible first | exact HI0.out | apply ze.alloc | apply ze.drewN | apply ze.drew | apply ze.set_1)⟩, ⟨by repeat (with_reducible first | exact HK.out | apply zk.set_ | apply zu | apply zz | apply zt)⟩, ⟨by repeat (with_reducible first | exact HB.out | apply zc | apply zb | apply zd | refine zh ?_ (ze.ge HI0.out))⟩⟩
    · rw [if_neg c5] at H
      have c5b0 : decide (a1 < 1) = false := decide_eq_false c5
      clear c5
      (first | rw [c5b0] | (simp only [zn, zo]; rw [c5b0]) | skip)
      have H' := za.mk H
      clear H
      obtain ⟨ASz6_0, cSz6_0, HGz6, hgz6, HSz6_0⟩ := HI0.out
      have hcz6_0 := cellS102_0 HGz6
      have hcz6_1 := cellS102_1 HGz6
      have hfz6_1 := zg HGz6 1
      clear HGz6 hgz6
      go_wp2
      repeat (go_quiet (fail); try go_wp2)
      go_meet
      case rel => exact ⟨_, (((s0_0.length : Int) == 0)), (by first | rfl | (simp; done) | (simp [*]; done)), H', ⟨by first | omega | exact Nat.le_refl _⟩, ⟨by repeat (with_reducible first | exact HI0.out | apply ze.alloc | apply ze.drewN | apply ze.drew | apply ze.set_1)⟩, ⟨by repeat (with_reducible first | exact HK.out | apply zk.set_ | apply zu | apply zz | apply zt)⟩, ⟨by repeat (with_reducible first | exact HB.out | apply zc | apply zb | apply zd | refine zh ?_ (ze.ge HI0.out))⟩⟩
  case rest =>
    clear HC3
    try clear p2
    try clear c5
    try clear c5b0
    try clear p6
    try clear hcz4_0
    try clear hcz4_1
    try clear hcz6_0
    try clear hcz6_1
    try clear hfz4_1
    try clear hfz6_1
    obtain ⟨kq, x24_2, rfl, HA, HJ2, HI0, HK, HB⟩ := hcut
    cases kq with
    | zero => exact absurd HA.out (by simp [zi.j0])
    | succ kj2 =>
      have H := HA.out
      clear HA
      simp only [zi.j0] at H
      by_cases c7 : x24_2 = true
      · subst c7
        have H1 : (some (0, (wrap64 (s0_1 + 1)))) = some (r1, r2) := by rw [if_pos rfl] at H; exact H
        clear H
        have H := H1
        clear H1
        simp only [Option.some.injEq, Prod.mk.injEq] at H
        obtain ⟨rfl, rfl⟩ := H
        go_wp2
        repeat (go_quiet (fail); try go_wp2)
        go_ret
        exact ⟨by first | rfl | (simp [zr, zq] <;> rfl) | (simp [*, zr, zq] <;> rfl), by repeat (with_reducible first | exact HI0.out | apply ze.alloc | apply ze.drewN | apply ze.drew | apply ze.set_1), by repeat (with_reducible first | exact HB.out | apply zc | apply zb | apply zd | refine zh ?_ (ze.ge HI0.out)), by repeat (with_reducible first | exact HK.out | apply zk.set_ | apply zu | apply zz | apply zt)⟩
      · replace c7 := Bool.eq_false_iff.mpr c7
        subst c7
        have H1 : (if (wrap64 ((wrap64 (s0_1 + 1)) - 1)) < (s0_0.length : Int) then (if 0 ≤ (wrap64 ((wrap64 (s0_1 + 1)) - 1)) then (if a1 = 0 then (none) else (some (Int.tmod (wrap64 (rd s0_0 (wrap64 ((wrap64 (s0_1 + 1)) - 1)))) a1, (wrap64 (s0_1 + 1))))) else (none)) else (if (s0_0.length : Int) = 0 then (none) else (if 0 ≤ (Int.tmod (wrap64 ((wrap64 (s0_1 + 1)) - 1)) (s0_0.length : Int)) then (if (Int.tmod (wrap64 ((wrap64 (s0_1 + 1)) - 1)) (s0_0.length : Int)) < (s0_0.length : Int) then (if 0 ≤ (Int.tmod (wrap64 ((wrap64 ((wrap64 ((wrap64 (s0_1 + 1)) - 1)) * 7)) + 3)) (s0_0.length : Int)) then (if (Int.tmod (wrap64 ((wrap64 ((wrap64 ((wrap64 (s0_1 + 1)) - 1)) * 7)) + 3)) (s0_0.length : Int)) < (s0_0.length : Int) then (if a1 = 0 then (none) else (some (Int.tmod (Go.bits .xor .i64 (wrap64 ((wrap64 ((wrap64 ((wrap64 ((wrap64 (rd s0_0 (Int.tmod (wrap64 ((wrap64 (s0_1 + 1)) - 1)) (s0_0.length : Int)))) * 131)) + (wrap64 ((wrap64 (rd s0_0 (Int.tmod (wrap64 ((wrap64 ((wrap64 ((wrap64 (s0_1 + 1)) - 1)) * 7)) + 3)) (s0_0.length : Int)))) * 1117)))) + (wrap64 ((wrap64 ((wrap64 (s0_1 + 1)) - 1)) * 29)))) + (wrap64 ((wrap64 (Int.tdiv (wrap64 ((wrap64 (s0_1 + 1)) - 1)) (s0_0.length : Int))) * 53)))) (wrap64 (Int.tdiv (wrap64 ((wrap64 ((wrap64 ((wrap64 ((wrap64 (rd s0_0 (Int.tmod (wrap64 ((wrap64 (s0_1 + 1)) - 1)) (s0_0.length : Int)))) * 131)) + (wrap64 ((wrap64 (rd s0_0 (Int.tmod (wrap64 ((wrap64 ((wrap64 ((wrap64 (s0_1 + 1)) - 1)) * 7)) + 3)) (s0_0.length : Int)))) * 1117)))) + (wrap64 ((wrap64 ((wrap64 (s0_1 + 1)) - 1)) * 29)))) + (wrap64 ((wrap64 (Int.tdiv (wrap64 ((wrap64 (s0_1 + 1)) - 1)) (s0_0.length : Int))) * 53)))) 64))) a1, (wrap64 (s0_1 + 1))))) else (none)) else (none)) else (none)) else (none)))) = some (r1, r2) := by rw [if_neg (show ¬ (false = true) by decide)] at H; exact H
        clear H
        have H := H1
        clear H1
        by_cases c8 : (wrap64 ((wrap64 (s0_1 + 1)) - 1)) < (s0_0.length : Int)
        · rw [if_pos c8] at H
          have c8b0 : decide ((wrap64 ((wrap64 (s0_1 + 1)) - 1)) < (s0_0.length : Int)) = true := decide_eq_true c8
          clear c8
          obtain ⟨ji9, hji9⟩ : ∃ j_ : Int, (wrap64 ((wrap64 (s0_1 + 1)) - 1)) = j_ := ⟨_, rfl⟩
          replace H : (if 0 ≤ (ji9) then (if a1 = 0 then (none) else (some (Int.tmod (wrap64 (rd s0_0 (ji9))) a1, (wrap64 (s0_1 + 1))))) else (none)) = some (r1, r2) := by first | (rw [hji9] at H; exact H) | (simp only [hji9] at H ⊢; exact H)
          (try rw [hji9] at c8b0)
          have hji9w : (IntKind.i64.wrap ((wrap64 (s0_1 + 1)) - 1)) = ji9 := (zn _).trans hji9
          by_cases c10 : 0 ≤ (ji9)
          · rw [if_pos c10] at H
            have c10b0 : decide (0 ≤ (ji9)) = true := decide_eq_true c10
            clear c10
            by_cases c11 : a1 = 0
            · rw [if_pos c11] at H
              exact absurd H (by simp)
            · rw [if_neg c11] at H
              have c11b0 : (a1 == 0) = false := beq_eq_false_iff_ne.mpr c11
              have c11b1 : (a1 != 0) = true := bne_iff_ne.mpr c11
              simp only [Option.some.injEq, Prod.mk.injEq] at H
              obtain ⟨rfl, rfl⟩ := H
              obtain ⟨ASz12_0, cSz12_0, HGz12, hgz12, HSz12_0⟩ := HI0.out
              have hcz12_0 := cellS102_0 HGz12
              have hcz12_1 := cellS102_1 HGz12
              have hfz12_1 := zg HGz12 1
              clear HGz12 hgz12
              have p195 : 0 ≤ ((ji9) : Int) := of_decide_eq_true (by first | (with_reducible assumption) | assumption)
              have q195 : (ji9) < (s0_0.length : Int) := of_decide_eq_true (by first | (with_reducible assumption) | assumption)
              obtain ⟨ad195, e195, hx195_0⟩ := Kd.xu HSz12_0 (ji9) p195 q195
              cases e195
              replace hx195_0 := zA HB.out hx195_0
              replace p195 := eq_true p195
              replace q195 := eq_true q195
              go_wp2
              repeat (go_quiet (fail); try go_wp2)
              go_ret
              exact ⟨by first | rfl | (simp [zr, zq] <;> rfl) | (simp only [← hji9]; first | rfl | (simp [zr, zq] <;> rfl)) | (simp [*, zr, zq] <;> rfl), by repeat (with_reducible first | exact HI0.out | apply ze.alloc | apply ze.drewN | apply ze.drew | apply ze.set_1), by repeat (with_reducible first | exact HB.out | apply zc | apply zb | apply zd | refine zh ?_ (ze.ge HI0.out)), by repeat (with_reducible first | exact HK.out | apply zk.set_ | apply zu | apply zz | apply zt)⟩
          · rw [if_neg c10] at H
            exact absurd H (by simp)
        · rw [if_neg c8] at H
          have c8b0 : decide ((wrap64 ((wrap64 (s0_1 + 1)) - 1)) < (s0_0.length : Int)) = false := decide_eq_false c8
          clear c8
          by_cases c13 : (s0_0.length : Int) = 0
          · rw [if_pos c13] at H
            exact absurd H (by simp)
          · rw [if_neg c13] at H
            have c13b0 : ((s0_0.length : Int) == 0) = false := beq_eq_false_iff_ne.mpr c13
            have c13b1 : ((s0_0.length : Int) != 0) = true := bne_iff_ne.mpr c13
            have c13b2 : ¬ (s0_0 = []) := fun h_ => c13 (by rw [h_]; rfl)
            obtain ⟨ji14, hji14⟩ : ∃ j_ : Int, (Int.tmod (wrap64 ((wrap64 (s0_1 + 1)) - 1)) (s0_0.length : Int)) = j_ := ⟨_, rfl⟩
            replace H : (if 0 ≤ (ji14) then (if (ji14) < (s0_0.length : Int) then (if 0 ≤ (Int.tmod (wrap64 ((wrap64 ((wrap64 ((wrap64 (s0_1 + 1)) - 1)) * 7)) + 3)) (s0_0.length : Int)) then (if (Int.tmod (wrap64 ((wrap64 ((wrap64 ((wrap64 (s0_1 + 1)) - 1)) * 7)) + 3)) (s0_0.length : Int)) < (s0_0.length : Int) then (if a1 = 0 then (none) else (some (Int.tmod (Go.bits .xor .i64 (wrap64 ((wrap64 ((wrap64 ((wrap64 ((wrap64 (rd s0_0 (ji14))) * 131)) + (wrap64 ((wrap64 (rd s0_0 (Int.tmod (wrap64 ((wrap64 ((wrap64 ((wrap64 (s0_1 + 1)) - 1)) * 7)) + 3)) (s0_0.length : Int)))) * 1117)))) + (wrap64 ((wrap64 ((wrap64 (s0_1 + 1)) - 1)) * 29)))) + (wrap64 ((wrap64 (Int.tdiv (wrap64 ((wrap64 (s0_1 + 1)) - 1)) (s0_0.length : Int))) * 53)))) (wrap64 (Int.tdiv (wrap64 ((wrap64 ((wrap64 ((wrap64 ((wrap64 (rd s0_0 (ji14))) * 131)) + (wrap64 ((wrap64 (rd s0_0 (Int.tmod (wrap64 ((wrap64 ((wrap64 ((wrap64 (s0_1 + 1)) - 1)) * 7)) + 3)) (s0_0.length : Int)))) * 1117)))) + (wrap64 ((wrap64 ((wrap64 (s0_1 + 1)) - 1)) * 29)))) + (wrap64 ((wrap64 (Int.tdiv (wrap64 ((wrap64 (s0_1 + 1)) - 1)) (s0_0.length : Int))) * 53)))) 64))) a1, (wrap64 (s0_1 + 1))))) else (none)) else (none)) else (none)) else (none)) = some (r1, r2) := by first | (rw [hji14] at H; exact H) | (simp only [hji14] at H ⊢; exact H)
            by_cases c15 : 0 ≤ (ji14)
            · rw [if_pos c15] at H
              have c15b0 : decide (0 ≤ (ji14)) = true := decide_eq_true c15
              clear c15
              by_cases c16 : (ji14) < (s0_0.length : Int)
              · rw [if_pos c16] at H
                have c16b0 : decide ((ji14) < (s0_0.length : Int)) = true := decide_eq_true c16
                clear c16
                obtain ⟨ji17, hji17⟩ : ∃ j_ : Int, (Int.tmod (wrap64 ((wrap64 ((wrap64 ((wrap64 (s0_1 + 1)) - 1)) * 7)) + 3)) (s0_0.length : Int)) = j_ := ⟨_, rfl⟩
                replace H : (if 0 ≤ (ji17) then (if (ji17) < (s0_0.length : Int) then (if a1 = 0 then (none) else (some (Int.tmod (Go.bits .xor .i64 (wrap64 ((wrap64 ((wrap64 ((wrap64 ((wrap64 (rd s0_0 (ji14))) * 131)) + (wrap64 ((wrap64 (rd s0_0 (ji17))) * 1117)))) + (wrap64 ((wrap64 ((wrap64 (s0_1 + 1)) - 1)) * 29)))) + (wrap64 ((wrap64 (Int.tdiv (wrap64 ((wrap64 (s0_1 + 1)) - 1)) (s0_0.length : Int))) * 53)))) (wrap64 (Int.tdiv (wrap64 ((wrap64 ((wrap64 ((wrap64 ((wrap64 (rd s0_0 (ji14))) * 131)) + (wrap64 ((wrap64 (rd s0_0 (ji17))) * 1117)))) + (wrap64 ((wrap64 ((wrap64 (s0_1 + 1)) - 1)) * 29)))) + (wrap64 ((wrap64 (Int.tdiv (wrap64 ((wrap64 (s0_1 + 1)) - 1)) (s0_0.length : Int))) * 53)))) 64))) a1, (wrap64 (s0_1 + 1))))) else (none)) else (none)) = some (r1, r2) := by first | (rw [hji17] at H; exact H) | (simp only [hji17] at H ⊢; exact H)
                by_cases c18 : 0 ≤ (ji17)
                · rw [if_pos c18] at H
                  have c18b0 : decide (0 ≤ (ji17)) = true := decide_eq_true c18
                  clear c18
                  by_cases c19 : (ji17) < (s0_0.length : Int)
                  · rw [if_pos c19] at H
                    have c19b0 : decide ((ji17) < (s0_0.length : Int)) = true := decide_eq_true c19
                    clear c19
                    by_cases c20 : a1 = 0
                    · rw [if_pos c20] at H
                      exact absurd H (by simp)
                    · rw [if_neg c20] at H
                      have c20b0 : (a1 == 0) = false := beq_eq_false_iff_ne.mpr c20
                      have c20b1 : (a1 != 0) = true := bne_iff_ne.mpr c20
                      simp only [Option.some.injEq, Prod.mk.injEq] at H
                      obtain ⟨rfl, rfl⟩ := H
                      obtain ⟨ASz21_0, cSz21_0, HGz21, hgz21, HSz21_0⟩ := HI0.out
                      have hcz21_0 := cellS102_0 HGz21
                      have hcz21_1 := cellS102_1 HGz21
                      have hfz21_1 := zg HGz21 1
                      clear HGz21 hgz21
                      have p196 : 0 ≤ ((ji14) : Int) := of_decide_eq_true (by first | (with_reducible assumption) | assumption)
                      have q196 : (ji14) < (s0_0.length : Int) := of_decide_eq_true (by first | (with_reducible assumption) | assumption)
                      obtain ⟨ad196, e196, hx196_0⟩ := Kd.xu HSz21_0 (ji14) p196 q196
                      cases e196
                      replace hx196_0 := zA HB.out hx196_0
                      replace p196 := eq_true p196
                      replace q196 := eq_true q196
                      have p197 : 0 ≤ ((ji17) : Int) := of_decide_eq_true (by first | (with_reducible assumption) | assumption)
                      have q197 : (ji17) < (s0_0.length : Int) := of_decide_eq_true (by first | (with_reducible assumption) | assumption)
                      obtain ⟨ad197, e197, hx197_0⟩ := Kd.xu HSz21_0 (ji17) p197 q197
                      obtain rfl : ad196 = ad197 := (by injection e197)
                      replace hx197_0 := zA HB.out hx197_0
                      replace p197 := eq_true p197
                      replace q197 := eq_true q197
                      go_wp2
                      repeat (go_quiet (fail); try go_wp2)
                      go_ret
                      exact ⟨by first | rfl | (simp [zr, zq] <;> rfl) | (simp only [← hji14, ← hji17]; first | rfl | (simp [zr, zq] <;> rfl)) | (simp [*, zr, zq] <;> rfl), by repeat (with_reducible first | exact HI0.out | apply ze.alloc | apply ze.drewN | apply ze.drew | apply ze.set_1), by repeat (with_reducible first | exact HB.out | apply zc | apply zb | apply zd | refine zh ?_ (ze.ge HI0.out)), by repeat (with_reducible first | exact HK.out | apply zk.set_ | apply zu | apply zz | apply zt)⟩
                  · rw [if_neg c19] at H
                    exact absurd H (by simp)
                · rw [if_neg c18] at H
                  exact absurd H (by simp)
              · rw [if_neg c16] at H
                exact absurd H (by simp)
            · rw [if_neg c15] at H
              exact absurd H (by simp)
end Go.Proofs.YtoeepmcaabmjkaaDoor.QPO
namespace Go.Proofs.YtoeepmcaabmjkaaDoor.QPO
open Go.RowKit Go.Proofs.YtoeepmcaabmjkaaDoorW.PrintWords Go.Proofs.YtoeepmcaabmjkaaDoorW.PrintLast Go.Proofs.YtoeepmcaabmjkaaDoorW.PrintMore
attribute [local go_sem] yz yx yQ yP yl yk yy yw   -- for this text's walks alone
set_option linter.unusedVariables false
set_option linter.unusedSimpArgs false
mutual
def zH.j0 : Nat → Int → Int → Bool → List Int → Int → Option (Int × Int × Int × Int)
  | 0, _, _, _, _, _ => none
  | k + 1, x1, x13, x14, x1000, x1001 => if x14 = true then ((zi.f k x1000 x1001 3).bind fun bt205 => ((zi.f k x1000 bt205.2 x1).bind fun bt207 => (some (1, bt205.1, bt207.1, bt207.2)))) else (if x13 = 4 then (zH.j1 k x1 x13 (x13 == 4) x1000 x1001) else (if x13 = 5 then (zH.j1 k x1 x13 (x13 == 5) x1000 x1001) else (zH.j1 k x1 x13 (x13 == 6) x1000 x1001)))
def zH.j1 : Nat → Int → Int → Bool → List Int → Int → Option (Int × Int × Int × Int)
  | 0, _, _, _, _, _ => none
  | k + 1, x1, x13, x25, x1000, x1001 => if x25 = true then ((zi.f k x1000 x1001 x1).bind fun bt209 => ((zi.f k x1000 bt209.2 3).bind fun bt211 => (some (2, bt209.1, bt211.1, bt211.2)))) else (if x13 = 7 then ((zi.f k x1000 x1001 3).bind fun bt213 => ((zi.f k x1000 bt213.2 8).bind fun bt215 => (some (3, bt213.1, bt215.1, bt215.2)))) else (if x13 = 8 then ((zi.f k x1000 x1001 3).bind fun bt217 => ((zi.f k x1000 bt217.2 3).bind fun bt219 => (some (4, bt217.1, bt219.1, bt219.2)))) else ((zi.f k x1000 x1001 3).bind fun bt221 => (some (5, bt221.1, 0, bt221.2)))))
end
def zH.f (k : Nat) (s0_0 : List Int) (s0_1 : Int) (a1 : Int) : Option (Int × Int × Int × Int) := if a1 = 0 then ((zi.f k s0_0 s0_1 3).bind fun bt199 => ((zi.f k s0_0 bt199.2 5).bind fun bt201 => (some (3, bt199.1, bt201.1, bt201.2)))) else ((zi.f k s0_0 s0_1 10).bind fun bt203 => (if bt203.1 = 0 then (zH.j0 k a1 bt203.1 (bt203.1 == 0) s0_0 bt203.2) else (if bt203.1 = 1 then (zH.j0 k a1 bt203.1 (bt203.1 == 1) s0_0 bt203.2) else (if bt203.1 = 2 then (zH.j0 k a1 bt203.1 (bt203.1 == 2) s0_0 bt203.2) else (zH.j0 k a1 bt203.1 (bt203.1 == 3) s0_0 bt203.2)))))
set_option maxHeartbeats 8000000 in
set_option maxRecDepth 100000 in
theorem zH.calls (k : Nat) (g : Nat) (s0_0 : List Int) (s0_1 : Int) (a1 : Int) (r1 : Int) (r2 : Int) (r3 : Int) (r4 : Int) (w0 w : World) (hI : ze w0 w g s0_0 s0_1) (hB : Below w0.heap.size w0 w) (h : zH.f k s0_0 s0_1 a1 = some (r1, r2, r3, r4)) :
    Calls Tryd.prog 93 #[.pointer (some ⟨g, 0, none⟩), .int .i64 a1] w fun e w' => e = .returned (.agg #[.int .i64 r1, .int .i64 r2, .int .i64 r3]) ∧ ze w0 w' g s0_0 r4 ∧ Below w0.heap.size w0 w' ∧ zk w w' g none := by
  have hu82 := Tryd.underlying82
  have HI0 := za.mk hI
  have HK := za.mk (zk.refl w g none)
  have HL := za.mk hB.size
  clear hI
  have HW0 := za.mk hB.size
  have HB := za.mk hB
  clear hB
  have H : (if a1 = 0 then ((zi.f k s0_0 s0_1 3).bind fun bt199 => ((zi.f k s0_0 bt199.2 5).bind fun bt201 => (some (3, bt199.1, bt201.1, bt201.2)))) else ((zi.f k s0_0 s0_1 10).bind fun bt203 => (if bt203.1 = 0 then (zH.j0 k a1 bt203.1 (bt203.1 == 0) s0_0 bt203.2) else (if bt203.1 = 1 then (zH.j0 k a1 bt203.1 (bt203.1 == 1) s0_0 bt203.2) else (if bt203.1 = 2 then (zH.j0 k a1 bt203.1 (bt203.1 == 2) s0_0 bt203.2) else (zH.j0 k a1 bt203.1 (bt203.1 == 3) s0_0 bt203.2)))))) = some (r1, r2, r3, r4) := h
  clear h
  by_cases c3 : a1 = 0
  · rw [if_pos c3] at H
    have c3b0 : (a1 == 0) = true := beq_iff_eq.mpr c3
    have c3b1 : (a1 != 0) = false := bne_eq_false_iff_eq.mpr c3
    clear c3
    replace H := Option.bind_eq_some_iff.mp H
    obtain ⟨⟨t199, t200⟩, A40, H⟩ := H
    replace H : ((zi.f k s0_0 t200 5).bind fun bt201 => (some (3, t199, bt201.1, bt201.2))) = some (r1, r2, r3, r4) := H
    have A4 := za.mk A40
    clear A40
    replace H := Option.bind_eq_some_iff.mp H
    obtain ⟨⟨t201, t202⟩, A50, H⟩ := H
    replace H : (some (3, t199, t201, t202)) = some (r1, r2, r3, r4) := H
    have A5 := za.mk A50
    clear A50
    simp only [Option.some.injEq, Prod.mk.injEq] at H
    obtain ⟨rfl, rfl, rfl, rfl⟩ := H
    go_enter Tryd.func93, Tryd.ntmps93
    go_wp2_with (first | ((with_reducible refine zY (N := 4) rfl ?_); refine ye ?hg (N := 4) ?hd (cs := #[.int .i64 0, .int .i64 0, .int .i64 0]) (t := 82) ?hr ?_; (case hd => rfl); (case hg => rfl); (case hr => first | (go_simp; done) | (go_simp; rfl)); intro gb198 hg w6 hbox hb; have n0_ := za.mk (ze.below (by repeat (with_reducible first | exact HI0.out | apply ze.alloc | apply ze.drewN | apply ze.drew | apply ze.set_1)) hb); have n1_ := za.mk (zk.trans (by repeat (with_reducible first | exact HK.out | apply zk.set_ | apply zu | apply zz | apply zt)) (zk.of_below hb g none) (.inl rfl)); have n2_ := za.mk (zp (by repeat (with_reducible first | exact HB.out | apply zc | apply zb | apply zd | refine zh ?_ (ze.ge HI0.out))) hb); have n3_ := za.mk (hbox); have n4_ := za.mk ((by rw [hg]; exact (z7 (w := w) (g := g) (row := none) (by repeat (with_reducible first | exact HK.out | apply zk.set_ | apply zu | apply zz | apply zt))) : w.heap.size ≤ gb198)); have n5_ := za.mk ((Nat.le_trans HW0.out (by rw [hg]; exact (z7 (w := w) (g := g) (row := none) (by repeat (with_reducible first | exact HK.out | apply zk.set_ | apply zu | apply zz | apply zt))) : w.heap.size ≤ gb198) : w0.heap.size ≤ gb198)); have n6_ := za.mk ((by rw [hg]; exact Nat.ne_of_lt (ze.lt (show ze w0 _ g s0_0 s0_1 from by repeat (with_reducible first | exact HI0.out | apply ze.alloc | apply ze.drewN | apply ze.drew | apply ze.set_1))) : g ≠ gb198)); have n7_ := za.mk ((by rw [hg]; exact Nat.ne_of_gt (ze.lt (show ze w0 _ g s0_0 s0_1 from by repeat (with_reducible first | exact HI0.out | apply ze.alloc | apply ze.drewN | apply ze.drew | apply ze.set_1))) : gb198 ≠ g)); clear HI0; clear HK; clear HB; have HI0 := n0_; have HK := n1_; have HB := n2_; have BK198 := n3_; have GW198 := n4_; have GE198 := n5_; have NB0_198 := n6_; have NB198_0 := n7_; clear n0_ n1_ n2_ n3_ n4_ n5_ n6_ n7_; clear hb hbox hg) | ((with_reducible refine zx (f := 56) rfl ?_); refine z6 (some 8) rfl rfl Tryd.func56 (by kernel_rfl) rfl #[.pointer (some ⟨g, 0, none⟩), .int .i64 3] rfl (by (try simp only [List.map_toArray, List.map_cons, List.map_nil]); first | done | rfl | (simp only [List.length_drop, List.length_take]; rfl)) ?_; (with_reducible refine (zi.calls k g s0_0 s0_1 3 t199 t200 w0 _ ?side1 ?side2 A4.out).mono ?_); (case side1 => repeat (with_reducible first | exact HI0.out | apply ze.alloc | apply ze.drewN | apply ze.drew | apply ze.set_1 | refine ze.far ?_ NB0_198.out _)); (case side2 => repeat (with_reducible first | exact HB.out | apply zc | apply zb | apply zd | refine zh ?_ (ze.ge HI0.out) | refine zh ?_ GE198.out)); rintro e w7 ⟨rfl, hi, hb, hk⟩; refine ⟨_, rfl, ?_⟩; have n0_ := za.mk (zk.blk hk (g' := gb198) (o := .cells #[.int .i64 0, .int .i64 0, .int .i64 0] 82 (0, 0)) (by (with_reducible repeat (first | refine zl ?_ _ | refine zm ?_ | refine zj ?_ _)); exact BK198.out) NB198_0.out (by simp)); have n1_ := za.mk (zk.trans (by repeat (with_reducible first | exact HK.out | apply zk.set_ | apply zu | apply zz | apply zt | refine yN ?_ GW198.out _)) hk (.inl rfl)); have n2_ := za.mk (hb); have n3_ := za.mk (hi); clear BK198; clear HK; clear HB; clear HI0; have BK198 := n0_; have HK := n1_; have HB := n2_; have HI0 := n3_; clear n0_ n1_ n2_ n3_; (try clear hb); (try clear hb2); (try clear hk); (try clear hi)) | ((with_reducible refine zx (f := 56) rfl ?_); refine z6 (some 10) rfl rfl Tryd.func56 (by kernel_rfl) rfl #[.pointer (some ⟨g, 0, none⟩), .int .i64 5] rfl (by (try simp only [List.map_toArray, List.map_cons, List.map_nil]); first | done | rfl | (simp only [List.length_drop, List.length_take]; rfl)) ?_; (with_reducible refine (zi.calls k g s0_0 t200 5 t201 t202 w0 _ ?side1 ?side2 A5.out).mono ?_); (case side1 => repeat (with_reducible first | exact HI0.out | apply ze.alloc | apply ze.drewN | apply ze.drew | apply ze.set_1 | refine ze.far ?_ NB0_198.out _)); (case side2 => repeat (with_reducible first | exact HB.out | apply zc | apply zb | apply zd | refine zh ?_ (ze.ge HI0.out) | refine zh ?_ GE198.out)); rintro e w8 ⟨rfl, hi, hb, hk⟩; refine ⟨_, rfl, ?_⟩; have n0_ := za.mk (zk.blk hk (g' := gb198) (o := .cells #[.int .i64 0, .int .i64 0, .int .i64 0] 82 (0, 0)) (by (with_reducible repeat (first | refine zl ?_ _ | refine zm ?_ | refine zj ?_ _)); exact BK198.out) NB198_0.out (by simp)); have n1_ := za.mk (zk.trans (by repeat (with_reducible first | exact HK.out | apply zk.set_ | apply zu | apply zz | apply zt | refine yN ?_ GW198.out _)) hk (.inl rfl)); have n2_ := za.mk (hb); have n3_ := za.mk (hi); clear BK198; clear HK; clear HB; clear HI0; have BK198 := n0_; have HK := n1_; have HB := n2_; have HI0 := n3_; clear n0_ n1_ n2_ n3_; (try clear hb); (try clear hb2); (try clear hk); (try clear hi); have hnb9 := NB198_0.out; have hnc9 := NB0_198.out; have hcz10_0 : w8.cell? ⟨gb198, 0, none⟩ = some (.int .i64 0) := (zf BK198.out 0).trans rfl; have hcz10_1 : w8.cell? ⟨gb198, 1, none⟩ = some (.int .i64 0) := (zf BK198.out 1).trans rfl; have hcz10_2 : w8.cell? ⟨gb198, 2, none⟩ = some (.int .i64 0) := (zf BK198.out 2).trans rfl; have hfz10_0 := zg BK198.out 0; have hfz10_1 := zg BK198.out 1; have hfz10_2 := zg BK198.out 2))
    refine bodyPost_ret (results_cell_row rfl _ _ gb198 82 #[.int .i64 3, .int .i64 t199, .int .i64 t201] (0, 0) _ rfl (by (with_reducible repeat (first | refine zl ?_ _ | refine zm ?_ | refine zj ?_ _)); refine yH (cs := #[.int .i64 3, .int .i64 t199, .int .i64 0]) ?_ 2 _ rfl; (with_reducible repeat (first | refine zl ?_ _ | refine zm ?_ | refine zj ?_ _)); refine yH (cs := #[.int .i64 3, .int .i64 0, .int .i64 0]) ?_ 1 _ rfl; (with_reducible repeat (first | refine zl ?_ _ | refine zm ?_ | refine zj ?_ _)); refine yH (cs := #[.int .i64 0, .int .i64 0, .int .i64 0]) ?_ 0 _ rfl; (with_reducible repeat (first | refine zl ?_ _ | refine zm ?_ | refine zj ?_ _)); exact BK198.out) Tryd.underlying82 rfl (by kernel_rfl)) rfl ?_
    exact ⟨by first | rfl | (simp [zr, zq] <;> rfl) | (simp [*, zr, zq] <;> rfl), by repeat (with_reducible first | exact HI0.out | apply ze.alloc | apply ze.drewN | apply ze.drew | apply ze.set_1 | refine ze.far ?_ NB0_198.out _), by repeat (with_reducible first | exact HB.out | apply zc | apply zb | apply zd | refine zh ?_ (ze.ge HI0.out) | refine zh ?_ GE198.out), by repeat (with_reducible first | exact HK.out | apply zk.set_ | apply zu | apply zz | apply zt | refine yN ?_ GW198.out _)⟩
  · rw [if_neg c3] at H
    have c3b0 : (a1 == 0) = false := beq_eq_false_iff_ne.mpr c3
    have c3b1 : (a1 != 0) = true := bne_iff_ne.mpr c3
    replace H := Option.bind_eq_some_iff.mp H
    obtain ⟨⟨t203, t204⟩, A110, H⟩ := H
    replace H : (if t203 = 0 then (zH.j0 k a1 t203 (t203 == 0) s0_0 t204) else (if t203 = 1 then (zH.j0 k a1 t203 (t203 == 1) s0_0 t204) else (if t203 = 2 then (zH.j0 k a1 t203 (t203 == 2) s0_0 t204) else (zH.j0 k a1 t203 (t203 == 3) s0_0 t204)))) = some (r1, r2, r3, r4) := H
    have A11 := za.mk A110
    clear A110
    have HC12 := za.mk H
    clear H
    go_enter Tryd.func93, Tryd.ntmps93
    go_upto_if 14 with (first | ((with_reducible refine zY (N := 4) rfl ?_); refine ye ?hg (N := 4) ?hd (cs := #[.int .i64 0, .int .i64 0, .int .i64 0]) (t := 82) ?hr ?_; (case hd => rfl); (case hg => rfl); (case hr => first | (go_simp; done) | (go_simp; rfl)); intro gb198 hg w13 hbox hb; have n0_ := za.mk (ze.below (by repeat (with_reducible first | exact HI0.out | apply ze.alloc | apply ze.drewN | apply ze.drew | apply ze.set_1)) hb); have n1_ := za.mk (zk.trans (by repeat (with_reducible first | exact HK.out | apply zk.set_ | apply zu | apply zz | apply zt)) (zk.of_below hb g none) (.inl rfl)); have n2_ := za.mk (zp (by repeat (with_reducible first | exact HB.out | apply zc | apply zb | apply zd | refine zh ?_ (ze.ge HI0.out))) hb); have n3_ := za.mk (hbox); have n4_ := za.mk ((by rw [hg]; exact (z7 (w := w) (g := g) (row := none) (by repeat (with_reducible first | exact HK.out | apply zk.set_ | apply zu | apply zz | apply zt))) : w.heap.size ≤ gb198)); have n5_ := za.mk ((Nat.le_trans HW0.out (by rw [hg]; exact (z7 (w := w) (g := g) (row := none) (by repeat (with_reducible first | exact HK.out | apply zk.set_ | apply zu | apply zz | apply zt))) : w.heap.size ≤ gb198) : w0.heap.size ≤ gb198)); have n6_ := za.mk ((by rw [hg]; exact Nat.ne_of_lt (ze.lt (show ze w0 _ g s0_0 s0_1 from by repeat (with_reducible first | exact HI0.out | apply ze.alloc | apply ze.drewN | apply ze.drew | apply ze.set_1))) : g ≠ gb198)); have n7_ := za.mk ((by rw [hg]; exact Nat.ne_of_gt (ze.lt (show ze w0 _ g s0_0 s0_1 from by repeat (with_reducible first | exact HI0.out | apply ze.alloc | apply ze.drewN | apply ze.drew | apply ze.set_1))) : gb198 ≠ g)); clear HI0; clear HK; clear HB; have HI0 := n0_; have HK := n1_; have HB := n2_; have BK198 := n3_; have GW198 := n4_; have GE198 := n5_; have NB0_198 := n6_; have NB198_0 := n7_; clear n0_ n1_ n2_ n3_ n4_ n5_ n6_ n7_; clear hb hbox hg) | ((with_reducible refine zx (f := 56) rfl ?_); refine z6 (some 13) rfl rfl Tryd.func56 (by kernel_rfl) rfl #[.pointer (some ⟨g, 0, none⟩), .int .i64 10] rfl (by (try simp only [List.map_toArray, List.map_cons, List.map_nil]); first | done | rfl | (simp only [List.length_drop, List.length_take]; rfl)) ?_; (with_reducible refine (zi.calls k g s0_0 s0_1 10 t203 t204 w0 _ ?side1 ?side2 A11.out).mono ?_); (case side1 => repeat (with_reducible first | exact HI0.out | apply ze.alloc | apply ze.drewN | apply ze.drew | apply ze.set_1 | refine ze.far ?_ NB0_198.out _)); (case side2 => repeat (with_reducible first | exact HB.out | apply zc | apply zb | apply zd | refine zh ?_ (ze.ge HI0.out) | refine zh ?_ GE198.out)); rintro e w14 ⟨rfl, hi, hb, hk⟩; refine ⟨_, rfl, ?_⟩; have n0_ := za.mk (zk.blk hk (g' := gb198) (o := .cells #[.int .i64 0, .int .i64 0, .int .i64 0] 82 (0, 0)) (by (with_reducible repeat (first | refine zl ?_ _ | refine zm ?_ | refine zj ?_ _)); exact BK198.out) NB198_0.out (by simp)); have n1_ := za.mk (zk.trans (by repeat (with_reducible first | exact HK.out | apply zk.set_ | apply zu | apply zz | apply zt | refine yN ?_ GW198.out _)) hk (.inl rfl)); have n2_ := za.mk (hb); have n3_ := za.mk (hi); clear BK198; clear HK; clear HB; clear HI0; have BK198 := n0_; have HK := n1_; have HB := n2_; have HI0 := n3_; clear n0_ n1_ n2_ n3_; (try clear hb); (try clear hb2); (try clear hk); (try clear hi)))
    (try simp only [Act.put, List.setIfInBounds_toArray, List.set_cons_zero, List.set_cons_succ])
    go_cut [14] (fun v14 wc => ∃ (kq : Nat) (x14_11 : Bool), v14 = .bool x14_11 ∧ za (zH.j0 kq a1 t203 x14_11 s0_0 t204 = some (r1, r2, r3, r4)) ∧ za (kq ≤ k) ∧ za (wc.heap[gb198]? = some (.cells #[.int .i64 0, .int .i64 0, .int .i64 0] 82 (0, 0))) ∧ za (ze w0 wc g s0_0 t204) ∧ za (zk w wc g none) ∧ za (Below w0.heap.size w0 wc))
    case first =>
      have H := HC12.out
      clear HC12
      by_cases c15 : t203 = 0
      · rw [if_pos c15] at H
        have c15b0 : (t203 == 0) = true := beq_iff_eq.mpr c15
        have c15b1 : (t203 != 0) = false := bne_eq_false_iff_eq.mpr c15
        clear c15
        (first | rw [c15b0] | (simp only [zn, zo]; rw [c15b0]) | skip)
        have H' := za.mk H
        clear H
        go_wp2
        go_meet
        case rel => exact ⟨_, ((t203 == 0)), (by first | rfl | (simp; done) | (simp [*]; done)), H', ⟨by first | omega | exact Nat.le_refl _⟩, ⟨by (with_reducible repeat (first | refine zl ?_ _ | refine zm ?_ | refine zj ?_ _)); exact BK198.out⟩, ⟨by repeat (with_reducible first | exact HI0.out | apply ze.alloc | apply ze.drewN | apply ze.drew | apply ze.set_1 | refine ze.far ?_ NB0_198.out _)⟩, ⟨by repeat (with_reducible first | exact HK.out | apply zk.set_ | apply zu | apply zz | apply zt | refine yN ?_ GW198.out _)⟩, ⟨by repeat (with_reducible first | exact HB.out | apply zc | apply zb | apply zd | refine zh ?_ (ze.ge HI0.out) | refine zh ?_ GE198.out)⟩⟩
      · rw [if_neg c15] at H
        have c15b0 : (t203 == 0) = false := beq_eq_false_iff_ne.mpr c15
        have c15b1 : (t203 != 0) = true := bne_iff_ne.mpr c15
        (first | rw [c15b0] | (simp only [zn, zo]; rw [c15b0]) | skip)
        by_cases c16 : t203 = 1
        · rw [if_pos c16] at H
          have c16b0 : (t203 == 1) = true := beq_iff_eq.mpr c16
          have c16b1 : (t203 != 1) = false := bne_eq_false_iff_eq.mpr c16
          clear c16
          have H' := za.mk H
          clear H
          go_wp2
          go_meet
          case rel => exact ⟨_, ((t203 == 1)), (by first | rfl | (simp; done) | (simp [*]; done)), H', ⟨by first | omega | exact Nat.le_refl _⟩, ⟨by (with_reducible repeat (first | refine zl ?_ _ | refine zm ?_ | refine zj ?_ _)); exact BK198.out⟩, ⟨by repeat (with_reducible first | exact HI0.out | apply ze.alloc | apply ze.drewN | apply ze.drew | apply ze.set_1 | refine ze.far ?_ NB0_198.out _)⟩, ⟨by repeat (with_reducible first | exact HK.out | apply zk.set_ | apply zu | apply zz | apply zt | refine yN ?_ GW198.out _)⟩, ⟨by repeat (with_reducible first | exact HB.out | apply zc | apply zb | apply zd | refine zh ?_ (ze.ge HI0.out) | refine zh ?_ GE198.out)⟩⟩
        · rw [if_neg c16] at H
          have c16b0 : (t203 == 1) = false := beq_eq_false_iff_ne.mpr c16
          have c16b1 : (t203 != 1) = true := bne_iff_ne.mpr c16
          by_cases c17 : t203 = 2
          · rw [if_pos c17] at H
            have c17b0 : (t203 == 2) = true := beq_iff_eq.mpr c17
            have c17b1 : (t203 != 2) = false := bne_eq_false_iff_eq.mpr c17
            clear c17
            have H' := za.mk H
            clear H
            go_wp2
            go_meet
            case rel => exact ⟨_, ((t203 == 2)), (by first | rfl | (simp; done) | (simp [*]; done)), H', ⟨by first | omega | exact Nat.le_refl _⟩, ⟨by (with_reducible repeat (first | refine zl ?_ _ | refine zm ?_ | refine zj ?_ _)); exact BK198.out⟩, ⟨by repeat (with_reducible first | exact HI0.out | apply ze.alloc | apply ze.drewN | apply ze.drew | apply ze.set_1 | refine ze.far ?_ NB0_198.out _)⟩, ⟨by repeat (with_reducible first | exact HK.out | apply zk.set_ | apply zu | apply zz | apply zt | refine yN ?_ GW198.out _)⟩, ⟨by repeat (with_reducible first | exact HB.out | apply zc | apply zb | apply zd | refine zh ?_ (ze.ge HI0.out) | refine zh ?_ GE198.out)⟩⟩
          · rw [if_neg c17] at H
            have c17b0 : (t203 == 2) = false := beq_eq_false_iff_ne.mpr c17
            have c17b1 : (t203 != 2) = true := bne_iff_ne.mpr c17
            have H' := za.mk H
            clear H
            go_wp2
            go_meet
            case rel => exact ⟨_, ((t203 == 3)), (by first | rfl | (simp; done) | (simp [*]; done)), H', ⟨by first | omega | exact Nat.le_refl _⟩, ⟨by (with_reducible repeat (first | refine zl ?_ _ | refine zm ?_ | refine zj ?_ _)); exact BK198.out⟩, ⟨by repeat (with_reducible first | exact HI0.out | apply ze.alloc | apply ze.drewN | apply ze.drew | apply ze.set_1 | refine ze.far ?_ NB0_198.out _)⟩, ⟨by repeat (with_reducible first | exact HK.out | apply zk.set_ | apply zu | apply zz | apply zt | refine yN ?_ GW198.out _)⟩, ⟨by repeat (with_reducible first | exact HB.out | apply zc | apply zb | apply zd | refine zh ?_ (ze.ge HI0.out) | refine zh ?_ GE198.out)⟩⟩
    case rest =>
      clear HC12
      try clear c1
      try clear p2
      try clear c3
      try clear c3b0
      try clear c3b1
      try clear c5
      try clear c9
      try clear c15
      try clear c15b0
      try clear c15b1
      try clear c16
      try clear c16b0
      try clear c16b1
      try clear c17
      try clear c17b0
      try clear c17b1
      try clear hcz10_0
      try clear hcz10_1
      try clear hcz10_2
      try clear hfz10_0
      try clear hfz10_1
      try clear hfz10_2
      obtain ⟨kq, x14_11, rfl, HA, HJ11, BK198, HI0, HK, HB⟩ := hcut
      cases kq with
      | zero => exact absurd HA.out (by simp [zH.j0])
      | succ kj11 =>
        have H := HA.out
        clear HA
        simp only [zH.j0] at H
        by_cases c18 : x14_11 = true
        · subst c18
          have H1 : ((zi.f kj11 s0_0 t204 3).bind fun bt205 => ((zi.f kj11 s0_0 bt205.2 a1).bind fun bt207 => (some (1, bt205.1, bt207.1, bt207.2)))) = some (r1, r2, r3, r4) := by rw [if_pos rfl] at H; exact H
          clear H
          have H := H1
          clear H1
          replace H := Option.bind_eq_some_iff.mp H
          obtain ⟨⟨t205, t206⟩, A190, H⟩ := H
          replace H : ((zi.f kj11 s0_0 t206 a1).bind fun bt207 => (some (1, t205, bt207.1, bt207.2))) = some (r1, r2, r3, r4) := H
          have A19 := za.mk A190
          clear A190
          replace H := Option.bind_eq_some_iff.mp H
          obtain ⟨⟨t207, t208⟩, A200, H⟩ := H
          replace H : (some (1, t205, t207, t208)) = some (r1, r2, r3, r4) := H
          have A20 := za.mk A200
          clear A200
          simp only [Option.some.injEq, Prod.mk.injEq] at H
          obtain ⟨rfl, rfl, rfl, rfl⟩ := H
          go_wp2_with (first | ((with_reducible refine zx (f := 56) rfl ?_); refine z6 (some 20) rfl rfl Tryd.func56 (by kernel_rfl) rfl #[.pointer (some ⟨g, 0, none⟩), .int .i64 3] rfl (by (try simp only [List.map_toArray, List.map_cons, List.map_nil]); first | done | rfl | (simp only [List.length_drop, List.length_take]; rfl)) ?_; (with_reducible refine (zi.calls kj11 g s0_0 t204 3 t205 t206 w0 _ ?side1 ?side2 A19.out).mono ?_); (case side1 => repeat (with_reducible first | exact HI0.out | apply ze.alloc | apply ze.drewN | apply ze.drew | apply ze.set_1 | refine ze.far ?_ NB0_198.out _)); (case side2 => repeat (with_reducible first | exact HB.out | apply zc | apply zb | apply zd | refine zh ?_ (ze.ge HI0.out) | refine zh ?_ GE198.out)); rintro e w21 ⟨rfl, hi, hb, hk⟩; refine ⟨_, rfl, ?_⟩; have n0_ := za.mk (zk.blk hk (g' := gb198) (o := .cells #[.int .i64 0, .int .i64 0, .int .i64 0] 82 (0, 0)) (by (with_reducible repeat (first | refine zl ?_ _ | refine zm ?_ | refine zj ?_ _)); exact BK198.out) NB198_0.out (by simp)); have n1_ := za.mk (zk.trans (by repeat (with_reducible first | exact HK.out | apply zk.set_ | apply zu | apply zz | apply zt | refine yN ?_ GW198.out _)) hk (.inl rfl)); have n2_ := za.mk (hb); have n3_ := za.mk (hi); clear BK198; clear HK; clear HB; clear HI0; have BK198 := n0_; have HK := n1_; have HB := n2_; have HI0 := n3_; clear n0_ n1_ n2_ n3_; (try clear hb); (try clear hb2); (try clear hk); (try clear hi)) | ((with_reducible refine zx (f := 56) rfl ?_); refine z6 (some 23) rfl rfl Tryd.func56 (by kernel_rfl) rfl #[.pointer (some ⟨g, 0, none⟩), .int .i64 a1] rfl (by (try simp only [List.map_toArray, List.map_cons, List.map_nil]); first | done | rfl | (simp only [List.length_drop, List.length_take]; rfl)) ?_; (with_reducible refine (zi.calls kj11 g s0_0 t206 a1 t207 t208 w0 _ ?side1 ?side2 A20.out).mono ?_); (case side1 => repeat (with_reducible first | exact HI0.out | apply ze.alloc | apply ze.drewN | apply ze.drew | apply ze.set_1 | refine ze.far ?_ NB0_198.out _)); (case side2 => repeat (with_reducible first | exact HB.out | apply zc | apply zb | apply zd | refine zh ?_ (ze.ge HI0.out) | refine zh ?_ GE198.out)); rintro e w22 ⟨rfl, hi, hb, hk⟩; refine ⟨_, rfl, ?_⟩; have n0_ := za.mk (zk.blk hk (g' := gb198) (o := .cells #[.int .i64 0, .int .i64 0, .int .i64 0] 82 (0, 0)) (by (with_reducible repeat (first | refine zl ?_ _ | refine zm ?_ | refine zj ?_ _)); exact BK198.out) NB198_0.out (by simp)); have n1_ := za.mk (zk.trans (by repeat (with_reducible first | exact HK.out | apply zk.set_ | apply zu | apply zz | apply zt | refine yN ?_ GW198.out _)) hk (.inl rfl)); have n2_ := za.mk (hb); have n3_ := za.mk (hi); clear BK198; clear HK; clear HB; clear HI0; have BK198 := n0_; have HK := n1_; have HB := n2_; have HI0 := n3_; clear n0_ n1_ n2_ n3_; (try clear hb); (try clear hb2); (try clear hk); (try clear hi); have hnb23 := NB198_0.out; have hnc23 := NB0_198.out; have hcz24_0 : w22.cell? ⟨gb198, 0, none⟩ = some (.int .i64 0) := (zf BK198.out 0).trans rfl; have hcz24_1 : w22.cell? ⟨gb198, 1, none⟩ = some (.int .i64 0) := (zf BK198.out 1).trans rfl; have hcz24_2 : w22.cell? ⟨gb198, 2, none⟩ = some (.int .i64 0) := (zf BK198.out 2).trans rfl; have hfz24_0 := zg BK198.out 0; have hfz24_1 := zg BK198.out 1; have hfz24_2 := zg BK198.out 2))
          refine bodyPost_ret (results_cell_row rfl _ _ gb198 82 #[.int .i64 1, .int .i64 t205, .int .i64 t207] (0, 0) _ rfl (by (with_reducible repeat (first | refine zl ?_ _ | refine zm ?_ | refine zj ?_ _)); refine yH (cs := #[.int .i64 1, .int .i64 t205, .int .i64 0]) ?_ 2 _ rfl; (with_reducible repeat (first | refine zl ?_ _ | refine zm ?_ | refine zj ?_ _)); refine yH (cs := #[.int .i64 1, .int .i64 0, .int .i64 0]) ?_ 1 _ rfl; (with_reducible repeat (first | refine zl ?_ _ | refine zm ?_ | refine zj ?_ _)); refine yH (cs := #[.int .i64 0, .int .i64 0, .int .i64 0]) ?_ 0 _ rfl; (with_reducible repeat (first | refine zl ?_ _ | refine zm ?_ | refine zj ?_ _)); exact BK198.out) Tryd.underlying82 rfl (by kernel_rfl)) rfl ?_
          exact ⟨by first | rfl | (simp [zr, zq] <;> rfl) | (simp [*, zr, zq] <;> rfl), by repeat (with_reducible first | exact HI0.out | apply ze.alloc | apply ze.drewN | apply ze.drew | apply ze.set_1 | refine ze.far ?_ NB0_198.out _), by repeat (with_reducible first | exact HB.out | apply zc | apply zb | apply zd | refine zh ?_ (ze.ge HI0.out) | refine zh ?_ GE198.out), by repeat (with_reducible first | exact HK.out | apply zk.set_ | apply zu | apply zz | apply zt | refine yN ?_ GW198.out _)⟩
        · replace c18 := Bool.eq_false_iff.mpr c18
          subst c18
          have H1 : (if t203 = 4 then (zH.j1 kj11 a1 t203 (t203 == 4) s0_0 t204) else (if t203 = 5 then (zH.j1 kj11 a1 t203 (t203 == 5) s0_0 t204) else (zH.j1 kj11 a1 t203 (t203 == 6) s0_0 t204))) = some (r1, r2, r3, r4) := by rw [if_neg (show ¬ (false = true) by decide)] at H; exact H
          clear H
          have H := H1
          clear H1
          have HC25 := za.mk H
          clear H
          go_upto_if 25 with (fail)
          go_cut [25] (fun v25 wc => ∃ (kq : Nat) (x25_24 : Bool), v25 = .bool x25_24 ∧ za (zH.j1 kq a1 t203 x25_24 s0_0 t204 = some (r1, r2, r3, r4)) ∧ za (kq ≤ kj11) ∧ za (wc.heap[gb198]? = some (.cells #[.int .i64 0, .int .i64 0, .int .i64 0] 82 (0, 0))) ∧ za (ze w0 wc g s0_0 t204) ∧ za (zk w wc g none) ∧ za (Below w0.heap.size w0 wc))
          case first =>
            have H := HC25.out
            clear HC25
            by_cases c26 : t203 = 4
            · rw [if_pos c26] at H
              have c26b0 : (t203 == 4) = true := beq_iff_eq.mpr c26
              have c26b1 : (t203 != 4) = false := bne_eq_false_iff_eq.mpr c26
              clear c26
              (first | rw [c26b0] | (simp only [zn, zo]; rw [c26b0]) | skip)
              have H' := za.mk H
              clear H
              go_wp2
              go_meet
              case rel => exact ⟨_, ((t203 == 4)), (by first | rfl | (simp; done) | (simp [*]; done)), H', ⟨by have := HJ11.out; first | omega | exact Nat.le_refl _⟩, ⟨by (with_reducible repeat (first | refine zl ?_ _ | refine zm ?_ | refine zj ?_ _)); exact BK198.out⟩, ⟨by repeat (with_reducible first | exact HI0.out | apply ze.alloc | apply ze.drewN | apply ze.drew | apply ze.set_1 | refine ze.far ?_ NB0_198.out _)⟩, ⟨by repeat (with_reducible first | exact HK.out | apply zk.set_ | apply zu | apply zz | apply zt | refine yN ?_ GW198.out _)⟩, ⟨by repeat (with_reducible first | exact HB.out | apply zc | apply zb | apply zd | refine zh ?_ (ze.ge HI0.out) | refine zh ?_ GE198.out)⟩⟩
            · rw [if_neg c26] at H
              have c26b0 : (t203 == 4) = false := beq_eq_false_iff_ne.mpr c26
              have c26b1 : (t203 != 4) = true := bne_iff_ne.mpr c26
              (first | rw [c26b0] | (simp only [zn, zo]; rw [c26b0]) | skip)
              by_cases c27 : t203 = 5
              · rw [if_pos c27] at H
                have c27b0 : (t203 == 5) = true := beq_iff_eq.mpr c27
                have c27b1 : (t203 != 5) = false := bne_eq_false_iff_eq.mpr c27
                clear c27
                have H' := za.mk H
                clear H
                go_wp2
                go_meet
                case rel => exact ⟨_, ((t203 == 5)), (by first | rfl | (simp; done) | (simp [*]; done)), H', ⟨by have := HJ11.out; first | omega | exact Nat.le_refl _⟩, ⟨by (with_reducible repeat (first | refine zl ?_ _ | refine zm ?_ | refine zj ?_ _)); exact BK198.out⟩, ⟨by repeat (with_reducible first | exact HI0.out | apply ze.alloc | apply ze.drewN | apply ze.drew | apply ze.set_1 | refine ze.far ?_ NB0_198.out _)⟩, ⟨by repeat (with_reducible first | exact HK.out | apply zk.set_ | apply zu | apply zz | apply zt | refine yN ?_ GW198.out _)⟩, ⟨by repeat (with_reducible first | exact HB.out | apply zc | apply zb | apply zd | refine zh ?_ (ze.ge HI0.out) | refine zh ?_ GE198.out)⟩⟩
              · rw [if_neg c27] at H
                have c27b0 : (t203 == 5) = false := beq_eq_false_iff_ne.mpr c27
                have c27b1 : (t203 != 5) = true := bne_iff_ne.mpr c27
                have H' := za.mk H
                clear H
                go_wp2
                go_meet
                case rel => exact ⟨_, ((t203 == 6)), (by first | rfl | (simp; done) | (simp [*]; done)), H', ⟨by have := HJ11.out; first | omega | exact Nat.le_refl _⟩, ⟨by (with_reducible repeat (first | refine zl ?_ _ | refine zm ?_ | refine zj ?_ _)); exact BK198.out⟩, ⟨by repeat (with_reducible first | exact HI0.out | apply ze.alloc | apply ze.drewN | apply ze.drew | apply ze.set_1 | refine ze.far ?_ NB0_198.out _)⟩, ⟨by repeat (with_reducible first | exact HK.out | apply zk.set_ | apply zu | apply zz | apply zt | refine yN ?_ GW198.out _)⟩, ⟨by repeat (with_reducible first | exact HB.out | apply zc | apply zb | apply zd | refine zh ?_ (ze.ge HI0.out) | refine zh ?_ GE198.out)⟩⟩
          case rest =>
            clear HC25
            try clear c1
            try clear c2
            try clear p2
            try clear c3
            try clear c3b0
            try clear c3b1
            try clear c5
            try clear c9
            try clear c15
            try clear c15b0
            try clear c15b1
            try clear c16
            try clear c16b0
            try clear c16b1
            try clear c17
            try clear c17b0
            try clear c17b1
            try clear c18
            try clear c23
            try clear c26
            try clear c26b0
            try clear c26b1
            try clear c27
            try clear c27b0
            try clear c27b1
            try clear hcz10_0
            try clear hcz10_1
            try clear hcz10_2
            try clear hcz24_0
            try clear hcz24_1
            try clear hcz24_2
            try clear hfz10_0
            try clear hfz10_1
            try clear hfz10_2
            try clear hfz24_0
            try clear hfz24_1
            try clear hfz24_2
            try clear p2
            obtain ⟨kq, x25_24, rfl, HA, HJ24, BK198, HI0, HK, HB⟩ := hcut
            cases kq with
            | zero => exact absurd HA.out (by simp [zH.j1])
            | succ kj24 =>
              have H := HA.out
              clear HA
              simp only [zH.j1] at H
              by_cases c28 : x25_24 = true
              · subst c28
                have H1 : ((zi.f kj24 s0_0 t204 a1).bind fun bt209 => ((zi.f kj24 s0_0 bt209.2 3).bind fun bt211 => (some (2, bt209.1, bt211.1, bt211.2)))) = some (r1, r2, r3, r4) := by rw [if_pos rfl] at H; exact H
                clear H
                have H := H1
                clear H1
                replace H := Option.bind_eq_some_iff.mp H
                obtain ⟨⟨t209, t210⟩, A290, H⟩ := H
                replace H : ((zi.f kj24 s0_0 t210 3).bind fun bt211 => (some (2, t209, bt211.1, bt211.2))) = some (r1, r2, r3, r4) := H
                have A29 := za.mk A290
                clear A290
                replace H := Option.bind_eq_some_iff.mp H
                obtain ⟨⟨t211, t212⟩, A300, H⟩ := H
                replace H : (some (2, t209, t211, t212)) = some (r1, r2, r3, r4) := H
                have A30 := za.mk A300
                clear A300
                simp only [Option.some.injEq, Prod.mk.injEq] at H
                obtain ⟨rfl, rfl, rfl, rfl⟩ := H
                go_wp2_with (first | ((with_reducible refine zx (f := 56) rfl ?_); refine z6 (some 31) rfl rfl Tryd.func56 (by kernel_rfl) rfl #[.pointer (some ⟨g, 0, none⟩), .int .i64 a1] rfl (by (try simp only [List.map_toArray, List.map_cons, List.map_nil]); first | done | rfl | (simp only [List.length_drop, List.length_take]; rfl)) ?_; (with_reducible refine (zi.calls kj24 g s0_0 t204 a1 t209 t210 w0 _ ?side1 ?side2 A29.out).mono ?_); (case side1 => repeat (with_reducible first | exact HI0.out | apply ze.alloc | apply ze.drewN | apply ze.drew | apply ze.set_1 | refine ze.far ?_ NB0_198.out _)); (case side2 => repeat (with_reducible first | exact HB.out | apply zc | apply zb | apply zd | refine zh ?_ (ze.ge HI0.out) | refine zh ?_ GE198.out)); rintro e w31 ⟨rfl, hi, hb, hk⟩; refine ⟨_, rfl, ?_⟩; have n0_ := za.mk (zk.blk hk (g' := gb198) (o := .cells #[.int .i64 0, .int .i64 0, .int .i64 0] 82 (0, 0)) (by (with_reducible repeat (first | refine zl ?_ _ | refine zm ?_ | refine zj ?_ _)); exact BK198.out) NB198_0.out (by simp)); have n1_ := za.mk (zk.trans (by repeat (with_reducible first | exact HK.out | apply zk.set_ | apply zu | apply zz | apply zt | refine yN ?_ GW198.out _)) hk (.inl rfl)); have n2_ := za.mk (hb); have n3_ := za.mk (hi); clear BK198; clear HK; clear HB; clear HI0; have BK198 := n0_; have HK := n1_; have HB := n2_; have HI0 := n3_; clear n0_ n1_ n2_ n3_; (try clear hb); (try clear hb2); (try clear hk); (try clear hi)) | ((with_reducible refine zx (f := 56) rfl ?_); refine z6 (some 33) rfl rfl Tryd.func56 (by kernel_rfl) rfl #[.pointer (some ⟨g, 0, none⟩), .int .i64 3] rfl (by (try simp only [List.map_toArray, List.map_cons, List.map_nil]); first | done | rfl | (simp only [List.length_drop, List.length_take]; rfl)) ?_; (with_reducible refine (zi.calls kj24 g s0_0 t210 3 t211 t212 w0 _ ?side1 ?side2 A30.out).mono ?_); (case side1 => repeat (with_reducible first | exact HI0.out | apply ze.alloc | apply ze.drewN | apply ze.drew | apply ze.set_1 | refine ze.far ?_ NB0_198.out _)); (case side2 => repeat (with_reducible first | exact HB.out | apply zc | apply zb | apply zd | refine zh ?_ (ze.ge HI0.out) | refine zh ?_ GE198.out)); rintro e w32 ⟨rfl, hi, hb, hk⟩; refine ⟨_, rfl, ?_⟩; have n0_ := za.mk (zk.blk hk (g' := gb198) (o := .cells #[.int .i64 0, .int .i64 0, .int .i64 0] 82 (0, 0)) (by (with_reducible repeat (first | refine zl ?_ _ | refine zm ?_ | refine zj ?_ _)); exact BK198.out) NB198_0.out (by simp)); have n1_ := za.mk (zk.trans (by repeat (with_reducible first | exact HK.out | apply zk.set_ | apply zu | apply zz | apply zt | refine yN ?_ GW198.out _)) hk (.inl rfl)); have n2_ := za.mk (hb); have n3_ := za.mk (hi); clear BK198; clear HK; clear HB; clear HI0; have BK198 := n0_; have HK := n1_; have HB := n2_; have HI0 := n3_; clear n0_ n1_ n2_ n3_; (try clear hb); (try clear hb2); (try clear hk); (try clear hi); have hnb33 := NB198_0.out; have hnc33 := NB0_198.out; have hcz34_0 : w32.cell? ⟨gb198, 0, none⟩ = some (.int .i64 0) := (zf BK198.out 0).trans rfl; have hcz34_1 : w32.cell? ⟨gb198, 1, none⟩ = some (.int .i64 0) := (zf BK198.out 1).trans rfl; have hcz34_2 : w32.cell? ⟨gb198, 2, none⟩ = some (.int .i64 0) := (zf BK198.out 2).trans rfl; have hfz34_0 := zg BK198.out 0; have hfz34_1 := zg BK198.out 1; have hfz34_2 := zg BK198.out 2))
                refine bodyPost_ret (results_cell_row rfl _ _ gb198 82 #[.int .i64 2, .int .i64 t209, .int .i64 t211] (0, 0) _ rfl (by (with_reducible repeat (first | refine zl ?_ _ | refine zm ?_ | refine zj ?_ _)); refine yH (cs := #[.int .i64 2, .int .i64 t209, .int .i64 0]) ?_ 2 _ rfl; (with_reducible repeat (first | refine zl ?_ _ | refine zm ?_ | refine zj ?_ _)); refine yH (cs := #[.int .i64 2, .int .i64 0, .int .i64 0]) ?_ 1 _ rfl; (with_reducible repeat (first | refine zl ?_ _ | refine zm ?_ | refine zj ?_ _)); refine yH (cs := #[.int .i64 0, .int .i64 0, .int .i64 0]) ?_ 0 _ rfl; (with_reducible repeat (first | refine zl ?_ _ | refine zm ?_ | refine zj ?_ _)); exact BK198.out) Tryd.underlying82 rfl (by kernel_rfl)) rfl ?_
                exact ⟨by first | rfl | (simp [zr, zq] <;> rfl) | (simp [*, zr, zq] <;> rfl), by repeat (with_reducible first | exact HI0.out | apply ze.alloc | apply ze.drewN | apply ze.drew | apply ze.set_1 | refine ze.far ?_ NB0_198.out _), by repeat (with_reducible first | exact HB.out | apply zc | apply zb | apply zd | refine zh ?_ (ze.ge HI0.out) | refine zh ?_ GE198.out), by repeat (with_reducible first | exact HK.out | apply zk.set_ | apply zu | apply zz | apply zt | refine yN ?_ GW198.out _)⟩
              · replace c28 := Bool.eq_false_iff.mpr c28
                subst c28
                have H1 : (if t203 = 7 then ((zi.f kj24 s0_0 t204 3).bind fun bt213 => ((zi.f kj24 s0_0 bt213.2 8).bind fun bt215 => (some (3, bt213.1, bt215.1, bt215.2)))) else (if t203 = 8 then ((zi.f kj24 s0_0 t204 3).bind fun bt217 => ((zi.f kj24 s0_0 bt217.2 3).bind fun bt219 => (some (4, bt217.1, bt219.1, bt219.2)))) else ((zi.f kj24 s0_0 t204 3).bind fun bt221 => (some (5, bt221.1, 0, bt221.2))))) = some (r1, r2, r3, r4) := by rw [if_neg (show ¬ (false = true) by decide)] at H; exact H
                clear H
                have H := H1
                clear H1
                by_cases c35 : t203 = 7
                · rw [if_pos c35] at H
                  have c35b0 : (t203 == 7) = true := beq_iff_eq.mpr c35
                  have c35b1 : (t203 != 7) = false := bne_eq_false_iff_eq.mpr c35
                  clear c35
                  replace H := Option.bind_eq_some_iff.mp H
                  obtain ⟨⟨t213, t214⟩, A360, H⟩ := H
                  replace H : ((zi.f kj24 s0_0 t214 8).bind fun bt215 => (some (3, t213, bt215.1, bt215.2))) = some (r1, r2, r3, r4) := H
                  have A36 := za.mk A360
                  clear A360
                  replace H := Option.bind_eq_some_iff.mp H
                  obtain ⟨⟨t215, t216⟩, A370, H⟩ := H
                  replace H : (some (3, t213, t215, t216)) = some (r1, r2, r3, r4) := H
                  have A37 := za.mk A370
                  clear A370
                  simp only [Option.some.injEq, Prod.mk.injEq] at H
                  obtain ⟨rfl, rfl, rfl, rfl⟩ := H
                  go_wp2_with (first | ((with_reducible refine zx (f := 56) rfl ?_); refine z6 (some 38) rfl rfl Tryd.func56 (by kernel_rfl) rfl #[.pointer (some ⟨g, 0, none⟩), .int .i64 3] rfl (by (try simp only [List.map_toArray, List.map_cons, List.map_nil]); first | done | rfl | (simp only [List.length_drop, List.length_take]; rfl)) ?_; (with_reducible refine (zi.calls kj24 g s0_0 t204 3 t213 t214 w0 _ ?side1 ?side2 A36.out).mono ?_); (case side1 => repeat (with_reducible first | exact HI0.out | apply ze.alloc | apply ze.drewN | apply ze.drew | apply ze.set_1 | refine ze.far ?_ NB0_198.out _)); (case side2 => repeat (with_reducible first | exact HB.out | apply zc | apply zb | apply zd | refine zh ?_ (ze.ge HI0.out) | refine zh ?_ GE198.out)); rintro e w38 ⟨rfl, hi, hb, hk⟩; refine ⟨_, rfl, ?_⟩; have n0_ := za.mk (zk.blk hk (g' := gb198) (o := .cells #[.int .i64 0, .int .i64 0, .int .i64 0] 82 (0, 0)) (by (with_reducible repeat (first | refine zl ?_ _ | refine zm ?_ | refine zj ?_ _)); exact BK198.out) NB198_0.out (by simp)); have n1_ := za.mk (zk.trans (by repeat (with_reducible first | exact HK.out | apply zk.set_ | apply zu | apply zz | apply zt | refine yN ?_ GW198.out _)) hk (.inl rfl)); have n2_ := za.mk (hb); have n3_ := za.mk (hi); clear BK198; clear HK; clear HB; clear HI0; have BK198 := n0_; have HK := n1_; have HB := n2_; have HI0 := n3_; clear n0_ n1_ n2_ n3_; (try clear hb); (try clear hb2); (try clear hk); (try clear hi)) | ((with_reducible refine zx (f := 56) rfl ?_); refine z6 (some 40) rfl rfl Tryd.func56 (by kernel_rfl) rfl #[.pointer (some ⟨g, 0, none⟩), .int .i64 8] rfl (by (try simp only [List.map_toArray, List.map_cons, List.map_nil]); first | done | rfl | (simp only [List.length_drop, List.length_take]; rfl)) ?_; (with_reducible refine (zi.calls kj24 g s0_0 t214 8 t215 t216 w0 _ ?side1 ?side2 A37.out).mono ?_); (case side1 => repeat (with_reducible first | exact HI0.out | apply ze.alloc | apply ze.drewN | apply ze.drew | apply ze.set_1 | refine ze.far ?_ NB0_198.out _)); (case side2 => repeat (with_reducible first | exact HB.out | apply zc | apply zb | apply zd | refine zh ?_ (ze.ge HI0.out) | refine zh ?_ GE198.out)); rintro e w39 ⟨rfl, hi, hb, hk⟩; refine ⟨_, rfl, ?_⟩; have n0_ := za.mk (zk.blk hk (g' := gb198) (o := .cells #[.int .i64 0, .int .i64 0, .int .i64 0] 82 (0, 0)) (by (with_reducible repeat (first | refine zl ?_ _ | refine zm ?_ | refine zj ?_ _)); exact BK198.out) NB198_0.out (by simp)); have n1_ := za.mk (zk.trans (by repeat (with_reducible first | exact HK.out | apply zk.set_ | apply zu | apply zz | apply zt | refine yN ?_ GW198.out _)) hk (.inl rfl)); have n2_ := za.mk (hb); have n3_ := za.mk (hi); clear BK198; clear HK; clear HB; clear HI0; have BK198 := n0_; have HK := n1_; have HB := n2_; have HI0 := n3_; clear n0_ n1_ n2_ n3_; (try clear hb); (try clear hb2); (try clear hk); (try clear hi); have hnb40 := NB198_0.out; have hnc40 := NB0_198.out; have hcz41_0 : w39.cell? ⟨gb198, 0, none⟩ = some (.int .i64 0) := (zf BK198.out 0).trans rfl; have hcz41_1 : w39.cell? ⟨gb198, 1, none⟩ = some (.int .i64 0) := (zf BK198.out 1).trans rfl; have hcz41_2 : w39.cell? ⟨gb198, 2, none⟩ = some (.int .i64 0) := (zf BK198.out 2).trans rfl; have hfz41_0 := zg BK198.out 0; have hfz41_1 := zg BK198.out 1; have hfz41_2 := zg BK198.out 2))
                  refine bodyPost_ret (results_cell_row rfl _ _ gb198 82 #[.int .i64 3, .int .i64 t213, .int .i64 t215] (0, 0) _ rfl (by (with_reducible repeat (first | refine zl ?_ _ | refine zm ?_ | refine zj ?_ _)); refine yH (cs := #[.int .i64 3, .int .i64 t213, .int .i64 0]) ?_ 2 _ rfl; (with_reducible repeat (first | refine zl ?_ _ | refine zm ?_ | refine zj ?_ _)); refine yH (cs := #[.int .i64 3, .int .i64 0, .int .i64 0]) ?_ 1 _ rfl; (with_reducible repeat (first | refine zl ?_ _ | refine zm ?_ | refine zj ?_ _)); refine yH (cs := #[.int .i64 0, .int .i64 0, .int .i64 0]) ?_ 0 _ rfl; (with_reducible repeat (first | refine zl ?_ _ | refine zm ?_ | refine zj ?_ _)); exact BK198.out) Tryd.underlying82 rfl (by kernel_rfl)) rfl ?_
                  exact ⟨by first | rfl | (simp [zr, zq] <;> rfl) | (simp [*, zr, zq] <;> rfl), by repeat (with_reducible first | exact HI0.out | apply ze.alloc | apply ze.drewN | apply ze.drew | apply ze.set_1 | refine ze.far ?_ NB0_198.out _), by repeat (with_reducible first | exact HB.out | apply zc | apply zb | apply zd | refine zh ?_ (ze.ge HI0.out) | refine zh ?_ GE198.out), by repeat (with_reducible first | exact HK.out | apply zk.set_ | apply zu | apply zz | apply zt | refine yN ?_ GW198.out _)⟩
                · rw [if_neg c35] at H
                  have c35b0 : (t203 == 7) = false := beq_eq_false_iff_ne.mpr c35
                  have c35b1 : (t203 != 7) = true := bne_iff_ne.mpr c35
                  by_cases c42 : t203 = 8
                  · rw [if_pos c42] at H
                    have c42b0 : (t203 == 8) = true := beq_iff_eq.mpr c42
                    have c42b1 : (t203 != 8) = false := bne_eq_false_iff_eq.mpr c42
                    clear c42
                    replace H := Option.bind_eq_some_iff.mp H
                    obtain ⟨⟨t217, t218⟩, A430, H⟩ := H
                    replace H : ((zi.f kj24 s0_0 t218 3).bind fun bt219 => (some (4, t217, bt219.1, bt219.2))) = some (r1, r2, r3, r4) := H
                    have A43 := za.mk A430
                    clear A430
                    replace H := Option.bind_eq_some_iff.mp H
                    obtain ⟨⟨t219, t220⟩, A440, H⟩ := H
                    replace H : (some (4, t217, t219, t220)) = some (r1, r2, r3, r4) := H
                    have A44 := za.mk A440
                    clear A440
                    simp only [Option.some.injEq, Prod.mk.injEq] at H
                    obtain ⟨rfl, rfl, rfl, rfl⟩ := H
                    go_wp2_with (first | ((with_reducible refine zx (f := 56) rfl ?_); refine z6 (some 45) rfl rfl Tryd.func56 (by kernel_rfl) rfl #[.pointer (some ⟨g, 0, none⟩), .int .i64 3] rfl (by (try simp only [List.map_toArray, List.map_cons, List.map_nil]); first | done | rfl | (simp only [List.length_drop, List.length_take]; rfl)) ?_; (with_reducible refine (zi.calls kj24 g s0_0 t204 3 t217 t218 w0 _ ?side1 ?side2 A43.out).mono ?_); (case side1 => repeat (with_reducible first | exact HI0.out | apply ze.alloc | apply ze.drewN | apply ze.drew | apply ze.set_1 | refine ze.far ?_ NB0_198.out _)); (case side2 => repeat (with_reducible first | exact HB.out | apply zc | apply zb | apply zd | refine zh ?_ (ze.ge HI0.out) | refine zh ?_ GE198.out)); rintro e w45 ⟨rfl, hi, hb, hk⟩; refine ⟨_, rfl, ?_⟩; have n0_ := za.mk (zk.blk hk (g' := gb198) (o := .cells #[.int .i64 0, .int .i64 0, .int .i64 0] 82 (0, 0)) (by (with_reducible repeat (first | refine zl ?_ _ | refine zm ?_ | refine zj ?_ _)); exact BK198.out) NB198_0.out (by simp)); have n1_ := za.mk (zk.trans (by repeat (with_reducible first | exact HK.out | apply zk.set_ | apply zu | apply zz | apply zt | refine yN ?_ GW198.out _)) hk (.inl rfl)); have n2_ := za.mk (hb); have n3_ := za.mk (hi); clear BK198; clear HK; clear HB; clear HI0; have BK198 := n0_; have HK := n1_; have HB := n2_; have HI0 := n3_; clear n0_ n1_ n2_ n3_; (try clear hb); (try clear hb2); (try clear hk); (try clear hi)) | ((with_reducible refine zx (f := 56) rfl ?_); refine z6 (some 47) rfl rfl Tryd.func56 (by kernel_rfl) rfl #[.pointer (some ⟨g, 0, none⟩), .int .i64 3] rfl (by (try simp only [List.map_toArray, List.map_cons, List.map_nil]); first | done | rfl | (simp only [List.length_drop, List.length_take]; rfl)) ?_; (with_reducible refine (zi.calls kj24 g s0_0 t218 3 t219 t220 w0 _ ?side1 ?side2 A44.out).mono ?_); (case side1 => repeat (with_reducible first | exact HI0.out | apply ze.alloc | apply ze.drewN | apply ze.drew | apply ze.set_1 | refine ze.far ?_ NB0_198.out _)); (case side2 => repeat (with_reducible first | exact HB.out | apply zc | apply zb | apply zd | refine zh ?_ (ze.ge HI0.out) | refine zh ?_ GE198.out)); rintro e w46 ⟨rfl, hi, hb, hk⟩; refine ⟨_, rfl, ?_⟩; have n0_ := za.mk (zk.blk hk (g' := gb198) (o := .cells #[.int .i64 0, .int .i64 0, .int .i64 0] 82 (0, 0)) (by (with_reducible repeat (first | refine zl ?_ _ | refine zm ?_ | refine zj ?_ _)); exact BK198.out) NB198_0.out (by simp)); have n1_ := za.mk (zk.trans (by repeat (with_reducible first | exact HK.out | apply zk.set_ | apply zu | apply zz | apply zt | refine yN ?_ GW198.out _)) hk (.inl rfl)); have n2_ := za.mk (hb); have n3_ := za.mk (hi); clear BK198; clear HK; clear HB; clear HI0; have BK198 := n0_; have HK := n1_; have HB := n2_; have HI0 := n3_; clear n0_ n1_ n2_ n3_; (try clear hb); (try clear hb2); (try clear hk); (try clear hi); have hnb47 := NB198_0.out; have hnc47 := NB0_198.out; have hcz48_0 : w46.cell? ⟨gb198, 0, none⟩ = some (.int .i64 0) := (zf BK198.out 0).trans rfl; have hcz48_1 : w46.cell? ⟨gb198, 1, none⟩ = some (.int .i64 0) := (zf BK198.out 1).trans rfl; have hcz48_2 : w46.cell? ⟨gb198, 2, none⟩ = some (.int .i64 0) := (zf BK198.out 2).trans rfl; have hfz48_0 := zg BK198.out 0; have hfz48_1 := zg BK198.out 1; have hfz48_2 := zg BK198.out 2))
                    refine bodyPost_ret (results_cell_row rfl _ _ gb198 82 #[.int .i64 4, .int .i64 t217, .int .i64 t219] (0, 0) _ rfl (by (with_reducible repeat (first | refine zl ?_ _ | refine zm ?_ | refine zj ?_ _)); refine yH (cs := #[.int .i64 4, .int .i64 t217, .int .i64 0]) ?_ 2 _ rfl; (with_reducible repeat (first | refine zl ?_ _ | refine zm ?_ | refine zj ?_ _)); refine yH (cs := #[.int .i64 4, .int .i64 0, .int .i64 0]) ?_ 1 _ rfl; (with_reducible repeat (first | refine zl ?_ _ | refine zm ?_ | refine zj ?_ _)); refine yH (cs := #[.int .i64 0, .int .i64 0, .int .i64 0]) ?_ 0 _ rfl; (with_reducible repeat (first | refine zl ?_ _ | refine zm ?_ | refine zj ?_ _)); exact BK198.out) Tryd.underlying82 rfl (by kernel_rfl)) rfl ?_
                    exact ⟨by first | rfl | (simp [zr, zq] <;> rfl) | (simp [*, zr, zq] <;> rfl), by repeat (with_reducible first | exact HI0.out | apply ze.alloc | apply ze.drewN | apply ze.drew | apply ze.set_1 | refine ze.far ?_ NB0_198.out _), by repeat (with_reducible first | exact HB.out | apply zc | apply zb | apply zd | refine zh ?_ (ze.ge HI0.out) | refine zh ?_ GE198.out), by repeat (with_reducible first | exact HK.out | apply zk.set_ | apply zu | apply zz | apply zt | refine yN ?_ GW198.out _)⟩
                  · rw [if_neg c42] at H
                    have c42b0 : (t203 == 8) = false := beq_eq_false_iff_ne.mpr c42
                    have c42b1 : (t203 != 8) = true := bne_iff_ne.mpr c42
                    replace H := Option.bind_eq_some_iff.mp H
                    obtain ⟨⟨t221, t222⟩, A490, H⟩ := H
                    replace H : (some (5, t221, 0, t222)) = some (r1, r2, r3, r4) := H
                    have A49 := za.mk A490
                    clear A490
                    simp only [Option.some.injEq, Prod.mk.injEq] at H
                    obtain ⟨rfl, rfl, rfl, rfl⟩ := H
                    go_wp2_with (first | ((with_reducible refine zx (f := 56) rfl ?_); refine z6 (some 50) rfl rfl Tryd.func56 (by kernel_rfl) rfl #[.pointer (some ⟨g, 0, none⟩), .int .i64 3] rfl (by (try simp only [List.map_toArray, List.map_cons, List.map_nil]); first | done | rfl | (simp only [List.length_drop, List.length_take]; rfl)) ?_; (with_reducible refine (zi.calls kj24 g s0_0 t204 3 t221 t222 w0 _ ?side1 ?side2 A49.out).mono ?_); (case side1 => repeat (with_reducible first | exact HI0.out | apply ze.alloc | apply ze.drewN | apply ze.drew | apply ze.set_1 | refine ze.far ?_ NB0_198.out _)); (case side2 => repeat (with_reducible first | exact HB.out | apply zc | apply zb | apply zd | refine zh ?_ (ze.ge HI0.out) | refine zh ?_ GE198.out)); rintro e w50 ⟨rfl, hi, hb, hk⟩; refine ⟨_, rfl, ?_⟩; have n0_ := za.mk (zk.blk hk (g' := gb198) (o := .cells #[.int .i64 0, .int .i64 0, .int .i64 0] 82 (0, 0)) (by (with_reducible repeat (first | refine zl ?_ _ | refine zm ?_ | refine zj ?_ _)); exact BK198.out) NB198_0.out (by simp)); have n1_ := za.mk (zk.trans (by repeat (with_reducible first | exact HK.out | apply zk.set_ | apply zu | apply zz | apply zt | refine yN ?_ GW198.out _)) hk (.inl rfl)); have n2_ := za.mk (hb); have n3_ := za.mk (hi); clear BK198; clear HK; clear HB; clear HI0; have BK198 := n0_; have HK := n1_; have HB := n2_; have HI0 := n3_; clear n0_ n1_ n2_ n3_; (try clear hb); (try clear hb2); (try clear hk); (try clear hi); have hnb51 := NB198_0.out; have hnc51 := NB0_198.out; have hcz52_0 : w50.cell? ⟨gb198, 0, none⟩ = some (.int .i64 0) := (zf BK198.out 0).trans rfl; have hcz52_1 : w50.cell? ⟨gb198, 1, none⟩ = some (.int .i64 0) := (zf BK198.out 1).trans rfl; have hcz52_2 : w50.cell? ⟨gb198, 2, none⟩ = some (.int .i64 0) := (zf BK198.out 2).trans rfl; have hfz52_0 := zg BK198.out 0; have hfz52_1 := zg BK198.out 1; have hfz52_2 := zg BK198.out 2))
                    refine bodyPost_ret (results_cell_row rfl _ _ gb198 82 #[.int .i64 5, .int .i64 t221, .int .i64 0] (0, 0) _ rfl (by (with_reducible repeat (first | refine zl ?_ _ | refine zm ?_ | refine zj ?_ _)); refine yH (cs := #[.int .i64 5, .int .i64 t221, .int .i64 0]) ?_ 2 _ rfl; (with_reducible repeat (first | refine zl ?_ _ | refine zm ?_ | refine zj ?_ _)); refine yH (cs := #[.int .i64 5, .int .i64 0, .int .i64 0]) ?_ 1 _ rfl; (with_reducible repeat (first | refine zl ?_ _ | refine zm ?_ | refine zj ?_ _)); refine yH (cs := #[.int .i64 0, .int .i64 0, .int .i64 0]) ?_ 0 _ rfl; (with_reducible repeat (first | refine zl ?_ _ | refine zm ?_ | refine zj ?_ _)); exact BK198.out) Tryd.underlying82 rfl (by kernel_rfl)) rfl ?_
                    exact ⟨by first | rfl | (simp [zr, zq] <;> rfl) | (simp [*, zr, zq] <;> rfl), by repeat (with_reducible first | exact HI0.out | apply ze.alloc | apply ze.drewN | apply ze.drew | apply ze.set_1 | refine ze.far ?_ NB0_198.out _), by repeat (with_reducible first | exact HB.out | apply zc | apply zb | apply zd | refine zh ?_ (ze.ge HI0.out) | refine zh ?_ GE198.out), by repeat (with_reducible first | exact HK.out | apply zk.set_ | apply zu | apply zz | apply zt | refine yN ?_ GW198.out _)⟩
end Go.Proofs.YtoeepmcaabmjkaaDoor.QPO
namespace Go.Proofs.YtoeepmcaabmjkaaDoor.QPO
open Go.RowKit Go.Proofs.YtoeepmcaabmjkaaDoorW.PrintWords Go.Proofs.YtoeepmcaabmjkaaDoorW.PrintLast Go.Proofs.YtoeepmcaabmjkaaDoorW.PrintMore
attribute [local go_sem] yz yx yQ yP yl yk yy yw   -- for this text's walks alone
set_option linter.unusedVariables false
set_option linter.unusedSimpArgs false
mutual
def zJ.j0 : Nat → Int → Bool → List Int → Int → Option ((List (S82)) × Int)
  | 0, _, _, _, _ => none
  | k + 1, x1, x14, x1000, x1001 => if x14 = true then ((zi.f k x1000 x1001 x1).bind fun bt225 => ((zi.f k x1000 bt225.2 4).bind fun bt227 => (some ((([(⟨1, 0, bt225.1⟩ : S82), (⟨3, 1, wrap64 (1 + bt227.1)⟩ : S82), (⟨4, 0, 1⟩ : S82), (⟨2, bt225.1, 0⟩ : S82)] : List (S82))), bt227.2)))) else ((zi.f k x1000 x1001 5).bind fun bt235 => (zJ.l0 k x1 (([] : List (S82))) (wrap64 (1 + bt235.1)) x1000 bt235.2))
def zJ.l0 : Nat → Int → List (S82) → Int → List Int → Int → Option ((List (S82)) × Int)
  | 0, _, _, _, _, _ => none
  | k + 1, x1, x6, x7, x1000, x1001 => if x7 > 0 then ((zH.f k x1000 x1001 x1).bind fun bt237 => (if x6.length < 5864062014805 then (zJ.l0 k x1 (x6 ++ [(⟨bt237.1, bt237.2.1, bt237.2.2.1⟩ : S82)]) (wrap64 (x7 - 1)) x1000 bt237.2.2.2) else (none))) else (some (x6, x1001))
end
def zJ.f (k : Nat) (s0_0 : List Int) (s0_1 : Int) (a1 : Int) : Option ((List (S82)) × Int) := if a1 > 0 then ((zi.f k s0_0 s0_1 3).bind fun bt223 => (zJ.j0 k a1 (bt223.1 == 0) s0_0 bt223.2)) else (zJ.j0 k a1 false s0_0 s0_1)
set_option maxHeartbeats 8000000 in
set_option maxRecDepth 100000 in
theorem zJ.calls (k : Nat) (g : Nat) (s0_0 : List Int) (s0_1 : Int) (a1 : Int) (r1 : List (S82)) (r2 : Int) (w0 w : World) (hI : ze w0 w g s0_0 s0_1) (hB : Below w0.heap.size w0 w) (h : zJ.f k s0_0 s0_1 a1 = some (r1, r2)) :
    Calls Tryd.prog 76 #[.pointer (some ⟨g, 0, none⟩), .int .i64 a1] w fun e w' => ∃ v0_ : Value, e = .returned (v0_) ∧ Kd.R k82 82 w' w.heap.size (fun _ => True) v0_ r1 ∧ ze w0 w' g s0_0 r2 ∧ Below w0.heap.size w0 w' ∧ zk w w' g none := by
  have hu82 := Tryd.underlying82
  have HI0 := za.mk hI
  have HK := za.mk (zk.refl w g none)
  have HL := za.mk hB.size
  clear hI
  have HW0 := za.mk hB.size
  have HB := za.mk hB
  clear hB
  have H : (if a1 > 0 then ((zi.f k s0_0 s0_1 3).bind fun bt223 => (zJ.j0 k a1 (bt223.1 == 0) s0_0 bt223.2)) else (zJ.j0 k a1 false s0_0 s0_1)) = some (r1, r2) := h
  clear h
  have HC3 := za.mk H
  clear H
  go_enter Tryd.func76, Tryd.ntmps76
  go_upto_region 1 with (fail)
  go_cut [14] (fun v14 wc => ∃ (kq : Nat) (x14_2 : Bool) (x1001_2 : Int), v14 = .bool x14_2 ∧ za (zJ.j0 kq a1 x14_2 s0_0 x1001_2 = some (r1, r2)) ∧ za (kq ≤ k) ∧ za (ze w0 wc g s0_0 x1001_2) ∧ za (zk w wc g none) ∧ za (Below w0.heap.size w0 wc))
  case first =>
    have H := HC3.out
    clear HC3
    by_cases c4 : a1 > 0
    · rw [if_pos c4] at H
      have c4b0 : decide (0 < a1) = true := decide_eq_true c4
      clear c4
      (first | rw [c4b0] | (simp only [zn, zo]; rw [c4b0]) | skip)
      replace H := Option.bind_eq_some_iff.mp H
      obtain ⟨⟨t223, t224⟩, A50, H⟩ := H
      replace H : (zJ.j0 k a1 (t223 == 0) s0_0 t224) = some (r1, r2) := H
      have A5 := za.mk A50
      clear A50
      have H' := za.mk H
      clear H
      go_wp2_with (first | (go_at_call 56; (with_reducible refine (zi.calls k g s0_0 s0_1 3 t223 t224 w0 _ ?side1 ?side2 A5.out).mono ?_); (case side1 => repeat (with_reducible first | exact HI0.out | apply ze.alloc | apply ze.drewN | apply ze.drew | apply ze.set_1)); (case side2 => repeat (with_reducible first | exact HB.out | apply zc | apply zb | apply zd | refine zh ?_ (ze.ge HI0.out))); rintro e w6 ⟨rfl, hi, hb, hk⟩; have n0_ := za.mk (zk.trans (by repeat (with_reducible first | exact HK.out | apply zk.set_ | apply zu | apply zz | apply zt)) hk (.inl rfl)); have n1_ := za.mk (hb); have n2_ := za.mk (hi); clear HK; clear HB; clear HI0; have HK := n0_; have HB := n1_; have HI0 := n2_; clear n0_ n1_ n2_; (try clear hb); (try clear hb2); (try clear hk); (try clear hi)))
      go_meet
      case rel => exact ⟨_, ((t223 == 0)), (t224), (by first | rfl | (simp; done) | (simp [*]; done)), H', ⟨by first | omega | exact Nat.le_refl _⟩, ⟨by repeat (with_reducible first | exact HI0.out | apply ze.alloc | apply ze.drewN | apply ze.drew | apply ze.set_1)⟩, ⟨by repeat (with_reducible first | exact HK.out | apply zk.set_ | apply zu | apply zz | apply zt)⟩, ⟨by repeat (with_reducible first | exact HB.out | apply zc | apply zb | apply zd | refine zh ?_ (ze.ge HI0.out))⟩⟩
    · rw [if_neg c4] at H
      have c4b0 : decide (0 < a1) = false := decide_eq_false c4
      clear c4
      (first | rw [c4b0] | (simp only [zn, zo]; rw [c4b0]) | skip)
      have H' := za.mk H
      clear H
      go_wp2
      go_meet
      case rel => exact ⟨_, (false), (s0_1), (by first | rfl | (simp; done) | (simp [*]; done)), H', ⟨by first | omega | exact Nat.le_refl _⟩, ⟨by repeat (with_reducible first | exact HI0.out | apply ze.alloc | apply ze.drewN | apply ze.drew | apply ze.set_1)⟩, ⟨by repeat (with_reducible first | exact HK.out | apply zk.set_ | apply zu | apply zz | apply zt)⟩, ⟨by repeat (with_reducible first | exact HB.out | apply zc | apply zb | apply zd | refine zh ?_ (ze.ge HI0.out))⟩⟩
  case rest =>
    clear HC3
    try clear p2
    try clear c4
    try clear c4b0
    obtain ⟨kq, x14_2, x1001_2, rfl, HA, HJ2, HI0, HK, HB⟩ := hcut
    cases kq with
    | zero => exact absurd HA.out (by simp [zJ.j0])
    | succ kj2 =>
      have H := HA.out
      clear HA
      simp only [zJ.j0] at H
      by_cases c7 : x14_2 = true
      · subst c7
        have H1 : ((zi.f kj2 s0_0 x1001_2 a1).bind fun bt225 => ((zi.f kj2 s0_0 bt225.2 4).bind fun bt227 => (some ((([(⟨1, 0, bt225.1⟩ : S82), (⟨3, 1, wrap64 (1 + bt227.1)⟩ : S82), (⟨4, 0, 1⟩ : S82), (⟨2, bt225.1, 0⟩ : S82)] : List (S82))), bt227.2)))) = some (r1, r2) := by rw [if_pos rfl] at H; exact H
        clear H
        have H := H1
        clear H1
        replace H := Option.bind_eq_some_iff.mp H
        obtain ⟨⟨t225, t226⟩, A80, H⟩ := H
        replace H : ((zi.f kj2 s0_0 t226 4).bind fun bt227 => (some ((([(⟨1, 0, t225⟩ : S82), (⟨3, 1, wrap64 (1 + bt227.1)⟩ : S82), (⟨4, 0, 1⟩ : S82), (⟨2, t225, 0⟩ : S82)] : List (S82))), bt227.2))) = some (r1, r2) := H
        have A8 := za.mk A80
        clear A80
        replace H := Option.bind_eq_some_iff.mp H
        obtain ⟨⟨t227, t228⟩, A90, H⟩ := H
        replace H : (some ((([(⟨1, 0, t225⟩ : S82), (⟨3, 1, wrap64 (1 + t227)⟩ : S82), (⟨4, 0, 1⟩ : S82), (⟨2, t225, 0⟩ : S82)] : List (S82))), t228)) = some (r1, r2) := H
        have A9 := za.mk A90
        clear A90
        obtain ⟨y229, hy229⟩ : ∃ y_ : List (S82), y_ = (([(⟨1, 0, t225⟩ : S82), (⟨3, 1, wrap64 (1 + t227)⟩ : S82), (⟨4, 0, 1⟩ : S82), (⟨2, t225, 0⟩ : S82)] : List (S82))) := ⟨_, rfl⟩
        replace H : (some (y229, t228)) = some (r1, r2) := by first | (rw [hy229]; with_reducible exact H) | (have H2_ := (Option.bind_some _ _).symm.trans H; rw [hy229]; with_reducible exact H2_) | (have H2_ := (Option.bind_some _ _).symm.trans H; with_reducible exact H2_) | with_reducible exact H | (rw [hy229]; exact H) | exact H
        have Ny229 := za.mk hy229
        clear hy229
        simp only [Option.some.injEq, Prod.mk.injEq] at H
        obtain ⟨rfl, rfl⟩ := H
        go_wp2_with (first | ((with_reducible refine zx (f := 56) rfl ?_); refine z6 (some 17) rfl rfl Tryd.func56 (by kernel_rfl) rfl #[.pointer (some ⟨g, 0, none⟩), .int .i64 a1] rfl (by (try simp only [List.map_toArray, List.map_cons, List.map_nil]); first | done | rfl | (simp only [List.length_drop, List.length_take]; rfl)) ?_; (with_reducible refine (zi.calls kj2 g s0_0 x1001_2 a1 t225 t226 w0 _ ?side1 ?side2 A8.out).mono ?_); (case side1 => repeat (with_reducible first | exact HI0.out | apply ze.alloc | apply ze.drewN | apply ze.drew | apply ze.set_1)); (case side2 => repeat (with_reducible first | exact HB.out | apply zc | apply zb | apply zd | refine zh ?_ (ze.ge HI0.out))); rintro e w10 ⟨rfl, hi, hb, hk⟩; refine ⟨_, rfl, ?_⟩; have n0_ := za.mk (zk.trans (by repeat (with_reducible first | exact HK.out | apply zk.set_ | apply zu | apply zz | apply zt)) hk (.inl rfl)); have n1_ := za.mk (hb); have n2_ := za.mk (hi); clear HK; clear HB; clear HI0; have HK := n0_; have HB := n1_; have HI0 := n2_; clear n0_ n1_ n2_; (try clear hb); (try clear hb2); (try clear hk); (try clear hi)) | ((with_reducible refine zx (f := 56) rfl ?_); refine z6 (some 21) rfl rfl Tryd.func56 (by kernel_rfl) rfl #[.pointer (some ⟨g, 0, none⟩), .int .i64 4] rfl (by (try simp only [List.map_toArray, List.map_cons, List.map_nil]); first | done | rfl | (simp only [List.length_drop, List.length_take]; rfl)) ?_; (with_reducible refine (zi.calls kj2 g s0_0 t226 4 t227 t228 w0 _ ?side1 ?side2 A9.out).mono ?_); (case side1 => repeat (with_reducible first | exact HI0.out | apply ze.alloc | apply ze.drewN | apply ze.drew | apply ze.set_1)); (case side2 => repeat (with_reducible first | exact HB.out | apply zc | apply zb | apply zd | refine zh ?_ (ze.ge HI0.out))); rintro e w11 ⟨rfl, hi, hb, hk⟩; refine ⟨_, rfl, ?_⟩; have n0_ := za.mk (zk.trans (by repeat (with_reducible first | exact HK.out | apply zk.set_ | apply zu | apply zz | apply zt)) hk (.inl rfl)); have n1_ := za.mk (hb); have n2_ := za.mk (hi); clear HK; clear HB; clear HI0; have HK := n0_; have HB := n1_; have HI0 := n2_; clear n0_ n1_ n2_; (try clear hb); (try clear hb2); (try clear hk); (try clear hi)) | ((with_reducible refine zY (N := 27) rfl ?_); refine Kd.R_lit k82 _ 82 ?hg (N := 27) ?hd (xs := ([(⟨1, 0, t225⟩ : S82), (⟨3, 1, wrap64 (1 + t227)⟩ : S82), (⟨4, 0, 1⟩ : S82), (⟨2, t225, 0⟩ : S82)] : List (S82))) (inner := [.int .i64 1, .int .i64 0, .int .i64 t225, .int .i64 3, .int .i64 1, .int .i64 (wrap64 (1 + t227)), .int .i64 4, .int .i64 0, .int .i64 1, .int .i64 2, .int .i64 t225, .int .i64 0]) (ok := fun _ => True) (okp := fun _ => True) ?hr ?hp (fun _ hk => hk) trivial (Below.refl _ _) (Nat.le_refl _) (by simp) ?_; (case hd => rfl); (case hg => rfl); (case hr => first | (go_simp; done) | (go_simp; rfl)); (case hp => exact (yt.c3 (show Kd.M k82 _ _ _ (⟨1, 0, t225⟩ : S82) [.int .i64 1, .int .i64 0, .int .i64 t225] from (k82_mkM _ _ _ (⟨1, 0, t225⟩ : S82) )) (yt.c3 (show Kd.M k82 _ _ _ (⟨3, 1, wrap64 (1 + t227)⟩ : S82) [.int .i64 3, .int .i64 1, .int .i64 (wrap64 (1 + t227))] from (k82_mkM _ _ _ (⟨3, 1, wrap64 (1 + t227)⟩ : S82) )) (yt.c3 (show Kd.M k82 _ _ _ (⟨4, 0, 1⟩ : S82) [.int .i64 4, .int .i64 0, .int .i64 1] from (k82_mkM _ _ _ (⟨4, 0, 1⟩ : S82) )) (yt.c3 (show Kd.M k82 _ _ _ (⟨2, t225, 0⟩ : S82) [.int .i64 2, .int .i64 t225, .int .i64 0] from (k82_mkM _ _ _ (⟨2, t225, 0⟩ : S82) )) (yt.none _ _)))))); intro v230 w12 ho13 hb hg_ hnew_; clear hg_ hnew_; (first | rw [← Ny229.out] at ho13 | (simp only [Int.reduceToNat] at ho13; rw [← Ny229.out] at ho13)); have n0_ := za.mk (Kd.yq ho13 (z7 (w := w) (g := g) (row := none) (by repeat (with_reducible first | exact HK.out | apply zk.set_ | apply zu | apply zz | apply zt)))); have n1_ := za.mk (ze.below (by repeat (with_reducible first | exact HI0.out | apply ze.alloc | apply ze.drewN | apply ze.drew | apply ze.set_1)) hb); have n2_ := za.mk (zk.trans (by repeat (with_reducible first | exact HK.out | apply zk.set_ | apply zu | apply zz | apply zt)) (zk.of_below hb g none) (.inl rfl)); have n3_ := za.mk (zp (by repeat (with_reducible first | exact HB.out | apply zc | apply zb | apply zd | refine zh ?_ (ze.ge HI0.out))) hb); clear HI0; clear HK; clear HB; have HO231 := n0_; have HI0 := n1_; have HK := n2_; have HB := n3_; clear n0_ n1_ n2_ n3_; clear hb ho13))
        go_ret
        exact ⟨_, by first | rfl | (simp [zr, zq] <;> rfl) | (simp [*, zr, zq] <;> rfl), by (with_reducible repeat (first | apply Kd.zE | apply Kd.zG | apply Kd.zT)); exact HO231.out, by repeat (with_reducible first | exact HI0.out | apply ze.alloc | apply ze.drewN | apply ze.drew | apply ze.set_1), by repeat (with_reducible first | exact HB.out | apply zc | apply zb | apply zd | refine zh ?_ (ze.ge HI0.out)), by repeat (with_reducible first | exact HK.out | apply zk.set_ | apply zu | apply zz | apply zt)⟩
      · replace c7 := Bool.eq_false_iff.mpr c7
        subst c7
        have H1 : ((zi.f kj2 s0_0 x1001_2 5).bind fun bt235 => (zJ.l0 kj2 a1 (([] : List (S82))) (wrap64 (1 + bt235.1)) s0_0 bt235.2)) = some (r1, r2) := by rw [if_neg (show ¬ (false = true) by decide)] at H; exact H
        clear H
        have H := H1
        clear H1
        obtain ⟨y232, hy232⟩ : ∃ y_ : List (S82), y_ = (([] : List (S82))) := ⟨_, rfl⟩
        replace H : ((zi.f kj2 s0_0 x1001_2 5).bind fun bt235 => (zJ.l0 kj2 a1 y232 (wrap64 (1 + bt235.1)) s0_0 bt235.2)) = some (r1, r2) := by first | (rw [hy232]; with_reducible exact H) | (have H2_ := (Option.bind_some _ _).symm.trans H; rw [hy232]; with_reducible exact H2_) | (have H2_ := (Option.bind_some _ _).symm.trans H; with_reducible exact H2_) | with_reducible exact H | (rw [hy232]; exact H) | exact H
        have Ny232 := za.mk hy232
        clear hy232
        replace H := Option.bind_eq_some_iff.mp H
        obtain ⟨⟨t235, t236⟩, A140, H⟩ := H
        replace H : (zJ.l0 kj2 a1 y232 (wrap64 (1 + t235)) s0_0 t236) = some (r1, r2) := H
        have A14 := za.mk A140
        clear A140
        have H' := za.mk H
        clear H
        go_wp2_with (first | ((with_reducible refine zY (N := 28) rfl ?_); refine Kd.R_lit k82 _ 82 ?hg (N := 28) ?hd (xs := ([] : List (S82))) (inner := []) (ok := fun _ => True) (okp := fun _ => True) ?hr ?hp (fun _ hk => hk) trivial (Below.refl _ _) (Nat.le_refl _) (by simp) ?_; (case hd => rfl); (case hg => rfl); (case hr => first | (go_simp; done) | (go_simp; rfl)); (case hp => exact (yt.none _ _)); intro v233 w15 ho16 hb hg_ hnew_; clear hg_ hnew_; (first | rw [← Ny232.out] at ho16 | (simp only [Int.reduceToNat] at ho16; rw [← Ny232.out] at ho16)); have n0_ := za.mk (Kd.yq ho16 (z7 (w := w) (g := g) (row := none) (by repeat (with_reducible first | exact HK.out | apply zk.set_ | apply zu | apply zz | apply zt)))); have n1_ := za.mk (ze.below (by repeat (with_reducible first | exact HI0.out | apply ze.alloc | apply ze.drewN | apply ze.drew | apply ze.set_1)) hb); have n2_ := za.mk (zk.trans (by repeat (with_reducible first | exact HK.out | apply zk.set_ | apply zu | apply zz | apply zt)) (zk.of_below hb g none) (.inl rfl)); have n3_ := za.mk (zp (by repeat (with_reducible first | exact HB.out | apply zc | apply zb | apply zd | refine zh ?_ (ze.ge HI0.out))) hb); clear HI0; clear HK; clear HB; have HO234 := n0_; have HI0 := n1_; have HK := n2_; have HB := n3_; clear n0_ n1_ n2_ n3_; clear hb ho16) | ((with_reducible refine zx (f := 56) rfl ?_); refine z6 (some 30) rfl rfl Tryd.func56 (by kernel_rfl) rfl #[.pointer (some ⟨g, 0, none⟩), .int .i64 5] rfl (by (try simp only [List.map_toArray, List.map_cons, List.map_nil]); first | done | rfl | (simp only [List.length_drop, List.length_take]; rfl)) ?_; (with_reducible refine (zi.calls kj2 g s0_0 x1001_2 5 t235 t236 w0 _ ?side1 ?side2 A14.out).mono ?_); (case side1 => repeat (with_reducible first | exact HI0.out | apply ze.alloc | apply ze.drewN | apply ze.drew | apply ze.set_1)); (case side2 => repeat (with_reducible first | exact HB.out | apply zc | apply zb | apply zd | refine zh ?_ (ze.ge HI0.out))); rintro e w17 ⟨rfl, hi, hb, hk⟩; refine ⟨_, rfl, ?_⟩; have n0_ := za.mk (Kd.zZ (Kd.R_keep (ze.apart (show ze w0 _ g s0_0 x1001_2 from by repeat (with_reducible first | exact HI0.out | apply ze.alloc | apply ze.drewN | apply ze.drew | apply ze.set_1)) (by (with_reducible repeat (first | apply Kd.zE | apply Kd.zG | apply Kd.zT)); exact HO234.out) (by decide)) hk (fun _ h => h.2)) (fun _ h => h.1)); have n1_ := za.mk (zk.trans (by repeat (with_reducible first | exact HK.out | apply zk.set_ | apply zu | apply zz | apply zt)) hk (.inl rfl)); have n2_ := za.mk (hb); have n3_ := za.mk (hi); clear HO234; clear HK; clear HB; clear HI0; have HO234 := n0_; have HK := n1_; have HB := n2_; have HI0 := n3_; clear n0_ n1_ n2_ n3_; (try clear hb); (try clear hb2); (try clear hk); (try clear hi)))
        go_loopg [6, 7] kj2 (fun kq v6 v7 w' => ∃ (x6_2 : List (S82)) (x7_2 : Int) (x1001_2 : Int), v7 = .int .i64 x7_2 ∧ za (zJ.l0 kq a1 x6_2 x7_2 s0_0 x1001_2 = some (r1, r2)) ∧ za (kq ≤ kj2) ∧ za (Kd.R k82 82 w' w.heap.size (fun _ => True) v6 x6_2) ∧ za (ze w0 w' g s0_0 x1001_2) ∧ za (zk w w' g none) ∧ za (Below w0.heap.size w0 w'))
        case atStart => exact ⟨(y232), (wrap64 (1 + t235)), (t236), (by first | rfl | (simp; done) | (simp [*]; done)), H', ⟨Nat.le_refl _⟩, ⟨by (with_reducible repeat (first | apply Kd.zE | apply Kd.zG | apply Kd.zT)); exact HO234.out⟩, ⟨by repeat (with_reducible first | exact HI0.out | apply ze.alloc | apply ze.drewN | apply ze.drew | apply ze.set_1)⟩, ⟨by repeat (with_reducible first | exact HK.out | apply zk.set_ | apply zu | apply zz | apply zt)⟩, ⟨by repeat (with_reducible first | exact HB.out | apply zc | apply zb | apply zd | refine zh ?_ (ze.ge HI0.out))⟩⟩
        case round =>
          clear H'
          try clear p2
          try clear c3
          try clear c4
          try clear c4b0
          try clear c5
          try clear p6
          try clear c7
          try clear p2
          obtain ⟨x6_2, x7_2, x1001_2, rfl, HA, HK2, HO_6, HI0, HK, HB⟩ := hrel
          cases gk with
          | zero => exact absurd HA.out (by simp [zJ.l0])
          | succ k2 =>
            have H := HA.out
            clear HA
            simp only [zJ.l0] at H
            by_cases c18 : x7_2 > 0
            · rw [if_pos c18] at H
              have c18b0 : decide (0 < x7_2) = true := decide_eq_true c18
              clear c18
              replace H := Option.bind_eq_some_iff.mp H
              obtain ⟨⟨t237, t238, t239, t240⟩, A190, H⟩ := H
              replace H : (if x6_2.length < 5864062014805 then (zJ.l0 k2 a1 (x6_2 ++ [(⟨t237, t238, t239⟩ : S82)]) (wrap64 (x7_2 - 1)) s0_0 t240) else (none)) = some (r1, r2) := H
              have A19 := za.mk A190
              clear A190
              by_cases c20 : x6_2.length < 5864062014805
              · rw [if_pos c20] at H
                have LMc20 := za.mk c20
                clear c20
                obtain ⟨y241, hy241⟩ : ∃ y_ : List (S82), y_ = (x6_2 ++ [(⟨t237, t238, t239⟩ : S82)]) := ⟨_, rfl⟩
                replace H : (zJ.l0 k2 a1 y241 (wrap64 (x7_2 - 1)) s0_0 t240) = some (r1, r2) := by first | (rw [hy241]; with_reducible exact H) | (have H2_ := (Option.bind_some _ _).symm.trans H; rw [hy241]; with_reducible exact H2_) | (have H2_ := (Option.bind_some _ _).symm.trans H; with_reducible exact H2_) | with_reducible exact H | (rw [hy241]; exact H) | exact H
                have Ny241 := za.mk hy241
                clear hy241
                have H' := za.mk H
                clear H
                go_wp2_with (first | ((with_reducible refine zx (f := 93) rfl ?_); refine z6 (some 39) rfl rfl Tryd.func93 (by kernel_rfl) rfl #[.pointer (some ⟨g, 0, none⟩), .int .i64 a1] rfl (by (try simp only [List.map_toArray, List.map_cons, List.map_nil]); first | done | rfl | (simp only [List.length_drop, List.length_take]; rfl)) ?_; (with_reducible refine (zH.calls k2 g s0_0 x1001_2 a1 t237 t238 t239 t240 w0 _ ?side1 ?side2 A19.out).mono ?_); (case side1 => repeat (with_reducible first | exact HI0.out | apply ze.alloc | apply ze.drewN | apply ze.drew | apply ze.set_1)); (case side2 => repeat (with_reducible first | exact HB.out | apply zc | apply zb | apply zd | refine zh ?_ (ze.ge HI0.out))); rintro e w21 ⟨rfl, hi, hb, hk⟩; refine ⟨_, rfl, ?_⟩; have n0_ := za.mk (Kd.zZ (Kd.R_keep (ze.apart (show ze w0 _ g s0_0 x1001_2 from by repeat (with_reducible first | exact HI0.out | apply ze.alloc | apply ze.drewN | apply ze.drew | apply ze.set_1)) (by (with_reducible repeat (first | apply Kd.zE | apply Kd.zG | apply Kd.zT)); exact HO_6.out) (by decide)) hk (fun _ h => h.2)) (fun _ h => h.1)); have n1_ := za.mk (zk.trans (by repeat (with_reducible first | exact HK.out | apply zk.set_ | apply zu | apply zz | apply zt)) hk (.inl rfl)); have n2_ := za.mk (hb); have n3_ := za.mk (hi); clear HO_6; clear HK; clear HB; clear HI0; have HO_6 := n0_; have HK := n1_; have HB := n2_; have HI0 := n3_; clear n0_ n1_ n2_ n3_; (try clear hb); (try clear hb2); (try clear hk); (try clear hi)) | ((with_reducible refine xy (b := .append) (xs := #[.tmp 36, .tmp 40]) rfl ?_); at_builtin; refine Kd.R_append k82 w.heap.size rfl (.tmp 36) (.tmp 40) 50 82 (.agg #[(.int .i64 0), (.int .i64 0), (.int .i64 0)]) 24 rfl Tryd.underlying50 info82 rfl (by decide) (by omega) u6 x6_2 (⟨t237, t238, t239⟩ : S82) [.int .i64 t237, .int .i64 t238, .int .i64 t239] (fun _ => True) (fun _ => False) rfl rfl ?aP (fun _ hk => hk.elim) ?aF ?aO (Below.refl _ _) ?aS ?aL ?_; (case aP => exact k82_mkM _ _ _ (⟨t237, t238, t239⟩ : S82)); (case aF => exact (fun _ _ => trivial)); (case aO => exact (by (with_reducible repeat (first | apply Kd.zE | apply Kd.zG | apply Kd.zT)); exact HO_6.out)); (case aS => exact (z7 (w := w) (g := g) (row := none) (by repeat (with_reducible first | exact HK.out | apply zk.set_ | apply zu | apply zz | apply zt)))); (case aL => have := LMc20.out; omega); intro v242 w22 ho hb hg hat; rw [← Ny241.out] at ho; have n0_ := za.mk (ze.grown (by repeat (with_reducible first | exact HI0.out | apply ze.alloc | apply ze.drewN | apply ze.drew | apply ze.set_1)) hg (ze.own_ne HI0.out HO_6.out (by decide))); have n1_ := za.mk (yX (by repeat (with_reducible first | exact HB.out | apply zc | apply zb | apply zd | refine zh ?_ (ze.ge HI0.out))) HL.out hb); have n2_ := za.mk (zk.trans (by repeat (with_reducible first | exact HK.out | apply zk.set_ | apply zu | apply zz | apply zt)) (zk.of_grown hg g) (Kd.R_base2 HO_6.out)); have n3_ := za.mk (ho); clear HI0; clear HB; clear HK; clear HO_6; have HI0 := n0_; have HB := n1_; have HK := n2_; have HO243 := n3_; clear n0_ n1_ n2_ n3_; clear ho hb hg hat))
                go_roundg k2
                case measure => have := HJ2.out; have := HK2.out; omega
                case rel => exact ⟨(y241), (wrap64 (x7_2 - 1)), (t240), (by first | rfl | (simp; done) | (simp [*]; done)), H', ⟨by have := HJ2.out; have := HK2.out; omega⟩, ⟨by (with_reducible repeat (first | apply Kd.zE | apply Kd.zG | apply Kd.zT)); exact HO243.out⟩, ⟨by repeat (with_reducible first | exact HI0.out | apply ze.alloc | apply ze.drewN | apply ze.drew | apply ze.set_1)⟩, ⟨by repeat (with_reducible first | exact HK.out | apply zk.set_ | apply zu | apply zz | apply zt)⟩, ⟨by repeat (with_reducible first | exact HB.out | apply zc | apply zb | apply zd | refine zh ?_ (ze.ge HI0.out))⟩⟩
              · rw [if_neg c20] at H
                exact absurd H (by simp)
            · rw [if_neg c18] at H
              have c18b0 : decide (0 < x7_2) = false := decide_eq_false c18
              clear c18
              simp only [Option.some.injEq, Prod.mk.injEq] at H
              obtain ⟨rfl, rfl⟩ := H
              go_wp2
              go_ret
              exact ⟨_, by first | rfl | (simp [zr, zq] <;> rfl) | (simp [*, zr, zq] <;> rfl), by (with_reducible repeat (first | apply Kd.zE | apply Kd.zG | apply Kd.zT)); exact HO_6.out, by repeat (with_reducible first | exact HI0.out | apply ze.alloc | apply ze.drewN | apply ze.drew | apply ze.set_1), by repeat (with_reducible first | exact HB.out | apply zc | apply zb | apply zd | refine zh ?_ (ze.ge HI0.out)), by repeat (with_reducible first | exact HK.out | apply zk.set_ | apply zu | apply zz | apply zt)⟩
end Go.Proofs.YtoeepmcaabmjkaaDoor.QPO
namespace Go.Proofs.YtoeepmcaabmjkaaDoor.QPO
open Go.RowKit Go.Proofs.YtoeepmcaabmjkaaDoorW.PrintWords Go.Proofs.YtoeepmcaabmjkaaDoorW.PrintLast Go.Proofs.YtoeepmcaabmjkaaDoorW.PrintMore
attribute [local go_sem] yz yx yQ yP yl yk yy yw   -- for this text's walks alone
set_option linter.unusedVariables false
set_option linter.unusedSimpArgs false
mutual
def zv.l0 : Nat → Int → Int → Int → List (S52) → Int → List Int → Int → Option ((List (S52)) × Int)
  | 0, _, _, _, _, _, _, _ => none
  | k + 1, x1, x2, x3, x9, x10, x1000, x1001 => if x10 > 0 then ((zi.f k x1000 x1001 12).bind fun bt249 => (if bt249.1 = 0 then ((zi.f k x1000 bt249.2 2).bind fun bt251 => (if bt251.1 = 0 then (if x9.length < 2199023255552 then (zv.l0 k x1 x2 x3 (x9 ++ [(⟨3, ([] : List (S82)), ([] : List Int), 0⟩ : S52)]) (wrap64 (x10 - 1)) x1000 bt251.2) else (none)) else (zv.l0 k x1 x2 x3 x9 (wrap64 (x10 - 1)) x1000 bt251.2))) else (if bt249.1 = 1 then ((zi.f k x1000 bt249.2 3).bind fun bt256 => (if x9.length < 2199023255552 then (zv.l0 k x1 x2 x3 (x9 ++ [(⟨4, ([] : List (S82)), ([] : List Int), bt256.1⟩ : S52)]) (wrap64 (x10 - 1)) x1000 bt256.2) else (none))) else (if bt249.1 = 2 then (zv.j1 k x1 x2 x3 x9 x10 (bt249.1 == 2) x1000 bt249.2) else (if bt249.1 = 3 then (zv.j1 k x1 x2 x3 x9 x10 (bt249.1 == 3) x1000 bt249.2) else (if bt249.1 = 4 then (zv.j1 k x1 x2 x3 x9 x10 (bt249.1 == 4) x1000 bt249.2) else (zv.j1 k x1 x2 x3 x9 x10 (bt249.1 == 5) x1000 bt249.2))))))) else (some (x9, x1001))
def zv.j1 : Nat → Int → Int → Int → List (S52) → Int → Bool → List Int → Int → Option ((List (S52)) × Int)
  | 0, _, _, _, _, _, _, _, _ => none
  | k + 1, x1, x2, x3, x9, x10, x46, x1000, x1001 => if x46 = true then (if (wrap64 (x1 + 1)) < x2 then ((zi.f k x1000 x1001 (wrap64 ((wrap64 (x2 - x1)) - 1))).bind fun bt261 => ((some (([wrap64 ((wrap64 (x1 + 1)) + bt261.1)] : List Int) : List Int)).bind fun y263 => ((zi.f k x1000 bt261.2 3).bind fun bt266 => (if bt266.1 > 0 then ((zi.f k x1000 bt266.2 (wrap64 ((wrap64 (x2 - x1)) - 1))).bind fun bt268 => (if y263.length < 17592186044416 then (if x9.length < 2199023255552 then (zv.l0 k x1 x2 x3 (x9 ++ [(⟨2, ([] : List (S82)), (y263 ++ [wrap64 ((wrap64 (x1 + 1)) + bt268.1)]), 0⟩ : S52)]) (wrap64 (x10 - 1)) x1000 bt268.2) else (none)) else (none))) else (if x9.length < 2199023255552 then (zv.l0 k x1 x2 x3 (x9 ++ [(⟨2, ([] : List (S82)), y263, 0⟩ : S52)]) (wrap64 (x10 - 1)) x1000 bt266.2) else (none)))))) else (zv.l0 k x1 x2 x3 x9 (wrap64 (x10 - 1)) x1000 x1001)) else ((zJ.f k x1000 x1001 x3).bind fun bt279 => (if x9.length < 2199023255552 then (zv.l0 k x1 x2 x3 (x9 ++ [(⟨1, bt279.1, ([] : List Int), 0⟩ : S52)]) (wrap64 (x10 - 1)) x1000 bt279.2) else (none)))
end
def zv.f (k : Nat) (s0_0 : List Int) (s0_1 : Int) (a1 : Int) (a2 : Int) (a3 : Int) : Option ((List (S52)) × Int) := (zi.f k s0_0 s0_1 3).bind fun bt247 => (zv.l0 k a1 a2 a3 (([] : List (S52))) (wrap64 (1 + bt247.1)) s0_0 bt247.2)
set_option maxHeartbeats 8000000 in
set_option maxRecDepth 100000 in
theorem zv.calls (k : Nat) (g : Nat) (s0_0 : List Int) (s0_1 : Int) (a1 : Int) (a2 : Int) (a3 : Int) (r1 : List (S52)) (r2 : Int) (w0 w : World) (hI : ze w0 w g s0_0 s0_1) (hB : Below w0.heap.size w0 w) (h : zv.f k s0_0 s0_1 a1 a2 a3 = some (r1, r2)) :
    Calls Tryd.prog 75 #[.pointer (some ⟨g, 0, none⟩), .int .i64 a1, .int .i64 a2, .int .i64 a3] w fun e w' => ∃ v0_ : Value, e = .returned (v0_) ∧ Kd.S k52 52 w' w.heap.size (fun _ => True) v0_ r1 ∧ ze w0 w' g s0_0 r2 ∧ Below w0.heap.size w0 w' ∧ zk w w' g none := by
  have hu52 := Tryd.underlying52
  have HI0 := za.mk hI
  have HK := za.mk (zk.refl w g none)
  have HL := za.mk hB.size
  clear hI
  have HW0 := za.mk hB.size
  have HB := za.mk hB
  clear hB
  have H : ((zi.f k s0_0 s0_1 3).bind fun bt247 => (zv.l0 k a1 a2 a3 (([] : List (S52))) (wrap64 (1 + bt247.1)) s0_0 bt247.2)) = some (r1, r2) := h
  clear h
  obtain ⟨y244, hy244⟩ : ∃ y_ : List (S52), y_ = (([] : List (S52))) := ⟨_, rfl⟩
  replace H : ((zi.f k s0_0 s0_1 3).bind fun bt247 => (zv.l0 k a1 a2 a3 y244 (wrap64 (1 + bt247.1)) s0_0 bt247.2)) = some (r1, r2) := by first | (rw [hy244]; with_reducible exact H) | (have H2_ := (Option.bind_some _ _).symm.trans H; rw [hy244]; with_reducible exact H2_) | (have H2_ := (Option.bind_some _ _).symm.trans H; with_reducible exact H2_) | with_reducible exact H | (rw [hy244]; exact H) | exact H
  have Ny244 := za.mk hy244
  clear hy244
  replace H := Option.bind_eq_some_iff.mp H
  obtain ⟨⟨t247, t248⟩, A50, H⟩ := H
  replace H : (zv.l0 k a1 a2 a3 y244 (wrap64 (1 + t247)) s0_0 t248) = some (r1, r2) := H
  have A5 := za.mk A50
  clear A50
  have H' := za.mk H
  clear H
  go_enter Tryd.func75, Tryd.ntmps75
  go_wp2_with (first | ((with_reducible refine zY (N := 12) rfl ?_); refine Kd.S_lit k52 _ 52 ?hg (N := 12) ?hd (xs := ([] : List (S52))) (inner := []) (ok := fun _ => True) (okp := fun _ => True) ?hr ?hp (fun _ hk => hk) trivial (Below.refl _ _) (Nat.le_refl _) (by simp) ?_; (case hd => rfl); (case hg => rfl); (case hr => first | (go_simp; done) | (go_simp; rfl)); (case hp => exact (yt.none _ _)); intro v245 w6 ho7 hb hg_ hnew_; clear hg_ hnew_; (first | rw [← Ny244.out] at ho7 | (simp only [Int.reduceToNat] at ho7; rw [← Ny244.out] at ho7)); have n0_ := za.mk (Kd.S_lower ho7 (z7 (w := w) (g := g) (row := none) (by repeat (with_reducible first | exact HK.out | apply zk.set_ | apply zu | apply zz | apply zt)))); have n1_ := za.mk (ze.below (by repeat (with_reducible first | exact HI0.out | apply ze.alloc | apply ze.drewN | apply ze.drew | apply ze.set_1)) hb); have n2_ := za.mk (zk.trans (by repeat (with_reducible first | exact HK.out | apply zk.set_ | apply zu | apply zz | apply zt)) (zk.of_below hb g none) (.inl rfl)); have n3_ := za.mk (zp (by repeat (with_reducible first | exact HB.out | apply zc | apply zb | apply zd | refine zh ?_ (ze.ge HI0.out))) hb); clear HI0; clear HK; clear HB; have HO246 := n0_; have HI0 := n1_; have HK := n2_; have HB := n3_; clear n0_ n1_ n2_ n3_; clear hb ho7) | ((with_reducible refine zx (f := 56) rfl ?_); refine z6 (some 14) rfl rfl Tryd.func56 (by kernel_rfl) rfl #[.pointer (some ⟨g, 0, none⟩), .int .i64 3] rfl (by (try simp only [List.map_toArray, List.map_cons, List.map_nil]); first | done | rfl | (simp only [List.length_drop, List.length_take]; rfl)) ?_; (with_reducible refine (zi.calls k g s0_0 s0_1 3 t247 t248 w0 _ ?side1 ?side2 A5.out).mono ?_); (case side1 => repeat (with_reducible first | exact HI0.out | apply ze.alloc | apply ze.drewN | apply ze.drew | apply ze.set_1)); (case side2 => repeat (with_reducible first | exact HB.out | apply zc | apply zb | apply zd | refine zh ?_ (ze.ge HI0.out))); rintro e w8 ⟨rfl, hi, hb, hk⟩; refine ⟨_, rfl, ?_⟩; have n0_ := za.mk (Kd.xh (Kd.xL (ze.apartS (show ze w0 _ g s0_0 s0_1 from by repeat (with_reducible first | exact HI0.out | apply ze.alloc | apply ze.drewN | apply ze.drew | apply ze.set_1)) (by (with_reducible repeat (first | apply Kd.yF | apply Kd.yE | apply Kd.yV)); exact HO246.out) (by decide)) hk (fun _ h => h.2)) (fun _ h => h.1)); have n1_ := za.mk (zk.trans (by repeat (with_reducible first | exact HK.out | apply zk.set_ | apply zu | apply zz | apply zt)) hk (.inl rfl)); have n2_ := za.mk (hb); have n3_ := za.mk (hi); clear HO246; clear HK; clear HB; clear HI0; have HO246 := n0_; have HK := n1_; have HB := n2_; have HI0 := n3_; clear n0_ n1_ n2_ n3_; (try clear hb); (try clear hb2); (try clear hk); (try clear hi)))
  go_loopg [9, 10] k (fun kq v9 v10 w' => ∃ (x9_1 : List (S52)) (x10_1 : Int) (x1001_1 : Int), v10 = .int .i64 x10_1 ∧ za (zv.l0 kq a1 a2 a3 x9_1 x10_1 s0_0 x1001_1 = some (r1, r2)) ∧ za (kq ≤ k) ∧ za (Kd.S k52 52 w' w.heap.size (fun _ => True) v9 x9_1) ∧ za (ze w0 w' g s0_0 x1001_1) ∧ za (zk w w' g none) ∧ za (Below w0.heap.size w0 w'))
  case atStart => exact ⟨(y244), (wrap64 (1 + t247)), (t248), (by first | rfl | (simp; done) | (simp [*]; done)), H', ⟨Nat.le_refl _⟩, ⟨by (with_reducible repeat (first | apply Kd.yF | apply Kd.yE | apply Kd.yV)); exact HO246.out⟩, ⟨by repeat (with_reducible first | exact HI0.out | apply ze.alloc | apply ze.drewN | apply ze.drew | apply ze.set_1)⟩, ⟨by repeat (with_reducible first | exact HK.out | apply zk.set_ | apply zu | apply zz | apply zt)⟩, ⟨by repeat (with_reducible first | exact HB.out | apply zc | apply zb | apply zd | refine zh ?_ (ze.ge HI0.out))⟩⟩
  case round =>
    clear H'
    try clear p2
    try clear c5
    try clear p6
    try clear c7
    obtain ⟨x9_1, x10_1, x1001_1, rfl, HA, HK1, HO_9, HI0, HK, HB⟩ := hrel
    cases gk with
    | zero => exact absurd HA.out (by simp [zv.l0])
    | succ k1 =>
      have H := HA.out
      clear HA
      simp only [zv.l0] at H
      by_cases c9 : x10_1 > 0
      · rw [if_pos c9] at H
        have c9b0 : decide (0 < x10_1) = true := decide_eq_true c9
        clear c9
        replace H := Option.bind_eq_some_iff.mp H
        obtain ⟨⟨t249, t250⟩, A100, H⟩ := H
        replace H : (if t249 = 0 then ((zi.f k1 s0_0 t250 2).bind fun bt251 => (if bt251.1 = 0 then (if x9_1.length < 2199023255552 then (zv.l0 k1 a1 a2 a3 (x9_1 ++ [(⟨3, ([] : List (S82)), ([] : List Int), 0⟩ : S52)]) (wrap64 (x10_1 - 1)) s0_0 bt251.2) else (none)) else (zv.l0 k1 a1 a2 a3 x9_1 (wrap64 (x10_1 - 1)) s0_0 bt251.2))) else (if t249 = 1 then ((zi.f k1 s0_0 t250 3).bind fun bt256 => (if x9_1.length < 2199023255552 then (zv.l0 k1 a1 a2 a3 (x9_1 ++ [(⟨4, ([] : List (S82)), ([] : List Int), bt256.1⟩ : S52)]) (wrap64 (x10_1 - 1)) s0_0 bt256.2) else (none))) else (if t249 = 2 then (zv.j1 k1 a1 a2 a3 x9_1 x10_1 (t249 == 2) s0_0 t250) else (if t249 = 3 then (zv.j1 k1 a1 a2 a3 x9_1 x10_1 (t249 == 3) s0_0 t250) else (if t249 = 4 then (zv.j1 k1 a1 a2 a3 x9_1 x10_1 (t249 == 4) s0_0 t250) else (zv.j1 k1 a1 a2 a3 x9_1 x10_1 (t249 == 5) s0_0 t250)))))) = some (r1, r2) := H
        have A10 := za.mk A100
        clear A100
        by_cases c11 : t249 = 0
        · rw [if_pos c11] at H
          have c11b0 : (t249 == 0) = true := beq_iff_eq.mpr c11
          have c11b1 : (t249 != 0) = false := bne_eq_false_iff_eq.mpr c11
          clear c11
          replace H := Option.bind_eq_some_iff.mp H
          obtain ⟨⟨t251, t252⟩, A120, H⟩ := H
          replace H : (if t251 = 0 then (if x9_1.length < 2199023255552 then (zv.l0 k1 a1 a2 a3 (x9_1 ++ [(⟨3, ([] : List (S82)), ([] : List Int), 0⟩ : S52)]) (wrap64 (x10_1 - 1)) s0_0 t252) else (none)) else (zv.l0 k1 a1 a2 a3 x9_1 (wrap64 (x10_1 - 1)) s0_0 t252)) = some (r1, r2) := H
          have A12 := za.mk A120
          clear A120
          by_cases c13 : t251 = 0
          · rw [if_pos c13] at H
            have c13b0 : (t251 == 0) = true := beq_iff_eq.mpr c13
            have c13b1 : (t251 != 0) = false := bne_eq_false_iff_eq.mpr c13
            clear c13
            by_cases c14 : x9_1.length < 2199023255552
            · rw [if_pos c14] at H
              have LMc14 := za.mk c14
              clear c14
              obtain ⟨y253, hy253⟩ : ∃ y_ : List (S52), y_ = (x9_1 ++ [(⟨3, ([] : List (S82)), ([] : List Int), 0⟩ : S52)]) := ⟨_, rfl⟩
              replace H : (zv.l0 k1 a1 a2 a3 y253 (wrap64 (x10_1 - 1)) s0_0 t252) = some (r1, r2) := by first | (rw [hy253]; with_reducible exact H) | (have H2_ := (Option.bind_some _ _).symm.trans H; rw [hy253]; with_reducible exact H2_) | (have H2_ := (Option.bind_some _ _).symm.trans H; with_reducible exact H2_) | with_reducible exact H | (rw [hy253]; exact H) | exact H
              have Ny253 := za.mk hy253
              clear hy253
              have H' := za.mk H
              clear H
              go_wp2_with (first | ((with_reducible refine zx (f := 56) rfl ?_); refine z6 (some 21) rfl rfl Tryd.func56 (by kernel_rfl) rfl #[.pointer (some ⟨g, 0, none⟩), .int .i64 12] rfl (by (try simp only [List.map_toArray, List.map_cons, List.map_nil]); first | done | rfl | (simp only [List.length_drop, List.length_take]; rfl)) ?_; (with_reducible refine (zi.calls k1 g s0_0 x1001_1 12 t249 t250 w0 _ ?side1 ?side2 A10.out).mono ?_); (case side1 => repeat (with_reducible first | exact HI0.out | apply ze.alloc | apply ze.drewN | apply ze.drew | apply ze.set_1)); (case side2 => repeat (with_reducible first | exact HB.out | apply zc | apply zb | apply zd | refine zh ?_ (ze.ge HI0.out))); rintro e w15 ⟨rfl, hi, hb, hk⟩; refine ⟨_, rfl, ?_⟩; have n0_ := za.mk (Kd.xh (Kd.xL (ze.apartS (show ze w0 _ g s0_0 x1001_1 from by repeat (with_reducible first | exact HI0.out | apply ze.alloc | apply ze.drewN | apply ze.drew | apply ze.set_1)) (by (with_reducible repeat (first | apply Kd.yF | apply Kd.yE | apply Kd.yV)); exact HO_9.out) (by decide)) hk (fun _ h => h.2)) (fun _ h => h.1)); have n1_ := za.mk (zk.trans (by repeat (with_reducible first | exact HK.out | apply zk.set_ | apply zu | apply zz | apply zt)) hk (.inl rfl)); have n2_ := za.mk (hb); have n3_ := za.mk (hi); clear HO_9; clear HK; clear HB; clear HI0; have HO_9 := n0_; have HK := n1_; have HB := n2_; have HI0 := n3_; clear n0_ n1_ n2_ n3_; (try clear hb); (try clear hb2); (try clear hk); (try clear hi)) | ((with_reducible refine zx (f := 56) rfl ?_); refine z6 (some 32) rfl rfl Tryd.func56 (by kernel_rfl) rfl #[.pointer (some ⟨g, 0, none⟩), .int .i64 2] rfl (by (try simp only [List.map_toArray, List.map_cons, List.map_nil]); first | done | rfl | (simp only [List.length_drop, List.length_take]; rfl)) ?_; (with_reducible refine (zi.calls k1 g s0_0 t250 2 t251 t252 w0 _ ?side1 ?side2 A12.out).mono ?_); (case side1 => repeat (with_reducible first | exact HI0.out | apply ze.alloc | apply ze.drewN | apply ze.drew | apply ze.set_1)); (case side2 => repeat (with_reducible first | exact HB.out | apply zc | apply zb | apply zd | refine zh ?_ (ze.ge HI0.out))); rintro e w16 ⟨rfl, hi, hb, hk⟩; refine ⟨_, rfl, ?_⟩; have n0_ := za.mk (Kd.xh (Kd.xL (ze.apartS (show ze w0 _ g s0_0 t250 from by repeat (with_reducible first | exact HI0.out | apply ze.alloc | apply ze.drewN | apply ze.drew | apply ze.set_1)) (by (with_reducible repeat (first | apply Kd.yF | apply Kd.yE | apply Kd.yV)); exact HO_9.out) (by decide)) hk (fun _ h => h.2)) (fun _ h => h.1)); have n1_ := za.mk (zk.trans (by repeat (with_reducible first | exact HK.out | apply zk.set_ | apply zu | apply zz | apply zt)) hk (.inl rfl)); have n2_ := za.mk (hb); have n3_ := za.mk (hi); clear HO_9; clear HK; clear HB; clear HI0; have HO_9 := n0_; have HK := n1_; have HB := n2_; have HI0 := n3_; clear n0_ n1_ n2_ n3_; (try clear hb); (try clear hb2); (try clear hk); (try clear hi)) | ((with_reducible refine xy (b := .append) (xs := #[.tmp 34, .tmp 36]) rfl ?_); at_builtin; refine Kd.S_append k52 w.heap.size rfl (.tmp 34) (.tmp 36) 48 52 (.agg #[(.int .i64 0), (.slice none 0 0), (.slice none 0 0), (.int .i64 0)]) 64 rfl Tryd.underlying48 info52 rfl (by decide) (by omega) u9 x9_1 (⟨3, ([] : List (S82)), ([] : List Int), 0⟩ : S52) [.int .i64 3, .slice none 0 0, .slice none 0 0, .int .i64 0] (fun _ => True) (fun _ => False) rfl rfl ?aP (fun k_ hk_ => hk_.elim) ?aF ?aO (Below.refl _ _) ?aS ?aL ?_; (case aP => exact xC _ _ _ (⟨3, ([] : List (S82)), ([] : List Int), 0⟩ : S52) (Kd.xG _ _ _ _ _) (Kd.xG _ _ _ _ _)); (case aF => exact (fun _ _ => trivial)); (case aO => exact (by (with_reducible repeat (first | apply Kd.yF | apply Kd.yE | apply Kd.yV)); exact Kd.xh HO_9.out (fun k_ hk => ⟨trivial, fun e_ => e_⟩))); (case aS => exact (z7 (w := w) (g := g) (row := none) (by repeat (with_reducible first | exact HK.out | apply zk.set_ | apply zu | apply zz | apply zt)))); (case aL => have := LMc14.out; omega); intro v254 w17 ho hb hg hat; rw [← Ny253.out] at ho; have n0_ := za.mk (ze.grown (by repeat (with_reducible first | exact HI0.out | apply ze.alloc | apply ze.drewN | apply ze.drew | apply ze.set_1)) hg (ze.own_neS HI0.out HO_9.out (by decide))); have n1_ := za.mk (yX (by repeat (with_reducible first | exact HB.out | apply zc | apply zb | apply zd | refine zh ?_ (ze.ge HI0.out))) HL.out hb); have n2_ := za.mk (zk.trans (by repeat (with_reducible first | exact HK.out | apply zk.set_ | apply zu | apply zz | apply zt)) (zk.of_grown hg g) (Kd.S_base2 HO_9.out)); have n3_ := za.mk (ho); clear HI0; clear HB; clear HK; clear HO_9; have HI0 := n0_; have HB := n1_; have HK := n2_; have HO255 := n3_; clear n0_ n1_ n2_ n3_; clear ho hb hg hat))
              go_roundg k1
              case measure => have := HK1.out; omega
              case rel => exact ⟨(y253), (wrap64 (x10_1 - 1)), (t252), (by first | rfl | (simp; done) | (simp [*]; done)), H', ⟨by have := HK1.out; omega⟩, ⟨by (with_reducible repeat (first | apply Kd.yF | apply Kd.yE | apply Kd.yV)); exact HO255.out⟩, ⟨by repeat (with_reducible first | exact HI0.out | apply ze.alloc | apply ze.drewN | apply ze.drew | apply ze.set_1)⟩, ⟨by repeat (with_reducible first | exact HK.out | apply zk.set_ | apply zu | apply zz | apply zt)⟩, ⟨by repeat (with_reducible first | exact HB.out | apply zc | apply zb | apply zd | refine zh ?_ (ze.ge HI0.out))⟩⟩
            · rw [if_neg c14] at H
              exact absurd H (by simp)
          · rw [if_neg c13] at H
            have c13b0 : (t251 == 0) = false := beq_eq_false_iff_ne.mpr c13
            have c13b1 : (t251 != 0) = true := bne_iff_ne.mpr c13
            have H' := za.mk H
            clear H
            go_wp2_with (first | ((with_reducible refine zx (f := 56) rfl ?_); refine z6 (some 21) rfl rfl Tryd.func56 (by kernel_rfl) rfl #[.pointer (some ⟨g, 0, none⟩), .int .i64 12] rfl (by (try simp only [List.map_toArray, List.map_cons, List.map_nil]); first | done | rfl | (simp only [List.length_drop, List.length_take]; rfl)) ?_; (with_reducible refine (zi.calls k1 g s0_0 x1001_1 12 t249 t250 w0 _ ?side1 ?side2 A10.out).mono ?_); (case side1 => repeat (with_reducible first | exact HI0.out | apply ze.alloc | apply ze.drewN | apply ze.drew | apply ze.set_1)); (case side2 => repeat (with_reducible first | exact HB.out | apply zc | apply zb | apply zd | refine zh ?_ (ze.ge HI0.out))); rintro e w18 ⟨rfl, hi, hb, hk⟩; refine ⟨_, rfl, ?_⟩; have n0_ := za.mk (Kd.xh (Kd.xL (ze.apartS (show ze w0 _ g s0_0 x1001_1 from by repeat (with_reducible first | exact HI0.out | apply ze.alloc | apply ze.drewN | apply ze.drew | apply ze.set_1)) (by (with_reducible repeat (first | apply Kd.yF | apply Kd.yE | apply Kd.yV)); exact HO_9.out) (by decide)) hk (fun _ h => h.2)) (fun _ h => h.1)); have n1_ := za.mk (zk.trans (by repeat (with_reducible first | exact HK.out | apply zk.set_ | apply zu | apply zz | apply zt)) hk (.inl rfl)); have n2_ := za.mk (hb); have n3_ := za.mk (hi); clear HO_9; clear HK; clear HB; clear HI0; have HO_9 := n0_; have HK := n1_; have HB := n2_; have HI0 := n3_; clear n0_ n1_ n2_ n3_; (try clear hb); (try clear hb2); (try clear hk); (try clear hi)) | ((with_reducible refine zx (f := 56) rfl ?_); refine z6 (some 32) rfl rfl Tryd.func56 (by kernel_rfl) rfl #[.pointer (some ⟨g, 0, none⟩), .int .i64 2] rfl (by (try simp only [List.map_toArray, List.map_cons, List.map_nil]); first | done | rfl | (simp only [List.length_drop, List.length_take]; rfl)) ?_; (with_reducible refine (zi.calls k1 g s0_0 t250 2 t251 t252 w0 _ ?side1 ?side2 A12.out).mono ?_); (case side1 => repeat (with_reducible first | exact HI0.out | apply ze.alloc | apply ze.drewN | apply ze.drew | apply ze.set_1)); (case side2 => repeat (with_reducible first | exact HB.out | apply zc | apply zb | apply zd | refine zh ?_ (ze.ge HI0.out))); rintro e w19 ⟨rfl, hi, hb, hk⟩; refine ⟨_, rfl, ?_⟩; have n0_ := za.mk (Kd.xh (Kd.xL (ze.apartS (show ze w0 _ g s0_0 t250 from by repeat (with_reducible first | exact HI0.out | apply ze.alloc | apply ze.drewN | apply ze.drew | apply ze.set_1)) (by (with_reducible repeat (first | apply Kd.yF | apply Kd.yE | apply Kd.yV)); exact HO_9.out) (by decide)) hk (fun _ h => h.2)) (fun _ h => h.1)); have n1_ := za.mk (zk.trans (by repeat (with_reducible first | exact HK.out | apply zk.set_ | apply zu | apply zz | apply zt)) hk (.inl rfl)); have n2_ := za.mk (hb); have n3_ := za.mk (hi); clear HO_9; clear HK; clear HB; clear HI0; have HO_9 := n0_; have HK := n1_; have HB := n2_; have HI0 := n3_; clear n0_ n1_ n2_ n3_; (try clear hb); (try clear hb2); (try clear hk); (try clear hi)))
            go_roundg k1
            case measure => have := HK1.out; omega
            case rel => exact ⟨(x9_1), (wrap64 (x10_1 - 1)), (t252), (by first | rfl | (simp; done) | (simp [*]; done)), H', ⟨by have := HK1.out; omega⟩, ⟨by (with_reducible repeat (first | apply Kd.yF | apply Kd.yE | apply Kd.yV)); exact HO_9.out⟩, ⟨by repeat (with_reducible first | exact HI0.out | apply ze.alloc | apply ze.drewN | apply ze.drew | apply ze.set_1)⟩, ⟨by repeat (with_reducible first | exact HK.out | apply zk.set_ | apply zu | apply zz | apply zt)⟩, ⟨by repeat (with_reducible first | exact HB.out | apply zc | apply zb | apply zd | refine zh ?_ (ze.ge HI0.out))⟩⟩
        · rw [if_neg c11] at H
          have c11b0 : (t249 == 0) = false := beq_eq_false_iff_ne.mpr c11
          have c11b1 : (t249 != 0) = true := bne_iff_ne.mpr c11
          by_cases c20 : t249 = 1
          · rw [if_pos c20] at H
            have c20b0 : (t249 == 1) = true := beq_iff_eq.mpr c20
            have c20b1 : (t249 != 1) = false := bne_eq_false_iff_eq.mpr c20
            clear c20
            replace H := Option.bind_eq_some_iff.mp H
            obtain ⟨⟨t256, t257⟩, A210, H⟩ := H
            replace H : (if x9_1.length < 2199023255552 then (zv.l0 k1 a1 a2 a3 (x9_1 ++ [(⟨4, ([] : List (S82)), ([] : List Int), t256⟩ : S52)]) (wrap64 (x10_1 - 1)) s0_0 t257) else (none)) = some (r1, r2) := H
            have A21 := za.mk A210
            clear A210
            by_cases c22 : x9_1.length < 2199023255552
            · rw [if_pos c22] at H
              have LMc22 := za.mk c22
              clear c22
              obtain ⟨y258, hy258⟩ : ∃ y_ : List (S52), y_ = (x9_1 ++ [(⟨4, ([] : List (S82)), ([] : List Int), t256⟩ : S52)]) := ⟨_, rfl⟩
              replace H : (zv.l0 k1 a1 a2 a3 y258 (wrap64 (x10_1 - 1)) s0_0 t257) = some (r1, r2) := by first | (rw [hy258]; with_reducible exact H) | (have H2_ := (Option.bind_some _ _).symm.trans H; rw [hy258]; with_reducible exact H2_) | (have H2_ := (Option.bind_some _ _).symm.trans H; with_reducible exact H2_) | with_reducible exact H | (rw [hy258]; exact H) | exact H
              have Ny258 := za.mk hy258
              clear hy258
              have H' := za.mk H
              clear H
              go_wp2_with (first | ((with_reducible refine zx (f := 56) rfl ?_); refine z6 (some 21) rfl rfl Tryd.func56 (by kernel_rfl) rfl #[.pointer (some ⟨g, 0, none⟩), .int .i64 12] rfl (by (try simp only [List.map_toArray, List.map_cons, List.map_nil]); first | done | rfl | (simp only [List.length_drop, List.length_take]; rfl)) ?_; (with_reducible refine (zi.calls k1 g s0_0 x1001_1 12 t249 t250 w0 _ ?side1 ?side2 A10.out).mono ?_); (case side1 => repeat (with_reducible first | exact HI0.out | apply ze.alloc | apply ze.drewN | apply ze.drew | apply ze.set_1)); (case side2 => repeat (with_reducible first | exact HB.out | apply zc | apply zb | apply zd | refine zh ?_ (ze.ge HI0.out))); rintro e w23 ⟨rfl, hi, hb, hk⟩; refine ⟨_, rfl, ?_⟩; have n0_ := za.mk (Kd.xh (Kd.xL (ze.apartS (show ze w0 _ g s0_0 x1001_1 from by repeat (with_reducible first | exact HI0.out | apply ze.alloc | apply ze.drewN | apply ze.drew | apply ze.set_1)) (by (with_reducible repeat (first | apply Kd.yF | apply Kd.yE | apply Kd.yV)); exact HO_9.out) (by decide)) hk (fun _ h => h.2)) (fun _ h => h.1)); have n1_ := za.mk (zk.trans (by repeat (with_reducible first | exact HK.out | apply zk.set_ | apply zu | apply zz | apply zt)) hk (.inl rfl)); have n2_ := za.mk (hb); have n3_ := za.mk (hi); clear HO_9; clear HK; clear HB; clear HI0; have HO_9 := n0_; have HK := n1_; have HB := n2_; have HI0 := n3_; clear n0_ n1_ n2_ n3_; (try clear hb); (try clear hb2); (try clear hk); (try clear hi)) | ((with_reducible refine zx (f := 56) rfl ?_); refine z6 (some 42) rfl rfl Tryd.func56 (by kernel_rfl) rfl #[.pointer (some ⟨g, 0, none⟩), .int .i64 3] rfl (by (try simp only [List.map_toArray, List.map_cons, List.map_nil]); first | done | rfl | (simp only [List.length_drop, List.length_take]; rfl)) ?_; (with_reducible refine (zi.calls k1 g s0_0 t250 3 t256 t257 w0 _ ?side1 ?side2 A21.out).mono ?_); (case side1 => repeat (with_reducible first | exact HI0.out | apply ze.alloc | apply ze.drewN | apply ze.drew | apply ze.set_1)); (case side2 => repeat (with_reducible first | exact HB.out | apply zc | apply zb | apply zd | refine zh ?_ (ze.ge HI0.out))); rintro e w24 ⟨rfl, hi, hb, hk⟩; refine ⟨_, rfl, ?_⟩; have n0_ := za.mk (Kd.xh (Kd.xL (ze.apartS (show ze w0 _ g s0_0 t250 from by repeat (with_reducible first | exact HI0.out | apply ze.alloc | apply ze.drewN | apply ze.drew | apply ze.set_1)) (by (with_reducible repeat (first | apply Kd.yF | apply Kd.yE | apply Kd.yV)); exact HO_9.out) (by decide)) hk (fun _ h => h.2)) (fun _ h => h.1)); have n1_ := za.mk (zk.trans (by repeat (with_reducible first | exact HK.out | apply zk.set_ | apply zu | apply zz | apply zt)) hk (.inl rfl)); have n2_ := za.mk (hb); have n3_ := za.mk (hi); clear HO_9; clear HK; clear HB; clear HI0; have HO_9 := n0_; have HK := n1_; have HB := n2_; have HI0 := n3_; clear n0_ n1_ n2_ n3_; (try clear hb); (try clear hb2); (try clear hk); (try clear hi)) | ((with_reducible refine xy (b := .append) (xs := #[.tmp 40, .tmp 44]) rfl ?_); at_builtin; refine Kd.S_append k52 w.heap.size rfl (.tmp 40) (.tmp 44) 48 52 (.agg #[(.int .i64 0), (.slice none 0 0), (.slice none 0 0), (.int .i64 0)]) 64 rfl Tryd.underlying48 info52 rfl (by decide) (by omega) u9 x9_1 (⟨4, ([] : List (S82)), ([] : List Int), t256⟩ : S52) [.int .i64 4, .slice none 0 0, .slice none 0 0, .int .i64 t256] (fun _ => True) (fun _ => False) rfl rfl ?aP (fun k_ hk_ => hk_.elim) ?aF ?aO (Below.refl _ _) ?aS ?aL ?_; (case aP => exact xC _ _ _ (⟨4, ([] : List (S82)), ([] : List Int), t256⟩ : S52) (Kd.xG _ _ _ _ _) (Kd.xG _ _ _ _ _)); (case aF => exact (fun _ _ => trivial)); (case aO => exact (by (with_reducible repeat (first | apply Kd.yF | apply Kd.yE | apply Kd.yV)); exact Kd.xh HO_9.out (fun k_ hk => ⟨trivial, fun e_ => e_⟩))); (case aS => exact (z7 (w := w) (g := g) (row := none) (by repeat (with_reducible first | exact HK.out | apply zk.set_ | apply zu | apply zz | apply zt)))); (case aL => have := LMc22.out; omega); intro v259 w25 ho hb hg hat; rw [← Ny258.out] at ho; have n0_ := za.mk (ze.grown (by repeat (with_reducible first | exact HI0.out | apply ze.alloc | apply ze.drewN | apply ze.drew | apply ze.set_1)) hg (ze.own_neS HI0.out HO_9.out (by decide))); have n1_ := za.mk (yX (by repeat (with_reducible first | exact HB.out | apply zc | apply zb | apply zd | refine zh ?_ (ze.ge HI0.out))) HL.out hb); have n2_ := za.mk (zk.trans (by repeat (with_reducible first | exact HK.out | apply zk.set_ | apply zu | apply zz | apply zt)) (zk.of_grown hg g) (Kd.S_base2 HO_9.out)); have n3_ := za.mk (ho); clear HI0; clear HB; clear HK; clear HO_9; have HI0 := n0_; have HB := n1_; have HK := n2_; have HO260 := n3_; clear n0_ n1_ n2_ n3_; clear ho hb hg hat))
              go_roundg k1
              case measure => have := HK1.out; omega
              case rel => exact ⟨(y258), (wrap64 (x10_1 - 1)), (t257), (by first | rfl | (simp; done) | (simp [*]; done)), H', ⟨by have := HK1.out; omega⟩, ⟨by (with_reducible repeat (first | apply Kd.yF | apply Kd.yE | apply Kd.yV)); exact HO260.out⟩, ⟨by repeat (with_reducible first | exact HI0.out | apply ze.alloc | apply ze.drewN | apply ze.drew | apply ze.set_1)⟩, ⟨by repeat (with_reducible first | exact HK.out | apply zk.set_ | apply zu | apply zz | apply zt)⟩, ⟨by repeat (with_reducible first | exact HB.out | apply zc | apply zb | apply zd | refine zh ?_ (ze.ge HI0.out))⟩⟩
            · rw [if_neg c22] at H
              exact absurd H (by simp)
          · rw [if_neg c20] at H
            have c20b0 : (t249 == 1) = false := beq_eq_false_iff_ne.mpr c20
            have c20b1 : (t249 != 1) = true := bne_iff_ne.mpr c20
            have HC26 := za.mk H
            clear H
            go_upto_if 46 with (first | ((with_reducible refine zx (f := 56) rfl ?_); refine z6 (some 21) rfl rfl Tryd.func56 (by kernel_rfl) rfl #[.pointer (some ⟨g, 0, none⟩), .int .i64 12] rfl (by (try simp only [List.map_toArray, List.map_cons, List.map_nil]); first | done | rfl | (simp only [List.length_drop, List.length_take]; rfl)) ?_; (with_reducible refine (zi.calls k1 g s0_0 x1001_1 12 t249 t250 w0 _ ?side1 ?side2 A10.out).mono ?_); (case side1 => repeat (with_reducible first | exact HI0.out | apply ze.alloc | apply ze.drewN | apply ze.drew | apply ze.set_1)); (case side2 => repeat (with_reducible first | exact HB.out | apply zc | apply zb | apply zd | refine zh ?_ (ze.ge HI0.out))); rintro e w27 ⟨rfl, hi, hb, hk⟩; refine ⟨_, rfl, ?_⟩; have n0_ := za.mk (Kd.xh (Kd.xL (ze.apartS (show ze w0 _ g s0_0 x1001_1 from by repeat (with_reducible first | exact HI0.out | apply ze.alloc | apply ze.drewN | apply ze.drew | apply ze.set_1)) (by (with_reducible repeat (first | apply Kd.yF | apply Kd.yE | apply Kd.yV)); exact HO_9.out) (by decide)) hk (fun _ h => h.2)) (fun _ h => h.1)); have n1_ := za.mk (zk.trans (by repeat (with_reducible first | exact HK.out | apply zk.set_ | apply zu | apply zz | apply zt)) hk (.inl rfl)); have n2_ := za.mk (hb); have n3_ := za.mk (hi); clear HO_9; clear HK; clear HB; clear HI0; have HO_9 := n0_; have HK := n1_; have HB := n2_; have HI0 := n3_; clear n0_ n1_ n2_ n3_; (try clear hb); (try clear hb2); (try clear hk); (try clear hi)))
            (try simp only [Act.put, List.setIfInBounds_toArray, List.set_cons_zero, List.set_cons_succ])
            go_cut [46] (fun v46 wc => ∃ (kq : Nat) (x46_25 : Bool), v46 = .bool x46_25 ∧ za (zv.j1 kq a1 a2 a3 x9_1 x10_1 x46_25 s0_0 t250 = some (r1, r2)) ∧ za (kq ≤ k1) ∧ za (Kd.S k52 52 wc w.heap.size (fun _ => True) u9 x9_1) ∧ za (ze w0 wc g s0_0 t250) ∧ za (zk w wc g none) ∧ za (Below w0.heap.size w0 wc))
            case first =>
              have H := HC26.out
              clear HC26
              by_cases c28 : t249 = 2
              · rw [if_pos c28] at H
                have c28b0 : (t249 == 2) = true := beq_iff_eq.mpr c28
                have c28b1 : (t249 != 2) = false := bne_eq_false_iff_eq.mpr c28
                clear c28
                (first | rw [c28b0] | (simp only [zn, zo]; rw [c28b0]) | skip)
                have H' := za.mk H
                clear H
                go_wp2
                go_meet
                case rel => exact ⟨_, ((t249 == 2)), (by first | rfl | (simp; done) | (simp [*]; done)), H', ⟨by have := HK1.out; first | omega | exact Nat.le_refl _⟩, ⟨by (with_reducible repeat (first | apply Kd.yF | apply Kd.yE | apply Kd.yV)); exact HO_9.out⟩, ⟨by repeat (with_reducible first | exact HI0.out | apply ze.alloc | apply ze.drewN | apply ze.drew | apply ze.set_1)⟩, ⟨by repeat (with_reducible first | exact HK.out | apply zk.set_ | apply zu | apply zz | apply zt)⟩, ⟨by repeat (with_reducible first | exact HB.out | apply zc | apply zb | apply zd | refine zh ?_ (ze.ge HI0.out))⟩⟩
              · rw [if_neg c28] at H
                have c28b0 : (t249 == 2) = false := beq_eq_false_iff_ne.mpr c28
                have c28b1 : (t249 != 2) = true := bne_iff_ne.mpr c28
                (first | rw [c28b0] | (simp only [zn, zo]; rw [c28b0]) | skip)
                by_cases c29 : t249 = 3
                · rw [if_pos c29] at H
                  have c29b0 : (t249 == 3) = true := beq_iff_eq.mpr c29
                  have c29b1 : (t249 != 3) = false := bne_eq_false_iff_eq.mpr c29
                  clear c29
                  have H' := za.mk H
                  clear H
                  go_wp2
                  go_meet
                  case rel => exact ⟨_, ((t249 == 3)), (by first | rfl | (simp; done) | (simp [*]; done)), H', ⟨by have := HK1.out; first | omega | exact Nat.le_refl _⟩, ⟨by (with_reducible repeat (first | apply Kd.yF | apply Kd.yE | apply Kd.yV)); exact HO_9.out⟩, ⟨by repeat (with_reducible first | exact HI0.out | apply ze.alloc | apply ze.drewN | apply ze.drew | apply ze.set_1)⟩, ⟨by repeat (with_reducible first | exact HK.out | apply zk.set_ | apply zu | apply zz | apply zt)⟩, ⟨by repeat (with_reducible first | exact HB.out | apply zc | apply zb | apply zd | refine zh ?_ (ze.ge HI0.out))⟩⟩
                · rw [if_neg c29] at H
                  have c29b0 : (t249 == 3) = false := beq_eq_false_iff_ne.mpr c29
                  have c29b1 : (t249 != 3) = true := bne_iff_ne.mpr c29
                  by_cases c30 : t249 = 4
                  · rw [if_pos c30] at H
                    have c30b0 : (t249 == 4) = true := beq_iff_eq.mpr c30
                    have c30b1 : (t249 != 4) = false := bne_eq_false_iff_eq.mpr c30
                    clear c30
                    have H' := za.mk H
                    clear H
                    go_wp2
                    go_meet
                    case rel => exact ⟨_, ((t249 == 4)), (by first | rfl | (simp; done) | (simp [*]; done)), H', ⟨by have := HK1.out; first | omega | exact Nat.le_refl _⟩, ⟨by (with_reducible repeat (first | apply Kd.yF | apply Kd.yE | apply Kd.yV)); exact HO_9.out⟩, ⟨by repeat (with_reducible first | exact HI0.out | apply ze.alloc | apply ze.drewN | apply ze.drew | apply ze.set_1)⟩, ⟨by repeat (with_reducible first | exact HK.out | apply zk.set_ | apply zu | apply zz | apply zt)⟩, ⟨by repeat (with_reducible first | exact HB.out | apply zc | apply zb | apply zd | refine zh ?_ (ze.ge HI0.out))⟩⟩
                  · rw [if_neg c30] at H
                    have c30b0 : (t249 == 4) = false := beq_eq_false_iff_ne.mpr c30
                    have c30b1 : (t249 != 4) = true := bne_iff_ne.mpr c30
                    have H' := za.mk H
                    clear H
                    go_wp2
                    go_meet
                    case rel => exact ⟨_, ((t249 == 5)), (by first | rfl | (simp; done) | (simp [*]; done)), H', ⟨by have := HK1.out; first | omega | exact Nat.le_refl _⟩, ⟨by (with_reducible repeat (first | apply Kd.yF | apply Kd.yE | apply Kd.yV)); exact HO_9.out⟩, ⟨by repeat (with_reducible first | exact HI0.out | apply ze.alloc | apply ze.drewN | apply ze.drew | apply ze.set_1)⟩, ⟨by repeat (with_reducible first | exact HK.out | apply zk.set_ | apply zu | apply zz | apply zt)⟩, ⟨by repeat (with_reducible first | exact HB.out | apply zc | apply zb | apply zd | refine zh ?_ (ze.ge HI0.out))⟩⟩
            case rest =>
              clear HC26
              try clear c1
              try clear c2
              try clear p2
              try clear c3
              try clear c5
              try clear p6
              try clear c7
              try clear c9
              try clear c9b0
              try clear c11
              try clear c11b0
              try clear c11b1
              try clear c13
              try clear c13b0
              try clear c13b1
              try clear c14
              try clear c20
              try clear c20b0
              try clear c20b1
              try clear c22
              try clear c28
              try clear c28b0
              try clear c28b1
              try clear c29
              try clear c29b0
              try clear c29b1
              try clear c30
              try clear c30b0
              try clear c30b1
              try clear p2
              try clear p6
              obtain ⟨kq, x46_25, rfl, HA, HJ25, HO_9, HI0, HK, HB⟩ := hcut
              cases kq with
              | zero => exact absurd HA.out (by simp [zv.j1])
              | succ kj25 =>
                have H := HA.out
                clear HA
                simp only [zv.j1] at H
                by_cases c31 : x46_25 = true
                · subst c31
                  have H1 : (if (wrap64 (a1 + 1)) < a2 then ((zi.f kj25 s0_0 t250 (wrap64 ((wrap64 (a2 - a1)) - 1))).bind fun bt261 => ((some (([wrap64 ((wrap64 (a1 + 1)) + bt261.1)] : List Int) : List Int)).bind fun y263 => ((zi.f kj25 s0_0 bt261.2 3).bind fun bt266 => (if bt266.1 > 0 then ((zi.f kj25 s0_0 bt266.2 (wrap64 ((wrap64 (a2 - a1)) - 1))).bind fun bt268 => (if y263.length < 17592186044416 then (if x9_1.length < 2199023255552 then (zv.l0 kj25 a1 a2 a3 (x9_1 ++ [(⟨2, ([] : List (S82)), (y263 ++ [wrap64 ((wrap64 (a1 + 1)) + bt268.1)]), 0⟩ : S52)]) (wrap64 (x10_1 - 1)) s0_0 bt268.2) else (none)) else (none))) else (if x9_1.length < 2199023255552 then (zv.l0 kj25 a1 a2 a3 (x9_1 ++ [(⟨2, ([] : List (S82)), y263, 0⟩ : S52)]) (wrap64 (x10_1 - 1)) s0_0 bt266.2) else (none)))))) else (zv.l0 kj25 a1 a2 a3 x9_1 (wrap64 (x10_1 - 1)) s0_0 t250)) = some (r1, r2) := by rw [if_pos rfl] at H; exact H
                  clear H
                  have H := H1
                  clear H1
                  by_cases c32 : (wrap64 (a1 + 1)) < a2
                  · rw [if_pos c32] at H
                    have c32b0 : decide ((wrap64 (a1 + 1)) < a2) = true := decide_eq_true c32
                    clear c32
                    replace H := Option.bind_eq_some_iff.mp H
                    obtain ⟨⟨t261, t262⟩, A330, H⟩ := H
                    replace H : ((some (([wrap64 ((wrap64 (a1 + 1)) + t261)] : List Int) : List Int)).bind fun y263 => ((zi.f kj25 s0_0 t262 3).bind fun bt266 => (if bt266.1 > 0 then ((zi.f kj25 s0_0 bt266.2 (wrap64 ((wrap64 (a2 - a1)) - 1))).bind fun bt268 => (if y263.length < 17592186044416 then (if x9_1.length < 2199023255552 then (zv.l0 kj25 a1 a2 a3 (x9_1 ++ [(⟨2, ([] : List (S82)), (y263 ++ [wrap64 ((wrap64 (a1 + 1)) + bt268.1)]), 0⟩ : S52)]) (wrap64 (x10_1 - 1)) s0_0 bt268.2) else (none)) else (none))) else (if x9_1.length < 2199023255552 then (zv.l0 kj25 a1 a2 a3 (x9_1 ++ [(⟨2, ([] : List (S82)), y263, 0⟩ : S52)]) (wrap64 (x10_1 - 1)) s0_0 bt266.2) else (none))))) = some (r1, r2) := H
                    have A33 := za.mk A330
                    clear A330
                    obtain ⟨y263, hy263⟩ : ∃ y_ : List Int, y_ = (([wrap64 ((wrap64 (a1 + 1)) + t261)] : List Int)) := ⟨_, rfl⟩
                    replace H : ((zi.f kj25 s0_0 t262 3).bind fun bt266 => (if bt266.1 > 0 then ((zi.f kj25 s0_0 bt266.2 (wrap64 ((wrap64 (a2 - a1)) - 1))).bind fun bt268 => (if y263.length < 17592186044416 then (if x9_1.length < 2199023255552 then (zv.l0 kj25 a1 a2 a3 (x9_1 ++ [(⟨2, ([] : List (S82)), (y263 ++ [wrap64 ((wrap64 (a1 + 1)) + bt268.1)]), 0⟩ : S52)]) (wrap64 (x10_1 - 1)) s0_0 bt268.2) else (none)) else (none))) else (if x9_1.length < 2199023255552 then (zv.l0 kj25 a1 a2 a3 (x9_1 ++ [(⟨2, ([] : List (S82)), y263, 0⟩ : S52)]) (wrap64 (x10_1 - 1)) s0_0 bt266.2) else (none)))) = some (r1, r2) := by first | (rw [hy263]; with_reducible exact H) | (have H2_ := (Option.bind_some _ _).symm.trans H; rw [hy263]; with_reducible exact H2_) | (have H2_ := (Option.bind_some _ _).symm.trans H; with_reducible exact H2_) | with_reducible exact H | (rw [hy263]; exact H) | exact H
                    have Ny263 := za.mk hy263
                    clear hy263
                    replace H := Option.bind_eq_some_iff.mp H
                    obtain ⟨⟨t266, t267⟩, A340, H⟩ := H
                    replace H : (if t266 > 0 then ((zi.f kj25 s0_0 t267 (wrap64 ((wrap64 (a2 - a1)) - 1))).bind fun bt268 => (if y263.length < 17592186044416 then (if x9_1.length < 2199023255552 then (zv.l0 kj25 a1 a2 a3 (x9_1 ++ [(⟨2, ([] : List (S82)), (y263 ++ [wrap64 ((wrap64 (a1 + 1)) + bt268.1)]), 0⟩ : S52)]) (wrap64 (x10_1 - 1)) s0_0 bt268.2) else (none)) else (none))) else (if x9_1.length < 2199023255552 then (zv.l0 kj25 a1 a2 a3 (x9_1 ++ [(⟨2, ([] : List (S82)), y263, 0⟩ : S52)]) (wrap64 (x10_1 - 1)) s0_0 t267) else (none))) = some (r1, r2) := H
                    have A34 := za.mk A340
                    clear A340
                    by_cases c35 : t266 > 0
                    · rw [if_pos c35] at H
                      have c35b0 : decide (0 < t266) = true := decide_eq_true c35
                      clear c35
                      replace H := Option.bind_eq_some_iff.mp H
                      obtain ⟨⟨t268, t269⟩, A360, H⟩ := H
                      replace H : (if y263.length < 17592186044416 then (if x9_1.length < 2199023255552 then (zv.l0 kj25 a1 a2 a3 (x9_1 ++ [(⟨2, ([] : List (S82)), (y263 ++ [wrap64 ((wrap64 (a1 + 1)) + t268)]), 0⟩ : S52)]) (wrap64 (x10_1 - 1)) s0_0 t269) else (none)) else (none)) = some (r1, r2) := H
                      have A36 := za.mk A360
                      clear A360
                      by_cases c37 : y263.length < 17592186044416
                      · rw [if_pos c37] at H
                        have LMc37 := za.mk c37
                        clear c37
                        obtain ⟨y270, hy270⟩ : ∃ y_ : List Int, y_ = (y263 ++ [wrap64 ((wrap64 (a1 + 1)) + t268)]) := ⟨_, rfl⟩
                        replace H : (if x9_1.length < 2199023255552 then (zv.l0 kj25 a1 a2 a3 (x9_1 ++ [(⟨2, ([] : List (S82)), y270, 0⟩ : S52)]) (wrap64 (x10_1 - 1)) s0_0 t269) else (none)) = some (r1, r2) := by first | (rw [hy270]; with_reducible exact H) | (have H2_ := (Option.bind_some _ _).symm.trans H; rw [hy270]; with_reducible exact H2_) | (have H2_ := (Option.bind_some _ _).symm.trans H; with_reducible exact H2_) | with_reducible exact H | (rw [hy270]; exact H) | exact H
                        have Ny270 := za.mk hy270
                        clear hy270
                        by_cases c38 : x9_1.length < 2199023255552
                        · rw [if_pos c38] at H
                          have LMc38 := za.mk c38
                          clear c38
                          obtain ⟨y273, hy273⟩ : ∃ y_ : List (S52), y_ = (x9_1 ++ [(⟨2, ([] : List (S82)), y270, 0⟩ : S52)]) := ⟨_, rfl⟩
                          replace H : (zv.l0 kj25 a1 a2 a3 y273 (wrap64 (x10_1 - 1)) s0_0 t269) = some (r1, r2) := by first | (rw [hy273]; with_reducible exact H) | (have H2_ := (Option.bind_some _ _).symm.trans H; rw [hy273]; with_reducible exact H2_) | (have H2_ := (Option.bind_some _ _).symm.trans H; with_reducible exact H2_) | with_reducible exact H | (rw [hy273]; exact H) | exact H
                          have Ny273 := za.mk hy273
                          clear hy273
                          have H' := za.mk H
                          clear H
                          go_wp2_with (first | ((with_reducible refine zx (f := 56) rfl ?_); refine z6 (some 62) rfl rfl Tryd.func56 (by kernel_rfl) rfl #[.pointer (some ⟨g, 0, none⟩), .int .i64 (wrap64 ((wrap64 (a2 - a1)) - 1))] rfl (by (try simp only [List.map_toArray, List.map_cons, List.map_nil]); first | done | rfl | (simp only [List.length_drop, List.length_take]; rfl)) ?_; (with_reducible refine (zi.calls kj25 g s0_0 t250 (wrap64 ((wrap64 (a2 - a1)) - 1)) t261 t262 w0 _ ?side1 ?side2 A33.out).mono ?_); (case side1 => repeat (with_reducible first | exact HI0.out | apply ze.alloc | apply ze.drewN | apply ze.drew | apply ze.set_1)); (case side2 => repeat (with_reducible first | exact HB.out | apply zc | apply zb | apply zd | refine zh ?_ (ze.ge HI0.out))); rintro e w39 ⟨rfl, hi, hb, hk⟩; refine ⟨_, rfl, ?_⟩; have n0_ := za.mk (Kd.xh (Kd.xL (ze.apartS (show ze w0 _ g s0_0 t250 from by repeat (with_reducible first | exact HI0.out | apply ze.alloc | apply ze.drewN | apply ze.drew | apply ze.set_1)) (by (with_reducible repeat (first | apply Kd.yF | apply Kd.yE | apply Kd.yV)); exact HO_9.out) (by decide)) hk (fun _ h => h.2)) (fun _ h => h.1)); have n1_ := za.mk (zk.trans (by repeat (with_reducible first | exact HK.out | apply zk.set_ | apply zu | apply zz | apply zt)) hk (.inl rfl)); have n2_ := za.mk (hb); have n3_ := za.mk (hi); clear HO_9; clear HK; clear HB; clear HI0; have HO_9 := n0_; have HK := n1_; have HB := n2_; have HI0 := n3_; clear n0_ n1_ n2_ n3_; (try clear hb); (try clear hb2); (try clear hk); (try clear hi)) | ((with_reducible refine zY (N := 64) rfl ?_); refine Kd.R_lit (Kd.int .i64) _ 3 ?hg (N := 64) ?hd (xs := ([wrap64 ((wrap64 (a1 + 1)) + t261)] : List Int)) (inner := [.int .i64 (wrap64 ((wrap64 (a1 + 1)) + t261))]) (ok := fun _ => True) (okp := fun _ => True) ?hr ?hp (fun _ hk => hk) trivial (Below.refl _ _) (Nat.le_refl _) (by simp) ?_; (case hd => rfl); (case hg => rfl); (case hr => first | (go_simp; done) | (go_simp; rfl)); (case hp => exact (yt.one (show Kd.M (Kd.int .i64) _ _ _ (wrap64 ((wrap64 (a1 + 1)) + t261)) [.int .i64 (wrap64 ((wrap64 (a1 + 1)) + t261))] from rfl) (yt.none _ _))); intro v264 w40 ho41 hb hg_ hnew_; clear hg_ hnew_; (first | rw [← Ny263.out] at ho41 | (simp only [Int.reduceToNat] at ho41; rw [← Ny263.out] at ho41)); have n0_ := za.mk (Kd.S_elder' (by (with_reducible repeat (first | apply Kd.yF | apply Kd.yE | apply Kd.yV)); exact HO_9.out) (Kd.xM ho41) hb); have n1_ := za.mk (Kd.yq ho41 (z7 (w := w) (g := g) (row := none) (by repeat (with_reducible first | exact HK.out | apply zk.set_ | apply zu | apply zz | apply zt)))); have n2_ := za.mk (ze.below (by repeat (with_reducible first | exact HI0.out | apply ze.alloc | apply ze.drewN | apply ze.drew | apply ze.set_1)) hb); have n3_ := za.mk (zk.trans (by repeat (with_reducible first | exact HK.out | apply zk.set_ | apply zu | apply zz | apply zt)) (zk.of_below hb g none) (.inl rfl)); have n4_ := za.mk (zp (by repeat (with_reducible first | exact HB.out | apply zc | apply zb | apply zd | refine zh ?_ (ze.ge HI0.out))) hb); clear HO_9; clear HI0; clear HK; clear HB; have HO_9 := n0_; have HO265 := n1_; have HI0 := n2_; have HK := n3_; have HB := n4_; clear n0_ n1_ n2_ n3_ n4_; clear hb ho41) | ((with_reducible refine zx (f := 56) rfl ?_); refine z6 (some 66) rfl rfl Tryd.func56 (by kernel_rfl) rfl #[.pointer (some ⟨g, 0, none⟩), .int .i64 3] rfl (by (try simp only [List.map_toArray, List.map_cons, List.map_nil]); first | done | rfl | (simp only [List.length_drop, List.length_take]; rfl)) ?_; (with_reducible refine (zi.calls kj25 g s0_0 t262 3 t266 t267 w0 _ ?side1 ?side2 A34.out).mono ?_); (case side1 => repeat (with_reducible first | exact HI0.out | apply ze.alloc | apply ze.drewN | apply ze.drew | apply ze.set_1)); (case side2 => repeat (with_reducible first | exact HB.out | apply zc | apply zb | apply zd | refine zh ?_ (ze.ge HI0.out))); rintro e w42 ⟨rfl, hi, hb, hk⟩; refine ⟨_, rfl, ?_⟩; have n0_ := za.mk (Kd.xh (Kd.xL (ze.apartS (show ze w0 _ g s0_0 t262 from by repeat (with_reducible first | exact HI0.out | apply ze.alloc | apply ze.drewN | apply ze.drew | apply ze.set_1)) (by (with_reducible repeat (first | apply Kd.yF | apply Kd.yE | apply Kd.yV)); exact HO_9.out) (by decide)) hk (fun _ h => h.2)) (fun _ h => h.1)); have n1_ := za.mk (Kd.zZ (Kd.R_keep (ze.apart (show ze w0 _ g s0_0 t262 from by repeat (with_reducible first | exact HI0.out | apply ze.alloc | apply ze.drewN | apply ze.drew | apply ze.set_1)) (by (with_reducible repeat (first | apply Kd.zE | apply Kd.zG | apply Kd.zT)); exact HO265.out) (by decide)) hk (fun _ h => h.2)) (fun _ h => h.1)); have n2_ := za.mk (zk.trans (by repeat (with_reducible first | exact HK.out | apply zk.set_ | apply zu | apply zz | apply zt)) hk (.inl rfl)); have n3_ := za.mk (hb); have n4_ := za.mk (hi); clear HO_9; clear HO265; clear HK; clear HB; clear HI0; have HO_9 := n0_; have HO265 := n1_; have HK := n2_; have HB := n3_; have HI0 := n4_; clear n0_ n1_ n2_ n3_ n4_; (try clear hb); (try clear hb2); (try clear hk); (try clear hi)) | ((with_reducible refine zx (f := 56) rfl ?_); refine z6 (some 76) rfl rfl Tryd.func56 (by kernel_rfl) rfl #[.pointer (some ⟨g, 0, none⟩), .int .i64 (wrap64 ((wrap64 (a2 - a1)) - 1))] rfl (by (try simp only [List.map_toArray, List.map_cons, List.map_nil]); first | done | rfl | (simp only [List.length_drop, List.length_take]; rfl)) ?_; (with_reducible refine (zi.calls kj25 g s0_0 t267 (wrap64 ((wrap64 (a2 - a1)) - 1)) t268 t269 w0 _ ?side1 ?side2 A36.out).mono ?_); (case side1 => repeat (with_reducible first | exact HI0.out | apply ze.alloc | apply ze.drewN | apply ze.drew | apply ze.set_1)); (case side2 => repeat (with_reducible first | exact HB.out | apply zc | apply zb | apply zd | refine zh ?_ (ze.ge HI0.out))); rintro e w43 ⟨rfl, hi, hb, hk⟩; refine ⟨_, rfl, ?_⟩; have n0_ := za.mk (Kd.xh (Kd.xL (ze.apartS (show ze w0 _ g s0_0 t267 from by repeat (with_reducible first | exact HI0.out | apply ze.alloc | apply ze.drewN | apply ze.drew | apply ze.set_1)) (by (with_reducible repeat (first | apply Kd.yF | apply Kd.yE | apply Kd.yV)); exact HO_9.out) (by decide)) hk (fun _ h => h.2)) (fun _ h => h.1)); have n1_ := za.mk (Kd.zZ (Kd.R_keep (ze.apart (show ze w0 _ g s0_0 t267 from by repeat (with_reducible first | exact HI0.out | apply ze.alloc | apply ze.drewN | apply ze.drew | apply ze.set_1)) (by (with_reducible repeat (first | apply Kd.zE | apply Kd.zG | apply Kd.zT)); exact HO265.out) (by decide)) hk (fun _ h => h.2)) (fun _ h => h.1)); have n2_ := za.mk (zk.trans (by repeat (with_reducible first | exact HK.out | apply zk.set_ | apply zu | apply zz | apply zt)) hk (.inl rfl)); have n3_ := za.mk (hb); have n4_ := za.mk (hi); clear HO_9; clear HO265; clear HK; clear HB; clear HI0; have HO_9 := n0_; have HO265 := n1_; have HK := n2_; have HB := n3_; have HI0 := n4_; clear n0_ n1_ n2_ n3_ n4_; (try clear hb); (try clear hb2); (try clear hk); (try clear hi)) | ((with_reducible refine xy (b := .append) (xs := #[.tmp 68, .tmp 78]) rfl ?_); at_builtin; refine Kd.R_append (Kd.int .i64) w.heap.size rfl (.tmp 68) (.tmp 78) 22 3 (.int .i64 0) 8 rfl Tryd.underlying22 info3 rfl (by decide) (by omega) v264 y263 (wrap64 ((wrap64 (a1 + 1)) + t268)) [.int .i64 (wrap64 ((wrap64 (a1 + 1)) + t268))] (fun _ => True) (fun _ => False) rfl rfl ?aP (fun _ hk => hk.elim) ?aF ?aO (Below.refl _ _) ?aS ?aL ?_; (case aP => exact rfl); (case aF => exact (fun _ _ => trivial)); (case aO => exact (by (with_reducible repeat (first | apply Kd.zE | apply Kd.zG | apply Kd.zT)); exact HO265.out)); (case aS => exact (z7 (w := w) (g := g) (row := none) (by repeat (with_reducible first | exact HK.out | apply zk.set_ | apply zu | apply zz | apply zt)))); (case aL => have := LMc37.out; omega); intro v271 w44 ho hb hg hat; rw [← Ny270.out] at ho; have n0_ := za.mk (Kd.S_after (ok := (fun _ => True)) (by (with_reducible repeat (first | apply Kd.yF | apply Kd.yE | apply Kd.yV)); exact HO_9.out) hg hat); have n1_ := za.mk (ze.grown (by repeat (with_reducible first | exact HI0.out | apply ze.alloc | apply ze.drewN | apply ze.drew | apply ze.set_1)) hg (ze.own_ne HI0.out HO265.out (by decide))); have n2_ := za.mk (yX (by repeat (with_reducible first | exact HB.out | apply zc | apply zb | apply zd | refine zh ?_ (ze.ge HI0.out))) HL.out hb); have n3_ := za.mk (zk.trans (by repeat (with_reducible first | exact HK.out | apply zk.set_ | apply zu | apply zz | apply zt)) (zk.of_grown hg g) (Kd.R_base2 HO265.out)); have n4_ := za.mk (ho); clear HO_9; clear HI0; clear HB; clear HK; clear HO265; have HO_9 := n0_; have HI0 := n1_; have HB := n2_; have HK := n3_; have HO272 := n4_; clear n0_ n1_ n2_ n3_ n4_; clear ho hb hg hat; obtain ⟨Ao45, co45, eo45⟩ := Kd.yn HO272.out; subst eo45) | ((with_reducible refine xy (b := .append) (xs := #[.tmp 80, .tmp 83]) rfl ?_); at_builtin; refine Kd.S_append k52 w.heap.size rfl (.tmp 80) (.tmp 83) 48 52 (.agg #[(.int .i64 0), (.slice none 0 0), (.slice none 0 0), (.int .i64 0)]) 64 rfl Tryd.underlying48 info52 rfl (by decide) (by omega) u9 x9_1 (⟨2, ([] : List (S82)), y270, 0⟩ : S52) [.int .i64 2, .slice none 0 0, .slice Ao45 y270.length co45, .int .i64 0] (fun _ => True) (fun k_ => some k_ = (.slice Ao45 y270.length co45 : Value).ownBlock) rfl rfl ?aP (fun k_ hk_ => ((Kd.zZ (ok' := fun k_ => ((fun _ => True)) k_ ∧ some k_ ≠ (u9 : Value).ownBlock) (Kd.R_apart' (HO272.out) (Kd.S_typed HO_9.out) (by decide)) (fun k_ hk => ⟨trivial, hk.2⟩))).1 k_ hk_.symm) ?aF ?aO (Below.refl _ _) ?aS ?aL ?_; (case aP => exact xC _ _ _ (⟨2, ([] : List (S82)), y270, 0⟩ : S52) (Kd.xG _ _ _ _ _) (Kd.zZ (Kd.R_tight rfl (Kd.zZ (ok' := fun k_ => ((fun _ => True)) k_ ∧ some k_ ≠ (u9 : Value).ownBlock) (Kd.R_apart' (HO272.out) (Kd.S_typed HO_9.out) (by decide)) (fun k_ hk => ⟨trivial, hk.2⟩))) (fun _ h_ => h_))); (case aF => exact (fun _ _ => trivial)); (case aO => exact (by (with_reducible repeat (first | apply Kd.yF | apply Kd.yE | apply Kd.yV)); exact Kd.xh HO_9.out (fun k_ hk => ⟨trivial, fun e_ => hk.2 e_⟩))); (case aS => exact (z7 (w := w) (g := g) (row := none) (by repeat (with_reducible first | exact HK.out | apply zk.set_ | apply zu | apply zz | apply zt)))); (case aL => have := LMc38.out; omega); intro v274 w46 ho hb hg hat; rw [← Ny273.out] at ho; have n0_ := za.mk (ze.grown (by repeat (with_reducible first | exact HI0.out | apply ze.alloc | apply ze.drewN | apply ze.drew | apply ze.set_1)) hg (ze.own_neS HI0.out HO_9.out (by decide))); have n1_ := za.mk (yX (by repeat (with_reducible first | exact HB.out | apply zc | apply zb | apply zd | refine zh ?_ (ze.ge HI0.out))) HL.out hb); have n2_ := za.mk (zk.trans (by repeat (with_reducible first | exact HK.out | apply zk.set_ | apply zu | apply zz | apply zt)) (zk.of_grown hg g) (Kd.S_base2 HO_9.out)); have n3_ := za.mk (ho); clear HI0; clear HB; clear HK; clear HO_9; clear HO272; have HI0 := n0_; have HB := n1_; have HK := n2_; have HO275 := n3_; clear n0_ n1_ n2_ n3_; clear ho hb hg hat))
                          go_roundg kj25
                          case measure => have := HK1.out; have := HJ25.out; omega
                          case rel => exact ⟨(y273), (wrap64 (x10_1 - 1)), (t269), (by first | rfl | (simp; done) | (simp [*]; done)), H', ⟨by have := HK1.out; have := HJ25.out; omega⟩, ⟨by (with_reducible repeat (first | apply Kd.yF | apply Kd.yE | apply Kd.yV)); exact HO275.out⟩, ⟨by repeat (with_reducible first | exact HI0.out | apply ze.alloc | apply ze.drewN | apply ze.drew | apply ze.set_1)⟩, ⟨by repeat (with_reducible first | exact HK.out | apply zk.set_ | apply zu | apply zz | apply zt)⟩, ⟨by repeat (with_reducible first | exact HB.out | apply zc | apply zb | apply zd | refine zh ?_ (ze.ge HI0.out))⟩⟩
                        · rw [if_neg c38] at H
                          exact absurd H (by simp)
                      · rw [if_neg c37] at H
                        exact absurd H (by simp)
                    · rw [if_neg c35] at H
                      have c35b0 : decide (0 < t266) = false := decide_eq_false c35
                      clear c35
                      by_cases c47 : x9_1.length < 2199023255552
                      · rw [if_pos c47] at H
                        have LMc47 := za.mk c47
                        clear c47
                        obtain ⟨y276, hy276⟩ : ∃ y_ : List (S52), y_ = (x9_1 ++ [(⟨2, ([] : List (S82)), y263, 0⟩ : S52)]) := ⟨_, rfl⟩
                        replace H : (zv.l0 kj25 a1 a2 a3 y276 (wrap64 (x10_1 - 1)) s0_0 t267) = some (r1, r2) := by first | (rw [hy276]; with_reducible exact H) | (have H2_ := (Option.bind_some _ _).symm.trans H; rw [hy276]; with_reducible exact H2_) | (have H2_ := (Option.bind_some _ _).symm.trans H; with_reducible exact H2_) | with_reducible exact H | (rw [hy276]; exact H) | exact H
                        have Ny276 := za.mk hy276
                        clear hy276
                        have H' := za.mk H
                        clear H
                        go_wp2_with (first | ((with_reducible refine zx (f := 56) rfl ?_); refine z6 (some 62) rfl rfl Tryd.func56 (by kernel_rfl) rfl #[.pointer (some ⟨g, 0, none⟩), .int .i64 (wrap64 ((wrap64 (a2 - a1)) - 1))] rfl (by (try simp only [List.map_toArray, List.map_cons, List.map_nil]); first | done | rfl | (simp only [List.length_drop, List.length_take]; rfl)) ?_; (with_reducible refine (zi.calls kj25 g s0_0 t250 (wrap64 ((wrap64 (a2 - a1)) - 1)) t261 t262 w0 _ ?side1 ?side2 A33.out).mono ?_); (case side1 => repeat (with_reducible first | exact HI0.out | apply ze.alloc | apply ze.drewN | apply ze.drew | apply ze.set_1)); (case side2 => repeat (with_reducible first | exact HB.out | apply zc | apply zb | apply zd | refine zh ?_ (ze.ge HI0.out))); rintro e w48 ⟨rfl, hi, hb, hk⟩; refine ⟨_, rfl, ?_⟩; have n0_ := za.mk (Kd.xh (Kd.xL (ze.apartS (show ze w0 _ g s0_0 t250 from by repeat (with_reducible first | exact HI0.out | apply ze.alloc | apply ze.drewN | apply ze.drew | apply ze.set_1)) (by (with_reducible repeat (first | apply Kd.yF | apply Kd.yE | apply Kd.yV)); exact HO_9.out) (by decide)) hk (fun _ h => h.2)) (fun _ h => h.1)); have n1_ := za.mk (zk.trans (by repeat (with_reducible first | exact HK.out | apply zk.set_ | apply zu | apply zz | apply zt)) hk (.inl rfl)); have n2_ := za.mk (hb); have n3_ := za.mk (hi); clear HO_9; clear HK; clear HB; clear HI0; have HO_9 := n0_; have HK := n1_; have HB := n2_; have HI0 := n3_; clear n0_ n1_ n2_ n3_; (try clear hb); (try clear hb2); (try clear hk); (try clear hi)) | ((with_reducible refine zY (N := 64) rfl ?_); refine Kd.R_lit (Kd.int .i64) _ 3 ?hg (N := 64) ?hd (xs := ([wrap64 ((wrap64 (a1 + 1)) + t261)] : List Int)) (inner := [.int .i64 (wrap64 ((wrap64 (a1 + 1)) + t261))]) (ok := fun _ => True) (okp := fun _ => True) ?hr ?hp (fun _ hk => hk) trivial (Below.refl _ _) (Nat.le_refl _) (by simp) ?_; (case hd => rfl); (case hg => rfl); (case hr => first | (go_simp; done) | (go_simp; rfl)); (case hp => exact (yt.one (show Kd.M (Kd.int .i64) _ _ _ (wrap64 ((wrap64 (a1 + 1)) + t261)) [.int .i64 (wrap64 ((wrap64 (a1 + 1)) + t261))] from rfl) (yt.none _ _))); intro v264 w49 ho50 hb hg_ hnew_; clear hg_ hnew_; (first | rw [← Ny263.out] at ho50 | (simp only [Int.reduceToNat] at ho50; rw [← Ny263.out] at ho50)); have n0_ := za.mk (Kd.S_elder' (by (with_reducible repeat (first | apply Kd.yF | apply Kd.yE | apply Kd.yV)); exact HO_9.out) (Kd.xM ho50) hb); have n1_ := za.mk (Kd.yq ho50 (z7 (w := w) (g := g) (row := none) (by repeat (with_reducible first | exact HK.out | apply zk.set_ | apply zu | apply zz | apply zt)))); have n2_ := za.mk (ze.below (by repeat (with_reducible first | exact HI0.out | apply ze.alloc | apply ze.drewN | apply ze.drew | apply ze.set_1)) hb); have n3_ := za.mk (zk.trans (by repeat (with_reducible first | exact HK.out | apply zk.set_ | apply zu | apply zz | apply zt)) (zk.of_below hb g none) (.inl rfl)); have n4_ := za.mk (zp (by repeat (with_reducible first | exact HB.out | apply zc | apply zb | apply zd | refine zh ?_ (ze.ge HI0.out))) hb); clear HO_9; clear HI0; clear HK; clear HB; have HO_9 := n0_; have HO265 := n1_; have HI0 := n2_; have HK := n3_; have HB := n4_; clear n0_ n1_ n2_ n3_ n4_; clear hb ho50) | ((with_reducible refine zx (f := 56) rfl ?_); refine z6 (some 66) rfl rfl Tryd.func56 (by kernel_rfl) rfl #[.pointer (some ⟨g, 0, none⟩), .int .i64 3] rfl (by (try simp only [List.map_toArray, List.map_cons, List.map_nil]); first | done | rfl | (simp only [List.length_drop, List.length_take]; rfl)) ?_; (with_reducible refine (zi.calls kj25 g s0_0 t262 3 t266 t267 w0 _ ?side1 ?side2 A34.out).mono ?_); (case side1 => repeat (with_reducible first | exact HI0.out | apply ze.alloc | apply ze.drewN | apply ze.drew | apply ze.set_1)); (case side2 => repeat (with_reducible first | exact HB.out | apply zc | apply zb | apply zd | refine zh ?_ (ze.ge HI0.out))); rintro e w51 ⟨rfl, hi, hb, hk⟩; refine ⟨_, rfl, ?_⟩; have n0_ := za.mk (Kd.xh (Kd.xL (ze.apartS (show ze w0 _ g s0_0 t262 from by repeat (with_reducible first | exact HI0.out | apply ze.alloc | apply ze.drewN | apply ze.drew | apply ze.set_1)) (by (with_reducible repeat (first | apply Kd.yF | apply Kd.yE | apply Kd.yV)); exact HO_9.out) (by decide)) hk (fun _ h => h.2)) (fun _ h => h.1)); have n1_ := za.mk (Kd.zZ (Kd.R_keep (ze.apart (show ze w0 _ g s0_0 t262 from by repeat (with_reducible first | exact HI0.out | apply ze.alloc | apply ze.drewN | apply ze.drew | apply ze.set_1)) (by (with_reducible repeat (first | apply Kd.zE | apply Kd.zG | apply Kd.zT)); exact HO265.out) (by decide)) hk (fun _ h => h.2)) (fun _ h => h.1)); have n2_ := za.mk (zk.trans (by repeat (with_reducible first | exact HK.out | apply zk.set_ | apply zu | apply zz | apply zt)) hk (.inl rfl)); have n3_ := za.mk (hb); have n4_ := za.mk (hi); clear HO_9; clear HO265; clear HK; clear HB; clear HI0; have HO_9 := n0_; have HO265 := n1_; have HK := n2_; have HB := n3_; have HI0 := n4_; clear n0_ n1_ n2_ n3_ n4_; (try clear hb); (try clear hb2); (try clear hk); (try clear hi); obtain ⟨Ao52, co52, eo52⟩ := Kd.yn HO265.out; subst eo52) | ((with_reducible refine xy (b := .append) (xs := #[.tmp 80, .tmp 83]) rfl ?_); at_builtin; refine Kd.S_append k52 w.heap.size rfl (.tmp 80) (.tmp 83) 48 52 (.agg #[(.int .i64 0), (.slice none 0 0), (.slice none 0 0), (.int .i64 0)]) 64 rfl Tryd.underlying48 info52 rfl (by decide) (by omega) u9 x9_1 (⟨2, ([] : List (S82)), y263, 0⟩ : S52) [.int .i64 2, .slice none 0 0, .slice Ao52 y263.length co52, .int .i64 0] (fun _ => True) (fun k_ => some k_ = (.slice Ao52 y263.length co52 : Value).ownBlock) rfl rfl ?aP (fun k_ hk_ => ((Kd.zZ (ok' := fun k_ => ((fun _ => True)) k_ ∧ some k_ ≠ (u9 : Value).ownBlock) (Kd.R_apart' (HO265.out) (Kd.S_typed HO_9.out) (by decide)) (fun k_ hk => ⟨trivial, hk.2⟩))).1 k_ hk_.symm) ?aF ?aO (Below.refl _ _) ?aS ?aL ?_; (case aP => exact xC _ _ _ (⟨2, ([] : List (S82)), y263, 0⟩ : S52) (Kd.xG _ _ _ _ _) (Kd.zZ (Kd.R_tight rfl (Kd.zZ (ok' := fun k_ => ((fun _ => True)) k_ ∧ some k_ ≠ (u9 : Value).ownBlock) (Kd.R_apart' (HO265.out) (Kd.S_typed HO_9.out) (by decide)) (fun k_ hk => ⟨trivial, hk.2⟩))) (fun _ h_ => h_))); (case aF => exact (fun _ _ => trivial)); (case aO => exact (by (with_reducible repeat (first | apply Kd.yF | apply Kd.yE | apply Kd.yV)); exact Kd.xh HO_9.out (fun k_ hk => ⟨trivial, fun e_ => hk.2 e_⟩))); (case aS => exact (z7 (w := w) (g := g) (row := none) (by repeat (with_reducible first | exact HK.out | apply zk.set_ | apply zu | apply zz | apply zt)))); (case aL => have := LMc47.out; omega); intro v277 w53 ho hb hg hat; rw [← Ny276.out] at ho; have n0_ := za.mk (ze.grown (by repeat (with_reducible first | exact HI0.out | apply ze.alloc | apply ze.drewN | apply ze.drew | apply ze.set_1)) hg (ze.own_neS HI0.out HO_9.out (by decide))); have n1_ := za.mk (yX (by repeat (with_reducible first | exact HB.out | apply zc | apply zb | apply zd | refine zh ?_ (ze.ge HI0.out))) HL.out hb); have n2_ := za.mk (zk.trans (by repeat (with_reducible first | exact HK.out | apply zk.set_ | apply zu | apply zz | apply zt)) (zk.of_grown hg g) (Kd.S_base2 HO_9.out)); have n3_ := za.mk (ho); clear HI0; clear HB; clear HK; clear HO_9; clear HO265; have HI0 := n0_; have HB := n1_; have HK := n2_; have HO278 := n3_; clear n0_ n1_ n2_ n3_; clear ho hb hg hat))
                        go_roundg kj25
                        case measure => have := HK1.out; have := HJ25.out; omega
                        case rel => exact ⟨(y276), (wrap64 (x10_1 - 1)), (t267), (by first | rfl | (simp; done) | (simp [*]; done)), H', ⟨by have := HK1.out; have := HJ25.out; omega⟩, ⟨by (with_reducible repeat (first | apply Kd.yF | apply Kd.yE | apply Kd.yV)); exact HO278.out⟩, ⟨by repeat (with_reducible first | exact HI0.out | apply ze.alloc | apply ze.drewN | apply ze.drew | apply ze.set_1)⟩, ⟨by repeat (with_reducible first | exact HK.out | apply zk.set_ | apply zu | apply zz | apply zt)⟩, ⟨by repeat (with_reducible first | exact HB.out | apply zc | apply zb | apply zd | refine zh ?_ (ze.ge HI0.out))⟩⟩
                      · rw [if_neg c47] at H
                        exact absurd H (by simp)
                  · rw [if_neg c32] at H
                    have c32b0 : decide ((wrap64 (a1 + 1)) < a2) = false := decide_eq_false c32
                    clear c32
                    have H' := za.mk H
                    clear H
                    go_wp2
                    go_roundg kj25
                    case measure => have := HK1.out; have := HJ25.out; omega
                    case rel => exact ⟨(x9_1), (wrap64 (x10_1 - 1)), (t250), (by first | rfl | (simp; done) | (simp [*]; done)), H', ⟨by have := HK1.out; have := HJ25.out; omega⟩, ⟨by (with_reducible repeat (first | apply Kd.yF | apply Kd.yE | apply Kd.yV)); exact HO_9.out⟩, ⟨by repeat (with_reducible first | exact HI0.out | apply ze.alloc | apply ze.drewN | apply ze.drew | apply ze.set_1)⟩, ⟨by repeat (with_reducible first | exact HK.out | apply zk.set_ | apply zu | apply zz | apply zt)⟩, ⟨by repeat (with_reducible first | exact HB.out | apply zc | apply zb | apply zd | refine zh ?_ (ze.ge HI0.out))⟩⟩
                · replace c31 := Bool.eq_false_iff.mpr c31
                  subst c31
                  have H1 : ((zJ.f kj25 s0_0 t250 a3).bind fun bt279 => (if x9_1.length < 2199023255552 then (zv.l0 kj25 a1 a2 a3 (x9_1 ++ [(⟨1, bt279.1, ([] : List Int), 0⟩ : S52)]) (wrap64 (x10_1 - 1)) s0_0 bt279.2) else (none))) = some (r1, r2) := by rw [if_neg (show ¬ (false = true) by decide)] at H; exact H
                  clear H
                  have H := H1
                  clear H1
                  replace H := Option.bind_eq_some_iff.mp H
                  obtain ⟨⟨t279, t282⟩, A540, H⟩ := H
                  replace H : (if x9_1.length < 2199023255552 then (zv.l0 kj25 a1 a2 a3 (x9_1 ++ [(⟨1, t279, ([] : List Int), 0⟩ : S52)]) (wrap64 (x10_1 - 1)) s0_0 t282) else (none)) = some (r1, r2) := H
                  have A54 := za.mk A540
                  clear A540
                  by_cases c55 : x9_1.length < 2199023255552
                  · rw [if_pos c55] at H
                    have LMc55 := za.mk c55
                    clear c55
                    obtain ⟨y283, hy283⟩ : ∃ y_ : List (S52), y_ = (x9_1 ++ [(⟨1, t279, ([] : List Int), 0⟩ : S52)]) := ⟨_, rfl⟩
                    replace H : (zv.l0 kj25 a1 a2 a3 y283 (wrap64 (x10_1 - 1)) s0_0 t282) = some (r1, r2) := by first | (rw [hy283]; with_reducible exact H) | (have H2_ := (Option.bind_some _ _).symm.trans H; rw [hy283]; with_reducible exact H2_) | (have H2_ := (Option.bind_some _ _).symm.trans H; with_reducible exact H2_) | with_reducible exact H | (rw [hy283]; exact H) | exact H
                    have Ny283 := za.mk hy283
                    clear hy283
                    have H' := za.mk H
                    clear H
                    go_wp2_with (first | ((with_reducible refine zx (f := 76) rfl ?_); refine z6 (some 25) rfl rfl Tryd.func76 (by kernel_rfl) rfl #[.pointer (some ⟨g, 0, none⟩), .int .i64 a3] rfl (by (try simp only [List.map_toArray, List.map_cons, List.map_nil]); first | done | rfl | (simp only [List.length_drop, List.length_take]; rfl)) ?_; (with_reducible refine (zJ.calls kj25 g s0_0 t250 a3 t279 t282 w0 _ ?side1 ?side2 A54.out).mono ?_); (case side1 => repeat (with_reducible first | exact HI0.out | apply ze.alloc | apply ze.drewN | apply ze.drew | apply ze.set_1)); (case side2 => repeat (with_reducible first | exact HB.out | apply zc | apply zb | apply zd | refine zh ?_ (ze.ge HI0.out))); rintro e w56 ⟨v280, rfl, ho0, hi, hb, hk⟩; refine ⟨_, rfl, ?_⟩; have n0_ := za.mk (Kd.xh (Kd.S_told (Kd.S_oldK (ze.apartS (show ze w0 _ g s0_0 t250 from by repeat (with_reducible first | exact HI0.out | apply ze.alloc | apply ze.drewN | apply ze.drew | apply ze.set_1)) (by (with_reducible repeat (first | apply Kd.yF | apply Kd.yE | apply Kd.yV)); exact HO_9.out) (by decide)) hk) (Kd.xM ho0)) (fun _ h_ => h_.1)); have n1_ := za.mk (Kd.yq ho0 (z7 (w := w) (g := g) (row := none) (by repeat (with_reducible first | exact HK.out | apply zk.set_ | apply zu | apply zz | apply zt)))); have n2_ := za.mk (zk.trans (by repeat (with_reducible first | exact HK.out | apply zk.set_ | apply zu | apply zz | apply zt)) hk (.inl rfl)); have n3_ := za.mk (hb); have n4_ := za.mk (hi); clear HO_9; clear HK; clear HB; clear HI0; have HO_9 := n0_; have HO281 := n1_; have HK := n2_; have HB := n3_; have HI0 := n4_; clear n0_ n1_ n2_ n3_ n4_; (try clear hb); (try clear hb2); (try clear hk); (try clear hi); (try clear ho0); obtain ⟨Ao57, co57, eo57⟩ := Kd.yn HO281.out; subst eo57) | ((with_reducible refine xy (b := .append) (xs := #[.tmp 22, .tmp 27]) rfl ?_); at_builtin; refine Kd.S_append k52 w.heap.size rfl (.tmp 22) (.tmp 27) 48 52 (.agg #[(.int .i64 0), (.slice none 0 0), (.slice none 0 0), (.int .i64 0)]) 64 rfl Tryd.underlying48 info52 rfl (by decide) (by omega) u9 x9_1 (⟨1, t279, ([] : List Int), 0⟩ : S52) [.int .i64 1, .slice Ao57 t279.length co57, .slice none 0 0, .int .i64 0] (fun _ => True) (fun k_ => some k_ = (.slice Ao57 t279.length co57 : Value).ownBlock) rfl rfl ?aP (fun k_ hk_ => ((Kd.zZ (ok' := fun k_ => ((fun _ => True)) k_ ∧ some k_ ≠ (u9 : Value).ownBlock) (Kd.R_apart' (HO281.out) (Kd.S_typed HO_9.out) (by decide)) (fun k_ hk => ⟨trivial, hk.2⟩))).1 k_ hk_.symm) ?aF ?aO (Below.refl _ _) ?aS ?aL ?_; (case aP => exact xC _ _ _ (⟨1, t279, ([] : List Int), 0⟩ : S52) (Kd.zZ (Kd.R_tight rfl (Kd.zZ (ok' := fun k_ => ((fun _ => True)) k_ ∧ some k_ ≠ (u9 : Value).ownBlock) (Kd.R_apart' (HO281.out) (Kd.S_typed HO_9.out) (by decide)) (fun k_ hk => ⟨trivial, hk.2⟩))) (fun _ h_ => h_)) (Kd.xG _ _ _ _ _)); (case aF => exact (fun _ _ => trivial)); (case aO => exact (by (with_reducible repeat (first | apply Kd.yF | apply Kd.yE | apply Kd.yV)); exact Kd.xh HO_9.out (fun k_ hk => ⟨trivial, fun e_ => hk.2 e_⟩))); (case aS => exact (z7 (w := w) (g := g) (row := none) (by repeat (with_reducible first | exact HK.out | apply zk.set_ | apply zu | apply zz | apply zt)))); (case aL => have := LMc55.out; omega); intro v284 w58 ho hb hg hat; rw [← Ny283.out] at ho; have n0_ := za.mk (ze.grown (by repeat (with_reducible first | exact HI0.out | apply ze.alloc | apply ze.drewN | apply ze.drew | apply ze.set_1)) hg (ze.own_neS HI0.out HO_9.out (by decide))); have n1_ := za.mk (yX (by repeat (with_reducible first | exact HB.out | apply zc | apply zb | apply zd | refine zh ?_ (ze.ge HI0.out))) HL.out hb); have n2_ := za.mk (zk.trans (by repeat (with_reducible first | exact HK.out | apply zk.set_ | apply zu | apply zz | apply zt)) (zk.of_grown hg g) (Kd.S_base2 HO_9.out)); have n3_ := za.mk (ho); clear HI0; clear HB; clear HK; clear HO_9; clear HO281; have HI0 := n0_; have HB := n1_; have HK := n2_; have HO285 := n3_; clear n0_ n1_ n2_ n3_; clear ho hb hg hat))
                    go_roundg kj25
                    case measure => have := HK1.out; have := HJ25.out; omega
                    case rel => exact ⟨(y283), (wrap64 (x10_1 - 1)), (t282), (by first | rfl | (simp; done) | (simp [*]; done)), H', ⟨by have := HK1.out; have := HJ25.out; omega⟩, ⟨by (with_reducible repeat (first | apply Kd.yF | apply Kd.yE | apply Kd.yV)); exact HO285.out⟩, ⟨by repeat (with_reducible first | exact HI0.out | apply ze.alloc | apply ze.drewN | apply ze.drew | apply ze.set_1)⟩, ⟨by repeat (with_reducible first | exact HK.out | apply zk.set_ | apply zu | apply zz | apply zt)⟩, ⟨by repeat (with_reducible first | exact HB.out | apply zc | apply zb | apply zd | refine zh ?_ (ze.ge HI0.out))⟩⟩
                  · rw [if_neg c55] at H
                    exact absurd H (by simp)
      · rw [if_neg c9] at H
        have c9b0 : decide (0 < x10_1) = false := decide_eq_false c9
        clear c9
        simp only [Option.some.injEq, Prod.mk.injEq] at H
        obtain ⟨rfl, rfl⟩ := H
        go_wp2
        go_ret
        exact ⟨_, by first | rfl | (simp [zr, zq] <;> rfl) | (simp [*, zr, zq] <;> rfl), by (with_reducible repeat (first | apply Kd.yF | apply Kd.yE | apply Kd.yV)); exact HO_9.out, by repeat (with_reducible first | exact HI0.out | apply ze.alloc | apply ze.drewN | apply ze.drew | apply ze.set_1), by repeat (with_reducible first | exact HB.out | apply zc | apply zb | apply zd | refine zh ?_ (ze.ge HI0.out)), by repeat (with_reducible first | exact HK.out | apply zk.set_ | apply zu | apply zz | apply zt)⟩
end Go.Proofs.YtoeepmcaabmjkaaDoor.QPO
