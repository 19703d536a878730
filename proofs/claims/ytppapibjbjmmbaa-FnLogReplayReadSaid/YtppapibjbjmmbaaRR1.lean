import Derived.Test.YtppapibjbjmmbaaProg
import Derived.Below
import Derived.Deep.Draws
import Derived.Deep.AppendLies
import Derived.Maps.AppendAt
import Derived.OwnWalk
import Derived.Laws.BytesArg
import Derived.Laws.MakeOwn
import Derived.Laws.OwnMore
import Derived.Deep.OwnRows
import Derived.Tactics
import Derived.Lib.ConvBytes
import Derived.Laws.Slices
import Derived.WalkKit
import Derived.KernelRfl
import Derived.RowKit3
import Derived.Deep.LoopGhost
import Derived.Deep.QuietTactic
import Derived.BigQuiet
import Derived.WideLaws
import Derived.Deep.DeepCutAuto
import Derived.Deep.CutBlock
import Derived.Deep.RegionHeld3
import Derived.Laws.Rows
import Derived.Lib.AppendStr
import Derived.ArgAppend
import Derived.Laws.IdiomCopy
import Derived.OrdersHeld
import Derived.Laws.BitsLemmas
import Derived.RowKit
import Derived.Test.YtppapibjbjmmbaaRR0
namespace Go.Proofs.Ytppapibjbjmmbaa.QSY
open Go.RowKit Go.Proofs.YtppapibjbjmmbaaW.PrintWords Go.Proofs.YtppapibjbjmmbaaW.PrintLast Go.Proofs.YtppapibjbjmmbaaW.PrintMore
attribute [local go_sem] max2_int min2_int max_two min_two we xZ max_four min_four   -- for this text's walks alone
set_option linter.unusedVariables false
set_option linter.unusedSimpArgs false
def errW : Option Int → Value
 | none => .nilIface
 | some c => .iface 0 (.int .i64 c)
theorem yX : errW none = .nilIface := rfl
theorem yW (c : Int) : errW (some c) = .iface 0 (.int .i64 c) := rfl
theorem info3 : (Try.prog.info? 3).map (fun i => (i.zero, i.size, i.bytes)) = some (some (.int .i64 0), 1, 8) := by kernel_rfl
theorem info33 : (Try.prog.info? 33).map (fun i => (i.zero, i.size, i.bytes)) = some (some (.agg #[(.int .i64 0), (.int .i64 0), (.int .i64 0)]), 3, 24) := by kernel_rfl
theorem info43 : (Try.prog.info? 43).map (fun i => (i.zero, i.size, i.bytes)) = some (some (.agg #[(.int .i64 0), (.int .i64 0), (.int .i64 0), (.slice none 0 0), (.int .i64 0), (.int .i64 0), (.int .i64 0), (.int .i64 0), (.slice none 0 0), (.slice none 0 0), (.slice none 0 0), (.int .i64 0), (.int .i64 0)]), 13, 168) := by kernel_rfl
theorem xM : (Try.prog.info? 45).map (fun i => (i.zero, i.size, i.bytes)) = some (some (.agg #[(.int .i64 0), (.int .i64 0)]), 2, 16) := by kernel_rfl
theorem xL : (Try.prog.info? 50).map (fun i => (i.zero, i.size, i.bytes)) = some (some (.agg #[(.int .i64 0), (.int .i64 0), (.int .i64 0), (.slice none 0 0), (.slice none 0 0), (.int .i64 0)]), 6, 80) := by kernel_rfl
theorem info110 : (Try.prog.info? 110).map (fun i => (i.zero, i.size, i.bytes)) = some (some (.agg #[(.int .i64 0), (.slice none 0 0), (.slice none 0 0), (.int .i64 0)]), 4, 64) := by kernel_rfl
theorem info113 : (Try.prog.info? 113).map (fun i => (i.zero, i.size, i.bytes)) = some (some (.agg #[(.int .i64 0), (.int .i64 0), (.int .i64 0)]), 3, 24) := by kernel_rfl
structure yO where
 f0 : Int
 f1 : Int
 f2 : Int
instance instDecS113 : DecidableEq yO := fun x y => decidable_of_iff (x.f0 = y.f0 ∧ x.f1 = y.f1 ∧ x.f2 = y.f2) (by cases x; cases y; simp)
def z113 : yO := ⟨(0 : Int), (0 : Int), (0 : Int)⟩
def xu : Kd yO := Kd.iso (Kd.pair (Kd.int .i64) (Kd.pair (Kd.int .i64) (Kd.int .i64))) (fun x : yO => (x.f0, x.f1, x.f2))
theorem k113_open {w : World} {x : yO} {cs : List Value} (h : xu.K w x cs) : cs = [.int .i64 x.f0, .int .i64 x.f1, .int .i64 x.f2] := by
 obtain ⟨_, _, rfl, rfl, ⟨_, _, rfl, rfl, rfl⟩⟩ := h
 exact rfl
theorem k113_mkM (w : World) (base : Nat) (ok : Nat → Prop) (x : yO)  : xu.M w base ok x [.int .i64 x.f0, .int .i64 x.f1, .int .i64 x.f2] := ⟨[.int .i64 x.f0], [.int .i64 x.f1, .int .i64 x.f2], rfl, rfl, ⟨[.int .i64 x.f1], [.int .i64 x.f2], rfl, rfl, rfl⟩⟩
def zx (xs : List yO) (i : Int) : yO := xs.getD i.toNat z113
theorem at_T113 {w : World} {A : Option Addr} {n : Nat} {xs : List yO} (h : Kd.C xu w A n xs) (i : Int) (h0 : 0 ≤ i) (h1 : i < n) : ∃ ad , A = some ad ∧ w.cell? (ad.add (i.toNat * 3)) = some (.int .i64 (zx xs i).f0) ∧ w.cell? ⟨(ad.add (i.toNat * 3)).block, (ad.add (i.toNat * 3)).off + 1, none⟩ = some (.int .i64 (zx xs i).f1) ∧ w.cell? ⟨(ad.add (i.toNat * 3)).block, (ad.add (i.toNat * 3)).off + 2, none⟩ = some (.int .i64 (zx xs i).f2) := by
 obtain ⟨ad, c, e, _, hK, hc0⟩ := Kd.C_get h z113 i h0 h1
 have hc : ∀ j u, c[j]? = some u → w.cell? (ad.add (i.toNat * 3 + j)) = some u := hc0
 obtain rfl := k113_open hK
 exact ⟨ad, e, hc 0 _ rfl, by rw [← zV _ _ 1 (by omega)]; exact hc 1 _ rfl, by rw [← zV _ _ 2 (by omega)]; exact hc 2 _ rfl⟩
structure zO where
 f0 : Int
 f1 : (List yO)
 f2 : (List Int)
 f3 : Int
instance instDecS110 : DecidableEq zO := fun x y => decidable_of_iff (x.f0 = y.f0 ∧ x.f1 = y.f1 ∧ x.f2 = y.f2 ∧ x.f3 = y.f3) (by cases x; cases y; simp)
def z110 : zO := ⟨(0 : Int), ([] : List yO), ([] : List Int), (0 : Int)⟩
def xK : Kd zO := Kd.iso (Kd.pair (Kd.int .i64) (Kd.pair (Kd.slice 113 xu) (Kd.pair (Kd.slice 3 (Kd.int .i64)) (Kd.int .i64)))) (fun x : zO => (x.f0, x.f1, x.f2, x.f3))
theorem k110_open {w : World} {x : zO} {cs : List Value} (h : xK.K w x cs) : ∃ A1 c1 A2 c2, cs = [.int .i64 x.f0, .slice A1 x.f1.length c1, .slice A2 x.f2.length c2, .int .i64 x.f3] ∧ x.f1.length ≤ c1 ∧ xu.C w A1 x.f1.length x.f1 ∧ x.f2.length ≤ c2 ∧ (Kd.int .i64).C w A2 x.f2.length x.f2 := by
 obtain ⟨_, _, rfl, rfl, ⟨_, _, rfl, ⟨A1, c1, rfl, l1, g1⟩, ⟨_, _, rfl, ⟨A2, c2, rfl, l2, g2⟩, rfl⟩⟩⟩ := h
 exact ⟨A1, c1, A2, c2, rfl, l1, g1, l2, g2⟩
theorem wk (w : World) (base : Nat) (ok : Nat → Prop) (x : zO) {v1 : Value} (g1 : xu.R 113 w base ok v1 x.f1) {v2 : Value} (g2 : (Kd.int .i64).R 3 w base ok v2 x.f2) : xK.M w base ok x [.int .i64 x.f0, v1, v2, .int .i64 x.f3] := ⟨[.int .i64 x.f0], [v1, v2, .int .i64 x.f3], rfl, rfl, ⟨[v1], [v2, .int .i64 x.f3], rfl, ⟨v1, rfl, g1⟩, ⟨[v2], [.int .i64 x.f3], rfl, ⟨v2, rfl, g2⟩, rfl⟩⟩⟩
def yB (xs : List zO) (i : Int) : zO := xs.getD i.toNat z110
theorem at_T110 {w : World} {A : Option Addr} {n : Nat} {xs : List zO} (h : Kd.C xK w A n xs) (i : Int) (h0 : 0 ≤ i) (h1 : i < n) : ∃ ad A1 c1 A2 c2, A = some ad ∧ w.cell? (ad.add (i.toNat * 4)) = some (.int .i64 (yB xs i).f0) ∧ w.cell? ⟨(ad.add (i.toNat * 4)).block, (ad.add (i.toNat * 4)).off + 1, none⟩ = some (.slice A1 (yB xs i).f1.length c1) ∧ w.cell? ⟨(ad.add (i.toNat * 4)).block, (ad.add (i.toNat * 4)).off + 2, none⟩ = some (.slice A2 (yB xs i).f2.length c2) ∧ w.cell? ⟨(ad.add (i.toNat * 4)).block, (ad.add (i.toNat * 4)).off + 3, none⟩ = some (.int .i64 (yB xs i).f3) ∧ (yB xs i).f1.length ≤ c1 ∧ xu.C w A1 (yB xs i).f1.length (yB xs i).f1 ∧ (yB xs i).f2.length ≤ c2 ∧ (Kd.int .i64).C w A2 (yB xs i).f2.length (yB xs i).f2 := by
 obtain ⟨ad, c, e, _, hK, hc0⟩ := Kd.C_get h z110 i h0 h1
 have hc : ∀ j u, c[j]? = some u → w.cell? (ad.add (i.toNat * 4 + j)) = some u := hc0
 obtain ⟨A1, c1, A2, c2, rfl, l1, g1, l2, g2⟩ := k110_open hK
 exact ⟨ad, A1, c1, A2, c2, e, hc 0 _ rfl, by rw [← zV _ _ 1 (by omega)]; exact hc 1 _ rfl, by rw [← zV _ _ 2 (by omega)]; exact hc 2 _ rfl, by rw [← zV _ _ 3 (by omega)]; exact hc 3 _ rfl, l1, g1, l2, g2⟩
structure S37 where
 f0 : (List Int)
 f1 : (List (List zO))
instance instDecS37 : DecidableEq S37 := fun x y => decidable_of_iff (x.f0 = y.f0 ∧ x.f1 = y.f1) (by cases x; cases y; simp)
structure S45 where
 f0 : Int
 f1 : Int
instance instDecS45 : DecidableEq S45 := fun x y => decidable_of_iff (x.f0 = y.f0 ∧ x.f1 = y.f1) (by cases x; cases y; simp)
def z45 : S45 := ⟨(0 : Int), (0 : Int)⟩
def k45 : Kd S45 := Kd.iso (Kd.pair (Kd.int .i64) (Kd.int .i64)) (fun x : S45 => (x.f0, x.f1))
theorem k45_open {w : World} {x : S45} {cs : List Value} (h : k45.K w x cs) : cs = [.int .i64 x.f0, .int .i64 x.f1] := by
 obtain ⟨_, _, rfl, rfl, rfl⟩ := h
 exact rfl
theorem yZ (w : World) (base : Nat) (ok : Nat → Prop) (x : S45)  : k45.M w base ok x [.int .i64 x.f0, .int .i64 x.f1] := ⟨[.int .i64 x.f0], [.int .i64 x.f1], rfl, rfl, rfl⟩
def zw (xs : List S45) (i : Int) : S45 := xs.getD i.toNat z45
theorem yK {w : World} {A : Option Addr} {n : Nat} {xs : List S45} (h : Kd.C k45 w A n xs) (i : Int) (h0 : 0 ≤ i) (h1 : i < n) : ∃ ad , A = some ad ∧ w.cell? (ad.add (i.toNat * 2)) = some (.int .i64 (zw xs i).f0) ∧ w.cell? ⟨(ad.add (i.toNat * 2)).block, (ad.add (i.toNat * 2)).off + 1, none⟩ = some (.int .i64 (zw xs i).f1) := by
 obtain ⟨ad, c, e, _, hK, hc0⟩ := Kd.C_get h z45 i h0 h1
 have hc : ∀ j u, c[j]? = some u → w.cell? (ad.add (i.toNat * 2 + j)) = some u := hc0
 obtain rfl := k45_open hK
 exact ⟨ad, e, hc 0 _ rfl, by rw [← zV _ _ 1 (by omega)]; exact hc 1 _ rfl⟩
structure S33 where
 f0 : Int
 f1 : Int
 f2 : Int
instance instDecS33 : DecidableEq S33 := fun x y => decidable_of_iff (x.f0 = y.f0 ∧ x.f1 = y.f1 ∧ x.f2 = y.f2) (by cases x; cases y; simp)
def z33 : S33 := ⟨(0 : Int), (0 : Int), (0 : Int)⟩
def k33 : Kd S33 := Kd.iso (Kd.pair (Kd.int .i64) (Kd.pair (Kd.int .i64) (Kd.int .i64))) (fun x : S33 => (x.f0, x.f1, x.f2))
theorem wi {w : World} {x : S33} {cs : List Value} (h : k33.K w x cs) : cs = [.int .i64 x.f0, .int .i64 x.f1, .int .i64 x.f2] := by
 obtain ⟨_, _, rfl, rfl, ⟨_, _, rfl, rfl, rfl⟩⟩ := h
 exact rfl
theorem k33_openM {w : World} {base : Nat} {ok : Nat → Prop} {x : S33} {cs : List Value} (h : k33.M w base ok x cs) : cs = [.int .i64 x.f0, .int .i64 x.f1, .int .i64 x.f2] := by
 obtain ⟨_, _, rfl, rfl, ⟨_, _, rfl, rfl, rfl⟩⟩ := h
 exact rfl
theorem k33_mkM (w : World) (base : Nat) (ok : Nat → Prop) (x : S33)  : k33.M w base ok x [.int .i64 x.f0, .int .i64 x.f1, .int .i64 x.f2] := ⟨[.int .i64 x.f0], [.int .i64 x.f1, .int .i64 x.f2], rfl, rfl, ⟨[.int .i64 x.f1], [.int .i64 x.f2], rfl, rfl, rfl⟩⟩
def rd_T33 (xs : List S33) (i : Int) : S33 := xs.getD i.toNat z33
theorem at_T33 {w : World} {A : Option Addr} {n : Nat} {xs : List S33} (h : Kd.C k33 w A n xs) (i : Int) (h0 : 0 ≤ i) (h1 : i < n) : ∃ ad , A = some ad ∧ w.cell? (ad.add (i.toNat * 3)) = some (.int .i64 (rd_T33 xs i).f0) ∧ w.cell? ⟨(ad.add (i.toNat * 3)).block, (ad.add (i.toNat * 3)).off + 1, none⟩ = some (.int .i64 (rd_T33 xs i).f1) ∧ w.cell? ⟨(ad.add (i.toNat * 3)).block, (ad.add (i.toNat * 3)).off + 2, none⟩ = some (.int .i64 (rd_T33 xs i).f2) := by
 obtain ⟨ad, c, e, _, hK, hc0⟩ := Kd.C_get h z33 i h0 h1
 have hc : ∀ j u, c[j]? = some u → w.cell? (ad.add (i.toNat * 3 + j)) = some u := hc0
 obtain rfl := wi hK
 exact ⟨ad, e, hc 0 _ rfl, by rw [← zV _ _ 1 (by omega)]; exact hc 1 _ rfl, by rw [← zV _ _ 2 (by omega)]; exact hc 2 _ rfl⟩
structure S43 where
 f0 : Int
 f1 : Int
 f2 : Int
 f3 : (List Int)
 f4 : Int
 f5 : Int
 f6 : Int
 f7 : Int
 f8 : (List Int)
 f9 : (List S45)
 f10 : (List S45)
 f11 : Int
 f12 : Int
instance instDecS43 : DecidableEq S43 := fun x y => decidable_of_iff (x.f0 = y.f0 ∧ x.f1 = y.f1 ∧ x.f2 = y.f2 ∧ x.f3 = y.f3 ∧ x.f4 = y.f4 ∧ x.f5 = y.f5 ∧ x.f6 = y.f6 ∧ x.f7 = y.f7 ∧ x.f8 = y.f8 ∧ x.f9 = y.f9 ∧ x.f10 = y.f10 ∧ x.f11 = y.f11 ∧ x.f12 = y.f12) (by cases x; cases y; simp)
def z43 : S43 := ⟨(0 : Int), (0 : Int), (0 : Int), ([] : List Int), (0 : Int), (0 : Int), (0 : Int), (0 : Int), ([] : List Int), ([] : List S45), ([] : List S45), (0 : Int), (0 : Int)⟩
def k43 : Kd S43 := Kd.iso (Kd.pair (Kd.int .i64) (Kd.pair (Kd.int .i64) (Kd.pair (Kd.int .i64) (Kd.pair (Kd.slice 3 (Kd.int .i64)) (Kd.pair (Kd.int .i64) (Kd.pair (Kd.int .i64) (Kd.pair (Kd.int .i64) (Kd.pair (Kd.int .i64) (Kd.pair (Kd.slice 3 (Kd.int .i64)) (Kd.pair (Kd.slice 45 k45) (Kd.pair (Kd.slice 45 k45) (Kd.pair (Kd.int .i64) (Kd.int .i64))))))))))))) (fun x : S43 => (x.f0, x.f1, x.f2, x.f3, x.f4, x.f5, x.f6, x.f7, x.f8, x.f9, x.f10, x.f11, x.f12))
theorem k43_open {w : World} {x : S43} {cs : List Value} (h : k43.K w x cs) : ∃ A3 c3 A8 c8 A9 c9 A10 c10, cs = [.int .i64 x.f0, .int .i64 x.f1, .int .i64 x.f2, .slice A3 x.f3.length c3, .int .i64 x.f4, .int .i64 x.f5, .int .i64 x.f6, .int .i64 x.f7, .slice A8 x.f8.length c8, .slice A9 x.f9.length c9, .slice A10 x.f10.length c10, .int .i64 x.f11, .int .i64 x.f12] ∧ x.f3.length ≤ c3 ∧ (Kd.int .i64).C w A3 x.f3.length x.f3 ∧ x.f8.length ≤ c8 ∧ (Kd.int .i64).C w A8 x.f8.length x.f8 ∧ x.f9.length ≤ c9 ∧ k45.C w A9 x.f9.length x.f9 ∧ x.f10.length ≤ c10 ∧ k45.C w A10 x.f10.length x.f10 := by
 obtain ⟨_, _, rfl, rfl, ⟨_, _, rfl, rfl, ⟨_, _, rfl, rfl, ⟨_, _, rfl, ⟨A3, c3, rfl, l3, g3⟩, ⟨_, _, rfl, rfl, ⟨_, _, rfl, rfl, ⟨_, _, rfl, rfl, ⟨_, _, rfl, rfl, ⟨_, _, rfl, ⟨A8, c8, rfl, l8, g8⟩, ⟨_, _, rfl, ⟨A9, c9, rfl, l9, g9⟩, ⟨_, _, rfl, ⟨A10, c10, rfl, l10, g10⟩, ⟨_, _, rfl, rfl, rfl⟩⟩⟩⟩⟩⟩⟩⟩⟩⟩⟩⟩ := h
 exact ⟨A3, c3, A8, c8, A9, c9, A10, c10, rfl, l3, g3, l8, g8, l9, g9, l10, g10⟩
theorem k43_mkM (w : World) (base : Nat) (ok : Nat → Prop) (x : S43) {v3 : Value} (g3 : (Kd.int .i64).R 3 w base ok v3 x.f3) {v8 : Value} (g8 : (Kd.int .i64).R 3 w base ok v8 x.f8) {v9 : Value} (g9 : k45.R 45 w base ok v9 x.f9) {v10 : Value} (g10 : k45.R 45 w base ok v10 x.f10) : k43.M w base ok x [.int .i64 x.f0, .int .i64 x.f1, .int .i64 x.f2, v3, .int .i64 x.f4, .int .i64 x.f5, .int .i64 x.f6, .int .i64 x.f7, v8, v9, v10, .int .i64 x.f11, .int .i64 x.f12] := ⟨[.int .i64 x.f0], [.int .i64 x.f1, .int .i64 x.f2, v3, .int .i64 x.f4, .int .i64 x.f5, .int .i64 x.f6, .int .i64 x.f7, v8, v9, v10, .int .i64 x.f11, .int .i64 x.f12], rfl, rfl, ⟨[.int .i64 x.f1], [.int .i64 x.f2, v3, .int .i64 x.f4, .int .i64 x.f5, .int .i64 x.f6, .int .i64 x.f7, v8, v9, v10, .int .i64 x.f11, .int .i64 x.f12], rfl, rfl, ⟨[.int .i64 x.f2], [v3, .int .i64 x.f4, .int .i64 x.f5, .int .i64 x.f6, .int .i64 x.f7, v8, v9, v10, .int .i64 x.f11, .int .i64 x.f12], rfl, rfl, ⟨[v3], [.int .i64 x.f4, .int .i64 x.f5, .int .i64 x.f6, .int .i64 x.f7, v8, v9, v10, .int .i64 x.f11, .int .i64 x.f12], rfl, ⟨v3, rfl, g3⟩, ⟨[.int .i64 x.f4], [.int .i64 x.f5, .int .i64 x.f6, .int .i64 x.f7, v8, v9, v10, .int .i64 x.f11, .int .i64 x.f12], rfl, rfl, ⟨[.int .i64 x.f5], [.int .i64 x.f6, .int .i64 x.f7, v8, v9, v10, .int .i64 x.f11, .int .i64 x.f12], rfl, rfl, ⟨[.int .i64 x.f6], [.int .i64 x.f7, v8, v9, v10, .int .i64 x.f11, .int .i64 x.f12], rfl, rfl, ⟨[.int .i64 x.f7], [v8, v9, v10, .int .i64 x.f11, .int .i64 x.f12], rfl, rfl, ⟨[v8], [v9, v10, .int .i64 x.f11, .int .i64 x.f12], rfl, ⟨v8, rfl, g8⟩, ⟨[v9], [v10, .int .i64 x.f11, .int .i64 x.f12], rfl, ⟨v9, rfl, g9⟩, ⟨[v10], [.int .i64 x.f11, .int .i64 x.f12], rfl, ⟨v10, rfl, g10⟩, ⟨[.int .i64 x.f11], [.int .i64 x.f12], rfl, rfl, rfl⟩⟩⟩⟩⟩⟩⟩⟩⟩⟩⟩⟩
def zF (xs : List S43) (i : Int) : S43 := xs.getD i.toNat z43
theorem at_T43 {w : World} {A : Option Addr} {n : Nat} {xs : List S43} (h : Kd.C k43 w A n xs) (i : Int) (h0 : 0 ≤ i) (h1 : i < n) : ∃ ad A3 c3 A8 c8 A9 c9 A10 c10, A = some ad ∧ w.cell? (ad.add (i.toNat * 13)) = some (.int .i64 (zF xs i).f0) ∧ w.cell? ⟨(ad.add (i.toNat * 13)).block, (ad.add (i.toNat * 13)).off + 1, none⟩ = some (.int .i64 (zF xs i).f1) ∧ w.cell? ⟨(ad.add (i.toNat * 13)).block, (ad.add (i.toNat * 13)).off + 2, none⟩ = some (.int .i64 (zF xs i).f2) ∧ w.cell? ⟨(ad.add (i.toNat * 13)).block, (ad.add (i.toNat * 13)).off + 3, none⟩ = some (.slice A3 (zF xs i).f3.length c3) ∧ w.cell? ⟨(ad.add (i.toNat * 13)).block, (ad.add (i.toNat * 13)).off + 4, none⟩ = some (.int .i64 (zF xs i).f4) ∧ w.cell? ⟨(ad.add (i.toNat * 13)).block, (ad.add (i.toNat * 13)).off + 5, none⟩ = some (.int .i64 (zF xs i).f5) ∧ w.cell? ⟨(ad.add (i.toNat * 13)).block, (ad.add (i.toNat * 13)).off + 6, none⟩ = some (.int .i64 (zF xs i).f6) ∧ w.cell? ⟨(ad.add (i.toNat * 13)).block, (ad.add (i.toNat * 13)).off + 7, none⟩ = some (.int .i64 (zF xs i).f7) ∧ w.cell? ⟨(ad.add (i.toNat * 13)).block, (ad.add (i.toNat * 13)).off + 8, none⟩ = some (.slice A8 (zF xs i).f8.length c8) ∧ w.cell? ⟨(ad.add (i.toNat * 13)).block, (ad.add (i.toNat * 13)).off + 9, none⟩ = some (.slice A9 (zF xs i).f9.length c9) ∧ w.cell? ⟨(ad.add (i.toNat * 13)).block, (ad.add (i.toNat * 13)).off + 10, none⟩ = some (.slice A10 (zF xs i).f10.length c10) ∧ w.cell? ⟨(ad.add (i.toNat * 13)).block, (ad.add (i.toNat * 13)).off + 11, none⟩ = some (.int .i64 (zF xs i).f11) ∧ w.cell? ⟨(ad.add (i.toNat * 13)).block, (ad.add (i.toNat * 13)).off + 12, none⟩ = some (.int .i64 (zF xs i).f12) ∧ (zF xs i).f3.length ≤ c3 ∧ (Kd.int .i64).C w A3 (zF xs i).f3.length (zF xs i).f3 ∧ (zF xs i).f8.length ≤ c8 ∧ (Kd.int .i64).C w A8 (zF xs i).f8.length (zF xs i).f8 ∧ (zF xs i).f9.length ≤ c9 ∧ k45.C w A9 (zF xs i).f9.length (zF xs i).f9 ∧ (zF xs i).f10.length ≤ c10 ∧ k45.C w A10 (zF xs i).f10.length (zF xs i).f10 := by
 obtain ⟨ad, c, e, _, hK, hc0⟩ := Kd.C_get h z43 i h0 h1
 have hc : ∀ j u, c[j]? = some u → w.cell? (ad.add (i.toNat * 13 + j)) = some u := hc0
 obtain ⟨A3, c3, A8, c8, A9, c9, A10, c10, rfl, l3, g3, l8, g8, l9, g9, l10, g10⟩ := k43_open hK
 exact ⟨ad, A3, c3, A8, c8, A9, c9, A10, c10, e, hc 0 _ rfl, by rw [← zV _ _ 1 (by omega)]; exact hc 1 _ rfl, by rw [← zV _ _ 2 (by omega)]; exact hc 2 _ rfl, by rw [← zV _ _ 3 (by omega)]; exact hc 3 _ rfl, by rw [← zV _ _ 4 (by omega)]; exact hc 4 _ rfl, by rw [← zV _ _ 5 (by omega)]; exact hc 5 _ rfl, by rw [← zV _ _ 6 (by omega)]; exact hc 6 _ rfl, by rw [← zV _ _ 7 (by omega)]; exact hc 7 _ rfl, by rw [← zV _ _ 8 (by omega)]; exact hc 8 _ rfl, by rw [← zV _ _ 9 (by omega)]; exact hc 9 _ rfl, by rw [← zV _ _ 10 (by omega)]; exact hc 10 _ rfl, by rw [← zV _ _ 11 (by omega)]; exact hc 11 _ rfl, by rw [← zV _ _ 12 (by omega)]; exact hc 12 _ rfl, l3, g3, l8, g8, l9, g9, l10, g10⟩
structure S50 where
 f0 : Int
 f1 : Int
 f2 : Int
 f3 : (List S45)
 f4 : (List S45)
 f5 : Int
instance instDecS50 : DecidableEq S50 := fun x y => decidable_of_iff (x.f0 = y.f0 ∧ x.f1 = y.f1 ∧ x.f2 = y.f2 ∧ x.f3 = y.f3 ∧ x.f4 = y.f4 ∧ x.f5 = y.f5) (by cases x; cases y; simp)
def z50 : S50 := ⟨(0 : Int), (0 : Int), (0 : Int), ([] : List S45), ([] : List S45), (0 : Int)⟩
def k50 : Kd S50 := Kd.iso (Kd.pair (Kd.int .i64) (Kd.pair (Kd.int .i64) (Kd.pair (Kd.int .i64) (Kd.pair (Kd.slice 45 k45) (Kd.pair (Kd.slice 45 k45) (Kd.int .i64)))))) (fun x : S50 => (x.f0, x.f1, x.f2, x.f3, x.f4, x.f5))
theorem k50_open {w : World} {x : S50} {cs : List Value} (h : k50.K w x cs) : ∃ A3 c3 A4 c4, cs = [.int .i64 x.f0, .int .i64 x.f1, .int .i64 x.f2, .slice A3 x.f3.length c3, .slice A4 x.f4.length c4, .int .i64 x.f5] ∧ x.f3.length ≤ c3 ∧ k45.C w A3 x.f3.length x.f3 ∧ x.f4.length ≤ c4 ∧ k45.C w A4 x.f4.length x.f4 := by
 obtain ⟨_, _, rfl, rfl, ⟨_, _, rfl, rfl, ⟨_, _, rfl, rfl, ⟨_, _, rfl, ⟨A3, c3, rfl, l3, g3⟩, ⟨_, _, rfl, ⟨A4, c4, rfl, l4, g4⟩, rfl⟩⟩⟩⟩⟩ := h
 exact ⟨A3, c3, A4, c4, rfl, l3, g3, l4, g4⟩
theorem k50_openM {w : World} {base : Nat} {ok : Nat → Prop} {x : S50} {cs : List Value} (h : k50.M w base ok x cs) : ∃ v3 v4, cs = [.int .i64 x.f0, .int .i64 x.f1, .int .i64 x.f2, v3, v4, .int .i64 x.f5] ∧ k45.R 45 w base ok v3 x.f3 ∧ k45.R 45 w base ok v4 x.f4 := by
 obtain ⟨_, _, rfl, rfl, ⟨_, _, rfl, rfl, ⟨_, _, rfl, rfl, ⟨_, _, rfl, ⟨v3, rfl, g3⟩, ⟨_, _, rfl, ⟨v4, rfl, g4⟩, rfl⟩⟩⟩⟩⟩ := h
 exact ⟨v3, v4, rfl, g3, g4⟩
theorem k50_mk (w : World) (x : S50) {A3 : Option Addr} {c3 : Nat} (l3 : x.f3.length ≤ c3) (g3 : k45.C w A3 x.f3.length x.f3) {A4 : Option Addr} {c4 : Nat} (l4 : x.f4.length ≤ c4) (g4 : k45.C w A4 x.f4.length x.f4) : k50.K w x [.int .i64 x.f0, .int .i64 x.f1, .int .i64 x.f2, .slice A3 x.f3.length c3, .slice A4 x.f4.length c4, .int .i64 x.f5] := ⟨[.int .i64 x.f0], [.int .i64 x.f1, .int .i64 x.f2, .slice A3 x.f3.length c3, .slice A4 x.f4.length c4, .int .i64 x.f5], rfl, rfl, ⟨[.int .i64 x.f1], [.int .i64 x.f2, .slice A3 x.f3.length c3, .slice A4 x.f4.length c4, .int .i64 x.f5], rfl, rfl, ⟨[.int .i64 x.f2], [.slice A3 x.f3.length c3, .slice A4 x.f4.length c4, .int .i64 x.f5], rfl, rfl, ⟨[.slice A3 x.f3.length c3], [.slice A4 x.f4.length c4, .int .i64 x.f5], rfl, ⟨A3, c3, rfl, l3, g3⟩, ⟨[.slice A4 x.f4.length c4], [.int .i64 x.f5], rfl, ⟨A4, c4, rfl, l4, g4⟩, rfl⟩⟩⟩⟩⟩
theorem k50_mkM (w : World) (base : Nat) (ok : Nat → Prop) (x : S50) {v3 : Value} (g3 : k45.R 45 w base ok v3 x.f3) {v4 : Value} (g4 : k45.R 45 w base ok v4 x.f4) : k50.M w base ok x [.int .i64 x.f0, .int .i64 x.f1, .int .i64 x.f2, v3, v4, .int .i64 x.f5] := ⟨[.int .i64 x.f0], [.int .i64 x.f1, .int .i64 x.f2, v3, v4, .int .i64 x.f5], rfl, rfl, ⟨[.int .i64 x.f1], [.int .i64 x.f2, v3, v4, .int .i64 x.f5], rfl, rfl, ⟨[.int .i64 x.f2], [v3, v4, .int .i64 x.f5], rfl, rfl, ⟨[v3], [v4, .int .i64 x.f5], rfl, ⟨v3, rfl, g3⟩, ⟨[v4], [.int .i64 x.f5], rfl, ⟨v4, rfl, g4⟩, rfl⟩⟩⟩⟩⟩
theorem k50_mkF (W : World) (ok : Nat → Prop) (x : S50) {A3 : Option Addr} {c3 : Nat} (l3 : x.f3.length ≤ c3) (g3 : Kd.F k45 W ok A3 x.f3.length x.f3) {A4 : Option Addr} {c4 : Nat} (l4 : x.f4.length ≤ c4) (g4 : Kd.F k45 W ok A4 x.f4.length x.f4) : Kd.FK k50 W ok x [.int .i64 x.f0, .int .i64 x.f1, .int .i64 x.f2, .slice A3 x.f3.length c3, .slice A4 x.f4.length c4, .int .i64 x.f5] := fun W2 hW => k50_mk W2 x l3 (g3 W2 hW) l4 (g4 W2 hW)
def yu (xs : List S50) (i : Int) : S50 := xs.getD i.toNat z50
theorem at_T50 {w : World} {A : Option Addr} {n : Nat} {xs : List S50} (h : Kd.C k50 w A n xs) (i : Int) (h0 : 0 ≤ i) (h1 : i < n) : ∃ ad A3 c3 A4 c4, A = some ad ∧ w.cell? (ad.add (i.toNat * 6)) = some (.int .i64 (yu xs i).f0) ∧ w.cell? ⟨(ad.add (i.toNat * 6)).block, (ad.add (i.toNat * 6)).off + 1, none⟩ = some (.int .i64 (yu xs i).f1) ∧ w.cell? ⟨(ad.add (i.toNat * 6)).block, (ad.add (i.toNat * 6)).off + 2, none⟩ = some (.int .i64 (yu xs i).f2) ∧ w.cell? ⟨(ad.add (i.toNat * 6)).block, (ad.add (i.toNat * 6)).off + 3, none⟩ = some (.slice A3 (yu xs i).f3.length c3) ∧ w.cell? ⟨(ad.add (i.toNat * 6)).block, (ad.add (i.toNat * 6)).off + 4, none⟩ = some (.slice A4 (yu xs i).f4.length c4) ∧ w.cell? ⟨(ad.add (i.toNat * 6)).block, (ad.add (i.toNat * 6)).off + 5, none⟩ = some (.int .i64 (yu xs i).f5) ∧ (yu xs i).f3.length ≤ c3 ∧ k45.C w A3 (yu xs i).f3.length (yu xs i).f3 ∧ (yu xs i).f4.length ≤ c4 ∧ k45.C w A4 (yu xs i).f4.length (yu xs i).f4 := by
 obtain ⟨ad, c, e, _, hK, hc0⟩ := Kd.C_get h z50 i h0 h1
 have hc : ∀ j u, c[j]? = some u → w.cell? (ad.add (i.toNat * 6 + j)) = some u := hc0
 obtain ⟨A3, c3, A4, c4, rfl, l3, g3, l4, g4⟩ := k50_open hK
 exact ⟨ad, A3, c3, A4, c4, e, hc 0 _ rfl, by rw [← zV _ _ 1 (by omega)]; exact hc 1 _ rfl, by rw [← zV _ _ 2 (by omega)]; exact hc 2 _ rfl, by rw [← zV _ _ 3 (by omega)]; exact hc 3 _ rfl, by rw [← zV _ _ 4 (by omega)]; exact hc 4 _ rfl, by rw [← zV _ _ 5 (by omega)]; exact hc 5 _ rfl, l3, g3, l4, g4⟩
end Go.Proofs.Ytppapibjbjmmbaa.QSY
set_option linter.unusedVariables false
set_option linter.unusedSimpArgs false
namespace Go.Proofs.Ytppapibjbjmmbaa.QSY
open Go.RowKit Go.Proofs.YtppapibjbjmmbaaW.PrintWords Go.Proofs.YtppapibjbjmmbaaW.PrintLast Go.Proofs.YtppapibjbjmmbaaW.PrintMore
def inB (a b c : Int) : Bool := decide (b ≤ a) && decide (a ≤ c)
theorem zy (a b c : Int) (r : Bool) (w : World) (h : inB a b c = r) :
  Calls Try.prog 59 #[.int .i64 a, .int .i64 b, .int .i64 c] w fun e w' => e = .returned (.bool r) ∧ w = w' := by
 subst h
 by_cases k : b ≤ a
 ·have k1 : decide (b ≤ a) = true := decide_eq_true k
  go_enter Try.func59, Try.ntmps59
  go_wp2
  go_ret
  exact ⟨by unfold inB; rw [k1]; rfl, rfl⟩
 ·have k1 : decide (b ≤ a) = false := decide_eq_false k
  go_enter Try.func59, Try.ntmps59
  go_wp2
  go_ret
  exact ⟨by unfold inB; rw [k1]; rfl, rfl⟩
def deedF (d : yO) (n : Int) : Bool :=
 if d.f0 = 1 then inB d.f1 0 2 && inB d.f2 0 (wrap64 (n - 1)) else if d.f0 = 2 then inB d.f1 0 (wrap64 (n - 1)) && inB d.f2 0 2
 else if d.f0 = 3 then inB d.f1 0 2 && inB d.f2 0 99 else if d.f0 = 4 then inB d.f1 0 2 && inB d.f2 0 2 else if d.f0 = 5 then inB d.f1 0 2 && (d.f2 == 0) else false
set_option maxHeartbeats 4000000 in
set_option maxRecDepth 100000 in
theorem l1deed_calls (d : yO) (n : Int) (r : Bool) (w : World) (h : deedF d n = r) :
    Calls Try.prog 124 #[.agg #[.int .i64 d.f0, .int .i64 d.f1, .int .i64 d.f2], .int .i64 n] w fun e w' => e = .returned (.bool r) ∧ Below w.heap.size w w' := by
  obtain ⟨k, x, y⟩ := d
  subst h
  obtain ⟨a, ha⟩ : ∃ a, inB x 0 2 = a := ⟨_, rfl⟩
  obtain ⟨b, hb⟩ : ∃ a, inB x 0 (wrap64 (n - 1)) = a := ⟨_, rfl⟩
  have HA := zb.mk ha
  have HB := zb.mk hb
  obtain ⟨o, ho⟩ : ∃ o, o = deedF ⟨k, x, y⟩ n := ⟨_, rfl⟩
  rw [← ho]
  unfold deedF at ho
  simp only [ha, hb] at ho
  clear ha hb
  by_cases k1 : k = 1
  case' neg => by_cases k2 : k = 2
  case' neg => by_cases k3 : k = 3
  case' neg => by_cases k4 : k = 4
  case' neg => by_cases k5 : k = 5
  case neg =>
    have e1 : (k == 1) = false := by simp [k1]
    have e2 : (k == 2) = false := by simp [k2]
    have e3 : (k == 3) = false := by simp [k3]
    have e4 : (k == 4) = false := by simp [k4]
    have e5 : (k == 5) = false := by simp [k5]
    simp only [k1, k2, k3, k4, k5, if_false] at ho
    subst ho
    clear k1 k2 k3 k4 k5
    go_enter Try.func124, Try.ntmps124
    go_wp2_with (go_at_call 59; refine (zy _ _ _ _ _ HA.out).mono ?_; rintro e w' ⟨rfl, rfl⟩)
    go_ret
    exact ⟨rfl, zc (Below.refl _ _) _⟩
  all_goals first | subst k1 | subst k2 | subst k3 | subst k4 | subst k5
  all_goals cases a <;> cases b <;> simp only [if_pos, if_neg, Bool.true_and, Bool.false_and, ite_true, ite_false, reduceIte, Int.reduceEq] at ho <;> subst ho <;>
    (go_enter Try.func124, Try.ntmps124
     go_wp2_with (go_at_call 59; first | (with_reducible refine (zy _ _ _ _ _ HA.out).mono ?_; rintro e w' ⟨rfl, rfl⟩) | (with_reducible refine (zy _ _ _ _ _ HB.out).mono ?_; rintro e w' ⟨rfl, rfl⟩) | (refine (zy _ _ _ _ _ rfl).mono ?_; rintro e w' ⟨rfl, rfl⟩))
     go_ret
     exact ⟨rfl, by repeat (first | exact Below.refl _ _ | apply zc)⟩)
end Go.Proofs.Ytppapibjbjmmbaa.QSY
set_option linter.unusedVariables false
set_option linter.unusedSimpArgs false
namespace Go.Proofs.Ytppapibjbjmmbaa.QSY
open Go.RowKit Go.Proofs.YtppapibjbjmmbaaW.PrintWords Go.Proofs.YtppapibjbjmmbaaW.PrintLast Go.Proofs.YtppapibjbjmmbaaW.PrintMore
theorem all_more {α : Type} {l : List α} {p : α → Bool} {i : Nat} (d : α) (hi : i < l.length) (h : (l.take i).all p = true) (hp : p (l.getD i d) = true) : (l.take (i + 1)).all p = true := by
 rw [List.take_succ_eq_append_getElem hi, List.all_append, h]
 rw [List.getD_eq_getElem?_getD, List.getElem?_eq_getElem hi] at hp
 simpa using hp
theorem all_not {α : Type} {l : List α} {p : α → Bool} {i : Nat} (d : α) (hi : i < l.length) (hp : p (l.getD i d) = false) : l.all p = false := by
 rw [List.getD_eq_getElem?_getD, List.getElem?_eq_getElem hi] at hp
 exact List.all_eq_false.2 ⟨l[i], List.getElem_mem hi, by simpa using hp⟩
theorem all_end {α : Type} {l : List α} {p : α → Bool} {i : Nat} (hi : ¬ i < l.length) (h : (l.take i).all p = true) : l.all p = true := by
 rwa [List.take_of_length_le (by omega)] at h
theorem yx {i n : Nat} (h : i < n) (hn : n ≤ 9223372036854775807) : wrap64 ((i : Int) + 1) = ((i + 1 : Nat) : Int) := by unfold wrap64; omega
theorem at_li {k : IntKind} {w : World} {A : Option Addr} {n : Nat} {xs : List Int} (h : Kd.C (Kd.int k) w A n xs) (i : Nat) (h1 : i < n) : ∃ ad, A = some ad ∧ w.cell? (ad.add i) = some (.int k (xs.getD i 0)) :=
 Kd.at_int h (i : Int) (by omega) (by omega)
def lkidsF (l : List Int) (body nB : Int) : Bool := l.all (fun x => inB x (wrap64 (body + 1)) (wrap64 (nB - 1))) && inB l.length 1 2
theorem lkids_calls (A : Option Addr) (l : List Int) (c : Nat) (body nB : Int) (r : Bool) (w : World) (hr : Kd.C (Kd.int .i64) w A l.length l) (h : lkidsF l body nB = r) :
  Calls Try.prog 125 #[.slice A l.length c, .int .i64 body, .int .i64 nB] w fun e w' => e = .returned (.bool r) ∧ w = w' := by
 have HC := zb.mk hr
 have HM := zb.mk hr.2.1
 have HH := zb.mk h
 clear hr h
 go_enter Try.func125, Try.ntmps125
 go_wp2
 go_loop [7] (fun v7 => ∃ i : Nat, v7 = .int .i64 i ∧ zb (i ≤ l.length ∧ (l.take i).all (fun x => inB x (wrap64 (body + 1)) (wrap64 (nB - 1))) = true)) (fun v7 => l.length - (intOf v7).toNat)
 case atStart => exact ⟨0, rfl, ⟨Nat.zero_le _, rfl⟩⟩
 case round =>
  obtain ⟨i, rfl, hi⟩ := hrel
  by_cases hlt : i < l.length
  ·have HL := zb.mk hlt
   have cb : decide (i < l.length) = true := decide_eq_true hlt
   have hlt2 : (i : Int) < (l.length : Int) := by omega
   obtain ⟨ad, rfl, z0⟩ := at_li HC.out i HL.out
   have en := yx hlt HM.out
   clear hlt
   obtain ⟨q, hq⟩ : ∃ q, inB (l.getD i 0) (wrap64 (body + 1)) (wrap64 (nB - 1)) = q := ⟨_, rfl⟩
   have HQ := zb.mk hq
   clear hq
   cases q
   ·skip
    go_wp2_with (refine (zy _ _ _ _ _ HQ.out).mono ?_; rintro e w' ⟨rfl, rfl⟩)
    go_ret
    refine ⟨?_, rfl⟩
    rw [← HH.out]
    unfold lkidsF
    rw [all_not 0 HL.out HQ.out]; rfl
   ·skip
    go_wp2_with (refine (zy _ _ _ _ _ HQ.out).mono ?_; rintro e w' ⟨rfl, rfl⟩)
    go_round
    case rel => exact ⟨i + 1, by rw [en], ⟨HL.out, all_more 0 HL.out hi.out.2 HQ.out⟩⟩
    case measure => rw [en]; have := HL.out; simp [intOf]; omega
  ·have HE := zb.mk (all_end hlt hi.out.2)
   have cb : decide (i < l.length) = false := decide_eq_false hlt
   clear hlt
   go_wp2_with (refine (zy _ _ _ _ _ rfl).mono ?_; rintro e w' ⟨rfl, rfl⟩)
   go_ret
   refine ⟨?_, rfl⟩
   rw [← HH.out]
   unfold lkidsF
   rw [HE.out]; rfl
end Go.Proofs.Ytppapibjbjmmbaa.QSY
set_option linter.unusedVariables false
set_option linter.unusedSimpArgs false
namespace Go.Proofs.Ytppapibjbjmmbaa.QSY
open Go.RowKit Go.Proofs.YtppapibjbjmmbaaW.PrintWords Go.Proofs.YtppapibjbjmmbaaW.PrintLast Go.Proofs.YtppapibjbjmmbaaW.PrintMore
theorem yU (a b c : Int) (r : Bool) (w : World) (h : inB a b c = r) : Calls Try.prog 59 #[.int .i64 a, .int .i64 b, .int .i64 c] w fun e w' => e = .returned (.bool r) ∧ w' = w :=
 (zy a b c r w h).mono (fun _ _ h => ⟨h.1, h.2.symm⟩)
def numsF (l : List Int) (n : Int) : Bool := l.all (fun x => inB x 0 99) && ((l.length : Int) == n)
theorem nums_calls (A : Option Addr) (l : List Int) (c : Nat) (n : Int) (r : Bool) (w : World) (hr : Kd.C (Kd.int .i64) w A l.length l) (h : numsF l n = r) :
  Calls Try.prog 90 #[.slice A l.length c, .int .i64 n] w fun e w' => e = .returned (.bool r) ∧ w = w' := by
 have HC := zb.mk hr
 have HM := zb.mk hr.2.1
 have HH := zb.mk h
 obtain ⟨nl, hnl⟩ : ∃ n, n = l.length := ⟨_, rfl⟩
 have HNL := zb.mk hnl
 rw [← hnl] at HC HM ⊢
 clear hr h hnl
 go_enter Try.func90, Try.ntmps90
 go_wp2
 go_loop [5] (fun v5 => ∃ i : Nat, v5 = .int .i64 i ∧ zb (i ≤ l.length ∧ (l.take i).all (fun x => inB x 0 99) = true)) (fun v5 => l.length - (intOf v5).toNat)
 case atStart => exact ⟨0, rfl, ⟨Nat.zero_le _, rfl⟩⟩
 case round =>
  obtain ⟨i, rfl, hi⟩ := hrel
  by_cases hlt : (i : Int) < (nl : Int)
  ·have HL := zb.mk (show i < l.length by rw [← HNL.out]; omega)
   obtain ⟨ad, rfl, z0⟩ := at_li HC.out i (by omega)
   have en := yx (i := i) (n := nl) (by omega) HM.out
   obtain ⟨q, hq⟩ : ∃ q, inB (l.getD i 0) 0 99 = q := ⟨_, rfl⟩
   have HQ := zb.mk hq
   clear hq
   cases q
   ·skip
    go_wp2_with (refine (zy _ _ _ _ _ HQ.out).mono ?_; rintro e w' ⟨rfl, rfl⟩)
    go_ret
    refine ⟨?_, rfl⟩
    rw [← HH.out]
    unfold numsF
    rw [all_not 0 HL.out (p := fun x => inB x 0 99) HQ.out]; rfl
   ·skip
    go_wp2_with (refine (zy _ _ _ _ _ HQ.out).mono ?_; rintro e w' ⟨rfl, rfl⟩)
    go_round
    case rel => exact ⟨i + 1, by first | rw [en] | rfl | simp, ⟨HL.out, all_more 0 HL.out hi.out.2 HQ.out⟩⟩
    case measure => (try rw [en]); have := HL.out; simp [intOf]; omega
  ·have HE := zb.mk (all_end (by rw [← HNL.out]; omega) hi.out.2)
   go_wp2
   go_ret
   refine ⟨?_, rfl⟩
   rw [← HH.out]
   unfold numsF
   rw [HE.out, ← HNL.out]; rfl
def elF (nC : Int) (l : List S45) (i : Nat) : Bool := inB (l.getD i z45).f0 0 (wrap64 (nC - 1)) && (inB (l.getD i z45).f1 0 99 && (i == 0 || decide ((l.getD (i - 1) z45).f0 < (l.getD i z45).f0)))
def listF (nC : Int) (l : List S45) : Bool := (List.range l.length).all (elF nC l)
theorem xY {n i : Nat} {p : Nat → Bool} (hi : i < n) (h : p i = false) : (List.range n).all p = false := List.all_eq_false.2 ⟨i, List.mem_range.2 hi, by simpa using h⟩
theorem xF {n : Nat} {p : Nat → Bool} (h : ∀ i, i < n → p i = true) : (List.range n).all p = true := List.all_eq_true.2 (fun i hi => h i (List.mem_range.1 hi))
set_option maxHeartbeats 4000000 in
set_option maxRecDepth 100000 in
theorem list_calls (A : Option Addr) (l : List S45) (c : Nat) (nC : Int) (r : Bool) (w : World) (hr : Kd.C k45 w A l.length l) (h : listF nC l = r) :
  Calls Try.prog 91 #[.slice A l.length c, .int .i64 nC] w fun e w' => e = .returned (.bool r) ∧ ∃ m, w' = w.drewN m := by
 have HC := zb.mk hr
 have HM := zb.mk hr.2.1
 have HH := zb.mk h
 obtain ⟨nl, hnl⟩ : ∃ n, n = l.length := ⟨_, rfl⟩
 have HNL := zb.mk hnl
 rw [← hnl] at HC HM ⊢
 clear hr h hnl
 go_enter Try.func91, Try.ntmps91
 go_wp2
 go_loopw [5] (fun v5 wr => ∃ (i m : Nat), wr = w.drewN m ∧ v5 = .int .i64 i ∧ zb (i ≤ l.length ∧ ∀ j, j < i → elF nC l j = true)) (fun v5 _ => l.length - (intOf v5).toNat)
 case atStart => exact ⟨0, 0, rfl, rfl, ⟨Nat.zero_le _, fun j hj => absurd hj (by omega)⟩⟩
 case round =>
  obtain ⟨i, m, rfl, rfl, hi⟩ := hrel
  by_cases hlt : (i : Int) < (nl : Int)
  ·have HL := zb.mk (show i < l.length by rw [← HNL.out]; omega)
   obtain ⟨ad, rfl, z0, z1⟩ := yK HC.out (i : Int) (by omega) hlt
   rw [Int.toNat_natCast] at z0 z1
   have en := yx (i := i) (n := nl) (by omega) HM.out
   obtain ⟨p, hp⟩ : ∃ p, p = zw l (i : Int) := ⟨_, rfl⟩
   rw [← hp] at z0 z1
   have HEL := zb.mk (show elF nC l i = (inB p.f0 0 (wrap64 (nC - 1)) && (inB p.f1 0 99 && (i == 0 || decide ((l.getD (i - 1) z45).f0 < p.f0)))) by rw [hp]; unfold elF zw; rw [Int.toNat_natCast])
   obtain ⟨a, ha⟩ : ∃ q, inB p.f0 0 (wrap64 (nC - 1)) = q := ⟨_, rfl⟩
   obtain ⟨b, hb⟩ : ∃ q, inB p.f1 0 99 = q := ⟨_, rfl⟩
   have HA := zb.mk ha
   have HB := zb.mk hb
   rw [ha, hb] at HEL
   clear hp ha hb
   have FAIL := zb.mk (show elF nC l i = false → r = false from fun h => by rw [← HH.out]; exact xY HL.out h)
   cases a
   ·have hf := FAIL.out (by rw [HEL.out]; rfl)
    subst hf
    go_upto_region 4 with (fail)
    go_quiet (first | (go_at_call 59; with_reducible refine (yU _ _ _ _ _ HA.out).mono (fun e w' h => ⟨h.1, _, h.2⟩)) | (go_at_call 59; with_reducible refine (yU _ _ _ _ _ HB.out).mono (fun e w' h => ⟨h.1, _, h.2⟩)))
    go_wp2
    go_ret
    exact ⟨rfl, _, rfl⟩
   cases b
   ·have hf := FAIL.out (by rw [HEL.out]; rfl)
    subst hf
    go_upto_region 4 with (fail)
    go_quiet (first | (go_at_call 59; with_reducible refine (yU _ _ _ _ _ HA.out).mono (fun e w' h => ⟨h.1, _, h.2⟩)) | (go_at_call 59; with_reducible refine (yU _ _ _ _ _ HB.out).mono (fun e w' h => ⟨h.1, _, h.2⟩)))
    go_wp2
    go_ret
    exact ⟨rfl, _, rfl⟩
   by_cases i0 : i = 0
   ·have ci : decide ((i : Int) > 0) = false := decide_eq_false (by omega)
    have ci2 : decide (0 < (i : Int)) = false := decide_eq_false (by omega)
    have ci3 : decide (0 < i) = false := decide_eq_false (by omega)
    have HE := zb.mk (show elF nC l i = true by rw [HEL.out, i0]; rfl)
    clear i0
    go_upto_region 4 with (fail)
    go_quiet (first | (go_at_call 59; with_reducible refine (yU _ _ _ _ _ HA.out).mono (fun e w' h => ⟨h.1, _, h.2⟩)) | (go_at_call 59; with_reducible refine (yU _ _ _ _ _ HB.out).mono (fun e w' h => ⟨h.1, _, h.2⟩)))
    go_wp2
    go_roundw
    case rel => exact ⟨i + 1, _, rfl, by first | rw [en] | rfl | simp, ⟨HL.out, fun j hj => by
     by_cases e : j = i
     ·rw [e]; exact HE.out
     ·exact hi.out.2 j (by omega)⟩⟩
    case measure => (try rw [en]); have := HL.out; simp [intOf]; omega
   ·obtain ⟨k, hk⟩ : ∃ k, k = i - 1 := ⟨i - 1, rfl⟩
    have ek : IntKind.i64.wrap ((i : Int) - 1) = (k : Int) := by rw [IntWalk.i64_left]; have := HM.out; unfold wrap64; omega
    obtain ⟨ad', hadd, y0, y1⟩ := yK HC.out (k : Int) (by omega) (by omega)
    injection hadd with hadd
    subst hadd
    obtain ⟨q, hq⟩ : ∃ p, p = zw l (k : Int) := ⟨_, rfl⟩
    rw [← hq] at y0
    have HEL2 := zb.mk (show elF nC l i = decide (q.f0 < p.f0) by rw [HEL.out, hq, ← hk]; unfold zw; rw [Int.toNat_natCast]; simp [i0])
    have ci : decide ((i : Int) > 0) = true := decide_eq_true (by omega)
    have ci2 : decide (0 < i) = true := decide_eq_true (by omega)
    have ci3 : decide ((0 : Int) < (i : Int)) = true := decide_eq_true (by omega)
    have ip : 0 < i := by omega
    have k0 : (0 : Int) ≤ (i : Int) - 1 := by omega
    have k1 : (i : Int) - 1 < (nl : Int) := by omega
    have ew : wrap64 ((i : Int) - 1) = (i : Int) - 1 := by have := HM.out; unfold wrap64; omega
    have ya : w.cell? (ad.add ((i - 1) * 2)) = some (.int .i64 q.f0) := by rw [← hk]; rwa [Int.toNat_natCast] at y0
    have yb : w.cell? (ad.add (((i : Int) - 1).toNat * 2)) = some (.int .i64 q.f0) := by rw [show ((i : Int) - 1).toNat = i - 1 by omega]; exact ya
    clear y0
    clear hq y1 HEL hk ek
    by_cases qp : q.f0 ≥ p.f0
    ·have hf := FAIL.out (by rw [HEL2.out, decide_eq_false (by omega)])
     subst hf
     go_upto_region 4 with (fail)
     go_quiet (first | (go_at_call 59; with_reducible refine (yU _ _ _ _ _ HA.out).mono (fun e w' h => ⟨h.1, _, h.2⟩)) | (go_at_call 59; with_reducible refine (yU _ _ _ _ _ HB.out).mono (fun e w' h => ⟨h.1, _, h.2⟩)))
     go_wp2
     go_ret
     exact ⟨rfl, _, rfl⟩
    ·have HE := zb.mk (show elF nC l i = true by rw [HEL2.out, decide_eq_true (by omega)])
     go_upto_region 4 with (fail)
     go_quiet (first | (go_at_call 59; with_reducible refine (yU _ _ _ _ _ HA.out).mono (fun e w' h => ⟨h.1, _, h.2⟩)) | (go_at_call 59; with_reducible refine (yU _ _ _ _ _ HB.out).mono (fun e w' h => ⟨h.1, _, h.2⟩)))
     go_wp2
     go_roundw
     case rel => exact ⟨i + 1, _, rfl, by first | rw [en] | rfl | simp, ⟨HL.out, fun j hj => by
      by_cases e : j = i
      ·rw [e]; exact HE.out
      ·exact hi.out.2 j (by omega)⟩⟩
     case measure => (try rw [en]); have := HL.out; simp [intOf]; omega
  ·have HE := zb.mk (show r = true by rw [← HH.out]; exact xF (fun j hj => hi.out.2 j (by rw [← HNL.out] at hj; omega)))
   go_wp2
   go_ret
   exact ⟨by rw [HE.out]; rfl, m, rfl⟩
end Go.Proofs.Ytppapibjbjmmbaa.QSY
set_option linter.unusedVariables false
set_option linter.unusedSimpArgs false
namespace Go.Proofs.Ytppapibjbjmmbaa.QSY
open Go.RowKit Go.Proofs.YtppapibjbjmmbaaW.PrintWords Go.Proofs.YtppapibjbjmmbaaW.PrintLast Go.Proofs.YtppapibjbjmmbaaW.PrintMore
def atF (st at_ : Int) (n9 n10 : Nat) (n : Int) : Bool :=
 if st = 0 then at_ == 0 && decide (n9 + n10 = 0) else if st = 1 then inB at_ 0 n else if st = 3 then at_ == 0 && decide (0 < n10)
 else if st = 4 then inB at_ 0 n9 && decide (0 < n10) else inB at_ 0 (wrap64 ((n10 : Int) - 1))
set_option maxHeartbeats 4000000 in
set_option maxRecDepth 100000 in
theorem at_calls (a0 a1 a2 : Int) (A3 : Option Addr) (n3 c3 : Nat) (a4 st at_ a7 : Int) (A8 : Option Addr) (n8 c8 : Nat) (A9 : Option Addr) (n9 c9 : Nat) (A10 : Option Addr) (n10 c10 : Nat) (a11 a12 n : Int) (r : Bool) (w : World) (h9 : n9 ≤ 1000000) (h10 : n10 ≤ 1000000) (h : atF st at_ n9 n10 n = r) :
  Calls Try.prog 112 #[.agg #[.int .i64 a0, .int .i64 a1, .int .i64 a2, .slice A3 n3 c3, .int .i64 a4, .int .i64 st, .int .i64 at_, .int .i64 a7, .slice A8 n8 c8, .slice A9 n9 c9, .slice A10 n10 c10, .int .i64 a11, .int .i64 a12], .int .i64 n] w fun e w' => e = .returned (.bool r) ∧ Below w.heap.size w w' := by
 have HH := zb.mk h
 obtain ⟨W, hW⟩ : ∃ W, W = w.alloc (.cells #[.int .i64 a0, .int .i64 a1, .int .i64 a2, .slice A3 n3 c3, .int .i64 a4, .int .i64 st, .int .i64 at_, .int .i64 a7, .slice A8 n8 c8, .slice A9 n9 c9, .slice A10 n10 c10, .int .i64 a11, .int .i64 a12] 43) := ⟨_, rfl⟩
 have HB := zb.mk (show Below w.heap.size w W by rw [hW]; exact zc (Below.refl _ _) _)
 have E0 := zb.mk (show W.heap[w.heap.size]? = some (.cells #[.int .i64 a0, .int .i64 a1, .int .i64 a2, .slice A3 n3 c3, .int .i64 a4, .int .i64 st, .int .i64 at_, .int .i64 a7, .slice A8 n8 c8, .slice A9 n9 c9, .slice A10 n10 c10, .int .i64 a11, .int .i64 a12] 43 (0, 0)) by rw [hW]; exact heap_alloc_new _ _)
 clear h
 go_enter Try.func112, Try.ntmps112
 go_upto_region 1 with (fail)
 rw [← hW]
 clear hW
 have x5 := (zd E0.out 5).trans rfl
 have x6 := (zd E0.out 6).trans rfl
 have x9 := (zd E0.out 9).trans rfl
 have x10 := (zd E0.out 10).trans rfl
 have e9 : wrap64 ((n9 : Int) + n10) = (n9 : Int) + n10 := by unfold wrap64; omega
 by_cases s0 : st = 0
 ·by_cases a0_ : at_ = 0
  ·by_cases z : (n9 : Int) + n10 = 0
   ·have hr : r = true := by rw [← HH.out]; unfold atF; rw [if_pos s0, a0_, decide_eq_true (show n9 + n10 = 0 by omega)]; rfl
    subst s0 a0_ hr
    go_wp2
    go_ret
    exact ⟨by first | rfl | (simp <;> omega), HB.out⟩
   ·have hr : r = false := by rw [← HH.out]; unfold atF; rw [if_pos s0, a0_, decide_eq_false (show ¬ n9 + n10 = 0 by omega)]; rfl
    subst s0 a0_ hr
    go_wp2
    go_ret
    exact ⟨by first | rfl | (simp <;> omega), HB.out⟩
  ·have hr : r = false := by rw [← HH.out]; unfold atF; rw [if_pos s0, show (at_ == 0) = false by simp [a0_]]; rfl
   subst s0 hr
   go_wp2
   go_ret
   exact ⟨by first | rfl | (simp <;> omega), HB.out⟩
 by_cases s1 : st = 1
 ·have hr := HH.out
  unfold atF at hr
  rw [if_neg s0, if_pos s1] at hr
  have HR := zb.mk hr
  subst s1
  clear hr s0
  go_wp2_with (refine (zy _ _ _ _ _ HR.out).mono ?_; rintro e w' ⟨rfl, rfl⟩)
  go_ret
  exact ⟨by first | rfl | (simp <;> omega), HB.out⟩
 by_cases s3 : st = 3
 ·have hr := HH.out
  unfold atF at hr
  rw [if_neg s0, if_neg s1, if_pos s3] at hr
  subst s3
  clear s0 s1
  by_cases a0_ : at_ = 0
  ·by_cases z : (n10 : Int) > 0
   ·rw [a0_, decide_eq_true (show 0 < n10 by omega)] at hr
    subst a0_ hr
    go_wp2
    go_ret
    exact ⟨by first | rfl | (simp <;> omega), HB.out⟩
   ·rw [a0_, decide_eq_false (show ¬ 0 < n10 by omega)] at hr
    subst a0_ hr
    go_wp2
    go_ret
    exact ⟨by first | rfl | (simp <;> omega), HB.out⟩
  ·rw [show (at_ == 0) = false by simp [a0_]] at hr
   subst hr
   go_wp2
   go_ret
   exact ⟨by first | rfl | (simp <;> omega), HB.out⟩
 by_cases s4 : st = 4
 ·have hr := HH.out
  unfold atF at hr
  rw [if_neg s0, if_neg s1, if_neg s3, if_pos s4] at hr
  subst s4
  clear s0 s1 s3
  obtain ⟨q, hq⟩ : ∃ q, inB at_ 0 n9 = q := ⟨_, rfl⟩
  have HQ := zb.mk hq
  rw [hq] at hr
  clear hq
  cases q
  ·subst hr
   go_wp2_with (refine (zy _ _ _ _ _ HQ.out).mono ?_; rintro e w' ⟨rfl, rfl⟩)
   go_ret
   exact ⟨by first | rfl | (simp <;> omega), HB.out⟩
  ·by_cases z : (n10 : Int) > 0
   ·rw [decide_eq_true (show 0 < n10 by omega)] at hr
    subst hr
    go_wp2_with (refine (zy _ _ _ _ _ HQ.out).mono ?_; rintro e w' ⟨rfl, rfl⟩)
    go_ret
    exact ⟨by first | rfl | (simp <;> omega), HB.out⟩
   ·rw [decide_eq_false (show ¬ 0 < n10 by omega)] at hr
    subst hr
    go_wp2_with (refine (zy _ _ _ _ _ HQ.out).mono ?_; rintro e w' ⟨rfl, rfl⟩)
    go_ret
    exact ⟨by first | rfl | (simp <;> omega), HB.out⟩
 ·have hr := HH.out
  unfold atF at hr
  rw [if_neg s0, if_neg s1, if_neg s3, if_neg s4] at hr
  have HR := zb.mk hr
  have em : wrap64 ((n10 : Int) - 1) = (n10 : Int) - 1 := by unfold wrap64; omega
  rw [em] at HR
  clear hr
  go_wp2_with (refine (zy _ _ _ _ _ HR.out).mono ?_; rintro e w' ⟨rfl, rfl⟩)
  go_ret
  exact ⟨by first | rfl | (simp <;> omega), HB.out⟩
def timesF (st since when_ from_ clk nL : Int) : Bool :=
 if inB since 0 clk = false ∨ inB from_ 0 nL = false then false
 else if st = 0 then inB when_ 0 (wrap64 (clk + 1)) else if st = 4 ∨ st = 5 then inB when_ (wrap64 (since + 1)) clk else when_ == 0
set_option maxHeartbeats 4000000 in
set_option maxRecDepth 100000 in
theorem times_calls (a0 a1 a2 : Int) (A3 : Option Addr) (n3 c3 : Nat) (a4 st at_ a7 : Int) (A8 : Option Addr) (n8 c8 : Nat) (A9 : Option Addr) (n9 c9 : Nat) (A10 : Option Addr) (n10 c10 : Nat) (a11 a12 : Int) (AC : Option Addr) (nC cC : Nat) (AT : Option Addr) (nT cT : Nat) (clk : Int) (AL : Option Addr) (nL cL : Nat) (r : Bool) (w : World) (h : timesF st a7 a11 a12 clk nL = r) :
  Calls Try.prog 92 #[.agg #[.int .i64 a0, .int .i64 a1, .int .i64 a2, .slice A3 n3 c3, .int .i64 a4, .int .i64 st, .int .i64 at_, .int .i64 a7, .slice A8 n8 c8, .slice A9 n9 c9, .slice A10 n10 c10, .int .i64 a11, .int .i64 a12], .agg #[.slice AC nC cC, .slice AT nT cT, .int .i64 clk, .slice AL nL cL]] w fun e w' => e = .returned (.bool r) ∧ Below w.heap.size w w' := by
 have HH := zb.mk h
 obtain ⟨W, hW⟩ : ∃ W, W = (w.alloc (.cells #[.int .i64 a0, .int .i64 a1, .int .i64 a2, .slice A3 n3 c3, .int .i64 a4, .int .i64 st, .int .i64 at_, .int .i64 a7, .slice A8 n8 c8, .slice A9 n9 c9, .slice A10 n10 c10, .int .i64 a11, .int .i64 a12] 43)).alloc (.cells #[.slice AC nC cC, .slice AT nT cT, .int .i64 clk, .slice AL nL cL] 27) := ⟨_, rfl⟩
 have HB := zb.mk (show Below w.heap.size w W by rw [hW]; exact zc (zc (Below.refl _ _) _) _)
 have E0 := zb.mk (show W.heap[w.heap.size]? = some (.cells #[.int .i64 a0, .int .i64 a1, .int .i64 a2, .slice A3 n3 c3, .int .i64 a4, .int .i64 st, .int .i64 at_, .int .i64 a7, .slice A8 n8 c8, .slice A9 n9 c9, .slice A10 n10 c10, .int .i64 a11, .int .i64 a12] 43 (0, 0)) by rw [hW]; exact zm (heap_alloc_new _ _) _)
 have E1 := zb.mk (show W.heap[w.heap.size + 1]? = some (.cells #[.slice AC nC cC, .slice AT nT cT, .int .i64 clk, .slice AL nL cL] 27 (0, 0)) by rw [hW, show w.heap.size + 1 = (w.alloc (.cells #[.int .i64 a0, .int .i64 a1, .int .i64 a2, .slice A3 n3 c3, .int .i64 a4, .int .i64 st, .int .i64 at_, .int .i64 a7, .slice A8 n8 c8, .slice A9 n9 c9, .slice A10 n10 c10, .int .i64 a11, .int .i64 a12] 43)).heap.size by simp]; exact heap_alloc_new _ _)
 clear h
 go_enter Try.func92, Try.ntmps92
 go_upto_region 1 with (fail)
 rw [← hW]
 clear hW
 have x5 := (zd E0.out 5).trans rfl
 have x7 := (zd E0.out 7).trans rfl
 have x11 := (zd E0.out 11).trans rfl
 have x12 := (zd E0.out 12).trans rfl
 have y2 := (zd E1.out 2).trans rfl
 have y3 := (zd E1.out 3).trans rfl
 obtain ⟨p, hp⟩ : ∃ q, inB a7 0 clk = q := ⟨_, rfl⟩
 obtain ⟨q, hq⟩ : ∃ q, inB a12 0 nL = q := ⟨_, rfl⟩
 have H1 := zb.mk hp
 have H2 := zb.mk hq
 unfold timesF at HH
 rw [hp, hq] at HH
 clear hp hq
 cases p
 ·have hr := HH.out
  rw [if_pos (.inl rfl)] at hr
  subst hr
  go_wp2_with (first | (with_reducible refine (zy _ _ _ _ _ H1.out).mono ?_; rintro e w' ⟨rfl, rfl⟩) | (with_reducible refine (zy _ _ _ _ _ H2.out).mono ?_; rintro e w' ⟨rfl, rfl⟩))
  go_ret
  exact ⟨rfl, HB.out⟩
 cases q
 ·have hr := HH.out
  rw [if_pos (.inr rfl)] at hr
  subst hr
  go_wp2_with (first | (with_reducible refine (zy _ _ _ _ _ H1.out).mono ?_; rintro e w' ⟨rfl, rfl⟩) | (with_reducible refine (zy _ _ _ _ _ H2.out).mono ?_; rintro e w' ⟨rfl, rfl⟩))
  go_ret
  exact ⟨rfl, HB.out⟩
 have hr := HH.out
 rw [if_neg (by simp)] at hr
 by_cases s0 : st = 0
 ·rw [if_pos s0] at hr
  have HR := zb.mk hr
  subst s0
  clear hr
  go_wp2_with (first | (with_reducible refine (zy _ _ _ _ _ H1.out).mono ?_; rintro e w' ⟨rfl, rfl⟩) | (with_reducible refine (zy _ _ _ _ _ H2.out).mono ?_; rintro e w' ⟨rfl, rfl⟩) | (with_reducible refine (zy _ _ _ _ _ HR.out).mono ?_; rintro e w' ⟨rfl, rfl⟩))
  go_ret
  exact ⟨rfl, HB.out⟩
 rw [if_neg s0] at hr
 by_cases s4 : st = 4 ∨ st = 5
 ·rw [if_pos s4] at hr
  have HR := zb.mk hr
  clear hr s0
  rcases s4 with rfl | rfl
  all_goals
   go_wp2_with (first | (with_reducible refine (zy _ _ _ _ _ H1.out).mono ?_; rintro e w' ⟨rfl, rfl⟩) | (with_reducible refine (zy _ _ _ _ _ H2.out).mono ?_; rintro e w' ⟨rfl, rfl⟩) | (with_reducible refine (zy _ _ _ _ _ HR.out).mono ?_; rintro e w' ⟨rfl, rfl⟩))
   go_ret
   exact ⟨rfl, HB.out⟩
 ·rw [if_neg s4] at hr
  have s4' : ¬ st = 4 := fun e => s4 (.inl e)
  have s5' : ¬ st = 5 := fun e => s4 (.inr e)
  subst hr
  clear s4
  go_wp2_with (first | (with_reducible refine (zy _ _ _ _ _ H1.out).mono ?_; rintro e w' ⟨rfl, rfl⟩) | (with_reducible refine (zy _ _ _ _ _ H2.out).mono ?_; rintro e w' ⟨rfl, rfl⟩))
  go_ret
  exact ⟨rfl, HB.out⟩
end Go.Proofs.Ytppapibjbjmmbaa.QSY
set_option linter.unusedVariables false
set_option linter.unusedSimpArgs false
namespace Go.Proofs.Ytppapibjbjmmbaa.QSY
open Go.RowKit Go.Proofs.YtppapibjbjmmbaaW.PrintWords Go.Proofs.YtppapibjbjmmbaaW.PrintLast Go.Proofs.YtppapibjbjmmbaaW.PrintMore
def bm (n k : Nat) : Array Bool := ((List.range n).map (Nat.testBit k)).toArray
structure TG where
 s : S43
 v3 : Value
 v8 : Value
 v9 : Value
 v10 : Value
def zTG : TG := ⟨z43, .slice none 0 0, .slice none 0 0, .slice none 0 0, .slice none 0 0⟩
def TG.cells (t : TG) : List Value := [.int .i64 t.s.f0, .int .i64 t.s.f1, .int .i64 t.s.f2, t.v3, .int .i64 t.s.f4, .int .i64 t.s.f5, .int .i64 t.s.f6, .int .i64 t.s.f7, t.v8, t.v9, t.v10, .int .i64 t.s.f11, .int .i64 t.s.f12]
def TG.blocks (t : TG) : List Nat := t.v3.ownBlock.toList ++ t.v8.ownBlock.toList ++ t.v9.ownBlock.toList ++ t.v10.ownBlock.toList
def kTG : Kd TG where
 sz := 13
 E := []
 K := fun _ x cs => cs = x.cells ∧ ∀ u ∈ cs, u.oneCell' = true
 M := fun _ _ _ x cs => cs = x.cells ∧ ∀ u ∈ cs, u.oneCell' = true
 K_len := fun h => by rw [h.1]; rfl
 K_one := fun h => h.2
 K_below := fun _ h => h
 K_of_M := fun h => h
 M_mono := fun _ h => h
 M_bound := fun h => h
 M_move := fun _ h => h
 M_lower := fun _ h => h
structure TRow (w : World) (B : Nat) (t : TG) : Prop where
 r3 : Kd.R (Kd.int .i64) 3 w B (fun _ => True) t.v3 t.s.f3
 r8 : Kd.R (Kd.int .i64) 3 w B (fun _ => True) t.v8 t.s.f8
 r9 : Kd.R k45 45 w B (fun _ => True) t.v9 t.s.f9
 r10 : Kd.R k45 45 w B (fun _ => True) t.v10 t.s.f10
structure xv (w : World) (B N : Nat) (vC vT vL : Value) (C : List S33) (T : List TG) (L : List S50) : Prop where
 rC : Kd.R k33 33 w B (fun _ => True) vC C
 rT : Kd.R kTG 43 w B (fun _ => True) vT T
 rows : ∀ t ∈ T, TRow w B t
 ap : (T.flatMap TG.blocks).Nodup
 lt : ∀ b ∈ T.flatMap TG.blocks, b < N
 rL : Kd.R k50 50 w B (fun k => k ∉ T.flatMap TG.blocks ∧ k < N) vL L
def Ty (q : Nat) : Prop := q = 33 ∨ q = 43 ∨ q = 3 ∨ q = 45 ∨ q = 50
instance (q : Nat) : Decidable (Ty q) := inferInstanceAs (Decidable (_ ∨ _))
theorem zR {α : Type} {d : Kd α} {e : Nat} {w w1 : World} {B : Nat} {ok : Nat → Prop} {v : Value} {xs : List α} (h : d.R e w B ok v xs)
  (hm : ∀ k q cells, ok k → B ≤ k → q ∈ e :: d.E → w.heap[k]? = some (.cells cells q (0, 0)) → w1.heap[k]? = w.heap[k]?) : d.R e w1 B ok v xs :=
 Kd.zT (Kd.R_move (Kd.yI h) (fun k hk => by
  obtain ⟨h1, h2, _, q, hq, cells, hc⟩ := hk
  exact hm k q cells h1 h2 hq hc)) (fun _ hk => hk.1)
theorem TRow.keep {w w1 : World} {B : Nat} {t : TG} (h : TRow w B t) (hm : ∀ k q cells, (k ∈ t.blocks ∨ q = 45 ∧ False) → B ≤ k → (q = 3 ∨ q = 45) → w.heap[k]? = some (.cells cells q (0, 0)) → w1.heap[k]? = w.heap[k]?) : TRow w1 B t := by
 have tight : ∀ {α : Type} {d : Kd α} {e : Nat} {v : Value} {xs : List α}, d.E = [] → d.R e w B (fun _ => True) v xs → d.R e w B (fun k => some k = v.ownBlock) v xs := fun hE h => Kd.R_tight hE h
 refine ⟨?_, ?_, ?_, ?_⟩
 ·refine Kd.zT (zR (tight rfl h.r3) (fun k q cells hk hB hq hc => hm k q cells (.inl ?_) hB ?_ hc)) (fun _ _ => trivial)
  ·simp [TG.blocks, ← hk]
  ·exact .inl (List.mem_singleton.1 hq)
 ·refine Kd.zT (zR (tight rfl h.r8) (fun k q cells hk hB hq hc => hm k q cells (.inl ?_) hB ?_ hc)) (fun _ _ => trivial)
  ·simp [TG.blocks, ← hk]
  ·exact .inl (List.mem_singleton.1 hq)
 ·refine Kd.zT (zR (tight rfl h.r9) (fun k q cells hk hB hq hc => hm k q cells (.inl ?_) hB ?_ hc)) (fun _ _ => trivial)
  ·simp [TG.blocks, ← hk]
  ·exact .inr (List.mem_singleton.1 hq)
 ·refine Kd.zT (zR (tight rfl h.r10) (fun k q cells hk hB hq hc => hm k q cells (.inl ?_) hB ?_ hc)) (fun _ _ => trivial)
  ·simp [TG.blocks, ← hk]
  ·exact .inr (List.mem_singleton.1 hq)
section
variable {w w1 : World} {B N : Nat} {vC vT vL : Value} {C : List S33} {T : List TG} {L : List S50}
theorem xv.same (h : xv w B N vC vT vL C T L) (hm : ∀ k q cells, B ≤ k → Ty q → w.heap[k]? = some (.cells cells q (0, 0)) → w1.heap[k]? = w.heap[k]?) : xv w1 B N vC vT vL C T L := by
 refine ⟨zR h.rC (fun k q cells _ hB hq hc => hm k q cells hB ?_ hc), zR h.rT (fun k q cells _ hB hq hc => hm k q cells hB ?_ hc), fun t ht => (h.rows t ht).keep (fun k q cells _ hB hq hc => hm k q cells hB ?_ hc), h.ap, h.lt, zR h.rL (fun k q cells _ hB hq hc => hm k q cells hB ?_ hc)⟩
 ·exact .inl (List.mem_singleton.1 hq)
 ·exact .inr (.inl (List.mem_singleton.1 hq))
 ·exact hq.elim (fun h => .inr (.inr (.inl h))) (fun h => .inr (.inr (.inr (.inl h))))
 ·have hE : ∀ q, q ∈ 50 :: k50.E → Ty q := by decide
  exact hE q hq
theorem xv.below (h : xv w B N vC vT vL C T L) (hb : Below w.heap.size w w1) : xv w1 B N vC vT vL C T L := h.same (fun k q cells _ _ hc => hb.block k (zo hc))
theorem xv.now (h : xv w B N vC vT vL C T L) : xv w B w.heap.size vC vT vL C T L := by
 refine ⟨h.rC, h.rT, h.rows, h.ap, fun b hb => ?_, Kd.zT (Kd.yI h.rL) (fun k hk => ⟨hk.1.1, hk.2.2.1⟩)⟩
 obtain ⟨t, ht, hb⟩ := List.mem_flatMap.1 hb
 have r := h.rows t ht
 simp only [TG.blocks, List.mem_append, Option.mem_toList] at hb
 rcases hb with ((hb | hb) | hb) | hb
 ·exact Kd.R_lt r.r3 b hb
 ·exact Kd.R_lt r.r8 b hb
 ·exact Kd.R_lt r.r9 b hb
 ·exact Kd.R_lt r.r10 b hb
theorem xv.lower {B' : Nat} (h : xv w B N vC vT vL C T L) (hB : B' ≤ B) : xv w B' N vC vT vL C T L :=
 ⟨Kd.zP h.rC hB, Kd.zP h.rT hB, fun t ht => ⟨Kd.zP (h.rows t ht).r3 hB, Kd.zP (h.rows t ht).r8 hB, Kd.zP (h.rows t ht).r9 hB, Kd.zP (h.rows t ht).r10 hB⟩, h.ap, h.lt, Kd.zP h.rL hB⟩
theorem xv.far (h : xv w B N vC vT vL C T L) {g t : Nat} {cells : Array Value} (hb : w.heap[g]? = some (.cells cells t (0, 0))) (ht : ¬ Ty t) (j : Nat) (u : Value) : xv (w.setCell ⟨g, j, none⟩ u) B N vC vT vL C T L :=
 h.same (fun k q cells' _ hq hc => Below.heap_setCell w ⟨g, j, none⟩ u k (fun e => by
  subst e
  rw [hc] at hb
  injection hb with hb
  injection hb with _ hb
  exact ht (hb ▸ hq)))
theorem TG.read {B : Nat} {w : World} {t : TG} {base : Nat} {ok : Nat → Prop} (h : TRow w B t) : k43.K w t.s t.cells :=
 k43.K_of_M (k43_mkM w B (fun _ => True) t.s h.r3 h.r8 h.r9 h.r10)
theorem xv.reads (h : xv w B N vC vT vL C T L) : ∃ A c, vT = .slice A T.length c ∧ T.length ≤ c ∧ Kd.C k43 w A (T.map TG.s).length (T.map TG.s) := by
 obtain ⟨A, c, hv, hl, hC⟩ := Kd.yP h.rT
 refine ⟨A, c, hv, hl, rfl, by have := hC.2.1; rw [List.length_map]; exact this, fun hn => ?_⟩
 rw [List.length_map] at hn
 obtain ⟨ad, hA, hp⟩ := hC.2.2 hn
 refine ⟨ad, hA, fun j p hj => ?_⟩
 rw [List.getElem?_map] at hj
 obtain ⟨t, ht, rfl⟩ := Option.map_eq_some_iff.1 hj
 obtain ⟨cs, hcl, hK, hcc⟩ := hp j t ht
 refine ⟨cs, hcl, ?_, hcc⟩
 have := TG.read (base := 0) (ok := fun _ => True) (h.rows t (List.mem_of_getElem? ht))
 rw [hK.1]
 exact this
end
end Go.Proofs.Ytppapibjbjmmbaa.QSY
set_option linter.unusedVariables false
set_option linter.unusedSimpArgs false
namespace Go.Proofs.Ytppapibjbjmmbaa.QSY
open Go.RowKit Go.Proofs.YtppapibjbjmmbaaW.PrintWords Go.Proofs.YtppapibjbjmmbaaW.PrintLast Go.Proofs.YtppapibjbjmmbaaW.PrintMore
def tg (T : List TG) (i : Int) : TG := T.getD i.toNat zTG
structure Rep (w0 w : World) (g N : Nat) (vp0 vp1 vC vT vL : Value) (C : List S33) (T : List TG) (clk : Int) (L : List S50) : Prop where
 hb : Below w0.heap.size w0 w
 gB : w0.heap.size ≤ g
 blk : w.heap[g]? = some (.cells #[vp0, vp1, vC, vT, .int .i64 clk, vL] 134 (0, 0))
 V : xv w w0.heap.size N vC vT vL C T L
theorem tg_get {T : List TG} {i : Int} (h0 : 0 ≤ i) (h1 : i < T.length) : T[i.toNat]? = some (tg T i) := by
 have : i.toNat < T.length := by omega
 unfold tg
 rw [List.getD_eq_getElem?_getD, List.getElem?_eq_getElem this]; rfl
theorem yF {T : List TG} {i : Int} (h0 : 0 ≤ i) (h1 : i < T.length) : tg T i ∈ T := List.mem_of_getElem? (tg_get h0 h1)
theorem flat_set {T : List TG} {i : Nat} {t t' : TG} (ht : T[i]? = some t) (hb : t'.blocks = t.blocks) : (T.set i t').flatMap TG.blocks = T.flatMap TG.blocks := by
 induction T generalizing i with
 | nil => simp at ht
 | cons a T ih =>
  cases i with
  | zero =>
   obtain rfl : a = t := by simpa using ht
   simp [hb]
  | succ i =>
   rw [List.set_cons_succ, List.flatMap_cons, List.flatMap_cons, ih (by simpa using ht)]
theorem mem_flat_set {T : List TG} {i : Nat} {t' : TG} {b : Nat} (h : b ∈ (T.set i t').flatMap TG.blocks) : b ∈ T.flatMap TG.blocks ∨ b ∈ t'.blocks := by
 obtain ⟨t, ht, hb⟩ := List.mem_flatMap.1 h
 rcases List.mem_or_eq_of_mem_set ht with h | rfl
 ·exact .inl (List.mem_flatMap.2 ⟨t, h, hb⟩)
 ·exact .inr hb
theorem nodup_flat_set {T : List TG} {i : Nat} {t t' : TG} (hn : (T.flatMap TG.blocks).Nodup) (ht : T[i]? = some t) (hd : t'.blocks.Nodup) (hf : ∀ b ∈ t'.blocks, b ∈ t.blocks ∨ b ∉ T.flatMap TG.blocks) : ((T.set i t').flatMap TG.blocks).Nodup := by
 induction T generalizing i with
 | nil => simp at ht
 | cons a T ih =>
  rw [List.flatMap_cons, List.nodup_append] at hn
  obtain ⟨h1, h2, h3⟩ := hn
  cases i with
  | zero =>
   obtain rfl : a = t := by simpa using ht
   rw [List.set_cons_zero, List.flatMap_cons, List.nodup_append]
   refine ⟨hd, h2, fun b hb c hc hbc => ?_⟩
   subst hbc
   rcases hf b hb with h | h
   ·exact h3 b h b hc rfl
   ·exact h (List.mem_append_right _ hc)
  | succ i =>
   have ht' : T[i]? = some t := by simpa using ht
   rw [List.set_cons_succ, List.flatMap_cons, List.nodup_append]
   refine ⟨h1, ih h2 ht' (fun b hb => (hf b hb).imp id (fun h hm => h (List.mem_append_right _ hm))), fun b hb c hc hbc => ?_⟩
   subst hbc
   rcases mem_flat_set hc with h | h
   ·exact h3 b hb b h rfl
   ·rcases hf b h with h' | h'
    ·exact h3 b hb b (List.mem_flatMap.2 ⟨t, List.mem_of_getElem? ht', h'⟩) rfl
    ·exact h' (List.mem_append_left _ hb)
section
variable {w0 w w1 : World} {g N : Nat} {vp0 vp1 vC vT vL : Value} {C : List S33} {T : List TG} {clk : Int} {L : List S50}
theorem Rep.below (h : Rep w0 w g N vp0 vp1 vC vT vL C T clk L) (hb : Below w.heap.size w w1) : Rep w0 w1 g N vp0 vp1 vC vT vL C T clk L :=
 ⟨below_then h.hb h.hb.size hb, h.gB, (hb.block g (zo h.blk)).trans h.blk, h.V.below hb⟩
theorem Rep.alloc (h : Rep w0 w g N vp0 vp1 vC vT vL C T clk L) (o : Obj) : Rep w0 (w.alloc o) g N vp0 vp1 vC vT vL C T clk L := h.below (zc (Below.refl _ _) o)
theorem Rep.drew (h : Rep w0 w g N vp0 vp1 vC vT vL C T clk L) : Rep w0 w.drew g N vp0 vp1 vC vT vL C T clk L := h.below (ze (Below.refl _ _))
theorem Rep.drewN (h : Rep w0 w g N vp0 vp1 vC vT vL C T clk L) (n : Nat) : Rep w0 (w.drewN n) g N vp0 vp1 vC vT vL C T clk L := h.below (zj (Below.refl _ _) n)
theorem Rep.now (h : Rep w0 w g N vp0 vp1 vC vT vL C T clk L) : Rep w0 w g w.heap.size vp0 vp1 vC vT vL C T clk L := ⟨h.hb, h.gB, h.blk, h.V.now⟩
theorem Rep.c0 (h : Rep w0 w g N vp0 vp1 vC vT vL C T clk L) : w.cell? ⟨g, 0, none⟩ = some vp0 := (zd h.blk 0).trans rfl
theorem Rep.c1 (h : Rep w0 w g N vp0 vp1 vC vT vL C T clk L) : w.cell? ⟨g, 1, none⟩ = some vp1 := (zd h.blk 1).trans rfl
theorem Rep.c2 (h : Rep w0 w g N vp0 vp1 vC vT vL C T clk L) : w.cell? ⟨g, 2, none⟩ = some vC := (zd h.blk 2).trans rfl
theorem Rep.c3 (h : Rep w0 w g N vp0 vp1 vC vT vL C T clk L) : w.cell? ⟨g, 3, none⟩ = some vT := (zd h.blk 3).trans rfl
theorem Rep.c4 (h : Rep w0 w g N vp0 vp1 vC vT vL C T clk L) : w.cell? ⟨g, 4, none⟩ = some (.int .i64 clk) := (zd h.blk 4).trans rfl
theorem Rep.c5 (h : Rep w0 w g N vp0 vp1 vC vT vL C T clk L) : w.cell? ⟨g, 5, none⟩ = some vL := (zd h.blk 5).trans rfl
theorem Rep.fz (h : Rep w0 w g N vp0 vp1 vC vT vL C T clk L) (j : Nat) : w.frozen? ⟨g, j, none⟩ = false := zk h.blk j
theorem yo {w : World} {a b : Addr} {v u : Value} (h : w.cell? a = some v) (hne : a ≠ b) : (w.setCell b u).cell? a = some v := by
 exact (World.cell?_setCell_other _ _ _ _ hne.symm).trans h
theorem Rep.form (h : Rep w0 w g N vp0 vp1 vC vT vL C T clk L) (hn : 0 < T.length) : ∃ gT cap, vT = .slice (some ⟨gT, 0, none⟩) T.length cap ∧ w0.heap.size ≤ gT ∧ gT < w.heap.size ∧ ∃ cells, w.heap[gT]? = some (.cells cells 43 (0, 0)) := Kd.xT h.V.rT hn
theorem Rep.elem {gT cap n : Nat} (h : Rep w0 w g N vp0 vp1 vC (.slice (some ⟨gT, 0, none⟩) n cap) vL C T clk L) (i : Int) (h0 : 0 ≤ i) (h1 : i < T.length) :
  (∀ j u, (tg T i).cells[j]? = some u → w.cell? ⟨gT, i.toNat * 13 + j, none⟩ = some u) ∧ (∀ j, w.frozen? ⟨gT, i.toNat * 13 + j, none⟩ = false) ∧ (∀ u ∈ (tg T i).cells, u.oneCell' = true) := by
 have hn : n = T.length := (Kd.zH h.V.rT).1
 obtain ⟨c, hcl, hM, hcc, hfr⟩ := Kd.R_elem h.V.rT zTG i h0 (by omega)
 obtain rfl := hM.1
 exact ⟨hcc, hfr, hM.2⟩
theorem Rep.ne {gT cap n : Nat} (h : Rep w0 w g N vp0 vp1 vC (.slice (some ⟨gT, 0, none⟩) n cap) vL C T clk L) (_ : Nat) : g ≠ gT := fun e => by
 obtain ⟨cT, hcT⟩ := Kd.xb h.V.rT gT (by simp [Value.ownBlock])
 subst e
 have := h.blk
 rw [hcT] at this
 injection this with this
 injection this with _ this
 exact absurd this (by decide)
theorem Rep.storeS {gT cap n : Nat} (h : Rep w0 w g N vp0 vp1 vC (.slice (some ⟨gT, 0, none⟩) n cap) vL C T clk L) (i : Int) (h0 : 0 ≤ i) (h1 : i < T.length) {t' : TG} (j : Nat) (seg : List Value) (hj : j + seg.length ≤ 13)
  (hset : t'.cells = (tg T i).cells.take j ++ seg ++ (tg T i).cells.drop (j + seg.length)) (hu : ∀ u ∈ seg, u.oneCell' = true) (hr : TRow w w0.heap.size t') {N' : Nat} (hN : N ≤ N') (hd : t'.blocks.Nodup) (hf : ∀ b ∈ t'.blocks, b ∈ (tg T i).blocks ∨ (N ≤ b ∧ b < N')) :
  Rep w0 (w.setCells gT (i.toNat * 13 + j) seg) g N' vp0 vp1 vC (.slice (some ⟨gT, 0, none⟩) n cap) vL C (T.set i.toNat t') clk L := by
 have hn : n = T.length := (Kd.zH h.V.rT).1
 obtain ⟨c, hcl, hM, hcc, hfr⟩ := Kd.R_elem h.V.rT zTG i h0 (by omega)
 obtain rfl : c = (tg T i).cells := hM.1
 obtain ⟨r1, r2⟩ := Kd.R_seg h.V.rT i h0 (by omega) (seg := seg) (j := j) (okp := fun _ => False) hcl hcc (by show j + seg.length ≤ 13; omega) (x' := t') ⟨hset.symm, by
  rw [← hset]
  intro x hx
  rw [hset] at hx
  rcases List.mem_append.1 hx with hx | hx
  ·rcases List.mem_append.1 hx with hx | hx
   ·exact hM.2 x (List.mem_of_mem_take hx)
   ·exact hu x hx
  ·exact hM.2 x (List.mem_of_mem_drop hx)⟩ (fun k hk => hk.elim)
 have hty := Kd.xb h.V.rT gT (by simp [Value.ownBlock])
 obtain ⟨cT, hcT⟩ := hty
 have hgB : w0.heap.size ≤ gT := Kd.yV h.V.rT gT (by simp [Value.ownBlock])
 have r1' : Kd.R kTG 43 (w.setCells gT (i.toNat * 13 + j) seg) w0.heap.size (fun _ => True) (.slice (some ⟨gT, 0, none⟩) n cap) (T.set i.toNat t') := r1
 have hbl : ∀ (k q : Nat) (cells : Array Value), q ≠ 43 → w.heap[k]? = some (.cells cells q (0, 0)) → (w.setCells gT (i.toNat * 13 + j) seg).heap[k]? = w.heap[k]? := fun k q cells hq hc' => setCells_far seg _ k (fun e => by
  subst e
  rw [hcT] at hc'
  injection hc' with hc'
  injection hc' with _ hc'
  exact hq hc'.symm)
 have hrow : ∀ t, TRow w w0.heap.size t → TRow (w.setCells gT (i.toNat * 13 + j) seg) w0.heap.size t := fun t ht => ht.keep (fun k q cells _ _ hq hc' => hbl k q cells (by rcases hq with rfl | rfl <;> decide) hc')
 have hE : ∀ q, q ∈ 50 :: k50.E → q ≠ 43 := by decide
 have hlt := h.V.lt
 have hnf : ∀ b ∈ t'.blocks, b ∈ (tg T i).blocks ∨ b ∉ T.flatMap TG.blocks := fun b hb => (hf b hb).imp id (fun hb' hm => by have := hlt b hm; omega)
 refine ⟨h.hb.grown r2 h.hb.size (fun k e => by injection e with e; omega), h.gB, (hbl g _ _ (by decide) h.blk).trans h.blk, zR h.V.rC (fun k q cells _ _ hq hc' => hbl k q cells (by rw [List.mem_singleton.1 hq]; decide) hc'), r1', fun t ht => ?_, nodup_flat_set h.V.ap (tg_get h0 h1) hd hnf, fun b hb => ?_, Kd.zT (zR h.V.rL (fun k q cells _ _ hq hc' => hbl k q cells (hE q hq) hc')) (fun k hk => ⟨fun hm => ?_, by have := hk.2; omega⟩)⟩
 ·rcases List.mem_or_eq_of_mem_set ht with ht | rfl
  ·exact hrow t (h.V.rows t ht)
  ·exact hrow _ hr
 ·rcases mem_flat_set hb with hb | hb
  ·have := hlt b hb; omega
  ·rcases hf b hb with hb | hb
   ·have := hlt b (List.mem_flatMap.2 ⟨_, yF h0 h1, hb⟩); omega
   ·exact hb.2
 ·rcases mem_flat_set hm with hb | hb
  ·exact hk.1 hb
  ·rcases hf k hb with hb | hb
   ·exact hk.1 (List.mem_flatMap.2 ⟨_, yF h0 h1, hb⟩)
   ·have := hk.2; omega
theorem Rep.store {gT cap n : Nat} (h : Rep w0 w g N vp0 vp1 vC (.slice (some ⟨gT, 0, none⟩) n cap) vL C T clk L) (i : Int) (h0 : 0 ≤ i) (h1 : i < T.length) {t' : TG} (j : Nat) (u : Value) (hj : j < 13)
  (hc : t'.cells = (tg T i).cells.set j u) (hu : u.oneCell' = true) (hr : TRow w w0.heap.size t') {N' : Nat} (hN : N ≤ N') (hd : t'.blocks.Nodup) (hf : ∀ b ∈ t'.blocks, b ∈ (tg T i).blocks ∨ (N ≤ b ∧ b < N')) :
  Rep w0 (w.setCell ⟨gT, i.toNat * 13 + j, none⟩ u) g N' vp0 vp1 vC (.slice (some ⟨gT, 0, none⟩) n cap) vL C (T.set i.toNat t') clk L :=
 h.storeS i h0 h1 j [u] (by simp; omega) (by
  have hcl : (tg T i).cells.length = 13 := rfl
  rw [hc, List.set_eq_take_append_cons_drop, if_pos (by rw [hcl]; exact hj)]
  simp) (fun x hx => by rw [List.mem_singleton.1 hx]; exact hu) hr hN hd hf
theorem nd_of {T : List TG} (h : (T.flatMap TG.blocks).Nodup) {t : TG} (ht : t ∈ T) : t.blocks.Nodup := by
 induction T with
 | nil => cases ht
 | cons a T ih =>
  rw [List.flatMap_cons, List.nodup_append] at h
  rcases List.mem_cons.1 ht with rfl | ht
  ·exact h.1
  ·exact ih h.2.1 ht
theorem Rep.nd (h : Rep w0 w g N vp0 vp1 vC vT vL C T clk L) {t : TG} (ht : t ∈ T) : t.blocks.Nodup := nd_of h.V.ap ht
theorem Rep.num {gT cap n : Nat} (h : Rep w0 w g N vp0 vp1 vC (.slice (some ⟨gT, 0, none⟩) n cap) vL C T clk L) (i : Int) (h0 : 0 ≤ i) (h1 : i < T.length) (s' : S43) (j : Nat) (x : Int) (hj : j < 13)
  (hc : (⟨s', (tg T i).v3, (tg T i).v8, (tg T i).v9, (tg T i).v10⟩ : TG).cells = (tg T i).cells.set j (.int .i64 x)) (e3 : s'.f3 = (tg T i).s.f3) (e8 : s'.f8 = (tg T i).s.f8) (e9 : s'.f9 = (tg T i).s.f9) (e10 : s'.f10 = (tg T i).s.f10) :
  Rep w0 (w.setCell ⟨gT, i.toNat * 13 + j, none⟩ (.int .i64 x)) g N vp0 vp1 vC (.slice (some ⟨gT, 0, none⟩) n cap) vL C (T.set i.toNat ⟨s', (tg T i).v3, (tg T i).v8, (tg T i).v9, (tg T i).v10⟩) clk L := by
 have r := h.V.rows _ (yF h0 h1)
 refine h.store i h0 h1 j _ hj hc rfl ⟨?_, ?_, ?_, ?_⟩ (Nat.le_refl _) (show (tg T i).blocks.Nodup from h.nd (yF h0 h1)) (fun b hb => .inl hb)
 ·show Kd.R _ _ _ _ _ (tg T i).v3 s'.f3; rw [e3]; exact r.r3
 ·show Kd.R _ _ _ _ _ (tg T i).v8 s'.f8; rw [e8]; exact r.r8
 ·show Kd.R _ _ _ _ _ (tg T i).v9 s'.f9; rw [e9]; exact r.r9
 ·show Kd.R _ _ _ _ _ (tg T i).v10 s'.f10; rw [e10]; exact r.r10
end
def TG.w (t : TG) (s : S43) : TG := ⟨s, t.v3, t.v8, t.v9, t.v10⟩
structure St where
 C : List S33
 T : List S43
 clk : Int
 L : List S50
def St.t (σ : St) (k : Int) : S43 := σ.T.getD k.toNat z43
def St.set (σ : St) (k : Int) (t : S43) : St := { σ with T := σ.T.set k.toNat t }
def zS (w0 w : World) (g : Nat) (vp0 vp1 : Value) (σ : St) : Prop := ∃ N vC vT vL T, Rep w0 w g N vp0 vp1 vC vT vL σ.C T σ.clk σ.L ∧ T.map TG.s = σ.T
theorem tg_s {T : List TG} {σ : St} (h : T.map TG.s = σ.T) (k : Int) : (tg T k).s = σ.t k := by
 unfold tg St.t
 rw [← h, List.getD_eq_getElem?_getD, List.getD_eq_getElem?_getD, List.getElem?_map]
 cases T[k.toNat]? <;> rfl
theorem St.t_set {σ : St} {k : Int} {t : S43} (h0 : 0 ≤ k) (h1 : k < σ.T.length) : (σ.set k t).t k = t := by
 unfold St.t St.set
 rw [List.getD_eq_getElem?_getD, List.getElem?_set_self (by omega)]; rfl
theorem St.set_set {σ : St} {k : Int} {t t' : S43} : (σ.set k t).set k t' = σ.set k t' := by simp [St.set]
theorem len_of {T : List TG} {σ : St} (h : T.map TG.s = σ.T) : (T.length : Int) = σ.T.length := by rw [← h, List.length_map]
theorem map_set {T : List TG} {σ : St} (h : T.map TG.s = σ.T) (k : Int) (t : TG) : (T.set k.toNat t).map TG.s = (σ.set k t.s).T := by rw [List.map_set, h]; rfl
def St.upd (σ : St) (k : Int) (f : S43 → S43) : St := σ.set k (f (σ.t k))
theorem St.len_upd {σ : St} {k : Int} {f : S43 → S43} : (σ.upd k f).T.length = σ.T.length := List.length_set ..
theorem map_upd {T : List TG} {σ : St} (h : T.map TG.s = σ.T) (k : Int) {F : TG → TG} {f : S43 → S43} (hf : ∀ t, (F t).s = f t.s) : (T.set k.toNat (F (tg T k))).map TG.s = (σ.upd k f).T := by
 rw [map_set h, hf, tg_s h]; rfl
theorem len_updT {T : List TG} {k : Int} {t : TG} (h : k < T.length) : k < ((T.set k.toNat t).length : Int) := by rw [List.length_set]; exact h
theorem Rep.numf {w0 w : World} {g N : Nat} {vp0 vp1 vC vL : Value} {C : List S33} {T : List TG} {clk : Int} {L : List S50} {gT cap n : Nat} (h : Rep w0 w g N vp0 vp1 vC (.slice (some ⟨gT, 0, none⟩) n cap) vL C T clk L) (i : Int) (h0 : 0 ≤ i) (h1 : i < T.length) (f : S43 → S43) (j : Nat) (x : Int) (hj : j < 13)
  (hc : ∀ t : TG, (t.w (f t.s)).cells = t.cells.set j (.int .i64 x)) (e3 : ∀ s, (f s).f3 = s.f3) (e8 : ∀ s, (f s).f8 = s.f8) (e9 : ∀ s, (f s).f9 = s.f9) (e10 : ∀ s, (f s).f10 = s.f10) :
  Rep w0 (w.setCell ⟨gT, i.toNat * 13 + j, none⟩ (.int .i64 x)) g N vp0 vp1 vC (.slice (some ⟨gT, 0, none⟩) n cap) vL C (T.set i.toNat ((tg T i).w (f (tg T i).s))) clk L :=
 h.num i h0 h1 _ j x hj (hc _) (e3 _) (e8 _) (e9 _) (e10 _)
theorem zS.below {w0 w w1 : World} {g : Nat} {vp0 vp1 : Value} {σ : St} (h : zS w0 w g vp0 vp1 σ) (hb : Below w.heap.size w w1) : zS w0 w1 g vp0 vp1 σ := by
 obtain ⟨N, vC, vT, vL, T, h, e⟩ := h
 exact ⟨N, vC, vT, vL, T, h.below hb, e⟩
theorem zS.hb {w0 w : World} {g : Nat} {vp0 vp1 : Value} {σ : St} (h : zS w0 w g vp0 vp1 σ) : Below w0.heap.size w0 w := by
 obtain ⟨N, vC, vT, vL, T, h, e⟩ := h
 exact h.hb
end Go.Proofs.Ytppapibjbjmmbaa.QSY
set_option linter.unusedVariables false
set_option linter.unusedSimpArgs false
namespace Go.Proofs.Ytppapibjbjmmbaa.QSY
open Go.RowKit Go.Proofs.YtppapibjbjmmbaaW.PrintWords Go.Proofs.YtppapibjbjmmbaaW.PrintLast Go.Proofs.YtppapibjbjmmbaaW.PrintMore
def cg (C : List S33) (i : Int) : S33 := C.getD i.toNat z33
section
variable {w0 w w1 : World} {g N : Nat} {vp0 vp1 vC vT vL : Value} {C : List S33} {T : List TG} {clk : Int} {L : List S50}
theorem Rep.cform (h : Rep w0 w g N vp0 vp1 vC vT vL C T clk L) (hn : 0 < C.length) : ∃ gC cap, vC = .slice (some ⟨gC, 0, none⟩) C.length cap ∧ w0.heap.size ≤ gC ∧ gC < w.heap.size ∧ ∃ cells, w.heap[gC]? = some (.cells cells 33 (0, 0)) := Kd.xT h.V.rC hn
theorem Rep.celem {gC cap n : Nat} (h : Rep w0 w g N vp0 vp1 (.slice (some ⟨gC, 0, none⟩) n cap) vT vL C T clk L) (i : Int) (h0 : 0 ≤ i) (h1 : i < C.length) :
  w.cell? ⟨gC, i.toNat * 3, none⟩ = some (.int .i64 (cg C i).f0) ∧ w.cell? ⟨gC, i.toNat * 3 + 1, none⟩ = some (.int .i64 (cg C i).f1) ∧ w.cell? ⟨gC, i.toNat * 3 + 2, none⟩ = some (.int .i64 (cg C i).f2) ∧ (∀ j, w.frozen? ⟨gC, i.toNat * 3 + j, none⟩ = false) := by
 have hn : n = C.length := (Kd.zH h.V.rC).1
 obtain ⟨c, hcl, hM, hcc, hfr⟩ := Kd.R_elem h.V.rC z33 i h0 (by omega)
 have hM := k33_openM hM
 subst hM
 exact ⟨hcc 0 _ rfl, hcc 1 _ rfl, hcc 2 _ rfl, hfr⟩
theorem Rep.row {b : Nat} {q0 : Nat} {cells0 : Array Value} (h : Rep w0 w g N vp0 vp1 vC vT vL C T clk L) (hc0 : w.heap[b]? = some (.cells cells0 q0 (0, 0))) (hg : w.grownBy w1 (some b)) :
  ∀ (k q : Nat) (cells : Array Value), q ≠ q0 → w.heap[k]? = some (.cells cells q (0, 0)) → w1.heap[k]? = w.heap[k]? := fun k q cells hq hc => hg.block k (zo hc) (fun e => by
  injection e with e
  subst e
  rw [hc0] at hc
  injection hc with hc
  injection hc with _ hc
  exact hq hc.symm)
theorem Rep.cset {gC cap n : Nat} (h : Rep w0 w g N vp0 vp1 (.slice (some ⟨gC, 0, none⟩) n cap) vT vL C T clk L) (i : Int) (h0 : 0 ≤ i) (h1 : i < C.length) (c' : S33) (seg : List Value) (j : Nat) (hj : j + seg.length ≤ 3)
  (hc : [Value.int .i64 (cg C i).f0, .int .i64 (cg C i).f1, .int .i64 (cg C i).f2].take j ++ seg ++ [Value.int .i64 (cg C i).f0, .int .i64 (cg C i).f1, .int .i64 (cg C i).f2].drop (j + seg.length) = [.int .i64 c'.f0, .int .i64 c'.f1, .int .i64 c'.f2]) :
  Rep w0 (w.setCells gC (i.toNat * 3 + j) seg) g N vp0 vp1 (.slice (some ⟨gC, 0, none⟩) n cap) vT vL (C.set i.toNat c') T clk L := by
 have hn : n = C.length := (Kd.zH h.V.rC).1
 obtain ⟨c, hcl, hM, hcc, hfr⟩ := Kd.R_elem h.V.rC z33 i h0 (by omega)
 have hM' := k33_openM hM
 subst hM'
 obtain ⟨r1, r2⟩ := Kd.R_seg h.V.rC i h0 (by omega) (seg := seg) (j := j) (okp := fun _ => False) hcl hcc hj (x' := c') (by
  rw [show (C.getD i.toNat z33) = cg C i from rfl, hc]
  exact k33_mkM _ _ _ c') (fun k hk => hk.elim)
 obtain ⟨cT, hcT⟩ := Kd.xb h.V.rC gC (by simp [Value.ownBlock])
 have hgB : w0.heap.size ≤ gC := Kd.yV h.V.rC gC (by simp [Value.ownBlock])
 have hbl := h.row hcT r2
 have hE : ∀ q, q ∈ 50 :: k50.E → q ≠ 33 := by decide
 refine ⟨h.hb.grown r2 h.hb.size (fun k e => by injection e with e; omega), h.gB, (hbl g _ _ (by decide) h.blk).trans h.blk, r1, zR h.V.rT (fun k q cells _ _ hq hc' => hbl k q cells (by rw [List.mem_singleton.1 hq]; decide) hc'), fun t ht => (h.V.rows t ht).keep (fun k q cells _ _ hq hc' => hbl k q cells (by rcases hq with rfl | rfl <;> decide) hc'), h.V.ap, h.V.lt, zR h.V.rL (fun k q cells _ _ hq hc' => hbl k q cells (hE q hq) hc')⟩
theorem Rep.lockset {gC cap n : Nat} (h : Rep w0 w g N vp0 vp1 (.slice (some ⟨gC, 0, none⟩) n cap) vT vL C T clk L) (i : Int) (h0 : 0 ≤ i) (h1 : i < C.length) (x : Int) :
  Rep w0 (w.setCell ⟨gC, i.toNat * 3 + 2, none⟩ (.int .i64 x)) g N vp0 vp1 (.slice (some ⟨gC, 0, none⟩) n cap) vT vL (C.set i.toNat { cg C i with f2 := x }) T clk L :=
 h.cset i h0 h1 { cg C i with f2 := x } [.int .i64 x] 2 (Nat.le_refl _) rfl
theorem Rep.clkset (h : Rep w0 w g N vp0 vp1 vC vT vL C T clk L) (x : Int) : Rep w0 (w.setCell ⟨g, 4, none⟩ (.int .i64 x)) g N vp0 vp1 vC vT vL C T x L :=
 ⟨h.hb.setCell (p := ⟨g, 4, none⟩) h.gB _, h.gB, zu h.blk 4 _, h.V.far h.blk (by decide) 4 _⟩
theorem Rep.fresh {gT cap n : Nat} (h : Rep w0 w g N vp0 vp1 vC (.slice (some ⟨gT, 0, none⟩) n cap) vL C T clk L) (i : Int) (h0 : 0 ≤ i) (h1 : i < T.length) {t' : TG} (j : Nat) (u : Value) (hj : j < 13)
  (hc : t'.cells = (tg T i).cells.set j u) (hu : u.oneCell' = true) (hr : TRow w w0.heap.size t') (hN : N ≤ w.heap.size) (hN2 : ∀ b, u.ownBlock = some b → N ≤ b ∧ b < w.heap.size) (hp : t'.blocks.Nodup) (hm : ∀ b ∈ t'.blocks, b ∈ (tg T i).blocks ∨ some b = u.ownBlock) :
  Rep w0 (w.setCell ⟨gT, i.toNat * 13 + j, none⟩ u) g w.heap.size vp0 vp1 vC (.slice (some ⟨gT, 0, none⟩) n cap) vL C (T.set i.toNat t') clk L :=
 h.store i h0 h1 j u hj hc hu hr hN hp (fun b hb => (hm b hb).imp id (fun e => hN2 b e.symm))
end
theorem zS.cform {w0 w : World} {g : Nat} {vp0 vp1 : Value} {σ : St} (h : zS w0 w g vp0 vp1 σ) : ∃ A c, w.cell? ⟨g, 2, none⟩ = some (.slice A σ.C.length c) := by
 obtain ⟨N, vC, vT, vL, T, h, e⟩ := h
 obtain ⟨A, c, rfl, _⟩ := Kd.yP h.V.rC
 exact ⟨A, c, h.c2⟩
end Go.Proofs.Ytppapibjbjmmbaa.QSY
set_option linter.unusedVariables false
set_option linter.unusedSimpArgs false
namespace Go.Proofs.Ytppapibjbjmmbaa.QSY
open Go.RowKit Go.Proofs.YtppapibjbjmmbaaW.PrintWords Go.Proofs.YtppapibjbjmmbaaW.PrintLast Go.Proofs.YtppapibjbjmmbaaW.PrintMore
def TG.w3 (u : Value) (l : List Int) (t : TG) : TG := ⟨{ t.s with f3 := l }, u, t.v8, t.v9, t.v10⟩
def TG.w8 (u : Value) (l : List Int) (t : TG) : TG := ⟨{ t.s with f8 := l }, t.v3, u, t.v9, t.v10⟩
def TG.w9 (u : Value) (l : List S45) (t : TG) : TG := ⟨{ t.s with f9 := l }, t.v3, t.v8, u, t.v10⟩
def TG.w10 (u : Value) (l : List S45) (t : TG) : TG := ⟨{ t.s with f10 := l }, t.v3, t.v8, t.v9, u⟩
theorem nodup_swap {a x c y : List Nat} (h : (a ++ (x ++ c)).Nodup) (hy : y.Nodup) (hf : ∀ b ∈ y, b ∉ a ++ (x ++ c)) : (a ++ (y ++ c)).Nodup := by
 rw [List.nodup_append] at h
 obtain ⟨h1, h2, h3⟩ := h
 rw [List.nodup_append] at h2
 obtain ⟨h4, h5, h6⟩ := h2
 rw [List.nodup_append]
 refine ⟨h1, ?_, fun b hb d hd e => ?_⟩
 ·rw [List.nodup_append]
  refine ⟨hy, h5, fun b hb d hd e => ?_⟩
  subst e
  exact hf b hb (List.mem_append_right _ (List.mem_append_right _ hd))
 ·subst e
  rcases List.mem_append.1 hd with hd | hd
  ·exact hf b hd (List.mem_append_left _ hb)
  ·exact h3 b hb b (List.mem_append_right _ hd) rfl
theorem nodup_opt (o : Option Nat) : o.toList.Nodup := by cases o <;> simp
theorem mem_opt {o : Option Nat} {b : Nat} (h : b ∈ o.toList) : o = some b := by cases o <;> simp_all
section
variable {w0 w w1 : World} {g N : Nat} {vp0 vp1 vC vL : Value} {C : List S33} {T : List TG} {clk : Int} {L : List S50} {gT cap n : Nat}
theorem Rep.notin (h : Rep w0 w g N vp0 vp1 vC (.slice (some ⟨gT, 0, none⟩) n cap) vL C T clk L) {i : Int} (h0 : 0 ≤ i) (h1 : i < T.length) {b : Nat} (hb : N ≤ b) : b ∉ (tg T i).blocks := fun hm => by
 have := h.V.lt b (List.mem_flatMap.2 ⟨_, yF h0 h1, hm⟩); omega
theorem Rep.put3 (h : Rep w0 w g N vp0 vp1 vC (.slice (some ⟨gT, 0, none⟩) n cap) vL C T clk L) (i : Int) (h0 : 0 ≤ i) (h1 : i < T.length) (u : Value) (l : List Int) (hN : N ≤ w.heap.size)
  (hu : Kd.R (Kd.int .i64) 3 w N (fun _ => True) u l) (hB : w0.heap.size ≤ N) :
  Rep w0 (w.setCell ⟨gT, i.toNat * 13 + 3, none⟩ u) g w.heap.size vp0 vp1 vC (.slice (some ⟨gT, 0, none⟩) n cap) vL C (T.set i.toNat (TG.w3 u l (tg T i))) clk L := by
 have r := h.V.rows _ (yF h0 h1)
 have hu1 : u.oneCell' = true := (Kd.R_val hu).2
 have hub : ∀ b, u.ownBlock = some b → N ≤ b ∧ b < w.heap.size := fun b hb => ⟨Kd.yV hu b hb, Kd.R_lt hu b hb⟩
 have hnd : (tg T i).blocks.Nodup := h.nd (yF h0 h1)
 refine h.fresh i h0 h1 3 u (by decide) rfl hu1 ⟨Kd.zP hu hB, r.r8, r.r9, r.r10⟩ hN hub ?_ ?_
 ·have := nodup_swap (a := []) (x := (tg T i).v3.ownBlock.toList) (c := (tg T i).v8.ownBlock.toList ++ ((tg T i).v9.ownBlock.toList ++ (tg T i).v10.ownBlock.toList)) (y := u.ownBlock.toList) (by simpa [TG.blocks] using hnd) (nodup_opt _) (fun b hb hm => h.notin h0 h1 (hub b (mem_opt hb)).1 (by simpa [TG.blocks] using hm))
  simpa [TG.blocks, TG.w3, TG.w8, TG.w9, TG.w10] using this
 ·intro b hb
  simp only [TG.blocks, TG.w3, TG.w8, TG.w9, TG.w10, List.mem_append, Option.mem_toList] at hb ⊢
  rcases hb with ((hb | hb) | hb) | hb
  ·exact .inr hb.symm
  ·exact .inl (.inl (.inl (.inr hb)))
  ·exact .inl (.inl (.inr hb))
  ·exact .inl (.inr hb)
theorem Rep.put9 (h : Rep w0 w g N vp0 vp1 vC (.slice (some ⟨gT, 0, none⟩) n cap) vL C T clk L) (i : Int) (h0 : 0 ≤ i) (h1 : i < T.length) (u : Value) (l : List S45) (hN : N ≤ w.heap.size)
  (hu : Kd.R k45 45 w N (fun _ => True) u l) (hB : w0.heap.size ≤ N) :
  Rep w0 (w.setCell ⟨gT, i.toNat * 13 + 9, none⟩ u) g w.heap.size vp0 vp1 vC (.slice (some ⟨gT, 0, none⟩) n cap) vL C (T.set i.toNat (TG.w9 u l (tg T i))) clk L := by
 have r := h.V.rows _ (yF h0 h1)
 have hu1 : u.oneCell' = true := (Kd.R_val hu).2
 have hub : ∀ b, u.ownBlock = some b → N ≤ b ∧ b < w.heap.size := fun b hb => ⟨Kd.yV hu b hb, Kd.R_lt hu b hb⟩
 have hnd : (tg T i).blocks.Nodup := h.nd (yF h0 h1)
 refine h.fresh i h0 h1 9 u (by decide) rfl hu1 ⟨r.r3, r.r8, Kd.zP hu hB, r.r10⟩ hN hub ?_ ?_
 ·have := nodup_swap (a := (tg T i).v3.ownBlock.toList ++ (tg T i).v8.ownBlock.toList) (x := (tg T i).v9.ownBlock.toList) (c := (tg T i).v10.ownBlock.toList) (y := u.ownBlock.toList) (by simpa [TG.blocks] using hnd) (nodup_opt _) (fun b hb hm => h.notin h0 h1 (hub b (mem_opt hb)).1 (by simpa [TG.blocks] using hm))
  simpa [TG.blocks, TG.w3, TG.w8, TG.w9, TG.w10] using this
 ·intro b hb
  simp only [TG.blocks, TG.w3, TG.w8, TG.w9, TG.w10, List.mem_append, Option.mem_toList] at hb ⊢
  rcases hb with ((hb | hb) | hb) | hb
  ·exact .inl (.inl (.inl (.inl hb)))
  ·exact .inl (.inl (.inl (.inr hb)))
  ·exact .inr hb.symm
  ·exact .inl (.inr hb)
theorem Rep.put10 (h : Rep w0 w g N vp0 vp1 vC (.slice (some ⟨gT, 0, none⟩) n cap) vL C T clk L) (i : Int) (h0 : 0 ≤ i) (h1 : i < T.length) (u : Value) (l : List S45) (hN : N ≤ w.heap.size)
  (hu : Kd.R k45 45 w N (fun _ => True) u l) (hB : w0.heap.size ≤ N) :
  Rep w0 (w.setCell ⟨gT, i.toNat * 13 + 10, none⟩ u) g w.heap.size vp0 vp1 vC (.slice (some ⟨gT, 0, none⟩) n cap) vL C (T.set i.toNat (TG.w10 u l (tg T i))) clk L := by
 have r := h.V.rows _ (yF h0 h1)
 have hu1 : u.oneCell' = true := (Kd.R_val hu).2
 have hub : ∀ b, u.ownBlock = some b → N ≤ b ∧ b < w.heap.size := fun b hb => ⟨Kd.yV hu b hb, Kd.R_lt hu b hb⟩
 have hnd : (tg T i).blocks.Nodup := h.nd (yF h0 h1)
 refine h.fresh i h0 h1 10 u (by decide) rfl hu1 ⟨r.r3, r.r8, r.r9, Kd.zP hu hB⟩ hN hub ?_ ?_
 ·have := nodup_swap (a := (tg T i).v3.ownBlock.toList ++ ((tg T i).v8.ownBlock.toList ++ (tg T i).v9.ownBlock.toList)) (x := (tg T i).v10.ownBlock.toList) (c := []) (y := u.ownBlock.toList) (by simpa [TG.blocks] using hnd) (nodup_opt _) (fun b hb hm => h.notin h0 h1 (hub b (mem_opt hb)).1 (by simpa [TG.blocks] using hm))
  simpa [TG.blocks, TG.w3, TG.w8, TG.w9, TG.w10] using this
 ·intro b hb
  simp only [TG.blocks, TG.w3, TG.w8, TG.w9, TG.w10, List.mem_append, Option.mem_toList] at hb ⊢
  rcases hb with ((hb | hb) | hb) | hb
  ·exact .inl (.inl (.inl (.inl hb)))
  ·exact .inl (.inl (.inl (.inr hb)))
  ·exact .inl (.inl (.inr hb))
  ·exact .inr hb.symm
theorem xI {α : Type} {d : Kd α} {e : Nat} {w : World} {b base : Nat} {ok : Nat → Prop} (h : w.heap[b]? = some (.cells #[] e (0, 0))) (hb : base ≤ b) (hok : ok b) : Kd.R d e w base ok (.slice (some ⟨b, 0, none⟩) 0 0) ([] : List α) := by
 refine ⟨fun k hk => ?_, [], ⟨by simp, .inr ⟨b, 0, #[], rfl, hb, h, Nat.le_refl _, Nat.zero_le _, by simp, by simp⟩⟩, yh.none _ _⟩
 have : b = k := by simpa [Value.ownBlock] using hk
 subst this
 exact hok
end
theorem zS.open1 {w0 w : World} {g : Nat} {vp0 vp1 : Value} {σ : St} (h : zS w0 w g vp0 vp1 σ) (k : Int) (h0 : 0 ≤ k) (h1 : k < σ.T.length) :
  ∃ gT cap T vC vL, zb (Rep w0 w g w.heap.size vp0 vp1 vC (.slice (some ⟨gT, 0, none⟩) σ.T.length cap) vL σ.C T σ.clk σ.L) ∧ zb (T.map TG.s = σ.T) ∧ zb ((tg T k).s = σ.t k) ∧ zb (k < T.length) ∧ w.cell? ⟨g, 3, none⟩ = some (.slice (some ⟨gT, 0, none⟩) σ.T.length cap) ∧
   zb (∀ j u, (tg T k).cells[j]? = some u → w.cell? ⟨gT, k.toNat * 13 + j, none⟩ = some u) ∧ zb (∀ j, w.frozen? ⟨gT, k.toNat * 13 + j, none⟩ = false) ∧ zb (gT < w.heap.size ∧ g ≠ gT ∧ w0.heap.size ≤ gT ∧ g < w.heap.size) := by
 obtain ⟨N, vC, vT, vL, T, h, he⟩ := h
 have h1' : k < T.length := by rw [len_of he]; exact h1
 have hl : T.length = σ.T.length := by rw [← he, List.length_map]
 obtain ⟨gT, cap, rfl, b0, b1, cells, hcT⟩ := h.form (by omega)
 have h := h.now
 obtain ⟨hc, hf, ho⟩ := h.elem k h0 h1'
 have hne := h.ne 0
 rw [hl] at h
 exact ⟨gT, cap, T, vC, vL, ⟨h⟩, ⟨he⟩, ⟨tg_s he k⟩, ⟨h1'⟩, h.c3, ⟨hc⟩, ⟨hf⟩, ⟨b1, hne, b0, zo h.blk⟩⟩
theorem zS.open13 {w0 w : World} {g : Nat} {vp0 vp1 : Value} {σ : St} (h : zS w0 w g vp0 vp1 σ) (k : Int) (h0 : 0 ≤ k) (h1 : k < σ.T.length) :
  ∃ gT cap T vC vL A3 c3 A8 c8 A9 c9 A10 c10, zb (Rep w0 w g w.heap.size vp0 vp1 vC (.slice (some ⟨gT, 0, none⟩) σ.T.length cap) vL σ.C T σ.clk σ.L) ∧ zb (T.map TG.s = σ.T) ∧ zb (tg T k = ⟨σ.t k, .slice A3 (σ.t k).f3.length c3, .slice A8 (σ.t k).f8.length c8, .slice A9 (σ.t k).f9.length c9, .slice A10 (σ.t k).f10.length c10⟩) ∧ zb (k < T.length) ∧ w.cell? ⟨g, 3, none⟩ = some (.slice (some ⟨gT, 0, none⟩) σ.T.length cap) ∧
   (w.cell? ⟨gT, k.toNat * 13, none⟩ = some (.int .i64 (σ.t k).f0) ∧ w.cell? ⟨gT, k.toNat * 13 + 1, none⟩ = some (.int .i64 (σ.t k).f1) ∧ w.cell? ⟨gT, k.toNat * 13 + 2, none⟩ = some (.int .i64 (σ.t k).f2) ∧ w.cell? ⟨gT, k.toNat * 13 + 3, none⟩ = some (.slice A3 (σ.t k).f3.length c3) ∧ w.cell? ⟨gT, k.toNat * 13 + 4, none⟩ = some (.int .i64 (σ.t k).f4) ∧ w.cell? ⟨gT, k.toNat * 13 + 5, none⟩ = some (.int .i64 (σ.t k).f5) ∧ w.cell? ⟨gT, k.toNat * 13 + 6, none⟩ = some (.int .i64 (σ.t k).f6) ∧ w.cell? ⟨gT, k.toNat * 13 + 7, none⟩ = some (.int .i64 (σ.t k).f7) ∧ w.cell? ⟨gT, k.toNat * 13 + 8, none⟩ = some (.slice A8 (σ.t k).f8.length c8) ∧ w.cell? ⟨gT, k.toNat * 13 + 9, none⟩ = some (.slice A9 (σ.t k).f9.length c9) ∧ w.cell? ⟨gT, k.toNat * 13 + 10, none⟩ = some (.slice A10 (σ.t k).f10.length c10) ∧ w.cell? ⟨gT, k.toNat * 13 + 11, none⟩ = some (.int .i64 (σ.t k).f11) ∧ w.cell? ⟨gT, k.toNat * 13 + 12, none⟩ = some (.int .i64 (σ.t k).f12)) ∧ zb (∀ j, w.frozen? ⟨gT, k.toNat * 13 + j, none⟩ = false) ∧ zb (gT < w.heap.size ∧ g ≠ gT ∧ w0.heap.size ≤ gT ∧ g < w.heap.size) ∧
   zb (Kd.C (Kd.int .i64) w A3 (σ.t k).f3.length (σ.t k).f3 ∧ (σ.t k).f3.length ≤ c3) ∧ zb (Kd.C (Kd.int .i64) w A8 (σ.t k).f8.length (σ.t k).f8 ∧ (σ.t k).f8.length ≤ c8) ∧ zb (Kd.C k45 w A9 (σ.t k).f9.length (σ.t k).f9 ∧ (σ.t k).f9.length ≤ c9) ∧ zb (Kd.C k45 w A10 (σ.t k).f10.length (σ.t k).f10 ∧ (σ.t k).f10.length ≤ c10) := by
 obtain ⟨gT, cap, T, vC, vL, HR, HE, HT, H1', a3, hc, hf, HB⟩ := h.open1 k h0 h1
 have r := HR.out.V.rows _ (yF h0 H1'.out)
 have ht := HT.out
 have hc := hc.out
 rcases hq : tg T k with ⟨s, v3, v8, v9, v10⟩
 rw [hq] at r ht hc
 have ht : s = σ.t k := ht
 subst ht
 obtain ⟨A3, c3, h3, l3, C3⟩ := Kd.yP (show Kd.R (Kd.int .i64) 3 w w0.heap.size (fun _ => True) v3 (σ.t k).f3 from r.r3)
 obtain ⟨A8, c8, h8, l8, C8⟩ := Kd.yP (show Kd.R (Kd.int .i64) 3 w w0.heap.size (fun _ => True) v8 (σ.t k).f8 from r.r8)
 obtain ⟨A9, c9, h9, l9, C9⟩ := Kd.yP (show Kd.R k45 45 w w0.heap.size (fun _ => True) v9 (σ.t k).f9 from r.r9)
 obtain ⟨A10, c10, h10, l10, C10⟩ := Kd.yP (show Kd.R k45 45 w w0.heap.size (fun _ => True) v10 (σ.t k).f10 from r.r10)
 subst h3 h8 h9 h10
 exact ⟨gT, cap, T, vC, vL, A3, c3, A8, c8, A9, c9, A10, c10, HR, HE, ⟨hq⟩, H1', a3, ⟨hc 0 _ rfl, hc 1 _ rfl, hc 2 _ rfl, hc 3 _ rfl, hc 4 _ rfl, hc 5 _ rfl, hc 6 _ rfl, hc 7 _ rfl, hc 8 _ rfl, hc 9 _ rfl, hc 10 _ rfl, hc 11 _ rfl, hc 12 _ rfl⟩, hf, HB, ⟨C3, l3⟩, ⟨C8, l8⟩, ⟨C9, l9⟩, ⟨C10, l10⟩⟩
def yL (w0 w : World) (g N : Nat) (vp0 vp1 : Value) (gT cap : Nat) (σ : St) : Prop := ∃ n vC vL T, Rep w0 w g N vp0 vp1 vC (.slice (some ⟨gT, 0, none⟩) n cap) vL σ.C T σ.clk σ.L ∧ T.map TG.s = σ.T
section
variable {w0 w w1 : World} {g N gT cap : Nat} {vp0 vp1 : Value} {σ : St}
theorem yL.S (h : yL w0 w g N vp0 vp1 gT cap σ) : zS w0 w g vp0 vp1 σ := by
 obtain ⟨n, vC, vL, T, h, e⟩ := h
 exact ⟨_, _, _, _, _, h, e⟩
theorem yL.below (h : yL w0 w g N vp0 vp1 gT cap σ) (hb : Below w.heap.size w w1) : yL w0 w1 g N vp0 vp1 gT cap σ := by
 obtain ⟨n, vC, vL, T, h, e⟩ := h
 exact ⟨_, _, _, _, h.below hb, e⟩
theorem yL.alloc (h : yL w0 w g N vp0 vp1 gT cap σ) (o : Obj) : yL w0 (w.alloc o) g N vp0 vp1 gT cap σ := h.below (zc (Below.refl _ _) o)
theorem yL.num (h : yL w0 w g N vp0 vp1 gT cap σ) (k : Int) (h0 : 0 ≤ k) (h1 : k < σ.T.length) (f : S43 → S43) (j : Nat) (x : Int) (hj : j < 13)
  (hc : ∀ t : TG, (t.w (f t.s)).cells = t.cells.set j (.int .i64 x)) (e3 : ∀ s, (f s).f3 = s.f3) (e8 : ∀ s, (f s).f8 = s.f8) (e9 : ∀ s, (f s).f9 = s.f9) (e10 : ∀ s, (f s).f10 = s.f10) :
  yL w0 (w.setCell ⟨gT, k.toNat * 13 + j, none⟩ (.int .i64 x)) g N vp0 vp1 gT cap (σ.upd k f) := by
 obtain ⟨n, vC, vL, T, h, e⟩ := h
 exact ⟨_, _, _, _, h.numf k h0 (by rw [len_of e]; exact h1) f j x hj hc e3 e8 e9 e10, map_upd e k (F := fun t => t.w (f t.s)) (fun _ => rfl)⟩
theorem yL.put3 (h : yL w0 w g N vp0 vp1 gT cap σ) (k : Int) (h0 : 0 ≤ k) (h1 : k < σ.T.length) (u : Value) (l : List Int) (hN : N ≤ w.heap.size) (hu : Kd.R (Kd.int .i64) 3 w N (fun _ => True) u l) (hB : w0.heap.size ≤ N) :
  yL w0 (w.setCell ⟨gT, k.toNat * 13 + 3, none⟩ u) g w.heap.size vp0 vp1 gT cap (σ.upd k fun t => { t with f3 := l }) := by
 obtain ⟨n, vC, vL, T, h, e⟩ := h
 exact ⟨_, _, _, _, h.put3 k h0 (by rw [len_of e]; exact h1) u l hN hu hB, map_upd e k (F := TG.w3 u l) (fun _ => rfl)⟩
theorem yL.put9 (h : yL w0 w g N vp0 vp1 gT cap σ) (k : Int) (h0 : 0 ≤ k) (h1 : k < σ.T.length) (u : Value) (l : List S45) (hN : N ≤ w.heap.size) (hu : Kd.R k45 45 w N (fun _ => True) u l) (hB : w0.heap.size ≤ N) :
  yL w0 (w.setCell ⟨gT, k.toNat * 13 + 9, none⟩ u) g w.heap.size vp0 vp1 gT cap (σ.upd k fun t => { t with f9 := l }) := by
 obtain ⟨n, vC, vL, T, h, e⟩ := h
 exact ⟨_, _, _, _, h.put9 k h0 (by rw [len_of e]; exact h1) u l hN hu hB, map_upd e k (F := TG.w9 u l) (fun _ => rfl)⟩
theorem yL.put10 (h : yL w0 w g N vp0 vp1 gT cap σ) (k : Int) (h0 : 0 ≤ k) (h1 : k < σ.T.length) (u : Value) (l : List S45) (hN : N ≤ w.heap.size) (hu : Kd.R k45 45 w N (fun _ => True) u l) (hB : w0.heap.size ≤ N) :
  yL w0 (w.setCell ⟨gT, k.toNat * 13 + 10, none⟩ u) g w.heap.size vp0 vp1 gT cap (σ.upd k fun t => { t with f10 := l }) := by
 obtain ⟨n, vC, vL, T, h, e⟩ := h
 exact ⟨_, _, _, _, h.put10 k h0 (by rw [len_of e]; exact h1) u l hN hu hB, map_upd e k (F := TG.w10 u l) (fun _ => rfl)⟩
theorem yL.hbs (h : yL w0 w g N vp0 vp1 gT cap σ) : w0.heap.size ≤ w.heap.size := by
 obtain ⟨n, vC, vL, T, h, e⟩ := h
 exact h.hb.size
theorem yL.two (h : yL w0 w g w.heap.size vp0 vp1 gT cap σ) (k : Int) (h0 : 0 ≤ k) (h1 : k < σ.T.length) :
  yL w0 ((((w.alloc (.cells #[] 45)).setCell ⟨gT, k.toNat * 13 + 9, none⟩ (.slice (some ⟨w.heap.size, 0, none⟩) 0 0)).alloc (.cells #[] 45)).setCell ⟨gT, k.toNat * 13 + 10, none⟩ (.slice (some ⟨w.heap.size + 1, 0, none⟩) 0 0)) g (w.heap.size + 2) vp0 vp1 gT cap ((σ.upd k fun t => { t with f9 := [] }).upd k fun t => { t with f10 := [] }) := by
 have hs := h.hbs
 have r1 := (h.alloc (.cells #[] 45)).put9 k h0 h1 (.slice (some ⟨w.heap.size, 0, none⟩) 0 0) [] (by simp) (xI (heap_alloc_new _ _) (Nat.le_refl _) trivial) hs
 have r2 := (r1.alloc (.cells #[] 45)).put10 k h0 (by rw [St.len_upd]; exact h1) (.slice (some ⟨w.heap.size + 1, 0, none⟩) 0 0) [] (by simp [World.setCell]) (by
  have e : w.heap.size + 1 = ((w.alloc (.cells #[] 45)).setCell ⟨gT, k.toNat * 13 + 9, none⟩ (.slice (some ⟨w.heap.size, 0, none⟩) 0 0)).heap.size := by simp [World.setCell]
  rw [e]
  exact xI (heap_alloc_new _ _) (by simp [World.setCell]) trivial) (by simp; omega)
 have e2 : (((w.alloc (.cells #[] 45)).setCell ⟨gT, k.toNat * 13 + 9, none⟩ (.slice (some ⟨w.heap.size, 0, none⟩) 0 0)).alloc (.cells #[] 45)).heap.size = w.heap.size + 2 := by simp [World.setCell]
 rw [e2] at r2
 exact r2
end
end Go.Proofs.Ytppapibjbjmmbaa.QSY
namespace Go.Proofs.Ytppapibjbjmmbaa.QSY
open Go.RowKit Go.Proofs.YtppapibjbjmmbaaW.PrintWords Go.Proofs.YtppapibjbjmmbaaW.PrintLast Go.Proofs.YtppapibjbjmmbaaW.PrintMore
attribute [local go_sem] max2_int min2_int max_two min_two we xZ max_four min_four   -- for this text's walks alone
set_option linter.unusedVariables false
set_option linter.unusedSimpArgs false
def spec_l11Puts.f (l0 : List (S45)) : Option ((List (S45))) := (some (([] : List (S45)) : List (S45))).bind fun y319 => (if y319.length + l0.length < 8796093022208 then (some (y319 ++ l0)) else (none))
set_option maxHeartbeats 8000000 in
set_option maxRecDepth 100000 in
theorem spec_l11Puts.calls (A0 : Option Addr) (c0 : Nat) (l0 : List (S45)) (r : List (S45)) (w : World) (hr0 : Kd.C k45 w A0 l0.length l0) (hc0 : l0.length ≤ c0) (h : spec_l11Puts.f l0 = some r) :
  Calls Try.prog 99 #[.slice A0 l0.length c0] w fun e w' => ∃ v0_ : Value, e = .returned (v0_) ∧ Kd.R k45 45 w' w.heap.size (fun _ => True) v0_ r ∧ Below w.heap.size w w' := by
 have HR0 := zb.mk hr0
 have HC0 := zb.mk hc0
 clear hr0 hc0
 have HB := zb.mk (Below.refl w.heap.size w)
 have H : ((some (([] : List (S45)) : List (S45))).bind fun y319 => (if y319.length + l0.length < 8796093022208 then (some (y319 ++ l0)) else (none))) = some r := h
 clear h
 obtain ⟨y319, hy319⟩ : ∃ y_ : List (S45), y_ = (([] : List (S45))) := ⟨_, rfl⟩
 replace H : (if y319.length + l0.length < 8796093022208 then (some (y319 ++ l0)) else (none)) = some r := by first | (rw [hy319]; with_reducible exact H) | (have H2_ := (Option.bind_some _ _).symm.trans H; rw [hy319]; with_reducible exact H2_) | (have H2_ := (Option.bind_some _ _).symm.trans H; with_reducible exact H2_) | with_reducible exact H | (rw [hy319]; exact H) | exact H
 have Ny319 := zb.mk hy319
 clear hy319
 by_cases c2 : y319.length + l0.length < 8796093022208
 ·rw [if_pos c2] at H
  have LMc2 := zb.mk c2
  clear c2
  obtain ⟨y322, hy322⟩ : ∃ y_ : List (S45), y_ = (y319 ++ l0) := ⟨_, rfl⟩
  replace H : (some y322) = some r := by first | (rw [hy322]; with_reducible exact H) | (have H2_ := (Option.bind_some _ _).symm.trans H; rw [hy322]; with_reducible exact H2_) | (have H2_ := (Option.bind_some _ _).symm.trans H; with_reducible exact H2_) | with_reducible exact H | (rw [hy322]; exact H) | exact H
  have Ny322 := zb.mk hy322
  clear hy322
  obtain rfl := Option.some.inj H
  go_enter Try.func99, Try.ntmps99
  go_wp2_with (first | ((with_reducible refine xR (N := 3) rfl ?_); refine Kd.R_lit k45 _ 45 ?hg (N := 3) ?hd (xs := ([] : List (S45))) (inner := []) (ok := fun _ => True) (okp := fun _ => True) ?hr ?hp (fun _ hk => hk) trivial (Below.refl _ _) (Nat.le_refl _) (by simp) ?_; (case hd => rfl); (case hg => rfl); (case hr => first | (go_simp; done) | (go_simp; rfl)); (case hp => exact (yh.none _ _)); intro v320 w3 ho4 hb hg_ hnew_; clear hg_ hnew_; (first | rw [← Ny319.out] at ho4 | (simp only [Int.reduceToNat] at ho4; rw [← Ny319.out] at ho4)); have n0_ := zb.mk (Kd.zP ho4 (zL (by repeat (with_reducible first | exact HB.out | apply zc | apply zj | apply zn)))); have n1_ := zb.mk (zi (by repeat (with_reducible first | exact HB.out | apply zc | apply zj | apply zn)) hb); clear HB; have HO321 := n0_; have HB := n1_; clear n0_ n1_; clear hb ho4) | ((with_reducible refine zG (b := .append) (xs := #[.tmp 3, .tmp 4]) rfl ?_); at_builtin; refine Kd.yT k45 (w0 := w) w.heap.size rfl (.tmp 3) (.tmp 4) 41 45 (.agg #[(.int .i64 0), (.int .i64 0)]) 16 rfl Try.underlying41 xM rfl (by decide) (by omega) v320 y319 l0 _ _ _ (fun _ => True) (fun _ => False) rfl rfl ?aO ?aR (fun _ _ h => h) (fun _ h => h.elim) ?aF ?aB ?aS ?aL ?_; (case aR => repeat (first | exact (Kd.zt HR0.out HB.out) | (with_reducible refine Kd.C_alloc ?_ _) | (with_reducible refine Kd.C_drewN ?_ _) | (with_reducible refine Kd.C_drew ?_))); (case aB => exact (by repeat (with_reducible first | exact HB.out | apply zc | apply zj | apply zn))); (case aF => exact (fun _ _ => trivial)); (case aO => exact (by (with_reducible repeat (first | apply Kd.zX | apply Kd.zU | apply Kd.ym)); exact HO321.out)); (case aS => exact (zL (by repeat (with_reducible first | exact HB.out | apply zc | apply zj | apply zn)))); (case aL => have := LMc2.out; omega); intro v323 w5 ho hb hg hat; rw [← Ny322.out] at ho; have n0_ := zb.mk (hb); have n1_ := zb.mk (ho); clear HB; clear HO321; have HB := n0_; have HO324 := n1_; clear n0_ n1_; clear ho hb hg hat))
  go_ret
  exact ⟨_, by first | rfl | (simp [yX, yW] <;> rfl) | (simp [*, yX, yW] <;> rfl), by (with_reducible repeat (first | apply Kd.zX | apply Kd.zU | apply Kd.ym)); exact HO324.out, by repeat (with_reducible first | exact HB.out | apply zc | apply zj | apply zn)⟩
 ·rw [if_neg c2] at H
  exact absurd H (by simp)
end Go.Proofs.Ytppapibjbjmmbaa.QSY
set_option linter.unusedVariables false
set_option linter.unusedSimpArgs false
namespace Go.Proofs.Ytppapibjbjmmbaa.QSY
open Go.RowKit Go.Proofs.YtppapibjbjmmbaaW.PrintWords Go.Proofs.YtppapibjbjmmbaaW.PrintLast Go.Proofs.YtppapibjbjmmbaaW.PrintMore
theorem xy (A : Option Addr) (c : Nat) (l : List S45) (w : World) (hr : Kd.C k45 w A l.length l) (hc : l.length ≤ c) (hl : l.length ≤ 1000) :
  Calls Try.prog 99 #[.slice A l.length c] w fun e w' => ∃ v : Value, e = .returned v ∧ Kd.R k45 45 w' w.heap.size (fun _ => True) v l ∧ Below w.heap.size w w' :=
 spec_l11Puts.calls A c l l w hr hc (by
  unfold spec_l11Puts.f
  simp only [Option.bind_some, List.nil_append, List.length_nil, Nat.zero_add]
  rw [if_pos (by omega)])
theorem zK {α : Type} {d : Kd α} {e : Nat} {w w1 : World} {B : Nat} {ok : Nat → Prop} {v : Value} {xs : List α} (h : d.R e w B ok v xs) (hg : w.grownBy w1 v.ownBlock) :
  ∀ (k q : Nat) (cells : Array Value), q ≠ e → w.heap[k]? = some (.cells cells q (0, 0)) → w1.heap[k]? = w.heap[k]? := fun k q cells hq hc => hg.block k (zo hc) (fun he => by
 obtain ⟨cells', hc'⟩ := Kd.xb h k he.symm
 rw [hc] at hc'
 injection hc' with hc'
 injection hc' with _ hc'
 exact hq hc')
section
variable {w0 w w1 : World} {g N : Nat} {vp0 vp1 vC vT vL v1 : Value} {C : List S33} {T : List TG} {clk : Int} {L L' : List S50}
theorem Rep.logok (h : Rep w0 w g N vp0 vp1 vC vT vL C T clk L) : Kd.R k50 50 w w0.heap.size (fun k => k ∉ T.flatMap TG.blocks) vL L := Kd.zT h.V.rL (fun _ hk => hk.1)
theorem Rep.logput (h : Rep w0 w g N vp0 vp1 vC vT vL C T clk L) (hN : N ≤ w.heap.size) (hr : Kd.R k50 50 w1 w0.heap.size (fun k => k ∉ T.flatMap TG.blocks) v1 L') (hg : w.grownBy w1 vL.ownBlock) (hb : Below w0.heap.size w w1) :
  Rep w0 (w1.setCell ⟨g, 5, none⟩ v1) g w1.heap.size vp0 vp1 vC vT v1 C T clk L' := by
 have hbl := zK h.V.rL hg
 have hblk : w1.heap[g]? = some (.cells #[vp0, vp1, vC, vT, .int .i64 clk, vL] 134 (0, 0)) := (hbl g _ _ (by decide) h.blk).trans h.blk
 have V1 : xv w1 w0.heap.size w1.heap.size vC vT v1 C T L' := by
  refine ⟨zR h.V.rC (fun k q cells _ _ hq hc' => hbl k q cells (by rw [List.mem_singleton.1 hq]; decide) hc'), zR h.V.rT (fun k q cells _ _ hq hc' => hbl k q cells (by rw [List.mem_singleton.1 hq]; decide) hc'), fun t ht => (h.V.rows t ht).keep (fun k q cells _ _ hq hc' => hbl k q cells (by rcases hq with rfl | rfl <;> decide) hc'), h.V.ap, fun b hb' => ?_, Kd.zT (Kd.yI hr) (fun k hk => ⟨hk.1, hk.2.2.1⟩)⟩
  have := h.V.lt b hb'
  have := hg.size
  omega
 refine ⟨?_, h.gB, zu hblk 5 v1, V1.far hblk (by decide) 5 v1⟩
 exact (h.hb.trans hb).setCell (p := ⟨g, 5, none⟩) h.gB _
theorem Rep.taskput (h : Rep w0 w g N vp0 vp1 vC vT vL C T clk L) (hN : N ≤ w.heap.size) {t' : TG} (hr : Kd.R kTG 43 w1 w0.heap.size (fun _ => True) v1 (T ++ [t'])) (hg : w.grownBy w1 vT.ownBlock) (hb : Below w0.heap.size w w1) (ht : TRow w w0.heap.size t') (hd : t'.blocks.Nodup) (hf : ∀ b ∈ t'.blocks, N ≤ b ∧ b < w.heap.size) :
  Rep w0 (w1.setCell ⟨g, 3, none⟩ v1) g w1.heap.size vp0 vp1 vC v1 vL C (T ++ [t']) clk L := by
 have hbl := zK h.V.rT hg
 have hblk : w1.heap[g]? = some (.cells #[vp0, vp1, vC, vT, .int .i64 clk, vL] 134 (0, 0)) := (hbl g _ _ (by decide) h.blk).trans h.blk
 have hrow : ∀ t, TRow w w0.heap.size t → TRow w1 w0.heap.size t := fun t ht => ht.keep (fun k q cells _ _ hq hc' => hbl k q cells (by rcases hq with rfl | rfl <;> decide) hc')
 have hE : ∀ q, q ∈ 50 :: k50.E → q ≠ 43 := by decide
 have hsz := hg.size
 have V1 : xv w1 w0.heap.size w1.heap.size vC v1 vL C (T ++ [t']) L := by
  refine ⟨zR h.V.rC (fun k q cells _ _ hq hc' => hbl k q cells (by rw [List.mem_singleton.1 hq]; decide) hc'), hr, fun t ht' => ?_, ?_, fun b hb' => ?_, Kd.zT (zR h.V.rL (fun k q cells _ _ hq hc' => hbl k q cells (hE q hq) hc')) (fun k hk => ⟨fun hm => ?_, by have := hk.2; omega⟩)⟩
  ·rcases List.mem_append.1 ht' with ht' | ht'
   ·exact hrow t (h.V.rows t ht')
   ·rw [List.mem_singleton.1 ht']; exact hrow _ ht
  ·rw [List.flatMap_append, List.nodup_append]
   refine ⟨h.V.ap, by simpa using hd, fun b hb1 c hc1 hbc => ?_⟩
   subst hbc
   have h1 := h.V.lt b hb1
   have h2 := hf b (by simpa using hc1)
   omega
  ·rw [List.flatMap_append] at hb'
   rcases List.mem_append.1 hb' with hb' | hb'
   ·have := h.V.lt b hb'; omega
   ·have := hf b (by simpa using hb'); omega
  ·rw [List.flatMap_append] at hm
   rcases List.mem_append.1 hm with hm | hm
   ·exact hk.1 hm
   ·have h1 := hf k (by simpa using hm)
    have h2 := hk.2
    omega
 refine ⟨?_, h.gB, zu hblk 3 v1, V1.far hblk (by decide) 3 v1⟩
 exact (h.hb.trans hb).setCell (p := ⟨g, 3, none⟩) h.gB _
end
end Go.Proofs.Ytppapibjbjmmbaa.QSY
set_option linter.unusedVariables false
set_option linter.unusedSimpArgs false
namespace Go.Proofs.Ytppapibjbjmmbaa.QSY
open Go.RowKit Go.Proofs.YtppapibjbjmmbaaW.PrintWords Go.Proofs.YtppapibjbjmmbaaW.PrintLast Go.Proofs.YtppapibjbjmmbaaW.PrintMore
theorem flat_apart {T : List TG} (h : (T.flatMap TG.blocks).Nodup) {i j : Nat} {a c : TG} (ha : T[i]? = some a) (hc : T[j]? = some c) (hne : i ≠ j) {b : Nat} (hb : b ∈ a.blocks) : b ∉ c.blocks := by
 induction T generalizing i j with
 | nil => simp at ha
 | cons t T ih =>
  rw [List.flatMap_cons, List.nodup_append] at h
  obtain ⟨h1, h2, h3⟩ := h
  cases i with
  | zero =>
   cases j with
   | zero => exact absurd rfl hne
   | succ j =>
    obtain rfl : t = a := by simpa using ha
    intro hb'
    exact h3 b hb b (List.mem_flatMap.2 ⟨c, List.mem_of_getElem? (by simpa using hc), hb'⟩) rfl
  | succ i =>
   cases j with
   | zero =>
    obtain rfl : t = c := by simpa using hc
    intro hb'
    exact h3 b hb' b (List.mem_flatMap.2 ⟨a, List.mem_of_getElem? (by simpa using ha), hb⟩) rfl
   | succ j => exact ih h2 (by simpa using ha) (by simpa using hc) (by omega)
theorem Rep.regs {w0 w w1 : World} {g N : Nat} {vp0 vp1 vC vT vL : Value} {C : List S33} {T : List TG} {clk : Int} {L : List S50} (h : Rep w0 w g N vp0 vp1 vC vT vL C T clk L) (k : Int) (h0 : 0 ≤ k) (h1 : k < T.length) (r : List Int)
  (hr : Kd.R (Kd.int .i64) 3 w1 w0.heap.size (fun _ => True) (tg T k).v3 r) (hk : Kept w w1 (fun j => some j = (tg T k).v3.ownBlock)) (hb : Below w0.heap.size w0 w1) :
  ∃ vT', vT' = vT ∧ Rep w0 w1 g N vp0 vp1 vC vT vL C (T.set k.toNat (TG.w3 (tg T k).v3 r (tg T k))) clk L := by
 have hR := h.V.rows _ (yF h0 h1)
 have hnd := h.nd (yF h0 h1)
 have hty := Kd.xb hR.r3
 have hbl : ∀ (j q : Nat) (cells : Array Value), q ≠ 3 → w.heap[j]? = some (.cells cells q (0, 0)) → w1.heap[j]? = w.heap[j]? := fun j q cells hq hc => hk.2 j (zo hc) (fun e => by
  obtain ⟨cells', hc'⟩ := hty j (Eq.symm e)
  rw [hc] at hc'
  injection hc' with hc'
  injection hc' with _ hc'
  exact hq hc')
 have hE : ∀ q, q ∈ 50 :: k50.E → q ≠ 3 := by decide
 have hoth : ∀ t, TRow w w0.heap.size t → (∀ b, some b = (tg T k).v3.ownBlock → b ∉ t.blocks) → TRow w1 w0.heap.size t := fun t ht hn => ht.keep (fun j q cells hj _ _ hc => hk.2 j (zo hc) (fun e => hn j e (hj.elim id (fun h => h.2.elim))))
 have hbs : (TG.w3 (tg T k).v3 r (tg T k)).blocks = (tg T k).blocks := rfl
 have hfl := flat_set (t' := TG.w3 (tg T k).v3 r (tg T k)) (tg_get h0 h1) hbs
 have hin : ∀ b, some b = (tg T k).v3.ownBlock → b ∈ (tg T k).blocks := fun b hb => by simp [TG.blocks, ← hb]
 refine ⟨vT, rfl, ⟨hb, h.gB, (hbl g _ _ (by decide) h.blk).trans h.blk, ⟨zR h.V.rC (fun j q cells _ _ hq hc' => hbl j q cells (by rw [List.mem_singleton.1 hq]; decide) hc'), ?_, fun t ht => ?_, by rw [hfl]; exact h.V.ap, by rw [hfl]; exact h.V.lt, by rw [hfl]; exact zR h.V.rL (fun j q cells _ _ hq hc' => hbl j q cells (hE q hq) hc')⟩⟩⟩
 ·have h2 := zR h.V.rT (w1 := w1) (fun j q cells _ _ hq hc' => hbl j q cells (by rw [List.mem_singleton.1 hq]; decide) hc')
  obtain ⟨q0, inner, ho, hr'⟩ := h2
  have hil : k.toNat < T.length := by omega
  refine ⟨q0, inner, by rw [List.length_set]; exact ho, by rw [List.length_set]; exact hr'.1, fun j p hj => ?_⟩
  by_cases e : j = k.toNat
  ·subst e
   rw [List.getElem?_set_self hil] at hj
   injection hj with hj
   subst hj
   have h3 := hr'.2 _ _ (tg_get h0 h1)
   exact ⟨h3.1, h3.2⟩
  ·rw [List.getElem?_set_ne (Ne.symm e)] at hj
   exact hr'.2 _ _ hj
 ·obtain ⟨j, hj⟩ := List.mem_iff_getElem?.1 ht
  have hil : k.toNat < T.length := by omega
  by_cases e : j = k.toNat
  ·subst e
   rw [List.getElem?_set_self hil] at hj
   injection hj with hj
   subst hj
   have hd := hnd
   simp only [TG.blocks] at hd
   rw [List.nodup_append] at hd
   obtain ⟨d1, d4, d5⟩ := hd
   rw [List.nodup_append] at d1
   obtain ⟨d1, d6, d7⟩ := d1
   rw [List.nodup_append] at d1
   obtain ⟨d1, d8, d9⟩ := d1
   have keepR : ∀ {α : Type} {d : Kd α} {e : Nat} {v : Value} {xs : List α}, d.E = [] → d.R e w w0.heap.size (fun _ => True) v xs → (∀ b, some b = (tg T k).v3.ownBlock → some b ≠ v.ownBlock) → d.R e w1 w0.heap.size (fun _ => True) v xs := fun hE h hn =>
    Kd.zT (zR (Kd.R_tight hE h) (fun j q cells hj _ _ hc => hk.2 j (zo hc) (fun e => hn j e hj))) (fun _ _ => trivial)
   refine ⟨hr, keepR rfl hR.r8 (fun b hb hb' => ?_), keepR rfl hR.r9 (fun b hb hb' => ?_), keepR rfl hR.r10 (fun b hb hb' => ?_)⟩
   ·have hb' : some b = (tg T k).v8.ownBlock := hb'
    exact d9 b (by rw [← hb]; simp) b (by rw [← hb']; simp) rfl
   ·have hb' : some b = (tg T k).v9.ownBlock := hb'
    exact d7 b (by rw [← hb]; simp) b (by rw [← hb']; simp) rfl
   ·have hb' : some b = (tg T k).v10.ownBlock := hb'
    exact d5 b (by rw [← hb]; simp) b (by rw [← hb']; simp) rfl
  ·rw [List.getElem?_set_ne (Ne.symm e)] at hj
   exact hoth t (h.V.rows t (List.mem_of_getElem? hj)) (fun b hb => flat_apart h.V.ap (tg_get h0 h1) hj (Ne.symm e) (hin b hb))
theorem yL.regs {w0 w w1 : World} {g N gT cap : Nat} {vp0 vp1 : Value} {σ : St} {n : Nat} {vC vL : Value} {T : List TG} (h : Rep w0 w g N vp0 vp1 vC (.slice (some ⟨gT, 0, none⟩) n cap) vL σ.C T σ.clk σ.L) (he : T.map TG.s = σ.T) (k : Int) (h0 : 0 ≤ k) (h1 : k < T.length) (r : List Int)
  (hr : Kd.R (Kd.int .i64) 3 w1 w0.heap.size (fun _ => True) (tg T k).v3 r) (hk : Kept w w1 (fun j => some j = (tg T k).v3.ownBlock)) (hb : Below w0.heap.size w0 w1) :
  yL w0 w1 g N vp0 vp1 gT cap (σ.upd k fun t => { t with f3 := r }) := by
 obtain ⟨_, _, h⟩ := h.regs k h0 h1 r hr hk hb
 exact ⟨_, _, _, _, h, map_upd he k (F := fun t => TG.w3 t.v3 r t) (fun _ => rfl)⟩
def xG (x : S45) : List S45 → Bool → List S45
 | [], d => if d = true then [] else [x]
 | p :: l, d => (if d = true then [] else if p.f0 ≥ x.f0 then [x] else []) ++ ((if p.f0 = x.f0 then [] else [p]) ++ xG x l (d || decide (p.f0 ≥ x.f0)))
theorem addF_len (x : S45) : ∀ (l : List S45) (d : Bool), (xG x l d).length ≤ l.length + (if d = true then 0 else 1)
 | [], d => by unfold xG; split <;> simp
 | p :: l, d => by
  have ih := addF_len x l (d || decide (p.f0 ≥ x.f0))
  unfold xG
  rw [List.length_append, List.length_append, List.length_cons]
  cases d with
  | true => simp at ih ⊢; split <;> simp <;> omega
  | false =>
   by_cases c : p.f0 ≥ x.f0
   ·simp [c] at ih ⊢; split <;> simp <;> omega
   ·have e : ¬ p.f0 = x.f0 := by omega
    simp [c, e] at ih ⊢; omega
theorem addF_mem (x : S45) : ∀ (l : List S45) (d : Bool) (p : S45), p ∈ xG x l d → p = x ∨ p ∈ l
 | [], d, p, h => by unfold xG at h; split at h <;> simp_all
 | q :: l, d, p, h => by
  unfold xG at h
  rcases List.mem_append.1 h with h | h
  ·split at h
   ·cases h
   ·split at h
    ·exact .inl (List.mem_singleton.1 h)
    ·cases h
  ·rcases List.mem_append.1 h with h | h
   ·split at h
    ·cases h
    ·exact .inr (by rw [List.mem_singleton.1 h]; exact List.mem_cons_self)
   ·exact (addF_mem x l _ p h).imp id (List.mem_cons_of_mem _)
end Go.Proofs.Ytppapibjbjmmbaa.QSY
namespace Go.Proofs.Ytppapibjbjmmbaa.QSY
open Go.RowKit Go.Proofs.YtppapibjbjmmbaaW.PrintWords Go.Proofs.YtppapibjbjmmbaaW.PrintLast Go.Proofs.YtppapibjbjmmbaaW.PrintMore
attribute [local go_sem] max2_int min2_int max_two min_two we xZ max_four min_four   -- for this text's walks alone
set_option linter.unusedVariables false
set_option linter.unusedSimpArgs false
def yn.l0 : Nat → List (S45) → Int → Int → Option (Int)
 | 0, _, _, _ => none
 | k + 1, x0, x1, x5 => if x5 < (x0.length : Int) then (if 0 ≤ x5 then (if ((zw x0 x5).f0) = x1 then (some x5) else (yn.l0 k x0 x1 (wrap64 (x5 + 1)))) else (none)) else (some (-1))
def yn.f (k : Nat) (l0 : List (S45)) (a1 : Int) : Option (Int) := yn.l0 k l0 a1 0
set_option maxHeartbeats 8000000 in
set_option maxRecDepth 100000 in
theorem yn.calls (k : Nat) (A0 : Option Addr) (c0 : Nat) (l0 : List (S45)) (a1 : Int) (r : Int) (w : World) (hr0 : Kd.C k45 w A0 l0.length l0) (hc0 : l0.length ≤ c0) (h : yn.f k l0 a1 = some r) :
  Calls Try.prog 80 #[.slice A0 l0.length c0, .int .i64 a1] w fun e w' => e = .returned (.int .i64 r) ∧ yA w w' := by
 have HR0 := zb.mk hr0
 have HC0 := zb.mk hc0
 clear hr0 hc0
 have H : (yn.l0 k l0 a1 0) = some r := h
 clear h
 have H' := zb.mk H
 clear H
 go_enter Try.func80, Try.ntmps80
 go_wp2
 go_loopg [5] k (fun kq v5 w' => ∃ (x5_1 : Int), v5 = .int .i64 x5_1 ∧ zb (yn.l0 kq l0 a1 x5_1 = some r) ∧ zb (kq ≤ k) ∧ yA w w')
 case atStart => exact ⟨(0), (by first | rfl | (simp; done) | (simp [*]; done)), H', ⟨Nat.le_refl _⟩, by repeat (first | exact yA.refl _ | apply yA.step)⟩
 case round =>
  clear H'
  try clear p2
  obtain ⟨x5_1, rfl, HA, HK1, ⟨m1, rfl⟩⟩ := hrel
  cases gk with
  | zero => exact absurd HA.out (by simp [yn.l0])
  | succ k1 =>
   have H := HA.out
   clear HA
   simp only [yn.l0] at H
   by_cases c3 : x5_1 < (l0.length : Int)
   ·rw [if_pos c3] at H
    have c3b0 : decide (x5_1 < (l0.length : Int)) = true := decide_eq_true c3
    clear c3
    by_cases c4 : 0 ≤ x5_1
    ·rw [if_pos c4] at H
     have c4b0 : decide (0 ≤ x5_1) = true := decide_eq_true c4
     clear c4
     by_cases c5 : ((zw l0 x5_1).f0) = a1
     ·rw [if_pos c5] at H
      have c5b0 : (((zw l0 x5_1).f0) == a1) = true := beq_iff_eq.mpr c5
      have c5b1 : (((zw l0 x5_1).f0) != a1) = false := bne_eq_false_iff_eq.mpr c5
      clear c5
      obtain rfl := Option.some.inj H
      have p291 : 0 ≤ (x5_1 : Int) := of_decide_eq_true (by first | (with_reducible assumption) | assumption)
      have q291 : x5_1 < (l0.length : Int) := of_decide_eq_true (by first | (with_reducible assumption) | assumption)
      obtain ⟨ad291, e291, hx291_0, hx291_1⟩ := yK HR0.out x5_1 p291 q291
      cases e291
      replace p291 := eq_true p291
      replace q291 := eq_true q291
      go_wp2
      go_ret
      exact ⟨by first | rfl | (simp; done) | (simp [*]; done), by repeat (first | exact yA.refl _ | apply yA.step)⟩
     ·rw [if_neg c5] at H
      have c5b0 : (((zw l0 x5_1).f0) == a1) = false := beq_eq_false_iff_ne.mpr c5
      have c5b1 : (((zw l0 x5_1).f0) != a1) = true := bne_iff_ne.mpr c5
      have H' := zb.mk H
      clear H
      have p291 : 0 ≤ (x5_1 : Int) := of_decide_eq_true (by first | (with_reducible assumption) | assumption)
      have q291 : x5_1 < (l0.length : Int) := of_decide_eq_true (by first | (with_reducible assumption) | assumption)
      obtain ⟨ad291, e291, hx291_0, hx291_1⟩ := yK HR0.out x5_1 p291 q291
      cases e291
      replace p291 := eq_true p291
      replace q291 := eq_true q291
      go_wp2
      go_roundg k1
      case measure => have := HK1.out; omega
      case rel => exact ⟨(wrap64 (x5_1 + 1)), (by first | rfl | (simp; done) | (simp [*]; done)), H', ⟨by have := HK1.out; omega⟩, by repeat (first | exact yA.refl _ | apply yA.step)⟩
    ·rw [if_neg c4] at H
     exact absurd H (by simp)
   ·rw [if_neg c3] at H
    have c3b0 : decide (x5_1 < (l0.length : Int)) = false := decide_eq_false c3
    clear c3
    obtain rfl := Option.some.inj H
    go_wp2
    go_ret
    exact ⟨by first | rfl | (simp; done) | (simp [*]; done), by repeat (first | exact yA.refl _ | apply yA.step)⟩
end Go.Proofs.Ytppapibjbjmmbaa.QSY
set_option linter.unusedVariables false
set_option linter.unusedSimpArgs false
namespace Go.Proofs.Ytppapibjbjmmbaa.QSY
open Go.RowKit Go.Proofs.YtppapibjbjmmbaaW.PrintWords Go.Proofs.YtppapibjbjmmbaaW.PrintLast Go.Proofs.YtppapibjbjmmbaaW.PrintMore
def findGo (l : List S45) (c : Int) : Nat → Int → Int
 | 0, _ => -1
 | n + 1, i => if (zw l i).f0 = c then i else findGo l c n (i + 1)
def xk (l : List S45) (c : Int) : Int := findGo l c l.length 0
theorem find_go (l : List S45) (c : Int) (hl : l.length ≤ 1000) : ∀ (d i k : Nat), i + d = l.length → d + 1 ≤ k → yn.l0 k l c i = some (findGo l c d i) := by
 intro d
 induction d with
 | zero =>
  intro i k hi hk
  obtain ⟨k, rfl⟩ : ∃ m, k = m + 1 := ⟨k - 1, by omega⟩
  simp only [yn.l0]
  rw [if_neg (by omega)]
  rfl
 | succ d ih =>
  intro i k hi hk
  obtain ⟨k, rfl⟩ : ∃ m, k = m + 1 := ⟨k - 1, by omega⟩
  simp only [yn.l0]
  have hw : wrap64 ((i : Int) + 1) = ((i + 1 : Nat) : Int) := by unfold wrap64; omega
  rw [if_pos (by omega), if_pos (by omega), hw, ih (i + 1) k (by omega) (by omega)]
  unfold findGo
  by_cases e : (zw l (i : Int)).f0 = c
  ·rw [if_pos e, if_pos e]
  ·rw [if_neg e, if_neg e]; cases d <;> rfl
theorem findGo_ok (l : List S45) (c : Int) : ∀ (d i : Nat), i + d = l.length → findGo l c d i = -1 ∨ ((i : Int) ≤ findGo l c d i ∧ findGo l c d i < l.length ∧ (zw l (findGo l c d i)).f0 = c) := by
 intro d
 induction d with
 | zero => exact fun i _ => .inl rfl
 | succ d ih =>
  intro i hi
  unfold findGo
  by_cases e : (zw l (i : Int)).f0 = c
  ·rw [if_pos e]; exact .inr ⟨Int.le_refl _, by omega, e⟩
  ·rw [if_neg e, show (i : Int) + 1 = ((i + 1 : Nat) : Int) from rfl]
   rcases ih (i + 1) (by omega) with h | ⟨h1, h2, h3⟩
   ·exact .inl h
   ·exact .inr ⟨by omega, h2, h3⟩
theorem findF_ok (l : List S45) (c : Int) : xk l c = -1 ∨ (0 ≤ xk l c ∧ xk l c < l.length ∧ (zw l (xk l c)).f0 = c) := findGo_ok l c l.length 0 (by simp)
theorem find_calls (A : Option Addr) (cc : Nat) (l : List S45) (c : Int) (w : World) (hr : Kd.C k45 w A l.length l) (hc : l.length ≤ cc) (hl : l.length ≤ 1000) :
  Calls Try.prog 80 #[.slice A l.length cc, .int .i64 c] w fun e w' => e = .returned (.int .i64 (xk l c)) ∧ Below w.heap.size w w' :=
 (yn.calls (l.length + 1) A cc l c (xk l c) w hr hc (find_go l c hl l.length 0 (l.length + 1) (by simp) (Nat.le_refl _))).mono (fun e w' h => ⟨h.1, by first | exact h.2 | exact h.2.below⟩)
end Go.Proofs.Ytppapibjbjmmbaa.QSY
set_option linter.unusedVariables false
set_option linter.unusedSimpArgs false
namespace Go.Proofs.Ytppapibjbjmmbaa.QSY
open Go.RowKit Go.Proofs.YtppapibjbjmmbaaW.PrintWords Go.Proofs.YtppapibjbjmmbaaW.PrintLast Go.Proofs.YtppapibjbjmmbaaW.PrintMore
theorem inB_ok' {a b c : Int} : inB a b c = true ↔ b ≤ a ∧ a ≤ c := by unfold inB; simp
def upF (T : List S43) (i : Int) : Bool :=
 if i = 0 then (zF T i).f2 == -1 else if inB (zF T i).f2 0 (wrap64 (i - 1)) = false then false
 else if (zF T i).f4 = 0 ∨ (zF T i).f4 = 1 then (zF T (zF T i).f2).f4 == 1 else true
def tcs (t : S43) (A3 : Option Addr) (c3 : Nat) (A8 : Option Addr) (c8 : Nat) (A9 : Option Addr) (c9 : Nat) (A10 : Option Addr) (c10 : Nat) : Array Value :=
 #[.int .i64 t.f0, .int .i64 t.f1, .int .i64 t.f2, .slice A3 t.f3.length c3, .int .i64 t.f4, .int .i64 t.f5, .int .i64 t.f6, .int .i64 t.f7, .slice A8 t.f8.length c8, .slice A9 t.f9.length c9, .slice A10 t.f10.length c10, .int .i64 t.f11, .int .i64 t.f12]
set_option maxHeartbeats 4000000 in
set_option maxRecDepth 100000 in
theorem up_calls (AC : Option Addr) (nC cC : Nat) (AT : Option Addr) (T : List S43) (cT : Nat) (clk : Int) (AL : Option Addr) (nL cL : Nat) (i : Int) (r : Bool) (w : World) (hT : Kd.C k43 w AT T.length T) (h0 : 0 ≤ i) (h1 : i < T.length) (h2 : T.length ≤ 2500) (h : upF T i = r) :
  Calls Try.prog 93 #[.agg #[.slice AC nC cC, .slice AT T.length cT, .int .i64 clk, .slice AL nL cL], .int .i64 i] w fun e w' => e = .returned (.bool r) ∧ Below w.heap.size w w' := by
 have hu := Try.underlying43
 have hT0 := zb.mk hT
 have HH := zb.mk h
 obtain ⟨ad, A3, c3, A8, c8, A9, c9, A10, c10, rfl, z0, z1, z2, z3, z4, z5, z6, z7, z8, z9, z10, z11, z12, l3, g3, l8, g8, l9, g9, l10, g10⟩ := at_T43 hT i h0 h1
 clear hT l3 g3 l8 g8 l9 g9 l10 g10 h
 obtain ⟨t, ht⟩ : ∃ t, t = zF T i := ⟨_, rfl⟩
 unfold upF at HH
 rw [← ht] at z0 z1 z2 z3 z4 z5 z6 z7 z8 z9 z10 z11 z12 HH
 clear ht
 obtain ⟨nT, hnT⟩ : ∃ n, n = T.length := ⟨_, rfl⟩
 have HNT := zb.mk hnT
 rw [← hnT] at hT0 h1 h2 ⊢
 clear hnT
 obtain ⟨W, hW⟩ : ∃ W, W = (w.alloc (.cells #[.slice AC nC cC, .slice (some ad) nT cT, .int .i64 clk, .slice AL nL cL] 27)).alloc (.cells (tcs t A3 c3 A8 c8 A9 c9 A10 c10) 43) := ⟨_, rfl⟩
 have HB := zb.mk (show Below w.heap.size w W by rw [hW]; exact zc (zc (Below.refl _ _) _) _)
 have E0 := zb.mk (show W.heap[w.heap.size]? = some (.cells #[.slice AC nC cC, .slice (some ad) nT cT, .int .i64 clk, .slice AL nL cL] 27 (0, 0)) by rw [hW]; exact zm (heap_alloc_new _ _) _)
 have E1 := zb.mk (show W.heap[w.heap.size + 1]? = some (.cells (tcs t A3 c3 A8 c8 A9 c9 A10 c10) 43 (0, 0)) by rw [hW, show w.heap.size + 1 = (w.alloc (.cells #[.slice AC nC cC, .slice (some ad) nT cT, .int .i64 clk, .slice AL nL cL] 27)).heap.size by simp]; exact heap_alloc_new _ _)
 unfold tcs at E1 hW
 have s1 : (w.alloc (.cells #[.slice AC nC cC, .slice (some ad) nT cT, .int .i64 clk, .slice AL nL cL] 27)).cell? ⟨w.heap.size, 1, none⟩ = some (.slice (some ad) nT cT) := (zd (heap_alloc_new _ _) 1).trans rfl
 have hb := zc (Below.refl w.heap.size w) (.cells #[.slice AC nC cC, .slice (some ad) nT cT, .int .i64 clk, .slice AL nL cL] 27)
 have z0 := za hb z0
 have z1 := za hb z1
 have z2 := za hb z2
 have z3 := za hb z3
 have z4 := za hb z4
 have z5 := za hb z5
 have z6 := za hb z6
 have z7 := za hb z7
 have z8 := za hb z8
 have z9 := za hb z9
 have z10 := za hb z10
 have z11 := za hb z11
 have z12 := za hb z12
 clear hb
 go_enter Try.func93, Try.ntmps93
 go_upto_region 2 with (fail)
 (try rw [← hW])
 clear hW z0 z1 z2 z3 z4 z5 z6 z7 z8 z9 z10 z11 z12 s1
 have y1 := (zd E0.out 1).trans rfl
 have x2 := (zd E1.out 2).trans rfl
 have x4 := (zd E1.out 4).trans rfl
 by_cases i0 : i = 0
 ·have hr := HH.out
  rw [if_pos i0] at hr
  subst hr
  go_wp2
  go_ret
  exact ⟨rfl, HB.out⟩
 obtain ⟨q, hq⟩ : ∃ q, inB t.f2 0 (wrap64 (i - 1)) = q := ⟨_, rfl⟩
 have ei : wrap64 (i - 1) = i - 1 := by unfold wrap64; omega
 have HQ := zb.mk hq
 rw [ei] at HQ
 have hr := HH.out
 rw [if_neg i0, hq] at hr
 clear hq
 cases q
 ·rw [if_pos rfl] at hr
  subst hr
  go_wp2_with (refine (zy _ _ _ _ _ HQ.out).mono ?_; rintro e w' ⟨rfl, rfl⟩)
  go_ret
  exact ⟨rfl, HB.out⟩
 rw [if_neg (by decide)] at hr
 by_cases f4 : t.f4 = 0 ∨ t.f4 = 1
 ·rw [if_pos f4] at hr
  have hu2 := inB_ok'.1 HQ.out
  obtain ⟨ad2, B3, d3, B8, d8, B9, d9, B10, d10, hadd, q0, q1, q2, q3, q4, qr⟩ := at_T43 hT0.out t.f2 hu2.1 (by omega)
  injection hadd with hadd
  subst hadd
  have q4 := za HB.out q4
  obtain ⟨u, hu⟩ : ∃ u, u = zF T t.f2 := ⟨_, rfl⟩
  rw [← hu] at q4 hr
  clear q0 q1 q2 q3 qr hu
  obtain ⟨up, hup⟩ : ∃ x, x = t.f2 := ⟨_, rfl⟩
  obtain ⟨wy, hwy⟩ : ∃ x, x = t.f4 := ⟨_, rfl⟩
  rw [← hup] at HQ hu2 q4 x2
  rw [← hwy] at f4 x4
  have u0 := hu2.1
  have u1 : up < (nT : Int) := by omega
  clear hup hwy hu2
  subst hr
  rcases f4 with rfl | rfl
  all_goals
   go_wp2_with (refine (zy _ _ _ _ _ HQ.out).mono ?_; rintro e w' ⟨rfl, rfl⟩)
   go_ret
   exact ⟨rfl, HB.out⟩
 ·rw [if_neg f4] at hr
  have f0 : ¬ t.f4 = 0 := fun e => f4 (.inl e)
  have f1 : ¬ t.f4 = 1 := fun e => f4 (.inr e)
  subst hr
  clear f4
  go_wp2_with (refine (zy _ _ _ _ _ HQ.out).mono ?_; rintro e w' ⟨rfl, rfl⟩)
  go_ret
  exact ⟨rfl, HB.out⟩
def holdsF (t : S43) (c : Int) : Bool :=
 if xk t.f10 c < 0 then false else if t.f5 = 2 then decide (xk t.f10 c < t.f6) else if t.f5 = 3 ∨ t.f5 = 4 then true else if t.f5 = 5 then decide (xk t.f10 c ≥ t.f6) else false
set_option maxHeartbeats 4000000 in
set_option maxRecDepth 100000 in
theorem holds_calls (t : S43) (A3 : Option Addr) (c3 : Nat) (A8 : Option Addr) (c8 : Nat) (A9 : Option Addr) (c9 : Nat) (A10 : Option Addr) (c10 : Nat) (c : Int) (r : Bool) (w : World) (h10 : Kd.C k45 w A10 t.f10.length t.f10) (g10 : t.f10.length ≤ c10) (l10 : t.f10.length ≤ 1000) (h : holdsF t c = r) :
  Calls Try.prog 95 #[.agg (tcs t A3 c3 A8 c8 A9 c9 A10 c10), .int .i64 c] w fun e w' => e = .returned (.bool r) ∧ Below w.heap.size w w' := by
 have H10 := zb.mk h10
 have G10 := zb.mk g10
 have L10 := zb.mk l10
 have HH := zb.mk h
 obtain ⟨W, hW⟩ : ∃ W, W = w.alloc (.cells (tcs t A3 c3 A8 c8 A9 c9 A10 c10) 43) := ⟨_, rfl⟩
 have HB := zb.mk (show Below w.heap.size w W by rw [hW]; exact zc (Below.refl _ _) _)
 have E1 := zb.mk (show W.heap[w.heap.size]? = some (.cells (tcs t A3 c3 A8 c8 A9 c9 A10 c10) 43 (0, 0)) by rw [hW]; exact heap_alloc_new _ _)
 unfold tcs at E1 hW
 unfold holdsF at HH
 have FC := zb.mk (find_calls A10 c10 t.f10 c W (Kd.zt H10.out HB.out) G10.out L10.out)
 obtain ⟨fi, hfi⟩ : ∃ x, x = xk t.f10 c := ⟨_, rfl⟩
 rw [← hfi] at HH FC
 obtain ⟨n10, hn⟩ : ∃ n, n = t.f10.length := ⟨_, rfl⟩
 show Calls Try.prog 95 #[.agg (tcs t A3 c3 A8 c8 A9 c9 A10 c10), .int .i64 c] w _
 unfold tcs
 rw [← hn] at E1 hW FC ⊢
 clear h10 g10 l10 h hfi hn
 go_enter Try.func95, Try.ntmps95
 go_upto_region 1 with (fail)
 rw [← hW]
 clear hW
 have x10 := (zd E1.out 10).trans rfl
 have x5 := (zd E1.out 5).trans rfl
 have x6 := (zd E1.out 6).trans rfl
 obtain ⟨at_, hat⟩ : ∃ x, x = t.f6 := ⟨_, rfl⟩
 obtain ⟨st, hst⟩ : ∃ x, x = t.f5 := ⟨_, rfl⟩
 rw [← hat] at x6 HH
 rw [← hst] at x5 HH
 clear hat hst
 have hr := HH.out
 by_cases f0 : fi < 0
 ·rw [if_pos f0] at hr
  subst hr
  go_wp2_with (refine FC.out.mono ?_; rintro e w2 ⟨rfl, hb⟩; have x5 := za hb x5; have x6 := za hb x6)
  go_ret
  exact ⟨rfl, zi HB.out (by assumption)⟩
 rw [if_neg f0] at hr
 by_cases s2 : st = 2
 ·rw [if_pos s2] at hr
  subst s2 hr
  go_wp2_with (refine FC.out.mono ?_; rintro e w2 ⟨rfl, hb⟩; have x5 := za hb x5; have x6 := za hb x6)
  go_ret
  exact ⟨rfl, zi HB.out (by assumption)⟩
 rw [if_neg s2] at hr
 by_cases s3 : st = 3 ∨ st = 4
 ·rw [if_pos s3] at hr
  subst hr
  rcases s3 with rfl | rfl
  all_goals
   go_wp2_with (refine FC.out.mono ?_; rintro e w2 ⟨rfl, hb⟩; have x5 := za hb x5; have x6 := za hb x6)
   go_ret
   exact ⟨rfl, zi HB.out (by assumption)⟩
 rw [if_neg s3] at hr
 have s3' : ¬ st = 3 := fun e => s3 (.inl e)
 have s4' : ¬ st = 4 := fun e => s3 (.inr e)
 clear s3
 by_cases s5 : st = 5
 ·rw [if_pos s5] at hr
  subst s5 hr
  go_wp2_with (refine FC.out.mono ?_; rintro e w2 ⟨rfl, hb⟩; have x5 := za hb x5; have x6 := za hb x6)
  go_ret
  exact ⟨rfl, zi HB.out (by assumption)⟩
 ·rw [if_neg s5] at hr
  subst hr
  go_wp2_with (refine FC.out.mono ?_; rintro e w2 ⟨rfl, hb⟩; have x5 := za hb x5; have x6 := za hb x6)
  go_ret
  exact ⟨rfl, zi HB.out (by assumption)⟩
end Go.Proofs.Ytppapibjbjmmbaa.QSY
set_option linter.unusedVariables false
set_option linter.unusedSimpArgs false
namespace Go.Proofs.Ytppapibjbjmmbaa.QSY
open Go.RowKit Go.Proofs.YtppapibjbjmmbaaW.PrintWords Go.Proofs.YtppapibjbjmmbaaW.PrintLast Go.Proofs.YtppapibjbjmmbaaW.PrintMore
def Look (w : World) (g : Nat) (T : List S43) (clk : Int) : Prop := ∃ vp0 vp1 vC vL A c, w.heap[g]? = some (.cells #[vp0, vp1, vC, .slice A T.length c, .int .i64 clk, vL] 134 (0, 0)) ∧ Kd.C k43 w A T.length T ∧ T.length ≤ c
theorem zS.look {w0 w : World} {g : Nat} {vp0 vp1 : Value} {σ : St} (h : zS w0 w g vp0 vp1 σ) : Look w g σ.T σ.clk := by
 obtain ⟨N, vC, vT, vL, T, h, e⟩ := h
 obtain ⟨A, c, rfl, hl, hC⟩ := h.V.reads
 have hb := h.blk
 rw [e] at hC
 rw [show T.length = σ.T.length by rw [← e, List.length_map]] at hl hb
 exact ⟨vp0, vp1, vC, vL, A, c, hb, hC, hl⟩
theorem Look.below {w w1 : World} {g : Nat} {T : List S43} {clk : Int} (h : Look w g T clk) (hb : Below w.heap.size w w1) : Look w1 g T clk := by
 obtain ⟨vp0, vp1, vC, vL, A, c, h1, h2, h3⟩ := h
 exact ⟨vp0, vp1, vC, vL, A, c, (hb.block _ (zo h1)).trans h1, Kd.zt h2 hb, h3⟩
def isKid (k way : Int) (t : S43) : Bool := t.f2 == k && t.f4 == way
def yG (T : List S43) (k way : Int) : Nat := T.countP (isKid k way)
theorem kidsN_succ {T : List S43} {k way : Int} {i : Nat} (h : i < T.length) : yG (T.take (i + 1)) k way = yG (T.take i) k way + if isKid k way (T.getD i z43) then 1 else 0 := by
 unfold yG
 rw [List.take_succ_eq_append_getElem h, List.countP_append, List.countP_singleton, List.getD_eq_getElem?_getD, List.getElem?_eq_getElem h]
 rfl
theorem kidsN_le {T : List S43} {k way : Int} {i : Nat} : yG (T.take i) k way ≤ i := Nat.le_trans (List.countP_le_length) (List.length_take_le _ _)
theorem yN {x : Int} (h0 : 0 ≤ x) (h1 : x ≤ 9223372036854775807) : wrap64 x = x := by unfold wrap64; omega
set_option maxHeartbeats 2000000 in
set_option maxRecDepth 100000 in
theorem xB {w : World} {g : Nat} {T : List S43} {clk : Int} (k way : Int) (h : Look w g T clk) :
  Calls Try.prog 113 #[.pointer (some ⟨g, 0, none⟩), .int .i64 k, .int .i64 way] w fun e w' => e = .returned (.int .i64 (yG T k way)) ∧ w = w' := by
 obtain ⟨vp0, vp1, vC, vL, A, c, hb, hC, hl⟩ := h
 have a3 := (zd hb 3).trans rfl
 have HC := zb.mk hC
 have HM := zb.mk (show T.length ≤ 9223372036854775807 from hC.2.1)
 have HMI := zb.mk (show (T.length : Int) ≤ 9223372036854775807 from by have := hC.2.1; omega)
 clear hb hC hl
 go_enter Try.func113, Try.ntmps113
 go_wp2
 go_loop [7, 8] (fun v7 v8 => ∃ i : Nat, v8 = .int .i64 i ∧ v7 = .int .i64 (yG (T.take i) k way) ∧ zb (i ≤ T.length)) (fun _ v8 => T.length - (intOf v8).toNat)
 case atStart => exact ⟨0, rfl, rfl, ⟨Nat.zero_le _⟩⟩
 case round =>
  obtain ⟨i, rfl, rfl, hi⟩ := hrel
  by_cases hlt : i < T.length
  ·have cb : decide (i < T.length) = true := decide_eq_true hlt
   have hlt2 : (i : Int) < (T.length : Int) := by omega
   have hi0 : (0 : Int) ≤ (i : Int) := by omega
   obtain ⟨ad, B3, d3, B8, d8, B9, d9, B10, d10, rfl, z0, z1, z2, z3, z4, z5, zr⟩ := at_T43 HC.out (i : Int) hi0 hlt2
   clear z0 z1 z3 z5 zr
   rw [Int.toNat_natCast] at z2 z4
   have HK := zb.mk (kidsN_succ (k := k) (way := way) hlt)
   have HKL := zb.mk (kidsN_le (T := T) (k := k) (way := way) (i := i))
   obtain ⟨n, hn⟩ : ∃ n, n = yG (T.take i) k way := ⟨_, rfl⟩
   obtain ⟨t, ht⟩ : ∃ t, t = zF T i := ⟨_, rfl⟩
   have ht' : T.getD i z43 = t := by rw [ht]; unfold zF; rw [Int.toNat_natCast]
   rw [← ht] at z2 z4
   rw [← hn] at HK HKL ⊢
   rw [ht'] at HK
   have ei : wrap64 ((i : Int) + 1) = ((i + 1 : Nat) : Int) := yN (by omega) (Int.le_trans (by omega) HMI.out)
   have en : wrap64 ((n : Int) + 1) = ((n + 1 : Nat) : Int) := by
    have h1 := HKL.out
    have h2 : (n : Int) + 1 ≤ (T.length : Int) := by omega
    exact yN (by omega) (Int.le_trans h2 HMI.out)
   have HLT := zb.mk hlt
   clear hn ht ht' hlt
   by_cases q1 : t.f2 = k
   ·have c1 : (t.f2 == k) = true := by simp [q1]
    by_cases q2 : t.f4 = way
    ·have c2 : (t.f4 == way) = true := by simp [q2]
     have e : isKid k way t = true := by simp [isKid, q1, q2]
     have HE := zb.mk (HK.out.trans (by rw [if_pos e]))
     clear q1 q2 e HK
     go_wp2
     go_round
     case rel => exact ⟨i + 1, by rw [ei], by rw [HE.out, en], ⟨HLT.out⟩⟩
     case measure => rw [ei]; have := HLT.out; simp [intOf]; omega
    ·have c2 : (t.f4 == way) = false := by simp [q2]
     have e : isKid k way t = false := by simp [isKid, q2]
     have HE := zb.mk (HK.out.trans (by rw [if_neg (by rw [e]; decide), Nat.add_zero]))
     clear q1 q2 e HK
     go_wp2
     go_round
     case rel => exact ⟨i + 1, by rw [ei], by rw [HE.out], ⟨HLT.out⟩⟩
     case measure => rw [ei]; have := HLT.out; simp [intOf]; omega
   ·have c1 : (t.f2 == k) = false := by simp [q1]
    have e : isKid k way t = false := by simp [isKid, q1]
    have HE := zb.mk (HK.out.trans (by rw [if_neg (by rw [e]; decide), Nat.add_zero]))
    clear q1 e HK
    go_wp2
    go_round
    case rel => exact ⟨i + 1, by rw [ei], by rw [HE.out], ⟨HLT.out⟩⟩
    case measure => rw [ei]; have := HLT.out; simp [intOf]; omega
  ·have cb : decide (i < T.length) = false := decide_eq_false hlt
   have HEQ := zb.mk (show i = T.length by have := hi.out; omega)
   clear hlt
   go_wp2
   go_ret
   refine ⟨?_, rfl⟩
   have e : T.take i = T := by rw [HEQ.out, List.take_length]
   rw [e]
   rfl
end Go.Proofs.Ytppapibjbjmmbaa.QSY
set_option linter.unusedVariables false
set_option linter.unusedSimpArgs false
namespace Go.Proofs.Ytppapibjbjmmbaa.QSY
open Go.RowKit Go.Proofs.YtppapibjbjmmbaaW.PrintWords Go.Proofs.YtppapibjbjmmbaaW.PrintLast Go.Proofs.YtppapibjbjmmbaaW.PrintMore
def lactF (a : zO) (body nB nC : Int) : Bool :=
 if (a.f0 ≠ 1 ∧ 0 < a.f1.length) ∨ (a.f0 ≠ 2 ∧ 0 < a.f2.length) ∨ (a.f0 ≠ 4 ∧ a.f3 ≠ 0) then false
 else if a.f0 = 1 then a.f1.all (fun d => deedF d nC) && decide (a.f1.length ≤ 5)
 else if a.f0 = 2 then lkidsF a.f2 body nB else if a.f0 = 3 then true else if a.f0 = 4 then inB a.f3 0 2 else false
set_option maxHeartbeats 4000000 in
set_option maxRecDepth 100000 in
theorem lact_calls (A0 : Option Addr) (n0 c0 : Nat) (A1 : Option Addr) (n1 c1 : Nat) (body : Int) (a : zO) (B1 : Option Addr) (d1 : Nat) (B2 : Option Addr) (d2 : Nat) (r : Bool) (w : World) (h1 : Kd.C xu w B1 a.f1.length a.f1) (h2 : Kd.C (Kd.int .i64) w B2 a.f2.length a.f2) (h : lactF a body n1 n0 = r) :
  Calls Try.prog 111 #[.agg #[.slice A0 n0 c0, .slice A1 n1 c1], .int .i64 body, .agg #[.int .i64 a.f0, .slice B1 a.f1.length d1, .slice B2 a.f2.length d2, .int .i64 a.f3]] w fun e w' => e = .returned (.bool r) ∧ Below w.heap.size w w' := by
 obtain ⟨k, ds, ks, rg⟩ := a
 have H1 := zb.mk h1
 have H2 := zb.mk h2
 have HM := zb.mk h1.2.1
 have HH := zb.mk h
 clear h1 h2 h
 have bad : ((k ≠ 1 ∧ 0 < ds.length) ∨ (k ≠ 2 ∧ 0 < ks.length) ∨ (k ≠ 4 ∧ rg ≠ 0)) → r = false := fun hb => by
  have := HH.out
  unfold lactF at this
  rw [if_pos hb] at this
  exact this.symm
 have ok : ¬ ((k ≠ 1 ∧ 0 < ds.length) ∨ (k ≠ 2 ∧ 0 < ks.length) ∨ (k ≠ 4 ∧ rg ≠ 0)) → (if k = 1 then ds.all (fun d => deedF d n0) && decide (ds.length ≤ 5) else if k = 2 then lkidsF ks body n1 else if k = 3 then true else if k = 4 then inB rg 0 2 else false) = r := fun hb => by
  have := HH.out
  unfold lactF at this
  rwa [if_neg hb] at this
 have BAD := zb.mk bad
 have OK := zb.mk ok
 clear bad ok HH
 obtain ⟨nd, hnd⟩ : ∃ n, n = ds.length := ⟨_, rfl⟩
 obtain ⟨nk, hnk⟩ : ∃ n, n = ks.length := ⟨_, rfl⟩
 have HND := zb.mk hnd
 have HNK := zb.mk hnk
 simp only [← hnd, ← hnk] at BAD OK
 show Calls Try.prog 111 #[.agg #[.slice A0 n0 c0, .slice A1 n1 c1], .int .i64 body, .agg #[.int .i64 k, .slice B1 ds.length d1, .slice B2 ks.length d2, .int .i64 rg]] w _
 rw [← hnd, ← hnk]
 clear hnd hnk
 obtain ⟨W, hW⟩ : ∃ W, W = (w.alloc (.cells #[.slice A0 n0 c0, .slice A1 n1 c1] 37)).alloc (.cells #[.int .i64 k, .slice B1 nd d1, .slice B2 nk d2, .int .i64 rg] 110) := ⟨_, rfl⟩
 have HB := zb.mk (show Below w.heap.size w W by rw [hW]; exact zc (zc (Below.refl _ _) _) _)
 have E0 := zb.mk (show W.heap[w.heap.size]? = some (.cells #[.slice A0 n0 c0, .slice A1 n1 c1] 37 (0, 0)) by rw [hW]; exact zm (heap_alloc_new _ _) _)
 have E1 := zb.mk (show W.heap[w.heap.size + 1]? = some (.cells #[.int .i64 k, .slice B1 nd d1, .slice B2 nk d2, .int .i64 rg] 110 (0, 0)) by rw [hW, show w.heap.size + 1 = (w.alloc (.cells #[.slice A0 n0 c0, .slice A1 n1 c1] 37)).heap.size by simp]; exact heap_alloc_new _ _)
 go_enter Try.func111, Try.ntmps111
 go_upto_region 1 with (fail)
 rw [← hW]
 clear hW
 have y0 := (zd E0.out 0).trans rfl
 have y1 := (zd E0.out 1).trans rfl
 have x0 := (zd E1.out 0).trans rfl
 have x1 := (zd E1.out 1).trans rfl
 have x2 := (zd E1.out 2).trans rfl
 have x3 := (zd E1.out 3).trans rfl
 by_cases k1 : k = 1
 ·subst k1
  by_cases p2 : (nk : Int) > 0
  ·have hr := BAD.out (by omega)
   clear OK BAD
   subst hr
   go_wp2
   go_ret
   exact ⟨rfl, HB.out⟩
  by_cases p3 : rg = 0
  ·have hr := OK.out (by omega)
   rw [if_pos rfl] at hr
   have HR := zb.mk hr
   subst p3
   clear OK BAD hr
   go_upto_region 5 with (fail)
   go_wp2
   go_loopw [7] (fun v7 wr => ∃ (i : Nat), v7 = .int .i64 i ∧ zb (i ≤ ds.length ∧ (ds.take i).all (fun d => deedF d n0) = true) ∧ zb (Below W.heap.size W wr)) (fun v7 _ => ds.length - (intOf v7).toNat)
   case atStart => exact ⟨0, rfl, ⟨Nat.zero_le _, rfl⟩, ⟨Below.refl _ _⟩⟩
   case round =>
    obtain ⟨i, rfl, hi, hbl⟩ := hrel
    by_cases hlt : (i : Int) < (nd : Int)
    ·have hl2 : i < ds.length := by rw [← HND.out]; omega
     have HL := zb.mk hl2
     have hi0 : (0 : Int) ≤ (i : Int) := by omega
     obtain ⟨ad, rfl, z0, z1, z2⟩ := at_T113 H1.out (i : Int) hi0 (show (i : Int) < (ds.length : Int) by omega)
     have HBW := zb.mk (zi HB.out hbl.out)
     obtain ⟨V, hV⟩ : ∃ V, V = wr := ⟨_, rfl⟩
     rw [← hV] at HBW hbl ⊢
     clear hV
     have z0 := za HBW.out z0
     have z1 := za HBW.out z1
     have z2 := za HBW.out z2
     have y0 := za hbl.out y0
     have x1 := za hbl.out x1
     obtain ⟨q, hq⟩ : ∃ q, deedF (zx ds (i : Int)) n0 = q := ⟨_, rfl⟩
     have HQ := zb.mk hq
     have en : wrap64 ((i : Int) + 1) = ((i + 1 : Nat) : Int) := yx hl2 HM.out
     clear hq hl2 x0 x2 x3
     rw [Int.toNat_natCast] at z0 z1 z2
     obtain ⟨dd, hdd⟩ : ∃ d, d = zx ds (i : Int) := ⟨_, rfl⟩
     have HDD := zb.mk hdd
     rw [← hdd] at HQ z0 z1 z2
     clear hdd
     have HS := zb.mk (show ∀ w', Below V.heap.size V w' → w'.cell? ⟨w.heap.size, 0, none⟩ = some (.slice A0 n0 c0) ∧ w'.cell? ⟨w.heap.size + 1, 1, none⟩ = some (.slice (some ad) nd d1) ∧ w'.cell? (ad.add (i * 3)) = some (.int .i64 dd.f0) ∧ w'.cell? ⟨(ad.add (i * 3)).block, (ad.add (i * 3)).off + 1, none⟩ = some (.int .i64 dd.f1) ∧ w'.cell? ⟨(ad.add (i * 3)).block, (ad.add (i * 3)).off + 2, none⟩ = some (.int .i64 dd.f2) from fun w' hb => ⟨za hb y0, za hb x1, za hb z0, za hb z1, za hb z2⟩)
     go_upto_region 8 with (fail)
     go_region_held3 (fun w' => w'.cell? ⟨w.heap.size, 0, none⟩ = some (.slice A0 n0 c0) ∧ w'.cell? ⟨w.heap.size + 1, 1, none⟩ = some (.slice (some ad) nd d1) ∧ w'.cell? (ad.add (i * 3)) = some (.int .i64 dd.f0) ∧ w'.cell? ⟨(ad.add (i * 3)).block, (ad.add (i * 3)).off + 1, none⟩ = some (.int .i64 dd.f1) ∧ w'.cell? ⟨(ad.add (i * 3)).block, (ad.add (i * 3)).off + 2, none⟩ = some (.int .i64 dd.f2)) (first | exact HS.out _ (ze (Below.refl _ _)) | exact HS.out _ (zi (ze (Below.refl _ _)) (by assumption))) (first | (go_at_call 124; refine (l1deed_calls dd n0 q _ HQ.out).mono ?_; rintro e wz ⟨rfl, hb⟩))
     have HBZ := zb.mk (zi hbl.out (zi (ze (Below.refl _ _)) hb))
     cases q
     ·skip
      go_wp2
      go_ret
      refine ⟨?_, zi HB.out HBZ.out⟩
      rw [← HR.out, all_not z113 HL.out (p := fun d => deedF d n0) (by have h := HQ.out; rw [HDD.out] at h; exact h)]; rfl
     ·skip
      go_wp2
      go_roundw
      case rel => exact ⟨i + 1, by rw [en], ⟨HL.out, all_more z113 HL.out hi.out.2 (by have h := HQ.out; rw [HDD.out] at h; exact h)⟩, ⟨HBZ.out⟩⟩
      case measure => rw [en]; have := HL.out; simp [intOf]; omega
    ·have HE := zb.mk (all_end (by rw [← HND.out]; omega) hi.out.2)
     have x1 := za hbl.out x1
     have HBW := zb.mk (zi HB.out hbl.out)
     clear x0 x2 x3 y0 y1
     obtain ⟨V, hV⟩ : ∃ V, V = wr := ⟨_, rfl⟩
     rw [← hV] at HBW x1 ⊢
     clear hV
     go_wp2
     go_ret
     refine ⟨?_, HBW.out⟩
     rw [← show decide ((nd : Int) ≤ 5) = r from by
      rw [← HR.out, HE.out, Bool.true_and]
      exact decide_eq_decide.2 (by omega)]
     rfl
  ·have hr := BAD.out (by omega)
   clear OK BAD
   subst hr
   go_wp2
   go_ret
   exact ⟨rfl, HB.out⟩
 by_cases k2 : k = 2
 ·subst k2
  by_cases p2 : (nd : Int) > 0
  ·have hr := BAD.out (by omega)
   clear OK BAD
   subst hr
   go_wp2
   go_ret
   exact ⟨rfl, HB.out⟩
  by_cases p3 : rg = 0
  ·have hr := OK.out (by omega)
   rw [if_neg (by decide), if_pos rfl] at hr
   have HR := zb.mk hr
   subst p3
   clear OK BAD hr
   have KC := zb.mk (show Calls Try.prog 125 #[.slice B2 nk d2, .int .i64 body, .int .i64 (n1 : Int)] W fun e w' => e = .returned (.bool r) ∧ W = w' by rw [HNK.out]; exact lkids_calls _ _ _ _ _ _ _ (Kd.zt H2.out HB.out) HR.out)
   go_wp2_with (refine KC.out.mono ?_; rintro e w' ⟨rfl, rfl⟩)
   go_ret
   exact ⟨rfl, HB.out⟩
  ·have hr := BAD.out (by omega)
   clear OK BAD
   subst hr
   go_wp2
   go_ret
   exact ⟨rfl, HB.out⟩
 by_cases p1 : (nd : Int) > 0
 ·have hr := BAD.out (by omega)
  clear OK BAD
  subst hr
  go_wp2
  go_ret
  exact ⟨rfl, HB.out⟩
 by_cases p2 : (nk : Int) > 0
 ·have hr := BAD.out (by omega)
  clear OK BAD
  subst hr
  go_wp2
  go_ret
  exact ⟨rfl, HB.out⟩
 by_cases k4 : k = 4
 ·subst k4
  have hr := OK.out (by omega)
  rw [if_neg (by decide), if_neg (by decide), if_neg (by decide), if_pos rfl] at hr
  have HR := zb.mk hr
  clear OK BAD hr
  go_wp2_with (refine (zy _ _ _ _ _ HR.out).mono ?_; rintro e w' ⟨rfl, rfl⟩)
  go_ret
  exact ⟨rfl, HB.out⟩
 by_cases p3 : rg = 0
 ·have hr := OK.out (by omega)
  rw [if_neg k1, if_neg k2, if_neg k4] at hr
  by_cases k3 : k = 3
  ·rw [if_pos k3] at hr
   subst k3 hr
   clear OK BAD
   go_wp2
   go_ret
   exact ⟨rfl, HB.out⟩
  ·rw [if_neg k3] at hr
   subst hr
   clear OK BAD
   go_wp2
   go_ret
   exact ⟨rfl, HB.out⟩
 ·have e4 : (k != 4) = true := by simp [k4]
  have q3 : (rg != 0) = true := by simp [p3]
  have hr := BAD.out (by omega)
  clear OK BAD
  subst hr
  go_wp2
  go_ret
  exact ⟨rfl, HB.out⟩
end Go.Proofs.Ytppapibjbjmmbaa.QSY
set_option linter.unusedVariables false
set_option linter.unusedSimpArgs false
namespace Go.Proofs.Ytppapibjbjmmbaa.QSY
open Go.RowKit Go.Proofs.YtppapibjbjmmbaaW.PrintWords Go.Proofs.YtppapibjbjmmbaaW.PrintLast Go.Proofs.YtppapibjbjmmbaaW.PrintMore
def bd (Bs : List (List zO)) (i : Int) : List zO := Bs.getD i.toNat []
theorem at_B {w : World} {A : Option Addr} {n : Nat} {xs : List (List zO)} (h : Kd.C (Kd.slice 110 xK) w A n xs) (i : Int) (h0 : 0 ≤ i) (h1 : i < n) : ∃ ad A0 c0, A = some ad ∧ w.cell? (ad.add i.toNat) = some (.slice A0 (bd xs i).length c0) ∧ (bd xs i).length ≤ c0 ∧ xK.C w A0 (bd xs i).length (bd xs i) := by
 obtain ⟨ad, c, e, _, hK, hc0⟩ := Kd.C_get h ([] : List zO) i h0 h1
 have hc : ∀ j u, c[j]? = some u → w.cell? (ad.add (i.toNat * 1 + j)) = some u := hc0
 obtain ⟨A0, c0, rfl, l0, g0⟩ := hK
 exact ⟨ad, A0, c0, e, by have hq := hc 0 _ rfl; rwa [Nat.mul_one, Nat.add_zero] at hq, l0, g0⟩
def rowF (nC nB : Nat) (i : Nat) (l : List zO) : Bool := decide (l.length ≤ 4) && l.all (fun a => lactF a i nB nC)
def rowsF (nC nB : Nat) : Nat → List (List zO) → Bool
 | _, [] => true
 | i, l :: t => rowF nC nB i l && rowsF nC nB (i + 1) t
def formF (Cs : List Int) (Bs : List (List zO)) : Bool :=
 if 3 < Cs.length ∨ inB Bs.length 1 4 = false then false else Cs.all (fun x => inB x 0 99) && rowsF Cs.length Bs.length 0 Bs
theorem rowsF_at {nC nB : Nat} : ∀ (l : List (List zO)) (j i : Nat), i < l.length → rowF nC nB (j + i) (l.getD i []) = false → rowsF nC nB j l = false
 | [], _, _, h, _ => absurd h (by simp)
 | x :: l, j, 0, _, e => by unfold rowsF; rw [show rowF nC nB j x = false from e]; rfl
 | x :: l, j, i + 1, h, e => by
  unfold rowsF
  rw [rowsF_at l (j + 1) i (by simpa using h) (by rw [show j + 1 + i = j + (i + 1) by omega]; exact e), Bool.and_false]
theorem rowsF_all {nC nB : Nat} : ∀ (l : List (List zO)) (j : Nat), (∀ i, i < l.length → rowF nC nB (j + i) (l.getD i []) = true) → rowsF nC nB j l = true
 | [], _, _ => rfl
 | x :: l, j, h => by
  unfold rowsF
  rw [show rowF nC nB j x = true from h 0 (by simp), rowsF_all l (j + 1) (fun i hi => by rw [show j + 1 + i = j + (i + 1) by omega]; exact h (i + 1) (by simpa using hi))]; rfl
set_option maxHeartbeats 4000000 in
set_option maxRecDepth 100000 in
theorem form_calls (A0 : Option Addr) (Cs : List Int) (c0 : Nat) (A1 : Option Addr) (Bs : List (List zO)) (c1 : Nat) (r : Bool) (w : World) (h0 : Kd.C (Kd.int .i64) w A0 Cs.length Cs) (h1 : Kd.C (Kd.slice 110 xK) w A1 Bs.length Bs) (h : formF Cs Bs = r) :
  Calls Try.prog 88 #[.agg #[.slice A0 Cs.length c0, .slice A1 Bs.length c1]] w fun e w' => e = .returned (.bool r) ∧ Below w.heap.size w w' := by
 have H0 := zb.mk h0
 have H1 := zb.mk h1
 have M0 := zb.mk h0.2.1
 have M1 := zb.mk h1.2.1
 have HH := zb.mk h
 clear h0 h1 h
 obtain ⟨n0, hn0⟩ : ∃ n, n = Cs.length := ⟨_, rfl⟩
 obtain ⟨n1, hn1⟩ : ∃ n, n = Bs.length := ⟨_, rfl⟩
 have HN0 := zb.mk hn0
 have HN1 := zb.mk hn1
 unfold formF at HH
 rw [← hn0, ← hn1] at HH ⊢
 rw [← hn0] at H0 M0
 rw [← hn1] at H1 M1
 clear hn0 hn1
 obtain ⟨W, hW⟩ : ∃ W, W = w.alloc (.cells #[.slice A0 n0 c0, .slice A1 n1 c1] 37) := ⟨_, rfl⟩
 have HB := zb.mk (show Below w.heap.size w W by rw [hW]; exact zc (Below.refl _ _) _)
 have E0 := zb.mk (show W.heap[w.heap.size]? = some (.cells #[.slice A0 n0 c0, .slice A1 n1 c1] 37 (0, 0)) by rw [hW]; exact heap_alloc_new _ _)
 go_enter Try.func88, Try.ntmps88
 go_upto_region 1 with (fail)
 rw [← hW]
 clear hW
 have y0 := (zd E0.out 0).trans rfl
 have y1 := (zd E0.out 1).trans rfl
 by_cases p0 : (n0 : Int) > 3
 ·have hr := HH.out
  rw [if_pos (.inl (by omega))] at hr
  subst hr
  clear HH
  go_wp2
  go_ret
  exact ⟨rfl, HB.out⟩
 obtain ⟨b1, hb1⟩ : ∃ b, inB n1 1 4 = b := ⟨_, rfl⟩
 have HB1 := zb.mk hb1
 rw [hb1] at HH
 clear hb1
 cases b1
 ·have hr := HH.out
  rw [if_pos (.inr rfl)] at hr
  subst hr
  clear HH
  go_wp2_with (refine (zy _ _ _ _ _ HB1.out).mono ?_; rintro e w' ⟨rfl, rfl⟩)
  go_ret
  exact ⟨rfl, HB.out⟩
 have HR := zb.mk (show (Cs.all (fun x => inB x 0 99) && rowsF n0 n1 0 Bs) = r from by
  have hr := HH.out
  rwa [if_neg (by simp; omega)] at hr)
 clear HH
 go_upto_region 3 with (refine (zy _ _ _ _ _ HB1.out).mono ?_; rintro e w' ⟨rfl, rfl⟩)
 go_wp2
 go_loop [3] (fun v3 => ∃ (i : Nat), v3 = .int .i64 i ∧ zb (i ≤ Cs.length ∧ (Cs.take i).all (fun x => inB x 0 99) = true)) (fun v3 => Cs.length - (intOf v3).toNat)
 case atStart => exact ⟨0, rfl, ⟨Nat.zero_le _, rfl⟩⟩
 case round =>
  obtain ⟨i, rfl, hi⟩ := hrel
  by_cases hlt : (i : Int) < (n0 : Int)
  ·have hl2 : i < Cs.length := by rw [← HN0.out]; omega
   have HL := zb.mk hl2
   obtain ⟨ad, rfl, z0⟩ := at_li H0.out i (by omega)
   have z0 := za HB.out z0
   obtain ⟨q, hq⟩ : ∃ q, inB (Cs.getD i 0) 0 99 = q := ⟨_, rfl⟩
   have HQ := zb.mk hq
   have en : wrap64 ((i : Int) + 1) = ((i + 1 : Nat) : Int) := yx (n := n0) (by omega) M0.out
   clear hq hl2
   cases q
   ·skip
    go_wp2_with (refine (zy _ _ _ _ _ HQ.out).mono ?_; rintro e w' ⟨rfl, rfl⟩)
    go_ret
    refine ⟨?_, HB.out⟩
    rw [← HR.out, all_not 0 HL.out (p := fun x => inB x 0 99) HQ.out]; rfl
   ·skip
    go_wp2_with (refine (zy _ _ _ _ _ HQ.out).mono ?_; rintro e w' ⟨rfl, rfl⟩)
    go_round
    case rel => exact ⟨i + 1, by first | rw [en] | rfl | simp, ⟨HL.out, all_more 0 HL.out hi.out.2 HQ.out⟩⟩
    case measure => (try rw [en]); have := HL.out; simp [intOf]; omega
  ·have HE := zb.mk (all_end (by rw [← HN0.out]; omega) hi.out.2)
   have HR2 := zb.mk (show rowsF n0 n1 0 Bs = r by rw [← HR.out, HE.out]; rfl)
   clear HR HE hi
   have cN : ¬ (n1 : Int) < 0 := by omega
   go_upto_region 8 with (fail)
   go_wp2
   go_loopw [4] (fun v4 wr => ∃ (i : Nat), v4 = .int .i64 i ∧ zb (i ≤ Bs.length ∧ ∀ j, j < i → rowF n0 n1 j (Bs.getD j []) = true) ∧ zb (Below W.heap.size W wr)) (fun v4 _ => Bs.length - (intOf v4).toNat)
   case atStart => exact ⟨0, rfl, ⟨Nat.zero_le _, fun j hj => absurd hj (by omega)⟩, ⟨Below.refl _ _⟩⟩
   case round =>
    obtain ⟨i, rfl, hi, hbl⟩ := hrel
    have HBL := hbl
    obtain ⟨V, hV⟩ : ∃ V, V = wr := ⟨_, rfl⟩
    rw [← hV] at HBL ⊢
    clear hV hbl
    have y0 := za HBL.out y0
    have y1 := za HBL.out y1
    have HBW := zb.mk (zi HB.out HBL.out)
    by_cases hlt : (i : Int) < (n1 : Int)
    ·have hl2 : i < Bs.length := by rw [← HN1.out]; omega
     have HL := zb.mk hl2
     obtain ⟨ad, A2, c2, rfl, z0, l2, C2⟩ := at_B H1.out (i : Int) (by omega) hlt
     rw [Int.toNat_natCast] at z0
     have en : wrap64 ((i : Int) + 1) = ((i + 1 : Nat) : Int) := yx (n := n1) (by omega) M1.out
     obtain ⟨la, hla⟩ : ∃ l, l = bd Bs (i : Int) := ⟨_, rfl⟩
     have HLA := zb.mk (show Bs.getD i [] = la by rw [hla]; unfold bd; rw [Int.toNat_natCast])
     rw [← hla] at z0 l2 C2
     obtain ⟨nl, hnl⟩ : ∃ n, n = la.length := ⟨_, rfl⟩
     have HNL := zb.mk hnl
     rw [← hnl] at z0 C2
     have HC2 := zb.mk C2
     have Z0 := zb.mk z0
     have z0 := za HBW.out z0
     clear hla hnl l2 C2 hl2
     by_cases h4 : (nl : Int) > 4
     ·have hf : rowF n0 n1 (0 + i) (Bs.getD i []) = false := by
       rw [HLA.out]; unfold rowF
       rw [decide_eq_false (by rw [← HNL.out]; omega)]; rfl
      have HF := zb.mk (rowsF_at Bs 0 i HL.out hf)
      clear hf
      go_wp2
      go_ret
      refine ⟨?_, HBW.out⟩
      rw [← HR2.out, HF.out]; rfl
     ·go_upto_region 13 with (fail)
      go_wp2
      go_loopw [5] (fun v5 wr => ∃ (k : Nat), v5 = .int .i64 k ∧ zb (k ≤ la.length ∧ (la.take k).all (fun a => lactF a i n1 n0) = true) ∧ zb (Below W.heap.size W wr)) (fun v5 _ => la.length - (intOf v5).toNat)
      case atStart => exact ⟨0, rfl, ⟨Nat.zero_le _, rfl⟩, HBL⟩
      case round =>
       obtain ⟨k, rfl, hk, hbl⟩ := hrel
       have HBM := hbl
       obtain ⟨U, hU⟩ : ∃ V, V = wr := ⟨_, rfl⟩
       rw [← hU] at HBM ⊢
       clear hU hbl y0 y1 z0
       have HBV := zb.mk (zi HB.out HBM.out)
       have y0 := za HBM.out ((zd E0.out 0).trans rfl)
       have y1 := za HBM.out ((zd E0.out 1).trans rfl)
       have z0 := za HBV.out Z0.out
       by_cases hkt : (k : Int) < (nl : Int)
       ·have HKL := zb.mk (show k < la.length by rw [← HNL.out]; omega)
        obtain ⟨ad2, B1, d1, B2, d2, rfl, q0, q1, q2, q3, m1, D1, m2, D2⟩ := at_T110 HC2.out (k : Int) (by omega) hkt
        have q0 := za HBV.out q0
        have q1 := za HBV.out q1
        have q2 := za HBV.out q2
        have q3 := za HBV.out q3
        obtain ⟨aa, haa⟩ : ∃ a, a = yB la (k : Int) := ⟨_, rfl⟩
        have HAA := zb.mk (show la.getD k z110 = aa by rw [haa]; unfold yB; rw [Int.toNat_natCast])
        rw [← haa] at q0 q1 q2 q3 m1 D1 m2 D2
        rw [Int.toNat_natCast] at q0 q1 q2 q3
        have HD1 := zb.mk (Kd.zt D1 HBV.out)
        have HD2 := zb.mk (Kd.zt D2 HBV.out)
        obtain ⟨q, hq⟩ : ∃ q, lactF aa i n1 n0 = q := ⟨_, rfl⟩
        have HQ := zb.mk hq
        have ek : wrap64 ((k : Int) + 1) = ((k + 1 : Nat) : Int) := yx (n := nl) (by omega) (by omega)
        clear haa hq m1 D1 m2 D2
        have HS := zb.mk (show ∀ w', Below U.heap.size U w' → w'.cell? ⟨w.heap.size, 0, none⟩ = some (.slice A0 n0 c0) ∧ w'.cell? ⟨w.heap.size, 1, none⟩ = some (.slice (some ad) n1 c1) ∧ w'.cell? (ad.add i) = some (.slice (some ad2) nl c2) ∧ w'.cell? (ad2.add (k * 4)) = some (.int .i64 aa.f0) ∧ w'.cell? ⟨(ad2.add (k * 4)).block, (ad2.add (k * 4)).off + 1, none⟩ = some (.slice B1 aa.f1.length d1) ∧ w'.cell? ⟨(ad2.add (k * 4)).block, (ad2.add (k * 4)).off + 2, none⟩ = some (.slice B2 aa.f2.length d2) ∧ w'.cell? ⟨(ad2.add (k * 4)).block, (ad2.add (k * 4)).off + 3, none⟩ = some (.int .i64 aa.f3) from fun w' hb => ⟨za hb y0, za hb y1, za hb z0, za hb q0, za hb q1, za hb q2, za hb q3⟩)
        go_upto_region 16 with (fail)
        go_region_held3 (fun w' => w'.cell? ⟨w.heap.size, 0, none⟩ = some (.slice A0 n0 c0) ∧ w'.cell? ⟨w.heap.size, 1, none⟩ = some (.slice (some ad) n1 c1) ∧ w'.cell? (ad.add i) = some (.slice (some ad2) nl c2) ∧ w'.cell? (ad2.add (k * 4)) = some (.int .i64 aa.f0) ∧ w'.cell? ⟨(ad2.add (k * 4)).block, (ad2.add (k * 4)).off + 1, none⟩ = some (.slice B1 aa.f1.length d1) ∧ w'.cell? ⟨(ad2.add (k * 4)).block, (ad2.add (k * 4)).off + 2, none⟩ = some (.slice B2 aa.f2.length d2) ∧ w'.cell? ⟨(ad2.add (k * 4)).block, (ad2.add (k * 4)).off + 3, none⟩ = some (.int .i64 aa.f3)) (first | exact HS.out _ (ze (Below.refl _ _)) | exact HS.out _ (zi (ze (Below.refl _ _)) (by assumption))) (first | (go_at_call 111; refine (lact_calls _ _ _ _ _ _ _ aa _ _ _ _ q _ (Kd.zt HD1.out (ze (Below.refl _ _))) (Kd.zt HD2.out (ze (Below.refl _ _))) HQ.out).mono ?_; rintro e wz ⟨rfl, hb⟩))
        have HBZ := zb.mk (zi (ze (Below.refl _ _)) hb)
        cases q
        ·skip
         have hf : rowF n0 n1 (0 + i) (Bs.getD i []) = false := by
          rw [HLA.out, Nat.zero_add]; unfold rowF
          rw [all_not z110 HKL.out (p := fun a => lactF a i n1 n0) (by rw [HAA.out]; exact HQ.out), Bool.and_false]
         have HF := zb.mk (rowsF_at Bs 0 i HL.out hf)
         clear hf
         go_wp2
         go_ret
         refine ⟨?_, zi HBV.out HBZ.out⟩
         rw [← HR2.out, HF.out]; rfl
        ·skip
         go_wp2
         go_roundw
         case rel => exact ⟨k + 1, by first | rw [ek] | rfl | simp, ⟨HKL.out, all_more z110 HKL.out hk.out.2 (by rw [HAA.out]; exact HQ.out)⟩, ⟨zi HBM.out HBZ.out⟩⟩
         case measure => (try rw [ek]); have := HKL.out; simp [intOf]; omega
       ·have HE2 := zb.mk (all_end (by rw [← HNL.out]; omega) hk.out.2)
        have HF := zb.mk (show rowF n0 n1 i (Bs.getD i []) = true by
         rw [HLA.out]; unfold rowF
         rw [HE2.out, decide_eq_true (by rw [← HNL.out]; omega)]; rfl)
        go_wp2
        go_roundw
        case rel => exact ⟨i + 1, by first | rw [en] | rfl | simp, ⟨HL.out, fun j hj => by
         by_cases e : j = i
         ·subst e; exact HF.out
         ·exact hi.out.2 j (by omega)⟩, HBM⟩
        case measure => (try rw [en]); have := HL.out; simp [intOf]; omega
    ·have HE2 := zb.mk (show r = true by
      rw [← HR2.out]
      refine rowsF_all Bs 0 (fun j hj => ?_)
      rw [Nat.zero_add]
      exact hi.out.2 j (by rw [← HN1.out] at hj; omega))
     go_wp2
     go_ret
     exact ⟨by rw [HE2.out]; rfl, HBW.out⟩
end Go.Proofs.Ytppapibjbjmmbaa.QSY
set_option linter.unusedVariables false
set_option linter.unusedSimpArgs false
namespace Go.Proofs.Ytppapibjbjmmbaa.QSY
open Go.RowKit Go.Proofs.YtppapibjbjmmbaaW.PrintWords Go.Proofs.YtppapibjbjmmbaaW.PrintLast Go.Proofs.YtppapibjbjmmbaaW.PrintMore
theorem yd {W : World} {o : Obj} {b : Nat} (h : W.heap.size = b) : (W.alloc o).heap[b]? = some o := by subst h; exact heap_alloc_new W o
def act12F (Bs : List (List zO)) (T : List S43) (k : Int) (t : S43) : Bool :=
 if t.f4 = 0 then (if t.f5 = 0 then true else if t.f1 < (bd Bs t.f0).length then (if (yB (bd Bs t.f0) t.f1).f0 = 1 then atF t.f5 t.f6 t.f9.length t.f10.length ((yB (bd Bs t.f0) t.f1).f1.length : Int) else false) else false)
 else if t.f4 = 1 then (if t.f1 < (bd Bs t.f0).length then (if (yB (bd Bs t.f0) t.f1).f0 = 2 then decide (((yB (bd Bs t.f0) t.f1).f2.length : Int) ≤ (yG T k 0 : Int) + yG T k 1 + yG T k 2 + yG T k 3) else false) else false)
 else if t.f4 = 2 then t.f1 == (bd Bs t.f0).length else true
set_option maxHeartbeats 4000000 in
set_option maxRecDepth 100000 in
theorem act12_calls (A0 : Option Addr) (n0 c0 : Nat) (A1 : Option Addr) (c1 : Nat) (Bs : List (List zO)) (AC : Option Addr) (nC cC : Nat) (AT : Option Addr) (cT : Nat) (T : List S43) (clk : Int) (AL : Option Addr) (nL cL : Nat) (k : Int) (r : Bool) (w : World)
  (hP : Kd.C (Kd.slice 110 xK) w A1 Bs.length Bs) (hST : Kd.C k43 w AT T.length T) (hcT : T.length ≤ cT) (h0 : 0 ≤ k) (h1 : k < T.length) (hlen : T.length ≤ 2500) (b0 : 0 ≤ (zF T k).f0) (b1 : (zF T k).f0 < Bs.length) (pc0 : 0 ≤ (zF T k).f1)
  (m9 : (zF T k).f9.length ≤ 1000000) (m10 : (zF T k).f10.length ≤ 1000000) (h : act12F Bs T k (zF T k) = r) :
  Calls Try.prog 94 #[.agg #[.slice A0 n0 c0, .slice A1 Bs.length c1], .agg #[.slice AC nC cC, .slice AT T.length cT, .int .i64 clk, .slice AL nL cL], .int .i64 k] w fun e w' => e = .returned (.bool r) ∧ Below w.heap.size w w' := by
 have HT := zb.mk hlen
 have HST := zb.mk hST
 have HCT := zb.mk hcT
 have hu := Try.underlying43
 have huw := Try.underlying134
 obtain ⟨ad, A3, c3, A8, c8, A9, c9, A10, c10, rfl, z0, z1, z2, z3, z4, z5, z6, z7, z8, z9, z10, z11, z12, l3, g3, l8, g8, l9, g9, l10, g10⟩ := at_T43 HST.out k h0 h1
 obtain ⟨adB, A2, c2, rfl, y1, yl, yC⟩ := at_B hP (zF T k).f0 b0 b1
 obtain ⟨t, ht⟩ : ∃ t, t = zF T k := ⟨_, rfl⟩
 rw [← ht] at z0 z1 z2 z3 z4 z5 z6 z7 z8 z9 z10 z11 z12 l3 g3 l8 g8 l9 g9 l10 g10 y1 yl yC h b0 b1 pc0 m9 m10
 have M9 := zb.mk m9
 have M10 := zb.mk m10
 have G3 := zb.mk (And.intro g3 l3)
 have G8 := zb.mk (And.intro g8 l8)
 have G9 := zb.mk (And.intro g9 l9)
 have G10 := zb.mk (And.intro g10 l10)
 have YC := zb.mk (And.intro yC yl)
 have p1 : k < (T.length : Int) := h1
 have HA := zb.mk h
 obtain ⟨Post, hPost⟩ : ∃ P, P = fun (e : Ending) (w' : World) => e = .returned (.bool r) ∧ Below w.heap.size w w' := ⟨_, rfl⟩
 have HP := zb.mk (show ∀ e w', Post e w' ↔ (e = .returned (.bool r) ∧ Below w.heap.size w w') from fun _ _ => by rw [hPost])
 rw [← hPost]
 have HPC0 := zb.mk pc0
 clear h h1 hP hPost ht l3 g3 l8 g8 l9 g9 l10 g10 yl yC pc0 m9 m10 hlen
 go_enter Try.func94, Try.ntmps94
 go_upto_region 1 with (fail)
 obtain ⟨V, hV⟩ : ∃ W, W = (w.alloc (.cells #[.slice A0 n0 c0, .slice (some adB) Bs.length c1] 37)).alloc (.cells #[.slice AC nC cC, .slice (some ad) T.length cT, .int .i64 clk, .slice AL nL cL] 27) := ⟨_, rfl⟩
 have HBV := zb.mk (show Below w.heap.size w V by rw [hV]; exact zc (zc (Below.refl _ _) _) _)
 have VSZ := zb.mk (show V.heap.size = w.heap.size + 2 by rw [hV]; simp)
 have HXP := zb.mk (show V.heap[w.heap.size]? = some (.cells #[.slice A0 n0 c0, .slice (some adB) Bs.length c1] 37 (0, 0)) by rw [hV]; exact zm (yd rfl) _)
 have HXS := zb.mk (show V.heap[w.heap.size + 1]? = some (.cells #[.slice AC nC cC, .slice (some ad) T.length cT, .int .i64 clk, .slice AL nL cL] 27 (0, 0)) by rw [hV]; exact yd (by simp))
 rw [← hV]
 clear hV
 have s1 := (zd HXS.out 1).trans rfl
 have z0 := za HBV.out z0
 have z1 := za HBV.out z1
 have z2 := za HBV.out z2
 have z3 := za HBV.out z3
 have z4 := za HBV.out z4
 have z5 := za HBV.out z5
 have z6 := za HBV.out z6
 have z7 := za HBV.out z7
 have z8 := za HBV.out z8
 have z9 := za HBV.out z9
 have z10 := za HBV.out z10
 have z11 := za HBV.out z11
 have z12 := za HBV.out z12
 have vsz := VSZ.out
 go_upto_region 2 with (fail)
 (try rw [vsz])
 obtain ⟨V2, hV2⟩ : ∃ W, W = V.alloc (.cells #[.int .i64 t.f0, .int .i64 t.f1, .int .i64 t.f2, .slice A3 t.f3.length c3, .int .i64 t.f4, .int .i64 t.f5, .int .i64 t.f6, .int .i64 t.f7, .slice A8 t.f8.length c8, .slice A9 t.f9.length c9, .slice A10 t.f10.length c10, .int .i64 t.f11, .int .i64 t.f12] 43) := ⟨_, rfl⟩
 have HBV2 := zb.mk (show Below w.heap.size w V2 by rw [hV2]; exact zc HBV.out _)
 have HBX := zb.mk (show V2.heap[w.heap.size + 2]? = some (.cells #[.int .i64 t.f0, .int .i64 t.f1, .int .i64 t.f2, .slice A3 t.f3.length c3, .int .i64 t.f4, .int .i64 t.f5, .int .i64 t.f6, .int .i64 t.f7, .slice A8 t.f8.length c8, .slice A9 t.f9.length c9, .slice A10 t.f10.length c10, .int .i64 t.f11, .int .i64 t.f12] 43 (0, 0)) by rw [hV2, ← VSZ.out]; exact heap_alloc_new _ _)
 have HXP := zb.mk (show V2.heap[w.heap.size]? = _ from (by rw [hV2]; exact zm HXP.out _ : V2.heap[w.heap.size]? = some (.cells #[.slice A0 n0 c0, .slice (some adB) Bs.length c1] 37 (0, 0))))
 have HXS := zb.mk (show V2.heap[w.heap.size + 1]? = some (.cells #[.slice AC nC cC, .slice (some ad) T.length cT, .int .i64 clk, .slice AL nL cL] 27 (0, 0)) by rw [hV2]; exact zm HXS.out _)
 rw [← hV2]
 clear hV2 s1 z0 z1 z2 z3 z4 z5 z6 z7 z8 z9 z10 z11 z12 vsz
 have pp0 := (zd HXP.out 0).trans rfl
 have pp1 := (zd HXP.out 1).trans rfl
 have s0 := (zd HXS.out 0).trans rfl
 have s1 := (zd HXS.out 1).trans rfl
 have s2 := (zd HXS.out 2).trans rfl
 have s3 := (zd HXS.out 3).trans rfl
 have x0 := (zd HBX.out 0).trans rfl
 have x1 := (zd HBX.out 1).trans rfl
 have x4 := (zd HBX.out 4).trans rfl
 have x5 := (zd HBX.out 5).trans rfl
 have y1 := za HBV2.out y1
 go_upto_region 4 with (fail)
 obtain ⟨V3, hV3⟩ : ∃ W, W = V2.alloc (.cells #[.slice A0 n0 c0, .slice (some adB) Bs.length c1, .slice AC nC cC, .slice (some ad) T.length cT, .int .i64 clk, .slice AL nL cL] 134) := ⟨_, rfl⟩
 have HBV3 := zb.mk (show Below w.heap.size w V3 by rw [hV3]; exact zc HBV2.out _)
 have HBX3 := zb.mk (show V3.heap[w.heap.size + 2]? = some (.cells #[.int .i64 t.f0, .int .i64 t.f1, .int .i64 t.f2, .slice A3 t.f3.length c3, .int .i64 t.f4, .int .i64 t.f5, .int .i64 t.f6, .int .i64 t.f7, .slice A8 t.f8.length c8, .slice A9 t.f9.length c9, .slice A10 t.f10.length c10, .int .i64 t.f11, .int .i64 t.f12] 43 (0, 0)) by rw [hV3]; exact zm HBX.out _)
 have HBW3 := zb.mk (show V3.heap[V2.heap.size]? = some (.cells #[.slice A0 n0 c0, .slice (some adB) Bs.length c1, .slice AC nC cC, .slice (some ad) T.length cT, .int .i64 clk, .slice AL nL cL] 134 (0, 0)) by rw [hV3]; exact heap_alloc_new _ _)
 rw [← hV3]
 clear hV3 x0 x1 x4 x5 pp0 pp1 s0 s1 s2 s3 y1
 obtain ⟨g, hg⟩ : ∃ b, b = V2.heap.size := ⟨_, rfl⟩
 rw [← hg] at HBW3 ⊢
 clear hg
 have HLK := zb.mk (show Look V3 g T clk from ⟨_, _, _, _, some ad, cT, HBW3.out, Kd.zt HST.out HBV3.out, HCT.out⟩)
 have x1 := (zd HBX3.out 1).trans rfl
 have x4 := (zd HBX3.out 4).trans rfl
 have x5 := (zd HBX3.out 5).trans rfl
 obtain ⟨bx, hbx⟩ : ∃ b, b = w.heap.size + 2 := ⟨_, rfl⟩
 rw [← hbx] at HBX3 x1 x4 x5 ⊢
 clear hbx
 obtain ⟨way, hway⟩ : ∃ x, x = t.f4 := ⟨_, rfl⟩
 rw [← hway] at x4
 have HWY := zb.mk hway
 clear hway
 by_cases q0 : way = 0
 ·have hA1 := HA.out
  unfold act12F at hA1
  rw [← HWY.out, if_pos q0] at hA1
  subst q0
  obtain ⟨st, hst⟩ : ∃ x, x = t.f5 := ⟨_, rfl⟩
  rw [← hst] at x5 hA1
  have HST := zb.mk hst
  clear hst
  by_cases r0 : st = 0
  ·rw [if_pos r0] at hA1
   have HR := zb.mk hA1
   have cs : (st == 0) = true := by simp [r0]
   clear r0 hA1
   go_upto_region 6 with (fail)
   go_quiet (fail)
   go_wp2
   rw [HP.out]
   exact ⟨by rw [← HR.out]; rfl, by first | exact zj HBV3.out _ | exact HBV3.out⟩
  ·rw [if_neg r0] at hA1
   have cs : (st == 0) = false := by simp [r0]
   obtain ⟨pc, hpc⟩ : ∃ x, x = t.f1 := ⟨_, rfl⟩
   have pc0 : 0 ≤ pc := by rw [hpc]; exact HPC0.out
   by_cases lt : t.f1 < ((bd Bs t.f0).length : Int)
   ·rw [if_pos lt] at hA1
    have pc1 : pc < ((bd Bs t.f0).length : Int) := by rw [hpc]; exact lt
    have cpc : decide (pc < ((bd Bs t.f0).length : Int)) = true := decide_eq_true pc1
    obtain ⟨adA, B1, d1, B2, d2, rfl, zz0, zz1, zz2, zz3, l1, C1, l2, C2⟩ := at_T110 YC.out.1 t.f1 HPC0.out lt
    obtain ⟨aa, haa⟩ : ∃ a, a = yB (bd Bs t.f0) t.f1 := ⟨_, rfl⟩
    rw [← haa] at zz0 zz1 zz2 zz3 l1 C1 l2 C2 hA1
    rw [← hpc] at zz0 zz1 zz2 zz3 x1
    have zz0 := za HBV3.out zz0
    have zz1 := za HBV3.out zz1
    have HPCX := zb.mk hpc
    have R0 := zb.mk r0
    clear r0 haa zz2 zz3 l1 C1 l2 C2 hpc lt
    by_cases hk : aa.f0 = 1
    ·rw [if_pos hk] at hA1
     rw [hk] at zz0
     obtain ⟨rr, hrr⟩ : ∃ x, x = r := ⟨_, rfl⟩
     rw [← hrr] at hA1
     have HRR := zb.mk hA1
     have HRX := zb.mk hrr
     clear hA1 hrr hk
     have x0 := (zd HBX3.out 0).trans rfl
     have x2 := (zd HBX3.out 2).trans rfl
     have x3 := (zd HBX3.out 3).trans rfl
     have x6 := (zd HBX3.out 6).trans rfl
     have x7 := (zd HBX3.out 7).trans rfl
     have x8 := (zd HBX3.out 8).trans rfl
     have x9 := (zd HBX3.out 9).trans rfl
     have x10 := (zd HBX3.out 10).trans rfl
     have x11 := (zd HBX3.out 11).trans rfl
     have x12 := (zd HBX3.out 12).trans rfl
     have HS := zb.mk (show ∀ w', Below V3.heap.size V3 w' → w'.cell? ⟨bx, 0, none⟩ = some (.int .i64 t.f0) ∧ w'.cell? ⟨bx, 1, none⟩ = some (.int .i64 pc) ∧ w'.cell? ⟨bx, 2, none⟩ = some (.int .i64 t.f2) ∧ w'.cell? ⟨bx, 3, none⟩ = some (.slice A3 t.f3.length c3) ∧ w'.cell? ⟨bx, 4, none⟩ = some (.int .i64 0) ∧ w'.cell? ⟨bx, 5, none⟩ = some (.int .i64 st) ∧ w'.cell? ⟨bx, 6, none⟩ = some (.int .i64 t.f6) ∧ w'.cell? ⟨bx, 7, none⟩ = some (.int .i64 t.f7) ∧ w'.cell? ⟨bx, 8, none⟩ = some (.slice A8 t.f8.length c8) ∧ w'.cell? ⟨bx, 9, none⟩ = some (.slice A9 t.f9.length c9) ∧ w'.cell? ⟨bx, 10, none⟩ = some (.slice A10 t.f10.length c10) ∧ w'.cell? ⟨bx, 11, none⟩ = some (.int .i64 t.f11) ∧ w'.cell? ⟨bx, 12, none⟩ = some (.int .i64 t.f12) ∧ w'.cell? (adA.add (pc.toNat * 4)) = some (.int .i64 1) ∧ w'.cell? ⟨(adA.add (pc.toNat * 4)).block, (adA.add (pc.toNat * 4)).off + 1, none⟩ = some (.slice B1 aa.f1.length d1) from fun w' hb => ⟨za hb x0, za hb x1, za hb x2, za hb x3, za hb x4, za hb x5, za hb x6, za hb x7, za hb x8, za hb x9, za hb x10, za hb x11, za hb x12, za hb zz0, za hb zz1⟩)
     go_upto_region 6 with (fail)
     go_region_held3 (fun w' => w'.cell? ⟨bx, 0, none⟩ = some (.int .i64 t.f0) ∧ w'.cell? ⟨bx, 1, none⟩ = some (.int .i64 pc) ∧ w'.cell? ⟨bx, 2, none⟩ = some (.int .i64 t.f2) ∧ w'.cell? ⟨bx, 3, none⟩ = some (.slice A3 t.f3.length c3) ∧ w'.cell? ⟨bx, 4, none⟩ = some (.int .i64 0) ∧ w'.cell? ⟨bx, 5, none⟩ = some (.int .i64 st) ∧ w'.cell? ⟨bx, 6, none⟩ = some (.int .i64 t.f6) ∧ w'.cell? ⟨bx, 7, none⟩ = some (.int .i64 t.f7) ∧ w'.cell? ⟨bx, 8, none⟩ = some (.slice A8 t.f8.length c8) ∧ w'.cell? ⟨bx, 9, none⟩ = some (.slice A9 t.f9.length c9) ∧ w'.cell? ⟨bx, 10, none⟩ = some (.slice A10 t.f10.length c10) ∧ w'.cell? ⟨bx, 11, none⟩ = some (.int .i64 t.f11) ∧ w'.cell? ⟨bx, 12, none⟩ = some (.int .i64 t.f12) ∧ w'.cell? (adA.add (pc.toNat * 4)) = some (.int .i64 1) ∧ w'.cell? ⟨(adA.add (pc.toNat * 4)).block, (adA.add (pc.toNat * 4)).off + 1, none⟩ = some (.slice B1 aa.f1.length d1)) (first | exact HS.out _ (ze (Below.refl _ _)) | exact HS.out _ (zi (ze (Below.refl _ _)) (by assumption))) (first | (go_at_call 112; refine (at_calls t.f0 pc t.f2 A3 _ c3 0 st t.f6 t.f7 A8 _ c8 A9 _ c9 A10 _ c10 t.f11 t.f12 (aa.f1.length : Int) rr _ M9.out M10.out HRR.out).mono ?_; rintro e wz ⟨rfl, hb⟩))
     go_wp2
     rw [HP.out]
     exact ⟨by rw [← HRX.out]; rfl, zi HBV3.out (zi (ze (Below.refl _ _)) hb)⟩
    ·rw [if_neg hk] at hA1
     have HR := zb.mk hA1
     have ck : (aa.f0 == 1) = false := by simp [hk]
     clear hA1 hk
     go_upto_region 6 with (fail)
     go_quiet (fail)
     go_wp2
     rw [HP.out]
     exact ⟨by rw [← HR.out]; rfl, by first | exact zj HBV3.out _ | exact HBV3.out⟩
   ·rw [if_neg lt] at hA1
    have HR := zb.mk hA1
    rw [← hpc] at x1
    have cpc : decide (pc < ((bd Bs t.f0).length : Int)) = false := decide_eq_false (by rw [hpc]; exact lt)
    clear lt hA1 hpc r0
    go_upto_region 6 with (fail)
    go_quiet (fail)
    go_wp2
    rw [HP.out]
    exact ⟨by rw [← HR.out]; rfl, by first | exact zj HBV3.out _ | exact HBV3.out⟩
 ·have hA1 := HA.out
  unfold act12F at hA1
  rw [← HWY.out, if_neg q0] at hA1
  have c0' : (way == 0) = false := by simp [q0]
  clear q0
  by_cases q1 : way = 1
  ·rw [if_pos q1] at hA1
   have c1' : (way == 1) = true := by simp [q1]
   clear q1
   go_wp2_with fail
   refine (xB k 0 HLK.out).mono ?_
   rintro e w1 ⟨rfl, rfl⟩
   have L0 := zb.mk (show yG T k 0 ≤ 2500 from Nat.le_trans List.countP_le_length HT.out)
   obtain ⟨n0', hn0⟩ : ∃ n, n = yG T k 0 := ⟨_, rfl⟩
   rw [← hn0] at hA1 L0 ⊢
   clear hn0
   go_wp2_with fail
   refine (xB k 1 HLK.out).mono ?_
   rintro e w1 ⟨rfl, rfl⟩
   have L1 := zb.mk (show yG T k 1 ≤ 2500 from Nat.le_trans List.countP_le_length HT.out)
   obtain ⟨n1', hn1⟩ : ∃ n, n = yG T k 1 := ⟨_, rfl⟩
   rw [← hn1] at hA1 L1 ⊢
   clear hn1
   go_wp2_with fail
   refine (xB k 2 HLK.out).mono ?_
   rintro e w1 ⟨rfl, rfl⟩
   have L2 := zb.mk (show yG T k 2 ≤ 2500 from Nat.le_trans List.countP_le_length HT.out)
   obtain ⟨n2', hn2⟩ : ∃ n, n = yG T k 2 := ⟨_, rfl⟩
   rw [← hn2] at hA1 L2 ⊢
   clear hn2
   go_wp2_with fail
   refine (xB k 3 HLK.out).mono ?_
   rintro e w1 ⟨rfl, rfl⟩
   have L3 := zb.mk (show yG T k 3 ≤ 2500 from Nat.le_trans List.countP_le_length HT.out)
   obtain ⟨n3', hn3⟩ : ∃ n, n = yG T k 3 := ⟨_, rfl⟩
   rw [← hn3] at hA1 L3 ⊢
   clear hn3
   have hw : wrap64 (wrap64 (wrap64 ((n0' : Int) + n1') + n2') + n3') = (n0' : Int) + n1' + n2' + n3' := by
    have l0 := L0.out
    have l1 := L1.out
    have l2 := L2.out
    have l3 := L3.out
    rw [yN (x := (n0' : Int) + n1') (by omega) (by omega), yN (x := (n0' : Int) + n1' + n2') (by omega) (by omega), yN (by omega) (by omega)]
   by_cases lt : t.f1 < ((bd Bs t.f0).length : Int)
   ·rw [if_pos lt] at hA1
    obtain ⟨adA, B1, d1, B2, d2, rfl, zz0, zz1, zz2, zz3, l1, C1, l2, C2⟩ := at_T110 YC.out.1 t.f1 HPC0.out lt
    have zz0 := za HBV3.out zz0
    have zz2 := za HBV3.out zz2
    have pc0 : 0 ≤ t.f1 := HPC0.out
    have pc1 : t.f1 < ((bd Bs t.f0).length : Int) := lt
    have cpc : decide (t.f1 < ((bd Bs t.f0).length : Int)) = true := decide_eq_true pc1
    clear zz1 zz3 l1 C1 l2 C2 lt
    obtain ⟨aa, haa⟩ : ∃ a, a = yB (bd Bs t.f0) t.f1 := ⟨_, rfl⟩
    rw [← haa] at zz0 zz2 hA1
    clear haa
    by_cases q2 : aa.f0 = 2
    ·rw [if_pos q2] at hA1
     have HR := zb.mk hA1
     have HW := zb.mk hw
     have ck : (aa.f0 == 2) = true := by simp [q2]
     clear q2 hA1 hw
     go_wp2
     (try refine bodyPost_ret (results_tmp rfl _ _ _) rfl ?_)
     rw [HP.out]
     exact ⟨by rw [← HR.out]; first | rfl | (rw [HW.out]; rfl), HBV3.out⟩
    ·rw [if_neg q2] at hA1
     have HR := zb.mk hA1
     have ck : (aa.f0 == 2) = false := by simp [q2]
     clear q2 hA1 hw
     go_wp2
     (try refine bodyPost_ret (results_tmp rfl _ _ _) rfl ?_)
     rw [HP.out]
     exact ⟨by rw [← HR.out]; rfl, HBV3.out⟩
   ·rw [if_neg lt] at hA1
    have HR := zb.mk hA1
    have cpc : decide (t.f1 < ((bd Bs t.f0).length : Int)) = false := decide_eq_false lt
    clear lt hA1 hw
    go_wp2
    (try refine bodyPost_ret (results_tmp rfl _ _ _) rfl ?_)
    rw [HP.out]
    exact ⟨by rw [← HR.out]; rfl, HBV3.out⟩
  ·rw [if_neg q1] at hA1
   have c1' : (way == 1) = false := by simp [q1]
   clear q1
   obtain ⟨pc, hpc⟩ : ∃ x, x = t.f1 := ⟨_, rfl⟩
   rw [← hpc] at x1 hA1
   clear hpc
   by_cases q2 : way = 2
   ·rw [if_pos q2] at hA1
    have HR := zb.mk hA1
    have c2' : (way == 2) = true := by simp [q2]
    clear q2 hA1
    go_wp2
    (try refine bodyPost_ret (results_tmp rfl _ _ _) rfl ?_)
    rw [HP.out]
    exact ⟨by rw [← HR.out]; rfl, HBV3.out⟩
   ·rw [if_neg q2] at hA1
    have HR := zb.mk hA1
    have c2' : (way == 2) = false := by simp [q2]
    clear q2 hA1
    go_wp2
    (try refine bodyPost_ret (results_tmp rfl _ _ _) rfl ?_)
    rw [HP.out]
    exact ⟨by rw [← HR.out]; rfl, HBV3.out⟩
end Go.Proofs.Ytppapibjbjmmbaa.QSY
set_option linter.unusedVariables false
set_option linter.unusedSimpArgs false
namespace Go.Proofs.Ytppapibjbjmmbaa.QSY
open Go.RowKit Go.Proofs.YtppapibjbjmmbaaW.PrintWords Go.Proofs.YtppapibjbjmmbaaW.PrintLast Go.Proofs.YtppapibjbjmmbaaW.PrintMore
theorem getD_in' {α : Type} {l : List α} {i : Nat} (d : α) (h : i < l.length) : l.getD i d ∈ l := by
 rw [List.getD_eq_getElem?_getD, List.getElem?_eq_getElem h]
 exact List.getElem_mem h
def heldF (T : List S43) (c : S33) (i k : Nat) : Bool := holdsF (zF T (k : Int)) (i : Int) == (c.f2 == (k : Int))
def cellF (T : List S43) (clk : Int) (c : S33) (i : Nat) : Bool := inB c.f0 0 99 && (inB c.f1 0 clk && (inB c.f2 (-1) (wrap64 ((T.length : Int) - 1)) && (List.range T.length).all (heldF T c i)))
def cellsF (C : List S33) (T : List S43) (clk : Int) : Bool := (List.range C.length).all (fun i => cellF T clk (rd_T33 C (i : Int)) i)
set_option maxHeartbeats 8000000 in
set_option maxRecDepth 100000 in
theorem cells_calls (AC : Option Addr) (C : List S33) (cC : Nat) (AT : Option Addr) (T : List S43) (cT : Nat) (clk : Int) (AL : Option Addr) (nL cL : Nat) (r : Bool) (w : World) (hC : Kd.C k33 w AC C.length C) (hT : Kd.C k43 w AT T.length T) (hl : T.length ≤ 2500) (hp : ∀ t ∈ T, t.f10.length ≤ 1000) (h : cellsF C T clk = r) :
  Calls Try.prog 61 #[.agg #[.slice AC C.length cC, .slice AT T.length cT, .int .i64 clk, .slice AL nL cL]] w fun e w' => e = .returned (.bool r) ∧ Below w.heap.size w w' := by
 have hu := Try.underlying33
 have HC := zb.mk hC
 have HT := zb.mk hT
 have HM := zb.mk hC.2.1
 have HL := zb.mk hl
 have HP := zb.mk hp
 have HH := zb.mk h
 obtain ⟨nC, hnC⟩ : ∃ n, n = C.length := ⟨_, rfl⟩
 obtain ⟨nT, hnT⟩ : ∃ n, n = T.length := ⟨_, rfl⟩
 have HNC := zb.mk hnC
 have HNT := zb.mk hnT
 rw [← hnC] at HC HM
 rw [← hnT] at HT HL
 rw [← hnC, ← hnT]
 clear hC hT hl hp h hnC hnT
 obtain ⟨W, hW⟩ : ∃ W, W = w.alloc (.cells #[.slice AC nC cC, .slice AT nT cT, .int .i64 clk, .slice AL nL cL] 27) := ⟨_, rfl⟩
 have HB := zb.mk (show Below w.heap.size w W by rw [hW]; exact zc (Below.refl _ _) _)
 have E0 := zb.mk (show W.heap[w.heap.size]? = some (.cells #[.slice AC nC cC, .slice AT nT cT, .int .i64 clk, .slice AL nL cL] 27 (0, 0)) by rw [hW]; exact heap_alloc_new _ _)
 go_enter Try.func61, Try.ntmps61
 go_upto_region 1 with (fail)
 rw [← hW]
 clear hW
 go_wp2
 go_loopw [3] (fun v3 wr => ∃ (V : World) (i : Nat), V = wr ∧ v3 = .int .i64 i ∧ zb (i ≤ C.length ∧ ∀ j, j < i → cellF T clk (rd_T33 C (j : Int)) j = true) ∧ zb (Below W.heap.size W V)) (fun v3 _ => C.length - (intOf v3).toNat)
 case atStart => exact ⟨_, 0, rfl, rfl, ⟨Nat.zero_le _, fun j hj => absurd hj (by omega)⟩, ⟨Below.refl _ _⟩⟩
 case round =>
  obtain ⟨V, i, hV, rfl, hi, HBL⟩ := hrel
  rw [← hV]
  clear hV
  have y0 := za HBL.out ((zd E0.out 0).trans rfl)
  have y1 := za HBL.out ((zd E0.out 1).trans rfl)
  have y2 := za HBL.out ((zd E0.out 2).trans rfl)
  by_cases hlt : (i : Int) < (nC : Int)
  ·have HLI := zb.mk (show i < C.length by rw [← HNC.out]; omega)
   have en := yx (i := i) (n := nC) (by omega) HM.out
   have HBV := zb.mk (zi HB.out HBL.out)
   obtain ⟨ad, rfl, z0, z1, z2⟩ := at_T33 HC.out (i : Int) (by omega) hlt
   obtain ⟨c, hc⟩ : ∃ c, c = rd_T33 C (i : Int) := ⟨_, rfl⟩
   have HCC := zb.mk hc.symm
   rw [← hc] at z0 z1 z2
   rw [Int.toNat_natCast] at z0 z1 z2
   have z0 := za HBV.out z0
   have z1 := za HBV.out z1
   have z2 := za HBV.out z2
   clear hc
   obtain ⟨X, hX⟩ : ∃ X, X = V.alloc (.cells #[.int .i64 c.f0, .int .i64 c.f1, .int .i64 c.f2] 33) := ⟨_, rfl⟩
   have HBX := zb.mk (show Below W.heap.size W X by rw [hX]; exact zi HBL.out (zc (Below.refl _ _) _))
   have E1 := zb.mk (show X.heap[V.heap.size]? = some (.cells #[.int .i64 c.f0, .int .i64 c.f1, .int .i64 c.f2] 33 (0, 0)) by rw [hX]; exact heap_alloc_new _ _)
   go_upto_region 5 with (fail)
   (try rw [← hX])
   clear hX z0 z1 z2 y0 y1 y2
   obtain ⟨bx, hbx⟩ : ∃ b, b = V.heap.size := ⟨_, rfl⟩
   rw [← hbx] at E1 ⊢
   clear hbx HBL HBV
   have y1 := za HBX.out ((zd E0.out 1).trans rfl)
   have y2 := za HBX.out ((zd E0.out 2).trans rfl)
   have x0 := (zd E1.out 0).trans rfl
   have x1 := (zd E1.out 1).trans rfl
   have x2 := (zd E1.out 2).trans rfl
   have em : wrap64 ((nT : Int) - 1) = (nT : Int) - 1 := by have := HL.out; unfold wrap64; omega
   have HCF := zb.mk (show cellF T clk c i = (inB c.f0 0 99 && (inB c.f1 0 clk && (inB c.f2 (-1) ((nT : Int) - 1) && (List.range T.length).all (heldF T c i)))) by unfold cellF; rw [← HNT.out, em])
   obtain ⟨p0, hp0⟩ : ∃ q, inB c.f0 0 99 = q := ⟨_, rfl⟩
   obtain ⟨p1, hp1⟩ : ∃ q, inB c.f1 0 clk = q := ⟨_, rfl⟩
   obtain ⟨p2, hp2⟩ : ∃ q, inB c.f2 (-1) ((nT : Int) - 1) = q := ⟨_, rfl⟩
   have H0 := zb.mk hp0
   have H1 := zb.mk hp1
   have H2 := zb.mk hp2
   rw [hp0, hp1, hp2] at HCF
   clear hp0 hp1 hp2
   have FAIL := zb.mk (show cellF T clk c i = false → r = false from fun h => by rw [← HH.out]; exact xY HLI.out (by rw [HCC.out]; exact h))
   cases p0
   ·have hf := FAIL.out (by rw [HCF.out]; rfl)
    subst hf
    go_wp2_with (first | (with_reducible refine (zy _ _ _ _ _ H0.out).mono ?_; rintro e w' ⟨rfl, rfl⟩) | (with_reducible refine (zy _ _ _ _ _ H1.out).mono ?_; rintro e w' ⟨rfl, rfl⟩) | (with_reducible refine (zy _ _ _ _ _ H2.out).mono ?_; rintro e w' ⟨rfl, rfl⟩))
    go_ret
    exact ⟨rfl, zi HB.out HBX.out⟩
   cases p1
   ·have hf := FAIL.out (by rw [HCF.out]; rfl)
    subst hf
    go_wp2_with (first | (with_reducible refine (zy _ _ _ _ _ H0.out).mono ?_; rintro e w' ⟨rfl, rfl⟩) | (with_reducible refine (zy _ _ _ _ _ H1.out).mono ?_; rintro e w' ⟨rfl, rfl⟩) | (with_reducible refine (zy _ _ _ _ _ H2.out).mono ?_; rintro e w' ⟨rfl, rfl⟩))
    go_ret
    exact ⟨rfl, zi HB.out HBX.out⟩
   cases p2
   ·have hf := FAIL.out (by rw [HCF.out]; rfl)
    subst hf
    go_wp2_with (first | (with_reducible refine (zy _ _ _ _ _ H0.out).mono ?_; rintro e w' ⟨rfl, rfl⟩) | (with_reducible refine (zy _ _ _ _ _ H1.out).mono ?_; rintro e w' ⟨rfl, rfl⟩) | (with_reducible refine (zy _ _ _ _ _ H2.out).mono ?_; rintro e w' ⟨rfl, rfl⟩))
    go_ret
    exact ⟨rfl, zi HB.out HBX.out⟩
   have HCF2 := zb.mk (show cellF T clk c i = (List.range T.length).all (heldF T c i) from HCF.out)
   clear HCF
   go_upto_region 7 with (first | (with_reducible refine (zy _ _ _ _ _ H0.out).mono ?_; rintro e w' ⟨rfl, rfl⟩) | (with_reducible refine (zy _ _ _ _ _ H1.out).mono ?_; rintro e w' ⟨rfl, rfl⟩) | (with_reducible refine (zy _ _ _ _ _ H2.out).mono ?_; rintro e w' ⟨rfl, rfl⟩))
   go_wp2
   go_loopw [5] (fun v5 wr => ∃ (V : World) (k : Nat), V = wr ∧ v5 = .int .i64 k ∧ zb (k ≤ T.length ∧ ∀ j, j < k → heldF T c i j = true) ∧ zb (Below X.heap.size X V)) (fun v5 _ => T.length - (intOf v5).toNat)
   case atStart => exact ⟨_, 0, rfl, rfl, ⟨Nat.zero_le _, fun j hj => absurd hj (by omega)⟩, ⟨Below.refl _ _⟩⟩
   case round =>
    obtain ⟨U, k, hU, rfl, hk, HBU⟩ := hrel
    rw [← hU]
    clear hU y1 y2 x0 x1 x2
    have y1 := za HBU.out (za HBX.out ((zd E0.out 1).trans rfl))
    have x2 := za HBU.out ((zd E1.out 2).trans rfl)
    have HWU := zb.mk (zi HBX.out HBU.out)
    by_cases hkt : (k : Int) < (nT : Int)
    ·have HKL := zb.mk (show k < T.length by rw [← HNT.out]; omega)
     have ek := yx (i := k) (n := nT) (by omega) (by have := HL.out; omega)
     have HWV := zb.mk (zi HB.out HWU.out)
     obtain ⟨ad2, A3, c3, A8, c8, A9, c9, A10, c10, rfl, z0, z1, z2, z3, z4, z5, z6, z7, z8, z9, z10, z11, z12, l3, g3, l8, g8, l9, g9, l10, g10⟩ := at_T43 HT.out (k : Int) (by omega) hkt
     have HG := zb.mk (And.intro g10 l10)
     have HPT := zb.mk (show (zF T (k : Int)).f10.length ≤ 1000 from HP.out _ (by unfold zF; rw [Int.toNat_natCast]; exact getD_in' _ HKL.out))
     obtain ⟨t, ht⟩ : ∃ t, t = zF T (k : Int) := ⟨_, rfl⟩
     have HTT := zb.mk ht.symm
     rw [← ht] at z0 z1 z2 z3 z4 z5 z6 z7 z8 z9 z10 z11 z12 HG HPT
     rw [Int.toNat_natCast] at z0 z1 z2 z3 z4 z5 z6 z7 z8 z9 z10 z11 z12
     clear l3 g3 l8 g8 l9 g9 l10 g10 ht
     obtain ⟨q, hq⟩ : ∃ q, holdsF t (i : Int) = q := ⟨_, rfl⟩
     have HQ := zb.mk hq
     have HF := zb.mk (show heldF T c i k = (q == (c.f2 == (k : Int))) by unfold heldF; rw [HTT.out, hq])
     have HS := zb.mk (show ∀ w', Below U.heap.size U w' → w'.cell? ⟨w.heap.size, 1, none⟩ = some (.slice (some ad2) nT cT) ∧ w'.cell? ⟨bx, 2, none⟩ = some (.int .i64 c.f2) ∧ w'.cell? (ad2.add (k * 13)) = some (.int .i64 t.f0) ∧ w'.cell? ⟨(ad2.add (k * 13)).block, (ad2.add (k * 13)).off + 1, none⟩ = some (.int .i64 t.f1) ∧ w'.cell? ⟨(ad2.add (k * 13)).block, (ad2.add (k * 13)).off + 2, none⟩ = some (.int .i64 t.f2) ∧ w'.cell? ⟨(ad2.add (k * 13)).block, (ad2.add (k * 13)).off + 3, none⟩ = some (.slice A3 t.f3.length c3) ∧ w'.cell? ⟨(ad2.add (k * 13)).block, (ad2.add (k * 13)).off + 4, none⟩ = some (.int .i64 t.f4) ∧ w'.cell? ⟨(ad2.add (k * 13)).block, (ad2.add (k * 13)).off + 5, none⟩ = some (.int .i64 t.f5) ∧ w'.cell? ⟨(ad2.add (k * 13)).block, (ad2.add (k * 13)).off + 6, none⟩ = some (.int .i64 t.f6) ∧ w'.cell? ⟨(ad2.add (k * 13)).block, (ad2.add (k * 13)).off + 7, none⟩ = some (.int .i64 t.f7) ∧ w'.cell? ⟨(ad2.add (k * 13)).block, (ad2.add (k * 13)).off + 8, none⟩ = some (.slice A8 t.f8.length c8) ∧ w'.cell? ⟨(ad2.add (k * 13)).block, (ad2.add (k * 13)).off + 9, none⟩ = some (.slice A9 t.f9.length c9) ∧ w'.cell? ⟨(ad2.add (k * 13)).block, (ad2.add (k * 13)).off + 10, none⟩ = some (.slice A10 t.f10.length c10) ∧ w'.cell? ⟨(ad2.add (k * 13)).block, (ad2.add (k * 13)).off + 11, none⟩ = some (.int .i64 t.f11) ∧ w'.cell? ⟨(ad2.add (k * 13)).block, (ad2.add (k * 13)).off + 12, none⟩ = some (.int .i64 t.f12) from fun w' hb => by
      have hb2 : Below w.heap.size w w' := zi HWV.out hb
      exact ⟨za hb y1, za hb x2, za hb2 z0, za hb2 z1, za hb2 z2, za hb2 z3, za hb2 z4, za hb2 z5, za hb2 z6, za hb2 z7, za hb2 z8, za hb2 z9, za hb2 z10, za hb2 z11, za hb2 z12⟩)
     have KC := zb.mk (show ∀ X', Below U.heap.size U X' → Calls Try.prog 95 #[.agg #[.int .i64 t.f0, .int .i64 t.f1, .int .i64 t.f2, .slice A3 t.f3.length c3, .int .i64 t.f4, .int .i64 t.f5, .int .i64 t.f6, .int .i64 t.f7, .slice A8 t.f8.length c8, .slice A9 t.f9.length c9, .slice A10 t.f10.length c10, .int .i64 t.f11, .int .i64 t.f12], .int .i64 (i : Int)] X' fun e w' => e = .returned (.bool q) ∧ Below X'.heap.size X' w' from fun X' hX => holds_calls t A3 c3 A8 c8 A9 c9 A10 c10 (i : Int) q X' (Kd.zt HG.out.1 (zi HWV.out hX)) HG.out.2 HPT.out HQ.out)
     have S_ := HS
     clear z0 z1 z2 z3 z4 z5 z6 z7 z8 z9 z10 z11 z12 hq HS
     go_upto_region 10 with (fail)
     have HS := S_
     clear y1 x2 S_
     go_region_held3 (fun w' => w'.cell? ⟨w.heap.size, 1, none⟩ = some (.slice (some ad2) nT cT) ∧ w'.cell? ⟨bx, 2, none⟩ = some (.int .i64 c.f2) ∧ w'.cell? (ad2.add (k * 13)) = some (.int .i64 t.f0) ∧ w'.cell? ⟨(ad2.add (k * 13)).block, (ad2.add (k * 13)).off + 1, none⟩ = some (.int .i64 t.f1) ∧ w'.cell? ⟨(ad2.add (k * 13)).block, (ad2.add (k * 13)).off + 2, none⟩ = some (.int .i64 t.f2) ∧ w'.cell? ⟨(ad2.add (k * 13)).block, (ad2.add (k * 13)).off + 3, none⟩ = some (.slice A3 t.f3.length c3) ∧ w'.cell? ⟨(ad2.add (k * 13)).block, (ad2.add (k * 13)).off + 4, none⟩ = some (.int .i64 t.f4) ∧ w'.cell? ⟨(ad2.add (k * 13)).block, (ad2.add (k * 13)).off + 5, none⟩ = some (.int .i64 t.f5) ∧ w'.cell? ⟨(ad2.add (k * 13)).block, (ad2.add (k * 13)).off + 6, none⟩ = some (.int .i64 t.f6) ∧ w'.cell? ⟨(ad2.add (k * 13)).block, (ad2.add (k * 13)).off + 7, none⟩ = some (.int .i64 t.f7) ∧ w'.cell? ⟨(ad2.add (k * 13)).block, (ad2.add (k * 13)).off + 8, none⟩ = some (.slice A8 t.f8.length c8) ∧ w'.cell? ⟨(ad2.add (k * 13)).block, (ad2.add (k * 13)).off + 9, none⟩ = some (.slice A9 t.f9.length c9) ∧ w'.cell? ⟨(ad2.add (k * 13)).block, (ad2.add (k * 13)).off + 10, none⟩ = some (.slice A10 t.f10.length c10) ∧ w'.cell? ⟨(ad2.add (k * 13)).block, (ad2.add (k * 13)).off + 11, none⟩ = some (.int .i64 t.f11) ∧ w'.cell? ⟨(ad2.add (k * 13)).block, (ad2.add (k * 13)).off + 12, none⟩ = some (.int .i64 t.f12)) (first | exact HS.out _ (ze (Below.refl _ _)) | exact HS.out _ (zi (ze (Below.refl _ _)) (by assumption))) (first | (go_at_call 95; refine (KC.out _ (ze (Below.refl _ _))).mono ?_; rintro e wz ⟨rfl, hb⟩))
     have HBZ := zb.mk (zi HBU.out (zi (ze (Below.refl _ _)) hb))
     by_cases hcb : c.f2 = (k : Int)
     ·have ec : (c.f2 == (k : Int)) = true := beq_iff_eq.2 hcb
      cases q
      ·skip
       have cx : (!(false == (c.f2 == (k : Int)))) = true := by rw [ec]; rfl
       rw [cx]
       clear cx
       have hf := FAIL.out (by rw [HCF2.out]; exact xY HKL.out (by rw [HF.out, ec]; rfl))
       subst hf
       go_wp2
       go_ret
       exact ⟨rfl, zi HB.out (zi HBX.out HBZ.out)⟩
      ·skip
       have cx : (!(true == (c.f2 == (k : Int)))) = false := by rw [ec]; rfl
       rw [cx]
       clear cx
       have HE := zb.mk (show heldF T c i k = true by rw [HF.out, ec]; rfl)
       go_wp2
       go_roundw
       case rel => exact ⟨_, k + 1, rfl, by first | rw [ek] | rfl | simp, ⟨HKL.out, fun j hj => by
        by_cases e : j = k
        ·rw [e]; exact HE.out
        ·exact hk.out.2 j (by omega)⟩, HBZ⟩
       case measure => (try rw [ek]); have := HKL.out; simp [intOf]; omega
     ·have ec : (c.f2 == (k : Int)) = false := beq_eq_false_iff_ne.2 hcb
      cases q
      ·skip
       have cx : (!(false == (c.f2 == (k : Int)))) = false := by rw [ec]; rfl
       rw [cx]
       clear cx
       have HE := zb.mk (show heldF T c i k = true by rw [HF.out, ec]; rfl)
       go_wp2
       go_roundw
       case rel => exact ⟨_, k + 1, rfl, by first | rw [ek] | rfl | simp, ⟨HKL.out, fun j hj => by
        by_cases e : j = k
        ·rw [e]; exact HE.out
        ·exact hk.out.2 j (by omega)⟩, HBZ⟩
       case measure => (try rw [ek]); have := HKL.out; simp [intOf]; omega
      ·skip
       have cx : (!(true == (c.f2 == (k : Int)))) = true := by rw [ec]; rfl
       rw [cx]
       clear cx
       have hf := FAIL.out (by rw [HCF2.out]; exact xY HKL.out (by rw [HF.out, ec]; rfl))
       subst hf
       go_wp2
       go_ret
       exact ⟨rfl, zi HB.out (zi HBX.out HBZ.out)⟩
    ·have HE := zb.mk (show cellF T clk c i = true by rw [HCF2.out]; exact xF (fun j hj => hk.out.2 j (by rw [← HNT.out] at hj; omega)))
     go_wp2
     go_roundw
     case rel => exact ⟨_, i + 1, rfl, by first | rw [en] | rfl | simp, ⟨HLI.out, fun j hj => by
      by_cases e : j = i
      ·rw [e, HCC.out]; exact HE.out
      ·exact hi.out.2 j (by omega)⟩, HWU⟩
     case measure => (try rw [en]); have := HLI.out; simp [intOf]; omega
  ·have HE := zb.mk (show r = true by rw [← HH.out]; exact xF (fun j hj => hi.out.2 j (by rw [← HNC.out] at hj; omega)))
   go_wp2
   go_ret
   exact ⟨by rw [HE.out]; rfl, zi HB.out HBL.out⟩
end Go.Proofs.Ytppapibjbjmmbaa.QSY
set_option linter.unusedVariables false
set_option linter.unusedSimpArgs false
namespace Go.Proofs.Ytppapibjbjmmbaa.QSY
open Go.RowKit Go.Proofs.YtppapibjbjmmbaaW.PrintWords Go.Proofs.YtppapibjbjmmbaaW.PrintLast Go.Proofs.YtppapibjbjmmbaaW.PrintMore
def entF (Bs : List (List zO)) (nC : Nat) (T : List S43) (clk : Int) (e : S50) (i : Nat) : Bool :=
 inB e.f0 0 ((T.length : Int) - 1) && (inB e.f2 0 clk && (inB e.f5 0 i && (listF nC e.f3 && (listF nC e.f4 && inB e.f1 0 (((bd Bs (zF T e.f0).f0).length : Int) - 1)))))
def logF (Bs : List (List zO)) (nC : Nat) (T : List S43) (clk : Int) (L : List S50) : Bool := (List.range L.length).all (fun i => entF Bs nC T clk (yu L (i : Int)) i)
set_option maxHeartbeats 8000000 in
set_option maxRecDepth 100000 in
theorem log_calls (A0 : Option Addr) (n0 c0 : Nat) (A1 : Option Addr) (Bs : List (List zO)) (c1 : Nat) (AC : Option Addr) (nC cC : Nat) (AT : Option Addr) (T : List S43) (cT : Nat) (clk : Int) (AL : Option Addr) (L : List S50) (cL : Nat) (r : Bool) (w : World)
  (hB : Kd.C (Kd.slice 110 xK) w A1 Bs.length Bs) (hT : Kd.C k43 w AT T.length T) (hL : Kd.C k50 w AL L.length L) (hl : T.length ≤ 2500) (hb : ∀ t ∈ T, 0 ≤ t.f0 ∧ t.f0 < Bs.length ∧ (bd Bs t.f0).length ≤ 1000) (h : logF Bs nC T clk L = r) :
  Calls Try.prog 62 #[.agg #[.slice A0 n0 c0, .slice A1 Bs.length c1], .agg #[.slice AC nC cC, .slice AT T.length cT, .int .i64 clk, .slice AL L.length cL]] w fun e w' => e = .returned (.bool r) ∧ Below w.heap.size w w' := by
 have hu := Try.underlying50
 have HBS := zb.mk hB
 have HT := zb.mk hT
 have HL := zb.mk hL
 have HM := zb.mk hL.2.1
 have HTL := zb.mk hl
 have HBT := zb.mk hb
 have HH := zb.mk h
 obtain ⟨nB, hnB⟩ : ∃ n, n = Bs.length := ⟨_, rfl⟩
 obtain ⟨nT, hnT⟩ : ∃ n, n = T.length := ⟨_, rfl⟩
 obtain ⟨nL, hnL⟩ : ∃ n, n = L.length := ⟨_, rfl⟩
 have HNB := zb.mk hnB
 have HNT := zb.mk hnT
 have HNL := zb.mk hnL
 rw [← hnB] at HBS
 rw [← hnT] at HT HTL
 rw [← hnL] at HL HM
 rw [← hnB, ← hnT, ← hnL]
 clear hB hT hL hl hb h hnB hnT hnL
 obtain ⟨W, hW⟩ : ∃ W, W = (w.alloc (.cells #[.slice A0 n0 c0, .slice A1 nB c1] 37)).alloc (.cells #[.slice AC nC cC, .slice AT nT cT, .int .i64 clk, .slice AL nL cL] 27) := ⟨_, rfl⟩
 have HB := zb.mk (show Below w.heap.size w W by rw [hW]; exact zc (zc (Below.refl _ _) _) _)
 have E0 := zb.mk (show W.heap[w.heap.size]? = some (.cells #[.slice A0 n0 c0, .slice A1 nB c1] 37 (0, 0)) by rw [hW]; exact zm (heap_alloc_new _ _) _)
 have E1 := zb.mk (show W.heap[w.heap.size + 1]? = some (.cells #[.slice AC nC cC, .slice AT nT cT, .int .i64 clk, .slice AL nL cL] 27 (0, 0)) by rw [hW, show w.heap.size + 1 = (w.alloc (.cells #[.slice A0 n0 c0, .slice A1 nB c1] 37)).heap.size by simp]; exact heap_alloc_new _ _)
 go_enter Try.func62, Try.ntmps62
 go_upto_region 1 with (fail)
 rw [← hW]
 clear hW
 go_wp2
 go_loopw [5] (fun v5 wr => ∃ (V : World) (i : Nat), V = wr ∧ v5 = .int .i64 i ∧ zb (i ≤ L.length ∧ ∀ j, j < i → entF Bs nC T clk (yu L (j : Int)) j = true) ∧ zb (Below W.heap.size W V)) (fun v5 _ => L.length - (intOf v5).toNat)
 case atStart => exact ⟨_, 0, rfl, rfl, ⟨Nat.zero_le _, fun j hj => absurd hj (by omega)⟩, ⟨Below.refl _ _⟩⟩
 case round =>
  obtain ⟨V, i, hV, rfl, hi, HBL⟩ := hrel
  rw [← hV]
  clear hV
  have y3 := za HBL.out ((zd E1.out 3).trans rfl)
  by_cases hlt : (i : Int) < (nL : Int)
  ·have HLI := zb.mk (show i < L.length by rw [← HNL.out]; omega)
   have en := yx (i := i) (n := nL) (by omega) HM.out
   have HBV := zb.mk (zi HB.out HBL.out)
   obtain ⟨ad, A3, c3, A4, c4, rfl, z0, z1, z2, z3, z4, z5, l3, g3, l4, g4⟩ := at_T50 HL.out (i : Int) (by omega) hlt
   obtain ⟨e, he⟩ : ∃ c, c = yu L (i : Int) := ⟨_, rfl⟩
   have HEE := zb.mk he.symm
   rw [← he] at z0 z1 z2 z3 z4 z5 l3 g3 l4 g4
   rw [Int.toNat_natCast] at z0 z1 z2 z3 z4 z5
   have HG3 := zb.mk (And.intro g3 l3)
   have HG4 := zb.mk (And.intro g4 l4)
   have z0 := za HBV.out z0
   have z1 := za HBV.out z1
   have z2 := za HBV.out z2
   have z3 := za HBV.out z3
   have z4 := za HBV.out z4
   have z5 := za HBV.out z5
   obtain ⟨n3, hn3⟩ : ∃ n, n = e.f3.length := ⟨_, rfl⟩
   obtain ⟨n4, hn4⟩ : ∃ n, n = e.f4.length := ⟨_, rfl⟩
   have HN3 := zb.mk hn3
   have HN4 := zb.mk hn4
   rw [← hn3] at z3
   rw [← hn4] at z4
   clear he l3 g3 l4 g4 hn3 hn4
   obtain ⟨X, hX⟩ : ∃ X, X = V.alloc (.cells #[.int .i64 e.f0, .int .i64 e.f1, .int .i64 e.f2, .slice A3 n3 c3, .slice A4 n4 c4, .int .i64 e.f5] 50) := ⟨_, rfl⟩
   have HBX := zb.mk (show Below W.heap.size W X by rw [hX]; exact zi HBL.out (zc (Below.refl _ _) _))
   have E2 := zb.mk (show X.heap[V.heap.size]? = some (.cells #[.int .i64 e.f0, .int .i64 e.f1, .int .i64 e.f2, .slice A3 n3 c3, .slice A4 n4 c4, .int .i64 e.f5] 50 (0, 0)) by rw [hX]; exact heap_alloc_new _ _)
   go_upto_region 5 with (fail)
   (try rw [← hX])
   clear hX z0 z1 z2 z3 z4 z5 y3
   obtain ⟨bx, hbx⟩ : ∃ b, b = V.heap.size := ⟨_, rfl⟩
   rw [← hbx] at E2 ⊢
   clear hbx HBL HBV
   have HWX := zb.mk (zi HB.out HBX.out)
   have y0 := za HBX.out ((zd E1.out 0).trans rfl)
   have y1 := za HBX.out ((zd E1.out 1).trans rfl)
   have y2 := za HBX.out ((zd E1.out 2).trans rfl)
   have p1 := za HBX.out ((zd E0.out 1).trans rfl)
   have x0 := (zd E2.out 0).trans rfl
   have x1 := (zd E2.out 1).trans rfl
   have x2 := (zd E2.out 2).trans rfl
   have x3 := (zd E2.out 3).trans rfl
   have x4 := (zd E2.out 4).trans rfl
   have x5 := (zd E2.out 5).trans rfl
   have em : wrap64 ((nT : Int) - 1) = (nT : Int) - 1 := by have := HTL.out; unfold wrap64; omega
   have FAIL := zb.mk (show entF Bs nC T clk e i = false → r = false from fun h => by rw [← HH.out]; exact xY HLI.out (by rw [HEE.out]; exact h))
   obtain ⟨q0, hq0⟩ : ∃ q, inB e.f0 0 ((nT : Int) - 1) = q := ⟨_, rfl⟩
   obtain ⟨q1, hq1⟩ : ∃ q, inB e.f2 0 clk = q := ⟨_, rfl⟩
   obtain ⟨q2, hq2⟩ : ∃ q, inB e.f5 0 i = q := ⟨_, rfl⟩
   obtain ⟨q3, hq3⟩ : ∃ q, listF nC e.f3 = q := ⟨_, rfl⟩
   obtain ⟨q4, hq4⟩ : ∃ q, listF nC e.f4 = q := ⟨_, rfl⟩
   have H0 := zb.mk hq0
   have H1 := zb.mk hq1
   have H2 := zb.mk hq2
   have HEF := zb.mk (show entF Bs nC T clk e i = (q0 && (q1 && (q2 && (q3 && (q4 && inB e.f1 0 (((bd Bs (zF T e.f0).f0).length : Int) - 1)))))) by unfold entF; rw [← HNT.out, hq0, hq1, hq2, hq3, hq4])
   have K3 := zb.mk (show ∀ X', Below X.heap.size X X' → Calls Try.prog 91 #[.slice A3 n3 c3, .int .i64 (nC : Int)] X' fun e w' => e = .returned (.bool q3) ∧ ∃ m, w' = X'.drewN m from fun X' hX => by rw [HN3.out]; exact list_calls A3 e.f3 c3 nC q3 X' (Kd.zt HG3.out.1 (zi HWX.out hX)) hq3)
   have K4 := zb.mk (show ∀ X', Below X.heap.size X X' → Calls Try.prog 91 #[.slice A4 n4 c4, .int .i64 (nC : Int)] X' fun e w' => e = .returned (.bool q4) ∧ ∃ m, w' = X'.drewN m from fun X' hX => by rw [HN4.out]; exact list_calls A4 e.f4 c4 nC q4 X' (Kd.zt HG4.out.1 (zi HWX.out hX)) hq4)
   clear hq0 hq1 hq2 hq3 hq4
   cases q0
   ·have hf := FAIL.out (by rw [HEF.out]; rfl)
    subst hf
    go_wp2_with (first | (go_at_call 59; first | (with_reducible refine (zy _ _ _ _ _ H0.out).mono ?_; rintro e w' ⟨rfl, rfl⟩) | (with_reducible refine (zy _ _ _ _ _ H1.out).mono ?_; rintro e w' ⟨rfl, rfl⟩) | (with_reducible refine (zy _ _ _ _ _ H2.out).mono ?_; rintro e w' ⟨rfl, rfl⟩)) | (go_at_call 91; first | (with_reducible refine (K3.out _ (by first | exact Below.refl _ _ | exact zj (Below.refl _ _) _)).mono ?_; rintro e w' ⟨rfl, m3, rfl⟩) | (with_reducible refine (K4.out _ (by first | exact Below.refl _ _ | exact zj (Below.refl _ _) _)).mono ?_; rintro e w' ⟨rfl, m4, rfl⟩)))
    go_ret
    exact ⟨rfl, zi HWX.out (by first | exact Below.refl _ _ | exact zj (Below.refl _ _) _)⟩
   cases q1
   ·have hf := FAIL.out (by rw [HEF.out]; rfl)
    subst hf
    go_wp2_with (first | (go_at_call 59; first | (with_reducible refine (zy _ _ _ _ _ H0.out).mono ?_; rintro e w' ⟨rfl, rfl⟩) | (with_reducible refine (zy _ _ _ _ _ H1.out).mono ?_; rintro e w' ⟨rfl, rfl⟩) | (with_reducible refine (zy _ _ _ _ _ H2.out).mono ?_; rintro e w' ⟨rfl, rfl⟩)) | (go_at_call 91; first | (with_reducible refine (K3.out _ (by first | exact Below.refl _ _ | exact zj (Below.refl _ _) _)).mono ?_; rintro e w' ⟨rfl, m3, rfl⟩) | (with_reducible refine (K4.out _ (by first | exact Below.refl _ _ | exact zj (Below.refl _ _) _)).mono ?_; rintro e w' ⟨rfl, m4, rfl⟩)))
    go_ret
    exact ⟨rfl, zi HWX.out (by first | exact Below.refl _ _ | exact zj (Below.refl _ _) _)⟩
   cases q2
   ·have hf := FAIL.out (by rw [HEF.out]; rfl)
    subst hf
    go_wp2_with (first | (go_at_call 59; first | (with_reducible refine (zy _ _ _ _ _ H0.out).mono ?_; rintro e w' ⟨rfl, rfl⟩) | (with_reducible refine (zy _ _ _ _ _ H1.out).mono ?_; rintro e w' ⟨rfl, rfl⟩) | (with_reducible refine (zy _ _ _ _ _ H2.out).mono ?_; rintro e w' ⟨rfl, rfl⟩)) | (go_at_call 91; first | (with_reducible refine (K3.out _ (by first | exact Below.refl _ _ | exact zj (Below.refl _ _) _)).mono ?_; rintro e w' ⟨rfl, m3, rfl⟩) | (with_reducible refine (K4.out _ (by first | exact Below.refl _ _ | exact zj (Below.refl _ _) _)).mono ?_; rintro e w' ⟨rfl, m4, rfl⟩)))
    go_ret
    exact ⟨rfl, zi HWX.out (by first | exact Below.refl _ _ | exact zj (Below.refl _ _) _)⟩
   cases q3
   ·have hf := FAIL.out (by rw [HEF.out]; rfl)
    subst hf
    go_wp2_with (first | (go_at_call 59; first | (with_reducible refine (zy _ _ _ _ _ H0.out).mono ?_; rintro e w' ⟨rfl, rfl⟩) | (with_reducible refine (zy _ _ _ _ _ H1.out).mono ?_; rintro e w' ⟨rfl, rfl⟩) | (with_reducible refine (zy _ _ _ _ _ H2.out).mono ?_; rintro e w' ⟨rfl, rfl⟩)) | (go_at_call 91; first | (with_reducible refine (K3.out _ (by first | exact Below.refl _ _ | exact zj (Below.refl _ _) _)).mono ?_; rintro e w' ⟨rfl, m3, rfl⟩) | (with_reducible refine (K4.out _ (by first | exact Below.refl _ _ | exact zj (Below.refl _ _) _)).mono ?_; rintro e w' ⟨rfl, m4, rfl⟩)))
    go_ret
    exact ⟨rfl, zi HWX.out (by first | exact Below.refl _ _ | exact zj (Below.refl _ _) _)⟩
   cases q4
   ·have hf := FAIL.out (by rw [HEF.out]; rfl)
    subst hf
    go_wp2_with (first | (go_at_call 59; first | (with_reducible refine (zy _ _ _ _ _ H0.out).mono ?_; rintro e w' ⟨rfl, rfl⟩) | (with_reducible refine (zy _ _ _ _ _ H1.out).mono ?_; rintro e w' ⟨rfl, rfl⟩) | (with_reducible refine (zy _ _ _ _ _ H2.out).mono ?_; rintro e w' ⟨rfl, rfl⟩)) | (go_at_call 91; first | (with_reducible refine (K3.out _ (by first | exact Below.refl _ _ | exact zj (Below.refl _ _) _)).mono ?_; rintro e w' ⟨rfl, m3, rfl⟩) | (with_reducible refine (K4.out _ (by first | exact Below.refl _ _ | exact zj (Below.refl _ _) _)).mono ?_; rintro e w' ⟨rfl, m4, rfl⟩)))
    go_ret
    exact ⟨rfl, zi HWX.out (by first | exact Below.refl _ _ | exact zj (Below.refl _ _) _)⟩
   go_upto_region 7 with (first | (go_at_call 59; first | (with_reducible refine (zy _ _ _ _ _ H0.out).mono ?_; rintro e w' ⟨rfl, rfl⟩) | (with_reducible refine (zy _ _ _ _ _ H1.out).mono ?_; rintro e w' ⟨rfl, rfl⟩) | (with_reducible refine (zy _ _ _ _ _ H2.out).mono ?_; rintro e w' ⟨rfl, rfl⟩)) | (go_at_call 91; first | (with_reducible refine (K3.out _ (by first | exact Below.refl _ _ | exact zj (Below.refl _ _) _)).mono ?_; rintro e w' ⟨rfl, m3, rfl⟩) | (with_reducible refine (K4.out _ (by first | exact Below.refl _ _ | exact zj (Below.refl _ _) _)).mono ?_; rintro e w' ⟨rfl, m4, rfl⟩)))
   have hr0 := inB_ok'.1 H0.out
   have HTB := zb.mk (HBT.out (zF T e.f0) (by unfold zF; exact getD_in' _ (by rw [← HNT.out]; omega)))
   obtain ⟨ad2, B3, d3, B8, d8, B9, d9, B10, d10, rfl, u0, ur⟩ := at_T43 HT.out e.f0 hr0.1 (by omega)
   obtain ⟨t, ht⟩ : ∃ t, t = zF T e.f0 := ⟨_, rfl⟩
   rw [← ht] at u0 HTB HEF
   obtain ⟨ad3, B2, d2, rfl, v0, vl, vC⟩ := at_B HBS.out t.f0 HTB.out.1 (by rw [HNB.out]; exact HTB.out.2.1)
   have u0 := za HWX.out u0
   have v0 := za HWX.out v0
   obtain ⟨nb, hnb⟩ : ∃ n, n = (bd Bs t.f0).length := ⟨_, rfl⟩
   have hnb1 : nb ≤ 1000 := by rw [hnb]; exact HTB.out.2.2
   rw [← hnb] at v0 HEF
   have b0 := HTB.out.1
   have b1 : t.f0 < (nB : Int) := by rw [HNB.out]; exact HTB.out.2.1
   have a0 := hr0.1
   have a1 : e.f0 < (nT : Int) := by omega
   obtain ⟨q5, hq5⟩ : ∃ q, inB e.f1 0 ((nb : Int) - 1) = q := ⟨_, rfl⟩
   have enb : wrap64 ((nb : Int) - 1) = (nb : Int) - 1 := by unfold wrap64; omega
   have H5 := zb.mk hq5
   have H5w := zb.mk (show inB e.f1 0 (wrap64 ((nb : Int) - 1)) = q5 by rw [enb]; exact hq5)
   rw [hq5] at HEF
   clear ur ht vl vC hnb hq5 hr0 y0 y2 x2 x3 x4 x5
   cases q5
   ·have hf := FAIL.out (by rw [HEF.out]; rfl)
    subst hf
    go_quiet (first | (go_at_call 59; with_reducible refine (yU _ _ _ _ _ H5.out).mono (fun e w' h => ⟨h.1, _, h.2⟩)) | (go_at_call 59; with_reducible refine (yU _ _ _ _ _ H5w.out).mono (fun e w' h => ⟨h.1, _, h.2⟩)))
    go_wp2
    go_ret
    exact ⟨rfl, zi HWX.out (by first | exact Below.refl _ _ | exact zj (Below.refl _ _) _)⟩
   ·have HE := zb.mk (show entF Bs nC T clk e i = true by rw [HEF.out]; rfl)
    go_quiet (first | (go_at_call 59; with_reducible refine (yU _ _ _ _ _ H5.out).mono (fun e w' h => ⟨h.1, _, h.2⟩)) | (go_at_call 59; with_reducible refine (yU _ _ _ _ _ H5w.out).mono (fun e w' h => ⟨h.1, _, h.2⟩)))
    go_wp2
    go_roundw
    case rel => exact ⟨_, i + 1, rfl, by first | rw [en] | rfl | simp, ⟨HLI.out, fun j hj => by
     by_cases e : j = i
     ·rw [e, HEE.out]; exact HE.out
     ·exact hi.out.2 j (by omega)⟩, ⟨zi HBX.out (by first | exact Below.refl _ _ | exact zj (Below.refl _ _) _)⟩⟩
    case measure => (try rw [en]); have := HLI.out; simp [intOf]; omega
  ·have HE := zb.mk (show r = true by rw [← HH.out]; exact xF (fun j hj => hi.out.2 j (by rw [← HNL.out] at hj; omega)))
   go_wp2
   go_ret
   exact ⟨by rw [HE.out]; rfl, zi HB.out HBL.out⟩
end Go.Proofs.Ytppapibjbjmmbaa.QSY
set_option linter.unusedVariables false
set_option linter.unusedSimpArgs false
namespace Go.Proofs.Ytppapibjbjmmbaa.QSY
open Go.RowKit Go.Proofs.YtppapibjbjmmbaaW.PrintWords Go.Proofs.YtppapibjbjmmbaaW.PrintLast Go.Proofs.YtppapibjbjmmbaaW.PrintMore
def noneF (t : S43) : Bool := t.f5 != 0 || (t.f6 == 0 && decide (t.f9.length + t.f10.length = 0))
theorem not_both {a b : Int} (h : ¬ (a ≠ 0 ∧ b ≠ 0)) : (!(a != 0 && b != 0)) = true := by
 by_cases x : a = 0
 ·subst x; rfl
 ·by_cases y : b = 0
  ·subst y; simp
  ·exact absurd ⟨x, y⟩ h
def xW (Bs : List (List zO)) (nC : Nat) (T : List S43) (clk : Int) (nL : Nat) (k : Int) (t : S43) : Bool :=
 inB t.f0 0 ((Bs.length : Int) - 1) && (inB t.f1 0 (bd Bs t.f0).length && (inB t.f4 0 4 && (inB t.f5 0 5 && ((!(t.f4 != 0 && t.f5 != 0)) && (numsF t.f3 3 && (numsF t.f8 3 && (listF nC t.f9 && (listF nC t.f10 && (noneF t && (timesF t.f5 t.f7 t.f11 t.f12 clk nL && (upF T k && act12F Bs T k t)))))))))))
set_option maxHeartbeats 8000000 in
set_option maxRecDepth 100000 in
theorem task_calls (A0 : Option Addr) (n0 c0 : Nat) (A1 : Option Addr) (c1 : Nat) (Bs : List (List zO)) (AC : Option Addr) (nC cC : Nat) (AT : Option Addr) (cT : Nat) (T : List S43) (clk : Int) (AL : Option Addr) (nL cL : Nat) (k : Int) (r : Bool) (w : World)
  (hP : Kd.C (Kd.slice 110 xK) w A1 Bs.length Bs) (hB4 : Bs.length ≤ 1000) (hST : Kd.C k43 w AT T.length T) (hcT : T.length ≤ cT) (h0 : 0 ≤ k) (h1 : k < T.length) (hlen : T.length ≤ 2500) (m9 : (zF T k).f9.length ≤ 1000000) (m10 : (zF T k).f10.length ≤ 1000000) (h : xW Bs nC T clk nL k (zF T k) = r) :
  Calls Try.prog 60 #[.agg #[.slice A0 n0 c0, .slice A1 Bs.length c1], .agg #[.slice AC nC cC, .slice AT T.length cT, .int .i64 clk, .slice AL nL cL], .int .i64 k] w fun e w' => e = .returned (.bool r) ∧ Below w.heap.size w w' := by
 have HPP := zb.mk hP
 have HB4 := zb.mk hB4
 have HSTT := zb.mk hST
 have HCT := zb.mk hcT
 have HLEN := zb.mk hlen
 have HTT := zb.mk (show zF T k = zF T k from rfl)
 have HK := zb.mk (And.intro h0 h1)
 have hu := Try.underlying43
 obtain ⟨ad, A3, c3, A8, c8, A9, c9, A10, c10, rfl, z0, z1, z2, z3, z4, z5, z6, z7, z8, z9, z10, z11, z12, l3, g3, l8, g8, l9, g9, l10, g10⟩ := at_T43 hST k h0 h1
 obtain ⟨t, ht⟩ : ∃ t, t = zF T k := ⟨_, rfl⟩
 have HTK := zb.mk ht
 rw [← ht] at z0 z1 z2 z3 z4 z5 z6 z7 z8 z9 z10 z11 z12 l3 g3 l8 g8 l9 g9 l10 g10 h m9 m10
 have M9 := zb.mk m9
 have M10 := zb.mk m10
 have G3 := zb.mk (And.intro g3 l3)
 have G8 := zb.mk (And.intro g8 l8)
 have G9 := zb.mk (And.intro g9 l9)
 have G10 := zb.mk (And.intro g10 l10)
 have p1 : k < (T.length : Int) := h1
 have HA := zb.mk h
 obtain ⟨Post, hPost⟩ : ∃ P, P = fun (e : Ending) (w' : World) => e = .returned (.bool r) ∧ Below w.heap.size w w' := ⟨_, rfl⟩
 have HP := zb.mk (show ∀ e w', Post e w' ↔ (e = .returned (.bool r) ∧ Below w.heap.size w w') from fun _ _ => by rw [hPost])
 rw [← hPost]
 clear h h1 hPost ht l3 g3 l8 g8 l9 g9 l10 g10 m9 m10 hlen hB4 hcT hP
 go_enter Try.func60, Try.ntmps60
 go_upto_region 1 with (fail)
 obtain ⟨V, hV⟩ : ∃ W, W = (w.alloc (.cells #[.slice A0 n0 c0, .slice A1 Bs.length c1] 37)).alloc (.cells #[.slice AC nC cC, .slice (some ad) T.length cT, .int .i64 clk, .slice AL nL cL] 27) := ⟨_, rfl⟩
 have HBV := zb.mk (show Below w.heap.size w V by rw [hV]; exact zc (zc (Below.refl _ _) _) _)
 have VSZ := zb.mk (show V.heap.size = w.heap.size + 2 by rw [hV]; simp)
 have HXP := zb.mk (show V.heap[w.heap.size]? = some (.cells #[.slice A0 n0 c0, .slice A1 Bs.length c1] 37 (0, 0)) by rw [hV]; exact zm (yd rfl) _)
 have HXS := zb.mk (show V.heap[w.heap.size + 1]? = some (.cells #[.slice AC nC cC, .slice (some ad) T.length cT, .int .i64 clk, .slice AL nL cL] 27 (0, 0)) by rw [hV]; exact yd (by simp))
 rw [← hV]
 clear hV
 have s1 := (zd HXS.out 1).trans rfl
 have z0 := za HBV.out z0
 have z1 := za HBV.out z1
 have z2 := za HBV.out z2
 have z3 := za HBV.out z3
 have z4 := za HBV.out z4
 have z5 := za HBV.out z5
 have z6 := za HBV.out z6
 have z7 := za HBV.out z7
 have z8 := za HBV.out z8
 have z9 := za HBV.out z9
 have z10 := za HBV.out z10
 have z11 := za HBV.out z11
 have z12 := za HBV.out z12
 have vsz := VSZ.out
 go_upto_region 2 with (fail)
 (try rw [vsz])
 obtain ⟨V2, hV2⟩ : ∃ W, W = V.alloc (.cells #[.int .i64 t.f0, .int .i64 t.f1, .int .i64 t.f2, .slice A3 t.f3.length c3, .int .i64 t.f4, .int .i64 t.f5, .int .i64 t.f6, .int .i64 t.f7, .slice A8 t.f8.length c8, .slice A9 t.f9.length c9, .slice A10 t.f10.length c10, .int .i64 t.f11, .int .i64 t.f12] 43) := ⟨_, rfl⟩
 have HBV2 := zb.mk (show Below w.heap.size w V2 by rw [hV2]; exact zc HBV.out _)
 have HBX := zb.mk (show V2.heap[w.heap.size + 2]? = some (.cells #[.int .i64 t.f0, .int .i64 t.f1, .int .i64 t.f2, .slice A3 t.f3.length c3, .int .i64 t.f4, .int .i64 t.f5, .int .i64 t.f6, .int .i64 t.f7, .slice A8 t.f8.length c8, .slice A9 t.f9.length c9, .slice A10 t.f10.length c10, .int .i64 t.f11, .int .i64 t.f12] 43 (0, 0)) by rw [hV2, ← VSZ.out]; exact heap_alloc_new _ _)
 have HXP := zb.mk (show V2.heap[w.heap.size]? = _ from (by rw [hV2]; exact zm HXP.out _ : V2.heap[w.heap.size]? = some (.cells #[.slice A0 n0 c0, .slice A1 Bs.length c1] 37 (0, 0))))
 have HXS := zb.mk (show V2.heap[w.heap.size + 1]? = some (.cells #[.slice AC nC cC, .slice (some ad) T.length cT, .int .i64 clk, .slice AL nL cL] 27 (0, 0)) by rw [hV2]; exact zm HXS.out _)
 rw [← hV2]
 clear hV2 s1 z0 z1 z2 z3 z4 z5 z6 z7 z8 z9 z10 z11 z12 vsz
 obtain ⟨bx, hbx⟩ : ∃ b, b = w.heap.size + 2 := ⟨_, rfl⟩
 rw [← hbx] at HBX ⊢
 clear hbx
 obtain ⟨n3, hn3⟩ : ∃ n, n = t.f3.length := ⟨_, rfl⟩
 obtain ⟨n8, hn8⟩ : ∃ n, n = t.f8.length := ⟨_, rfl⟩
 obtain ⟨n9, hn9⟩ : ∃ n, n = t.f9.length := ⟨_, rfl⟩
 obtain ⟨n10, hn10⟩ : ∃ n, n = t.f10.length := ⟨_, rfl⟩
 obtain ⟨nB, hnB⟩ : ∃ n, n = Bs.length := ⟨_, rfl⟩
 have HN3 := zb.mk hn3
 have HN8 := zb.mk hn8
 have HN9 := zb.mk hn9
 have HN10 := zb.mk hn10
 have HNB := zb.mk hnB
 rw [← hn3, ← hn8, ← hn9, ← hn10] at HBX ⊢
 rw [← hnB] at HXP ⊢
 clear hn3 hn8 hn9 hn10 hnB
 have FAIL := zb.mk (show xW Bs nC T clk nL k t = false → r = false from fun h => by rw [← HA.out]; exact h)
 have hB4 := HB4.out
 rw [← HNB.out] at hB4
 have enB : wrap64 ((nB : Int) - 1) = (nB : Int) - 1 := by unfold wrap64; omega
 have x0 := (zd HBX.out 0).trans rfl
 have x1 := (zd HBX.out 1).trans rfl
 have x4 := (zd HBX.out 4).trans rfl
 have x5 := (zd HBX.out 5).trans rfl
 have pp1 := (zd HXP.out 1).trans rfl
 obtain ⟨q0, hq0⟩ : ∃ q, inB t.f0 0 ((nB : Int) - 1) = q := ⟨_, rfl⟩
 obtain ⟨q1, hq1⟩ : ∃ q, inB t.f1 0 (bd Bs t.f0).length = q := ⟨_, rfl⟩
 obtain ⟨q2, hq2⟩ : ∃ q, inB t.f4 0 4 = q := ⟨_, rfl⟩
 obtain ⟨q3, hq3⟩ : ∃ q, inB t.f5 0 5 = q := ⟨_, rfl⟩
 have H0 := zb.mk hq0
 have H0w := zb.mk (show inB t.f0 0 (wrap64 ((nB : Int) - 1)) = q0 by rw [enB]; exact hq0)
 have H1 := zb.mk hq1
 have H2 := zb.mk hq2
 have H3 := zb.mk hq3
 have HTF := zb.mk (show xW Bs nC T clk nL k t = (q0 && (q1 && (q2 && (q3 && ((!(t.f4 != 0 && t.f5 != 0)) && (numsF t.f3 3 && (numsF t.f8 3 && (listF nC t.f9 && (listF nC t.f10 && (noneF t && (timesF t.f5 t.f7 t.f11 t.f12 clk nL && (upF T k && act12F Bs T k t)))))))))))) by unfold xW; rw [← HNB.out, hq0, hq1, hq2, hq3])
 clear hq0 hq1 hq2 hq3
 cases q0
 ·skip
  have hf := FAIL.out (by rw [HTF.out]; rfl)
  subst hf
  go_quiet (first | (go_at_call 59; with_reducible refine (yU _ _ _ _ _ H0.out).mono (fun e w' h => ⟨h.1, _, h.2⟩)) | (go_at_call 59; with_reducible refine (yU _ _ _ _ _ H0w.out).mono (fun e w' h => ⟨h.1, _, h.2⟩)) | (go_at_call 59; with_reducible refine (yU _ _ _ _ _ H1.out).mono (fun e w' h => ⟨h.1, _, h.2⟩)) | (go_at_call 59; with_reducible refine (yU _ _ _ _ _ H2.out).mono (fun e w' h => ⟨h.1, _, h.2⟩)) | (go_at_call 59; with_reducible refine (yU _ _ _ _ _ H3.out).mono (fun e w' h => ⟨h.1, _, h.2⟩)))
  go_wp2
  (try refine bodyPost_ret (results_tmp rfl _ _ _) rfl ?_)
  rw [HP.out]
  exact ⟨rfl, zj HBV2.out _⟩
 have hr0 := inB_ok'.1 H0.out
 obtain ⟨adB, A2, c2, rfl, y1, yl, yC⟩ := at_B HPP.out t.f0 hr0.1 (by rw [← HNB.out]; omega)
 have y1 := za HBV2.out y1
 have YC := zb.mk (And.intro yC yl)
 obtain ⟨nl, hnl⟩ : ∃ n, n = (bd Bs t.f0).length := ⟨_, rfl⟩
 have HNL := zb.mk hnl
 rw [← hnl] at y1 H1
 have b0 := hr0.1
 have b1 : t.f0 < (nB : Int) := by omega
 clear yC yl hr0 hnl hB4
 cases q1
 ·skip
  have hf := FAIL.out (by rw [HTF.out]; rfl)
  subst hf
  go_quiet (first | (go_at_call 59; with_reducible refine (yU _ _ _ _ _ H0.out).mono (fun e w' h => ⟨h.1, _, h.2⟩)) | (go_at_call 59; with_reducible refine (yU _ _ _ _ _ H0w.out).mono (fun e w' h => ⟨h.1, _, h.2⟩)) | (go_at_call 59; with_reducible refine (yU _ _ _ _ _ H1.out).mono (fun e w' h => ⟨h.1, _, h.2⟩)) | (go_at_call 59; with_reducible refine (yU _ _ _ _ _ H2.out).mono (fun e w' h => ⟨h.1, _, h.2⟩)) | (go_at_call 59; with_reducible refine (yU _ _ _ _ _ H3.out).mono (fun e w' h => ⟨h.1, _, h.2⟩)))
  go_wp2
  (try refine bodyPost_ret (results_tmp rfl _ _ _) rfl ?_)
  rw [HP.out]
  exact ⟨rfl, zj HBV2.out _⟩
 cases q2
 ·skip
  have hf := FAIL.out (by rw [HTF.out]; rfl)
  subst hf
  go_quiet (first | (go_at_call 59; with_reducible refine (yU _ _ _ _ _ H0.out).mono (fun e w' h => ⟨h.1, _, h.2⟩)) | (go_at_call 59; with_reducible refine (yU _ _ _ _ _ H0w.out).mono (fun e w' h => ⟨h.1, _, h.2⟩)) | (go_at_call 59; with_reducible refine (yU _ _ _ _ _ H1.out).mono (fun e w' h => ⟨h.1, _, h.2⟩)) | (go_at_call 59; with_reducible refine (yU _ _ _ _ _ H2.out).mono (fun e w' h => ⟨h.1, _, h.2⟩)) | (go_at_call 59; with_reducible refine (yU _ _ _ _ _ H3.out).mono (fun e w' h => ⟨h.1, _, h.2⟩)))
  go_wp2
  (try refine bodyPost_ret (results_tmp rfl _ _ _) rfl ?_)
  rw [HP.out]
  exact ⟨rfl, zj HBV2.out _⟩
 cases q3
 ·skip
  have hf := FAIL.out (by rw [HTF.out]; rfl)
  subst hf
  go_quiet (first | (go_at_call 59; with_reducible refine (yU _ _ _ _ _ H0.out).mono (fun e w' h => ⟨h.1, _, h.2⟩)) | (go_at_call 59; with_reducible refine (yU _ _ _ _ _ H0w.out).mono (fun e w' h => ⟨h.1, _, h.2⟩)) | (go_at_call 59; with_reducible refine (yU _ _ _ _ _ H1.out).mono (fun e w' h => ⟨h.1, _, h.2⟩)) | (go_at_call 59; with_reducible refine (yU _ _ _ _ _ H2.out).mono (fun e w' h => ⟨h.1, _, h.2⟩)) | (go_at_call 59; with_reducible refine (yU _ _ _ _ _ H3.out).mono (fun e w' h => ⟨h.1, _, h.2⟩)))
  go_wp2
  (try refine bodyPost_ret (results_tmp rfl _ _ _) rfl ?_)
  rw [HP.out]
  exact ⟨rfl, zj HBV2.out _⟩
 go_quiet (first | (go_at_call 59; with_reducible refine (yU _ _ _ _ _ H0.out).mono (fun e w' h => ⟨h.1, _, h.2⟩)) | (go_at_call 59; with_reducible refine (yU _ _ _ _ _ H0w.out).mono (fun e w' h => ⟨h.1, _, h.2⟩)) | (go_at_call 59; with_reducible refine (yU _ _ _ _ _ H1.out).mono (fun e w' h => ⟨h.1, _, h.2⟩)) | (go_at_call 59; with_reducible refine (yU _ _ _ _ _ H2.out).mono (fun e w' h => ⟨h.1, _, h.2⟩)) | (go_at_call 59; with_reducible refine (yU _ _ _ _ _ H3.out).mono (fun e w' h => ⟨h.1, _, h.2⟩)))
 obtain ⟨X, hX⟩ : ∃ X, X = V2.drewN nq := ⟨_, rfl⟩
 have HBY := zb.mk (show Below V2.heap.size V2 X by rw [hX]; exact zj (Below.refl _ _) _)
 rw [← hX]
 clear hX x0 x1 x4 x5 pp1 y1 b0 b1
 have x3 := za HBY.out ((zd HBX.out 3).trans rfl)
 have x4 := za HBY.out ((zd HBX.out 4).trans rfl)
 have x5 := za HBY.out ((zd HBX.out 5).trans rfl)
 have x6 := za HBY.out ((zd HBX.out 6).trans rfl)
 have x8 := za HBY.out ((zd HBX.out 8).trans rfl)
 have x9 := za HBY.out ((zd HBX.out 9).trans rfl)
 have x10 := za HBY.out ((zd HBX.out 10).trans rfl)
 have y0 := za HBY.out ((zd HXS.out 0).trans rfl)
 obtain ⟨p3, hp3⟩ : ∃ q, numsF t.f3 3 = q := ⟨_, rfl⟩
 obtain ⟨p8, hp8⟩ : ∃ q, numsF t.f8 3 = q := ⟨_, rfl⟩
 obtain ⟨p9, hp9⟩ : ∃ q, listF nC t.f9 = q := ⟨_, rfl⟩
 obtain ⟨p10, hp10⟩ : ∃ q, listF nC t.f10 = q := ⟨_, rfl⟩
 have HTF2 := zb.mk (show xW Bs nC T clk nL k t = ((!(t.f4 != 0 && t.f5 != 0)) && (p3 && (p8 && (p9 && (p10 && (noneF t && (timesF t.f5 t.f7 t.f11 t.f12 clk nL && (upF T k && act12F Bs T k t)))))))) by rw [← hp3, ← hp8, ← hp9, ← hp10]; exact HTF.out)
 have HWX := zb.mk (zi HBV2.out HBY.out)
 have KN3 := zb.mk (show ∀ X', Below X.heap.size X X' → Calls Try.prog 90 #[.slice A3 n3 c3, .int .i64 3] X' fun e w' => e = .returned (.bool p3) ∧ X' = w' from fun X' hX => by rw [HN3.out]; exact nums_calls A3 t.f3 c3 3 p3 X' (Kd.zt G3.out.1 (zi HWX.out hX)) hp3)
 have KN8 := zb.mk (show ∀ X', Below X.heap.size X X' → Calls Try.prog 90 #[.slice A8 n8 c8, .int .i64 3] X' fun e w' => e = .returned (.bool p8) ∧ X' = w' from fun X' hX => by rw [HN8.out]; exact nums_calls A8 t.f8 c8 3 p8 X' (Kd.zt G8.out.1 (zi HWX.out hX)) hp8)
 have KL9 := zb.mk (show ∀ X', Below X.heap.size X X' → Calls Try.prog 91 #[.slice A9 n9 c9, .int .i64 (nC : Int)] X' fun e w' => e = .returned (.bool p9) ∧ ∃ m, w' = X'.drewN m from fun X' hX => by rw [HN9.out]; exact list_calls A9 t.f9 c9 nC p9 X' (Kd.zt G9.out.1 (zi HWX.out hX)) hp9)
 have KL10 := zb.mk (show ∀ X', Below X.heap.size X X' → Calls Try.prog 91 #[.slice A10 n10 c10, .int .i64 (nC : Int)] X' fun e w' => e = .returned (.bool p10) ∧ ∃ m, w' = X'.drewN m from fun X' hX => by rw [HN10.out]; exact list_calls A10 t.f10 c10 nC p10 X' (Kd.zt G10.out.1 (zi HWX.out hX)) hp10)
 clear hp3 hp8 hp9 hp10
 go_upto_region 4 with (fail)
 go_cut [84] from 9 to 119 (fun v84 wx => ∃ m bad, wx = X.drewN m ∧ v84 = .bool bad ∧ zb (bad = true → xW Bs nC T clk nL k t = false) ∧ zb (bad = false → xW Bs nC T clk nL k t = (noneF t && (timesF t.f5 t.f7 t.f11 t.f12 clk nL && (upF T k && act12F Bs T k t)))))
 case first =>
  by_cases cs : t.f4 ≠ 0 ∧ t.f5 ≠ 0
  ·have w0 := cs.1
   have s0 := cs.2
   clear cs
   have hf := (show xW Bs nC T clk nL k t = false by rw [HTF2.out]; simp [w0, s0])
   go_wp2_with (first | (go_at_call 90; first | (with_reducible refine (KN3.out _ (by repeat (first | exact Below.refl _ _ | apply zj))).mono ?_; rintro e w' ⟨rfl, rfl⟩) | (with_reducible refine (KN8.out _ (by repeat (first | exact Below.refl _ _ | apply zj))).mono ?_; rintro e w' ⟨rfl, rfl⟩)) | (go_at_call 91; first | (with_reducible refine (KL9.out _ (by repeat (first | exact Below.refl _ _ | apply zj))).mono ?_; rintro e w' ⟨rfl, m9, rfl⟩) | (with_reducible refine (KL10.out _ (by repeat (first | exact Below.refl _ _ | apply zj))).mono ?_; rintro e w' ⟨rfl, m10, rfl⟩)))
   go_meet
   case rel => first | exact ⟨_, true, rfl, rfl, ⟨fun _ => hf⟩, ⟨fun h => by cases h⟩⟩ | exact ⟨0, true, rfl, rfl, ⟨fun _ => hf⟩, ⟨fun h => by cases h⟩⟩
  have HTF3 := zb.mk (show xW Bs nC T clk nL k t = (p3 && (p8 && (p9 && (p10 && (noneF t && (timesF t.f5 t.f7 t.f11 t.f12 clk nL && (upF T k && act12F Bs T k t))))))) by
   rw [HTF2.out, not_both cs, Bool.true_and])
  clear HTF HTF2
  have HTF2 := HTF3
  clear HTF3
  rcases (show t.f4 = 0 ∨ (¬ t.f4 = 0 ∧ t.f5 = 0) by omega) with w0 | ⟨w0, s0⟩
  all_goals
   clear cs
   cases p3
   ·skip
    have hf := (show xW Bs nC T clk nL k t = false by rw [HTF2.out]; rfl)
    go_wp2_with (first | (go_at_call 90; first | (with_reducible refine (KN3.out _ (by repeat (first | exact Below.refl _ _ | apply zj))).mono ?_; rintro e w' ⟨rfl, rfl⟩) | (with_reducible refine (KN8.out _ (by repeat (first | exact Below.refl _ _ | apply zj))).mono ?_; rintro e w' ⟨rfl, rfl⟩)) | (go_at_call 91; first | (with_reducible refine (KL9.out _ (by repeat (first | exact Below.refl _ _ | apply zj))).mono ?_; rintro e w' ⟨rfl, m9, rfl⟩) | (with_reducible refine (KL10.out _ (by repeat (first | exact Below.refl _ _ | apply zj))).mono ?_; rintro e w' ⟨rfl, m10, rfl⟩)))
    go_meet
    case rel => first | exact ⟨_, true, rfl, rfl, ⟨fun _ => hf⟩, ⟨fun h => by cases h⟩⟩ | exact ⟨0, true, rfl, rfl, ⟨fun _ => hf⟩, ⟨fun h => by cases h⟩⟩
   cases p8
   ·skip
    have hf := (show xW Bs nC T clk nL k t = false by rw [HTF2.out]; rfl)
    go_wp2_with (first | (go_at_call 90; first | (with_reducible refine (KN3.out _ (by repeat (first | exact Below.refl _ _ | apply zj))).mono ?_; rintro e w' ⟨rfl, rfl⟩) | (with_reducible refine (KN8.out _ (by repeat (first | exact Below.refl _ _ | apply zj))).mono ?_; rintro e w' ⟨rfl, rfl⟩)) | (go_at_call 91; first | (with_reducible refine (KL9.out _ (by repeat (first | exact Below.refl _ _ | apply zj))).mono ?_; rintro e w' ⟨rfl, m9, rfl⟩) | (with_reducible refine (KL10.out _ (by repeat (first | exact Below.refl _ _ | apply zj))).mono ?_; rintro e w' ⟨rfl, m10, rfl⟩)))
    go_meet
    case rel => first | exact ⟨_, true, rfl, rfl, ⟨fun _ => hf⟩, ⟨fun h => by cases h⟩⟩ | exact ⟨0, true, rfl, rfl, ⟨fun _ => hf⟩, ⟨fun h => by cases h⟩⟩
   cases p9
   ·skip
    have hf := (show xW Bs nC T clk nL k t = false by rw [HTF2.out]; rfl)
    go_wp2_with (first | (go_at_call 90; first | (with_reducible refine (KN3.out _ (by repeat (first | exact Below.refl _ _ | apply zj))).mono ?_; rintro e w' ⟨rfl, rfl⟩) | (with_reducible refine (KN8.out _ (by repeat (first | exact Below.refl _ _ | apply zj))).mono ?_; rintro e w' ⟨rfl, rfl⟩)) | (go_at_call 91; first | (with_reducible refine (KL9.out _ (by repeat (first | exact Below.refl _ _ | apply zj))).mono ?_; rintro e w' ⟨rfl, m9, rfl⟩) | (with_reducible refine (KL10.out _ (by repeat (first | exact Below.refl _ _ | apply zj))).mono ?_; rintro e w' ⟨rfl, m10, rfl⟩)))
    go_meet
    case rel => first | exact ⟨_, true, rfl, rfl, ⟨fun _ => hf⟩, ⟨fun h => by cases h⟩⟩ | exact ⟨0, true, rfl, rfl, ⟨fun _ => hf⟩, ⟨fun h => by cases h⟩⟩
   cases p10
   ·skip
    have hf := (show xW Bs nC T clk nL k t = false by rw [HTF2.out]; rfl)
    go_wp2_with (first | (go_at_call 90; first | (with_reducible refine (KN3.out _ (by repeat (first | exact Below.refl _ _ | apply zj))).mono ?_; rintro e w' ⟨rfl, rfl⟩) | (with_reducible refine (KN8.out _ (by repeat (first | exact Below.refl _ _ | apply zj))).mono ?_; rintro e w' ⟨rfl, rfl⟩)) | (go_at_call 91; first | (with_reducible refine (KL9.out _ (by repeat (first | exact Below.refl _ _ | apply zj))).mono ?_; rintro e w' ⟨rfl, m9, rfl⟩) | (with_reducible refine (KL10.out _ (by repeat (first | exact Below.refl _ _ | apply zj))).mono ?_; rintro e w' ⟨rfl, m10, rfl⟩)))
    go_meet
    case rel => first | exact ⟨_, true, rfl, rfl, ⟨fun _ => hf⟩, ⟨fun h => by cases h⟩⟩ | exact ⟨0, true, rfl, rfl, ⟨fun _ => hf⟩, ⟨fun h => by cases h⟩⟩
   go_wp2_with (first | (go_at_call 90; first | (with_reducible refine (KN3.out _ (by repeat (first | exact Below.refl _ _ | apply zj))).mono ?_; rintro e w' ⟨rfl, rfl⟩) | (with_reducible refine (KN8.out _ (by repeat (first | exact Below.refl _ _ | apply zj))).mono ?_; rintro e w' ⟨rfl, rfl⟩)) | (go_at_call 91; first | (with_reducible refine (KL9.out _ (by repeat (first | exact Below.refl _ _ | apply zj))).mono ?_; rintro e w' ⟨rfl, m9, rfl⟩) | (with_reducible refine (KL10.out _ (by repeat (first | exact Below.refl _ _ | apply zj))).mono ?_; rintro e w' ⟨rfl, m10, rfl⟩)))
   go_meet
   case rel => exact ⟨_, false, rfl, rfl, ⟨fun h => by cases h⟩, ⟨fun _ => HTF2.out⟩⟩
 case rest =>
  obtain ⟨m, bad, rfl, rfl, HT1, HT2⟩ := hcut
  cases bad
  rotate_left
  ·have hf := FAIL.out (HT1.out rfl)
   subst hf
   go_wp2
   (try refine bodyPost_ret (results_tmp rfl _ _ _) rfl ?_)
   rw [HP.out]
   exact ⟨rfl, zj HWX.out _⟩
  have HT2 := zb.mk (HT2.out rfl)
  obtain ⟨Y, hY⟩ : ∃ Y, Y = X.drewN m := ⟨_, rfl⟩
  have HYB := zb.mk (show Below w.heap.size w Y by rw [hY]; exact zj HWX.out _)
  have HVY := zb.mk (show Below V2.heap.size V2 Y by rw [hY]; exact zj HBY.out _)
  rw [← hY]
  clear hY HTF HTF2 KN3 KN8 KL9 KL10 x3 x4 x5 x6 x8 x9 x10 y0
  have x5 := za HVY.out ((zd HBX.out 5).trans rfl)
  have x6 := za HVY.out ((zd HBX.out 6).trans rfl)
  have x9 := za HVY.out ((zd HBX.out 9).trans rfl)
  have x10 := za HVY.out ((zd HBX.out 10).trans rfl)
  have e9 : wrap64 ((n9 : Int) + n10) = (n9 : Int) + n10 := by have h1 := M9.out; have h2 := M10.out; rw [← HN9.out] at h1; rw [← HN10.out] at h2; unfold wrap64; omega
  go_upto_region 6 with (fail)
  go_cut [8] from 9 to 119 (fun v8 wx => wx = Y ∧ v8 = .bool (noneF t))
  case first =>
   have HNF := zb.mk (show noneF t = (t.f5 != 0 || (t.f6 == 0 && decide (n9 + n10 = 0))) by unfold noneF; rw [← HN9.out, ← HN10.out])
   by_cases s0 : t.f5 = 0
   ·by_cases a0 : t.f6 = 0
    ·by_cases z : (n9 : Int) + n10 = 0
     ·have hv : noneF t = true := by rw [HNF.out]; simp [s0, a0]; omega
      go_wp2
      go_meet
      case rel => exact ⟨rfl, by rw [hv]; first | done | (simp; omega)⟩
     ·have hv : noneF t = false := by rw [HNF.out]; simp [s0, a0]; omega
      go_wp2
      go_meet
      case rel => exact ⟨rfl, by rw [hv]; first | done | (simp; omega)⟩
    ·have hv : noneF t = false := by rw [HNF.out]; simp [s0, a0]
     go_wp2
     go_meet
     case rel => exact ⟨rfl, by rw [hv]; first | done | (simp; omega)⟩
   ·have hv : noneF t = true := by rw [HNF.out]; simp [s0]
    go_wp2
    go_meet
    case rel => exact ⟨rfl, by rw [hv]; first | done | (simp; omega)⟩
  case rest =>
   obtain ⟨rfl, rfl⟩ := hcut
   clear x5 x6 x9 x10 e9 H0w H2 H3 HBY HWX HT1
   obtain ⟨z, hz⟩ : ∃ z, noneF t = z := ⟨_, rfl⟩
   obtain ⟨b1, hb1⟩ : ∃ b, timesF t.f5 t.f7 t.f11 t.f12 clk nL = b := ⟨_, rfl⟩
   obtain ⟨b2, hb2⟩ : ∃ b, upF T k = b := ⟨_, rfl⟩
   obtain ⟨b3, hb3⟩ : ∃ b, act12F Bs T k t = b := ⟨_, rfl⟩
   have HR := zb.mk (show r = (z && (b1 && (b2 && b3))) by rw [← HA.out, HT2.out, hz, hb1, hb2, hb3])
   rw [hz]
   have KT := zb.mk (show ∀ X', Calls Try.prog 92 #[.agg #[.int .i64 t.f0, .int .i64 t.f1, .int .i64 t.f2, .slice A3 n3 c3, .int .i64 t.f4, .int .i64 t.f5, .int .i64 t.f6, .int .i64 t.f7, .slice A8 n8 c8, .slice A9 n9 c9, .slice A10 n10 c10, .int .i64 t.f11, .int .i64 t.f12], .agg #[.slice AC nC cC, .slice (some ad) T.length cT, .int .i64 clk, .slice AL nL cL]] X' fun e w' => e = .returned (.bool b1) ∧ Below X'.heap.size X' w' from fun X' => times_calls _ _ _ _ _ _ _ _ _ _ _ _ _ _ _ _ _ _ _ _ _ _ _ _ _ _ _ _ _ _ _ _ _ hb1)
   have KU := zb.mk (show ∀ X', Below wc.heap.size wc X' → Calls Try.prog 93 #[.agg #[.slice AC nC cC, .slice (some ad) T.length cT, .int .i64 clk, .slice AL nL cL], .int .i64 k] X' fun e w' => e = .returned (.bool b2) ∧ Below X'.heap.size X' w' from fun X' hX => up_calls AC nC cC (some ad) T cT clk AL nL cL k b2 X' (Kd.zt HSTT.out (zi HYB.out hX)) HK.out.1 HK.out.2 HLEN.out hb2)
   have KA := zb.mk (show ∀ X', Below wc.heap.size wc X' → Calls Try.prog 94 #[.agg #[.slice A0 n0 c0, .slice (some adB) nB c1], .agg #[.slice AC nC cC, .slice (some ad) T.length cT, .int .i64 clk, .slice AL nL cL], .int .i64 k] X' fun e w' => e = .returned (.bool b3) ∧ Below X'.heap.size X' w' from fun X' hX => by
    have hr0 := inB_ok'.1 H0.out
    have hr1 := inB_ok'.1 H1.out
    have htk := HTK.out
    have hnb := HNB.out
    rw [hnb]
    exact act12_calls A0 n0 c0 (some adB) c1 Bs AC nC cC (some ad) cT T clk AL nL cL k b3 X' (Kd.zt HPP.out (zi HYB.out hX)) (Kd.zt HSTT.out (zi HYB.out hX)) HCT.out HK.out.1 HK.out.2 HLEN.out (by rw [← htk]; exact hr0.1) (by rw [← htk, ← hnb]; omega) (by rw [← htk]; exact hr1.1) (by rw [← htk]; exact M9.out) (by rw [← htk]; exact M10.out) (by rw [← htk]; exact hb3))
   clear hb1 hb2 hb3 hz
   have HS := zb.mk (show ∀ w', Below wc.heap.size wc w' → w'.cell? ⟨bx, 0, none⟩ = some (.int .i64 t.f0) ∧ w'.cell? ⟨bx, 1, none⟩ = some (.int .i64 t.f1) ∧ w'.cell? ⟨bx, 2, none⟩ = some (.int .i64 t.f2) ∧ w'.cell? ⟨bx, 3, none⟩ = some (.slice A3 n3 c3) ∧ w'.cell? ⟨bx, 4, none⟩ = some (.int .i64 t.f4) ∧ w'.cell? ⟨bx, 5, none⟩ = some (.int .i64 t.f5) ∧ w'.cell? ⟨bx, 6, none⟩ = some (.int .i64 t.f6) ∧ w'.cell? ⟨bx, 7, none⟩ = some (.int .i64 t.f7) ∧ w'.cell? ⟨bx, 8, none⟩ = some (.slice A8 n8 c8) ∧ w'.cell? ⟨bx, 9, none⟩ = some (.slice A9 n9 c9) ∧ w'.cell? ⟨bx, 10, none⟩ = some (.slice A10 n10 c10) ∧ w'.cell? ⟨bx, 11, none⟩ = some (.int .i64 t.f11) ∧ w'.cell? ⟨bx, 12, none⟩ = some (.int .i64 t.f12) ∧ w'.cell? ⟨w.heap.size + 1, 0, none⟩ = some (.slice AC nC cC) ∧ w'.cell? ⟨w.heap.size + 1, 1, none⟩ = some (.slice (some ad) T.length cT) ∧ w'.cell? ⟨w.heap.size + 1, 2, none⟩ = some (.int .i64 clk) ∧ w'.cell? ⟨w.heap.size + 1, 3, none⟩ = some (.slice AL nL cL) ∧ w'.cell? ⟨w.heap.size, 0, none⟩ = some (.slice A0 n0 c0) ∧ w'.cell? ⟨w.heap.size, 1, none⟩ = some (.slice (some adB) nB c1) from fun w' hb => ⟨za (zi HVY.out hb) ((zd HBX.out 0).trans rfl), za (zi HVY.out hb) ((zd HBX.out 1).trans rfl), za (zi HVY.out hb) ((zd HBX.out 2).trans rfl), za (zi HVY.out hb) ((zd HBX.out 3).trans rfl), za (zi HVY.out hb) ((zd HBX.out 4).trans rfl), za (zi HVY.out hb) ((zd HBX.out 5).trans rfl), za (zi HVY.out hb) ((zd HBX.out 6).trans rfl), za (zi HVY.out hb) ((zd HBX.out 7).trans rfl), za (zi HVY.out hb) ((zd HBX.out 8).trans rfl), za (zi HVY.out hb) ((zd HBX.out 9).trans rfl), za (zi HVY.out hb) ((zd HBX.out 10).trans rfl), za (zi HVY.out hb) ((zd HBX.out 11).trans rfl), za (zi HVY.out hb) ((zd HBX.out 12).trans rfl), za (zi HVY.out hb) ((zd HXS.out 0).trans rfl), za (zi HVY.out hb) ((zd HXS.out 1).trans rfl), za (zi HVY.out hb) ((zd HXS.out 2).trans rfl), za (zi HVY.out hb) ((zd HXS.out 3).trans rfl), za (zi HVY.out hb) ((zd HXP.out 0).trans rfl), za (zi HVY.out hb) ((zd HXP.out 1).trans rfl)⟩)
   cases z
   ·go_wp2
    (try refine bodyPost_ret (results_tmp rfl _ _ _) rfl ?_)
    rw [HP.out]
    exact ⟨by rw [HR.out]; rfl, HYB.out⟩
   ·cases b1
    rotate_left
    ·cases b2
     all_goals
      obtain ⟨x0, x1, x2, x3, x4, x5, x6, x7, x8, x9, x10, x11, x12, s0, s1, s2, s3, p0, p1⟩ := HS.out _ (Below.refl _ _)
      go_wp2_with (first | (go_at_call 92; refine (KT.out _).mono ?_; rintro e w1 ⟨rfl, hb⟩; have hq1 : Below wc.heap.size wc w1 := zi (by repeat (first | exact Below.refl _ _ | assumption | apply zn)) hb; clear hb; obtain ⟨-, -, -, -, -, -, -, -, -, -, -, -, -, s0, s1, s2, s3, p0, p1⟩ := HS.out _ hq1) | (go_at_call 93; refine (KU.out _ (by repeat (first | exact Below.refl _ _ | assumption | apply zn))).mono ?_; rintro e w2 ⟨rfl, hb⟩; have hq2 : Below wc.heap.size wc w2 := zi (by repeat (first | exact Below.refl _ _ | assumption | apply zn)) hb; clear hb; obtain ⟨-, -, -, -, -, -, -, -, -, -, -, -, -, s0, s1, s2, s3, p0, p1⟩ := HS.out _ hq2) | (go_at_call 94; refine (KA.out _ (by repeat (first | exact Below.refl _ _ | assumption | apply zn))).mono ?_; rintro e w3 ⟨rfl, hb⟩; have hq3 : Below wc.heap.size wc w3 := zi (by repeat (first | exact Below.refl _ _ | assumption | apply zn)) hb; clear hb))
      (try refine bodyPost_ret (results_tmp rfl _ _ _) rfl ?_)
      rw [HP.out]
      exact ⟨by rw [HR.out]; first | rfl | simp, zi HYB.out (by repeat (first | exact Below.refl _ _ | assumption | apply zn))⟩
    ·obtain ⟨x0, x1, x2, x3, x4, x5, x6, x7, x8, x9, x10, x11, x12, s0, s1, s2, s3, p0, p1⟩ := HS.out _ (Below.refl _ _)
     go_wp2_with (first | (go_at_call 92; refine (KT.out _).mono ?_; rintro e w1 ⟨rfl, hb⟩; have hq1 : Below wc.heap.size wc w1 := zi (by repeat (first | exact Below.refl _ _ | assumption | apply zn)) hb; clear hb; obtain ⟨-, -, -, -, -, -, -, -, -, -, -, -, -, s0, s1, s2, s3, p0, p1⟩ := HS.out _ hq1) | (go_at_call 93; refine (KU.out _ (by repeat (first | exact Below.refl _ _ | assumption | apply zn))).mono ?_; rintro e w2 ⟨rfl, hb⟩; have hq2 : Below wc.heap.size wc w2 := zi (by repeat (first | exact Below.refl _ _ | assumption | apply zn)) hb; clear hb; obtain ⟨-, -, -, -, -, -, -, -, -, -, -, -, -, s0, s1, s2, s3, p0, p1⟩ := HS.out _ hq2) | (go_at_call 94; refine (KA.out _ (by repeat (first | exact Below.refl _ _ | assumption | apply zn))).mono ?_; rintro e w3 ⟨rfl, hb⟩; have hq3 : Below wc.heap.size wc w3 := zi (by repeat (first | exact Below.refl _ _ | assumption | apply zn)) hb; clear hb))
     (try refine bodyPost_ret (results_tmp rfl _ _ _) rfl ?_)
     rw [HP.out]
     exact ⟨by rw [HR.out]; first | rfl | simp, zi HYB.out (by repeat (first | exact Below.refl _ _ | assumption | apply zn))⟩
end Go.Proofs.Ytppapibjbjmmbaa.QSY
set_option linter.unusedVariables false
set_option linter.unusedSimpArgs false
namespace Go.Proofs.Ytppapibjbjmmbaa.QSY
open Go.RowKit Go.Proofs.YtppapibjbjmmbaaW.PrintWords Go.Proofs.YtppapibjbjmmbaaW.PrintLast Go.Proofs.YtppapibjbjmmbaaW.PrintMore
def kidS (f : Int → Nat) (l : List Int) : Nat := (l.map f).sum
def actS (f : Int → Nat) (l : List zO) : Nat := (l.map fun a => kidS f a.f2).sum
def treeF (Bs : List (List zO)) : Nat → Int → Nat
 | 0, _ => 0
 | n + 1, b => 1 + actS (treeF Bs n) (bd Bs b)
structure KidsWF (Bs : List (List zO)) : Prop where
 n : 1 ≤ Bs.length ∧ Bs.length ≤ 4
 a : ∀ b : Int, 0 ≤ b → b < (Bs.length : Int) → (bd Bs b).length ≤ 4 ∧ ∀ a ∈ bd Bs b, a.f2.length ≤ 2 ∧ ∀ k ∈ a.f2, b < k ∧ k < Bs.length
theorem sum_le {α : Type} (f : α → Nat) (m : Nat) : ∀ l : List α, (∀ x ∈ l, f x ≤ m) → (l.map f).sum ≤ l.length * m
 | [], _ => by simp
 | x :: l, h => by
  have h1 := h x (List.mem_cons_self ..)
  have h2 := sum_le f m l (fun y hy => h y (List.mem_cons_of_mem _ hy))
  rw [List.map_cons, List.sum_cons, List.length_cons, Nat.succ_mul]; omega
theorem treeF_le {Bs : List (List zO)} (h : KidsWF Bs) : ∀ (n : Nat) (b : Int), 0 ≤ b → b < (Bs.length : Int) → treeF Bs n b ≤ 9 ^ n
 | 0, _, _, _ => by simp [treeF]
 | n + 1, b, h0, h1 => by
  have q := h.a b h0 h1
  have h2 : actS (treeF Bs n) (bd Bs b) ≤ (bd Bs b).length * (2 * 9 ^ n) := sum_le _ _ _ (fun a ha => by
   have h3 : kidS (treeF Bs n) a.f2 ≤ a.f2.length * 9 ^ n := sum_le _ _ _ (fun k hk => by
    have h4 := (q.2 a ha).2 k hk
    exact treeF_le h n k (by omega) h4.2)
   have h5 := Nat.mul_le_mul_right (9 ^ n) (q.2 a ha).1
   omega)
  have h6 := Nat.mul_le_mul_right (2 * 9 ^ n) q.1
  have h7 : 1 ≤ 9 ^ n := Nat.one_le_pow _ _ (by decide)
  unfold treeF
  rw [Nat.pow_succ]; omega
theorem sum_more {α : Type} (f : α → Nat) {l : List α} {i : Nat} (d : α) (h : i < l.length) : ((l.take (i + 1)).map f).sum = ((l.take i).map f).sum + f (l.getD i d) := by
 rw [List.take_succ_eq_append_getElem h, List.map_append, List.sum_append, List.getD_eq_getElem?_getD, List.getElem?_eq_getElem h]; simp
theorem getD_in {α : Type} {l : List α} {i : Nat} (d : α) (h : i < l.length) : l.getD i d ∈ l := by
 rw [List.getD_eq_getElem?_getD, List.getElem?_eq_getElem h]
 exact List.getElem_mem h
theorem wrapEq (x : Int) : IntKind.i64.wrap x = wrap64 x := IntWalk.i64_left x
set_option maxHeartbeats 4000000 in
set_option maxRecDepth 100000 in
theorem tree_calls (A0 : Option Addr) (n0 c0 : Nat) (A1 : Option Addr) (Bs : List (List zO)) (c1 : Nat) (HK : zb (KidsWF Bs)) : ∀ (n : Nat) (b : Int) (w : World), 0 ≤ b → b < (Bs.length : Int) → (Bs.length : Int) - b ≤ n → n ≤ 4 → Kd.C (Kd.slice 110 xK) w A1 Bs.length Bs →
  Calls Try.prog 89 #[.agg #[.slice A0 n0 c0, .slice A1 Bs.length c1], .int .i64 b] w fun e w' => e = .returned (.int .i64 (treeF Bs n b)) ∧ Below w.heap.size w w'
 | 0, b, w, h0, h1, h2, _, _ => by omega
 | n + 1, b, w, hb0, hb1, hbn, hn4, h1 => by
  have IH := zb.mk (tree_calls A0 n0 c0 A1 Bs c1 HK n)
  have H1 := zb.mk h1
  have M1 := zb.mk h1.2.1
  have HBN := zb.mk hbn
  have HN4 := zb.mk hn4
  have HB1 := zb.mk hb1
  obtain ⟨ad, A2, c2, rfl, z0, l2, C2⟩ := at_B h1 b hb0 hb1
  obtain ⟨la, hla⟩ : ∃ l, l = bd Bs b := ⟨_, rfl⟩
  have HLA := zb.mk hla
  rw [← hla] at z0 l2 C2
  obtain ⟨nl, hnl⟩ : ∃ n, n = la.length := ⟨_, rfl⟩
  have HNL := zb.mk hnl
  rw [← hnl] at z0 C2
  have HC2 := zb.mk C2
  have HN := zb.mk (show nl ≤ 4 by rw [hnl, hla]; exact (HK.out.a b hb0 hb1).1)
  obtain ⟨n1, hn1⟩ : ∃ n, n = Bs.length := ⟨_, rfl⟩
  have HN1 := zb.mk hn1
  rw [← hn1]
  rw [← hn1] at hb1
  clear hla hnl l2 C2 h1 hbn hn4 hn1
  obtain ⟨W, hW⟩ : ∃ W, W = w.alloc (.cells #[.slice A0 n0 c0, .slice (some ad) n1 c1] 37) := ⟨_, rfl⟩
  have HB := zb.mk (show Below w.heap.size w W by rw [hW]; exact zc (Below.refl _ _) _)
  have E0 := zb.mk (show W.heap[w.heap.size]? = some (.cells #[.slice A0 n0 c0, .slice (some ad) n1 c1] 37 (0, 0)) by rw [hW]; exact heap_alloc_new _ _)
  have Z0 := zb.mk (za HB.out z0)
  obtain ⟨bn, hbn⟩ : ∃ x : Nat, (x : Int) = b := ⟨b.toNat, by omega⟩
  subst hbn
  rw [Int.toNat_natCast] at Z0
  clear z0
  go_enter Try.func89, Try.ntmps89
  go_upto_region 1 with (fail)
  rw [← hW]
  clear hW
  go_wp2
  go_loopw [5, 6] (fun v5 v6 wr => ∃ (i s : Nat), v6 = .int .i64 i ∧ v5 = .int .i64 s ∧ zb (i ≤ la.length ∧ s = 1 + actS (treeF Bs n) (la.take i)) ∧ zb (Below W.heap.size W wr)) (fun _ v6 _ => la.length - (intOf v6).toNat)
  case atStart => exact ⟨0, 1, rfl, rfl, ⟨Nat.zero_le _, rfl⟩, ⟨Below.refl _ _⟩⟩
  case round =>
   obtain ⟨i, s, rfl, rfl, hi, hbl⟩ := hrel
   have HBL := hbl
   obtain ⟨V, hV⟩ : ∃ V, V = wr := ⟨_, rfl⟩
   rw [← hV] at HBL ⊢
   clear hV hbl
   have HBW := zb.mk (zi HB.out HBL.out)
   have y0 := za HBL.out ((zd E0.out 0).trans rfl)
   have y1 := za HBL.out ((zd E0.out 1).trans rfl)
   have z0 := za HBL.out Z0.out
   by_cases hlt : (i : Int) < (nl : Int)
   ·have HL := zb.mk (show i < la.length by rw [← HNL.out]; omega)
    have en : wrap64 ((i : Int) + 1) = ((i + 1 : Nat) : Int) := yx (n := nl) (by omega) (by have := HN.out; omega)
    obtain ⟨ad2, B1, d1, B2, d2, rfl, q0, q1, q2, q3, m1, D1, m2, D2⟩ := at_T110 HC2.out (i : Int) (by omega) hlt
    have q2 := za HBW.out q2
    obtain ⟨aa, haa⟩ : ∃ a, a = yB la (i : Int) := ⟨_, rfl⟩
    have HAA := zb.mk (show la.getD i z110 = aa by rw [haa]; unfold yB; rw [Int.toNat_natCast])
    rw [← haa] at q2 D2
    rw [Int.toNat_natCast] at q2
    have HD2 := zb.mk D2
    clear q0 q1 q3 m1 D1 m2 D2 haa
    obtain ⟨ks, hks⟩ : ∃ k, k = aa.f2 := ⟨_, rfl⟩
    have HKS := zb.mk hks
    rw [← hks] at q2 HD2
    obtain ⟨nk, hnk⟩ : ∃ k, k = ks.length := ⟨_, rfl⟩
    have HNK := zb.mk hnk
    rw [← hnk] at q2 HD2
    clear hks hnk
    have HAM := zb.mk (show aa ∈ bd Bs (bn : Int) by rw [← HAA.out, ← HLA.out]; exact getD_in _ HL.out)
    have HKW := zb.mk (show ks.length ≤ 2 ∧ ∀ k ∈ ks, (bn : Int) < k ∧ k < Bs.length by rw [HKS.out]; exact (HK.out.a _ (by omega) HB1.out).2 aa HAM.out)
    have HS9 := zb.mk (show s ≤ 73 * 9 ^ n by
     rw [hi.out.2]
     have h3 : actS (treeF Bs n) (la.take i) ≤ (la.take i).length * (2 * 9 ^ n) := sum_le _ _ _ (fun a ha => by
      have hq := (HK.out.a (bn : Int) (by omega) HB1.out).2 a (by rw [← HLA.out]; exact List.mem_of_mem_take ha)
      have h3 : kidS (treeF Bs n) a.f2 ≤ a.f2.length * 9 ^ n := sum_le _ _ _ (fun k hk => by
       have h4 := hq.2 k hk
       exact treeF_le HK.out n k (by omega) h4.2)
      have h5 := Nat.mul_le_mul_right (9 ^ n) hq.1
      omega)
     have h6 := Nat.mul_le_mul_right (2 * 9 ^ n) (Nat.le_trans (List.length_take_le' i la) (show la.length ≤ 4 by rw [← HNL.out]; exact HN.out))
     have h7 : 1 ≤ 9 ^ n := Nat.one_le_pow _ _ (by decide)
     omega)
    go_upto_region 6 with (fail)
    go_wp2
    go_loopw [5, 8] (fun v5 v8 wr => ∃ (k u : Nat), v8 = .int .i64 k ∧ v5 = .int .i64 u ∧ zb (k ≤ ks.length ∧ u = s + kidS (treeF Bs n) (ks.take k)) ∧ zb (Below W.heap.size W wr)) (fun _ v8 _ => ks.length - (intOf v8).toNat)
    case atStart => exact ⟨0, s, rfl, rfl, ⟨Nat.zero_le _, rfl⟩, HBL⟩
    case round =>
     obtain ⟨k, u, rfl, rfl, hk, hbl⟩ := hrel
     have HBM := hbl
     obtain ⟨U, hU⟩ : ∃ V, V = wr := ⟨_, rfl⟩
     rw [← hU] at HBM ⊢
     clear hU hbl y0 y1 z0 q2
     have HBV := zb.mk (zi HB.out HBM.out)
     have y0 := za HBM.out ((zd E0.out 0).trans rfl)
     have y1 := za HBM.out ((zd E0.out 1).trans rfl)
     by_cases hkt : (k : Int) < (nk : Int)
     ·have HKL := zb.mk (show k < ks.length by rw [← HNK.out]; omega)
      have ek : wrap64 ((k : Int) + 1) = ((k + 1 : Nat) : Int) := yx (n := nk) (by omega) (by have := HKW.out.1; rw [← HNK.out] at this; omega)
      obtain ⟨ad3, rfl, p0⟩ := at_li HD2.out k (by omega)
      have p0 := za HBV.out p0
      have HM := zb.mk (HKW.out.2 _ (getD_in (0 : Int) HKL.out))
      obtain ⟨x, hx⟩ : ∃ x, x = ks.getD k 0 := ⟨_, rfl⟩
      have HX := zb.mk hx
      rw [← hx] at p0 HM
      obtain ⟨tv, htv⟩ : ∃ t, t = treeF Bs n x := ⟨_, rfl⟩
      have HTV := zb.mk htv
      have HTL := zb.mk (show tv ≤ 9 ^ n by rw [htv]; exact treeF_le HK.out n x (by have := HM.out; omega) HM.out.2)
      clear hx htv
      have HU9 := zb.mk (show u ≤ 75 * 9 ^ n by
       rw [hk.out.2]
       have h3 : kidS (treeF Bs n) (ks.take k) ≤ (ks.take k).length * 9 ^ n := sum_le _ _ _ (fun k hk => by
        have h4 := HKW.out.2 k (List.mem_of_mem_take hk)
        exact treeF_le HK.out n k (by omega) h4.2)
       have h6 := Nat.mul_le_mul_right (9 ^ n) (Nat.le_trans (List.length_take_le' k ks) HKW.out.1)
       have := HS9.out
       omega)
      have e9 := zb.mk (show 9 ^ n ≤ 9 ^ 3 from Nat.pow_le_pow_right (by decide) (by have := HN4.out; omega))
      have eu : wrap64 ((u : Int) + tv) = ((u + tv : Nat) : Int) := by
       have h1 := HU9.out
       have h2 := HTL.out
       have h3 := e9.out
       unfold wrap64; omega
      have KC := zb.mk (show ∀ X, Below U.heap.size U X → Calls Try.prog 89 #[.agg #[.slice A0 n0 c0, .slice (some ad) n1 c1], .int .i64 x] X fun e w' => e = .returned (.int .i64 tv) ∧ Below X.heap.size X w' from fun X hX => by
       rw [HTV.out, HN1.out]
       have hm := HM.out
       have hbn := HBN.out
       exact IH.out x X (by omega) hm.2 (by omega) (by have := HN4.out; omega) (Kd.zt H1.out (zi HBV.out hX)))
      have HS := zb.mk (show ∀ w', Below U.heap.size U w' → w'.cell? ⟨w.heap.size, 0, none⟩ = some (.slice A0 n0 c0) ∧ w'.cell? ⟨w.heap.size, 1, none⟩ = some (.slice (some ad) n1 c1) ∧ w'.cell? (ad3.add k) = some (.int .i64 x) from fun w' hb => ⟨za hb y0, za hb y1, za hb p0⟩)
      go_upto_region 9 with (fail)
      go_region_held3 (fun w' => w'.cell? ⟨w.heap.size, 0, none⟩ = some (.slice A0 n0 c0) ∧ w'.cell? ⟨w.heap.size, 1, none⟩ = some (.slice (some ad) n1 c1) ∧ w'.cell? (ad3.add k) = some (.int .i64 x)) (first | exact HS.out _ (ze (Below.refl _ _)) | exact HS.out _ (zi (ze (Below.refl _ _)) (by assumption))) (first | (go_at_call 89; refine (KC.out _ (ze (Below.refl _ _))).mono ?_; rintro e wz ⟨rfl, hb⟩))
      have HBZ := zb.mk (zi (ze (Below.refl _ _)) hb)
      (try rw [wrapEq])
      go_wp2
      go_roundw
      case rel => exact ⟨k + 1, u + tv, by first | rw [ek] | rfl | simp, by first | rw [eu] | rfl | simp, ⟨HKL.out, by
       rw [hk.out.2]; unfold kidS
       rw [sum_more _ (0 : Int) HKL.out, ← HX.out, ← HTV.out]; omega⟩, ⟨zi HBM.out HBZ.out⟩⟩
      case measure => (try rw [ek]); have := HKL.out; simp [intOf]; omega
     ·have HE2 := zb.mk (show u = s + kidS (treeF Bs n) ks by rw [hk.out.2, List.take_of_length_le (by rw [← HNK.out]; omega)])
      go_wp2
      go_roundw
      case rel => exact ⟨i + 1, u, by first | rw [en] | rfl | simp, rfl, ⟨HL.out, by
       rw [HE2.out, hi.out.2]; unfold actS
       rw [sum_more _ z110 HL.out, HAA.out, ← HKS.out]; omega⟩, HBM⟩
      case measure => (try rw [en]); have := HL.out; simp [intOf]; omega
   ·have HE := zb.mk (show s = treeF Bs (n + 1) bn by
     rw [hi.out.2, List.take_of_length_le (by rw [← HNL.out]; omega), HLA.out]; rfl)
    go_wp2
    go_ret
    exact ⟨by rw [← HE.out]; rfl, HBW.out⟩
end Go.Proofs.Ytppapibjbjmmbaa.QSY
set_option linter.unusedVariables false
set_option linter.unusedSimpArgs false
namespace Go.Proofs.Ytppapibjbjmmbaa.QSY
open Go.RowKit Go.Proofs.YtppapibjbjmmbaaW.PrintWords Go.Proofs.YtppapibjbjmmbaaW.PrintLast Go.Proofs.YtppapibjbjmmbaaW.PrintMore
theorem xo {a b c : Int} : inB a b c = true ↔ b ≤ a ∧ a ≤ c := by unfold inB; simp
theorem lkidsF_ok {l : List Int} {body : Int} {nB : Nat} (h : lkidsF l body nB = true) (h0 : 0 ≤ body) (h1 : body < 1000) (h2 : 1 ≤ nB) (h3 : nB ≤ 1000) : 1 ≤ l.length ∧ l.length ≤ 2 ∧ ∀ k ∈ l, body < k ∧ k < nB := by
 unfold lkidsF at h
 rw [Bool.and_eq_true, List.all_eq_true] at h
 have h4 := xo.1 h.2
 refine ⟨by omega, by omega, fun k hk => ?_⟩
 have h5 := xo.1 (h.1 k hk)
 have e1 : wrap64 (body + 1) = body + 1 := by unfold wrap64; omega
 have e2 : wrap64 ((nB : Int) - 1) = (nB : Int) - 1 := by unfold wrap64; omega
 rw [e1, e2] at h5
 omega
theorem lactF_ok {a : zO} {body nB nC : Int} (h : lactF a body nB nC = true) :
  (a.f0 = 1 ∧ a.f1.length ≤ 5 ∧ (∀ d ∈ a.f1, deedF d nC = true) ∧ a.f2.length = 0) ∨ (a.f0 = 2 ∧ lkidsF a.f2 body nB = true) ∨ (a.f0 = 3 ∧ a.f2.length = 0) ∨ (a.f0 = 4 ∧ 0 ≤ a.f3 ∧ a.f3 ≤ 2 ∧ a.f2.length = 0) := by
 unfold lactF at h
 split at h
 ·cases h
 ·rename_i hb
  split at h
  ·rename_i e
   rw [Bool.and_eq_true, List.all_eq_true] at h
   exact .inl ⟨e, of_decide_eq_true h.2, h.1, by omega⟩
  ·split at h
   ·rename_i e; exact .inr (.inl ⟨e, h⟩)
   ·split at h
    ·rename_i e; exact .inr (.inr (.inl ⟨e, by omega⟩))
    ·split at h
     ·rename_i e
      have := xo.1 h
      exact .inr (.inr (.inr ⟨e, this.1, this.2, by omega⟩))
     ·cases h
theorem rowsF_ok {nC nB : Nat} : ∀ (l : List (List zO)) (j : Nat), rowsF nC nB j l = true → ∀ i, i < l.length → rowF nC nB (j + i) (l.getD i []) = true
 | [], _, _, _, h => absurd h (by simp)
 | x :: l, j, h, i, hi => by
  unfold rowsF at h
  rw [Bool.and_eq_true] at h
  cases i with
  | zero => exact h.1
  | succ i =>
   have := rowsF_ok l (j + 1) h.2 i (by simpa using hi)
   rw [show j + 1 + i = j + (i + 1) by omega] at this
   exact this
theorem formF_ok {Cs : List Int} {Bs : List (List zO)} (h : formF Cs Bs = true) : Cs.length ≤ 3 ∧ 1 ≤ Bs.length ∧ Bs.length ≤ 4 ∧ (∀ x ∈ Cs, 0 ≤ x ∧ x < 100) ∧ ∀ b : Int, 0 ≤ b → b < (Bs.length : Int) → (bd Bs b).length ≤ 4 ∧ ∀ a ∈ bd Bs b, lactF a b Bs.length Cs.length = true := by
 unfold formF at h
 split at h
 ·cases h
 ·rename_i hb
  rw [Bool.and_eq_true, List.all_eq_true] at h
  have h1 : inB (Bs.length : Int) 1 4 = true := by cases e : inB (Bs.length : Int) 1 4 <;> simp_all
  have h1 := xo.1 h1
  refine ⟨by omega, by omega, by omega, fun x hx => by have := xo.1 (h.1 x hx); omega, fun b b0 b1 => ?_⟩
  have h2 := rowsF_ok Bs 0 h.2 b.toNat (by omega)
  unfold rowF at h2
  rw [Bool.and_eq_true, List.all_eq_true, Nat.zero_add] at h2
  refine ⟨of_decide_eq_true h2.1, fun a ha => ?_⟩
  have h3 := h2.2 a ha
  rwa [Int.toNat_of_nonneg b0] at h3
theorem formF_kids {Cs : List Int} {Bs : List (List zO)} (h : formF Cs Bs = true) : KidsWF Bs := by
 obtain ⟨_, h1, h2, _, h3⟩ := formF_ok h
 refine ⟨⟨h1, h2⟩, fun b b0 b1 => ⟨(h3 b b0 b1).1, fun a ha => ?_⟩⟩
 rcases lactF_ok ((h3 b b0 b1).2 a ha) with h | ⟨_, h⟩ | h | h
 ·exact ⟨by omega, fun k hk => by rw [List.length_eq_zero_iff.1 h.2.2.2] at hk; cases hk⟩
 ·have := lkidsF_ok h b0 (by omega) h1 (by omega)
  exact ⟨this.2.1, this.2.2⟩
 ·exact ⟨by omega, fun k hk => by rw [List.length_eq_zero_iff.1 h.2] at hk; cases hk⟩
 ·exact ⟨by omega, fun k hk => by rw [List.length_eq_zero_iff.1 h.2.2.2] at hk; cases hk⟩
def okF (Cs : List Int) (Bs : List (List zO)) : Bool := formF Cs Bs && decide (treeF Bs 4 0 ≤ 7)
set_option maxHeartbeats 4000000 in
set_option maxRecDepth 100000 in
theorem ok_calls (A0 : Option Addr) (Cs : List Int) (c0 : Nat) (A1 : Option Addr) (Bs : List (List zO)) (c1 : Nat) (r : Bool) (w : World) (h0 : Kd.C (Kd.int .i64) w A0 Cs.length Cs) (h1 : Kd.C (Kd.slice 110 xK) w A1 Bs.length Bs) (h : okF Cs Bs = r) :
  Calls Try.prog 58 #[.agg #[.slice A0 Cs.length c0, .slice A1 Bs.length c1]] w fun e w' => e = .returned (.bool r) ∧ Below w.heap.size w w' := by
 have H0 := zb.mk h0
 have H1 := zb.mk h1
 have HH := zb.mk h
 obtain ⟨n0, hn0⟩ : ∃ n, n = Cs.length := ⟨_, rfl⟩
 obtain ⟨n1, hn1⟩ : ∃ n, n = Bs.length := ⟨_, rfl⟩
 have HN0 := zb.mk hn0
 have HN1 := zb.mk hn1
 rw [← hn0, ← hn1]
 obtain ⟨W, hW⟩ : ∃ W, W = w.alloc (.cells #[.slice A0 n0 c0, .slice A1 n1 c1] 37) := ⟨_, rfl⟩
 have HB := zb.mk (show Below w.heap.size w W by rw [hW]; exact zc (Below.refl _ _) _)
 have E0 := zb.mk (show W.heap[w.heap.size]? = some (.cells #[.slice A0 n0 c0, .slice A1 n1 c1] 37 (0, 0)) by rw [hW]; exact heap_alloc_new _ _)
 obtain ⟨b1, hb1⟩ : ∃ b, formF Cs Bs = b := ⟨_, rfl⟩
 have HB1 := zb.mk hb1
 clear h0 h1 hn0 hn1 h hb1
 go_enter Try.func58, Try.ntmps58
 go_upto_region 1 with (fail)
 rw [← hW]
 clear hW
 have y0 := (zd E0.out 0).trans rfl
 have y1 := (zd E0.out 1).trans rfl
 have FC := zb.mk (show Calls Try.prog 88 #[.agg #[.slice A0 n0 c0, .slice A1 n1 c1]] W fun e w' => e = .returned (.bool b1) ∧ Below W.heap.size W w' by
  rw [HN0.out, HN1.out]
  exact form_calls A0 Cs c0 A1 Bs c1 b1 W (Kd.zt H0.out HB.out) (Kd.zt H1.out HB.out) HB1.out)
 cases b1
 ·have hr := HH.out
  unfold okF at hr
  rw [HB1.out, Bool.false_and] at hr
  subst hr
  go_wp2_with (refine FC.out.mono ?_; rintro e w1 ⟨rfl, hb⟩)
  go_ret
  exact ⟨rfl, zi HB.out hb⟩
 ·have hr := HH.out
  unfold okF at hr
  rw [HB1.out, Bool.true_and] at hr
  have HR := zb.mk hr
  clear hr
  have HK := zb.mk (formF_kids HB1.out)
  obtain ⟨tv, htv⟩ : ∃ t, t = treeF Bs 4 0 := ⟨_, rfl⟩
  have HTV := zb.mk htv
  rw [← htv] at HR
  clear htv
  have TC := zb.mk (show ∀ X, Below W.heap.size W X → Calls Try.prog 89 #[.agg #[.slice A0 n0 c0, .slice A1 n1 c1], .int .i64 0] X fun e w' => e = .returned (.int .i64 tv) ∧ Below X.heap.size X w' from fun X hX => by
   rw [HTV.out, HN1.out]
   exact tree_calls A0 n0 c0 A1 Bs c1 HK 4 0 X (by omega) (by have := HK.out.n; omega) (by have := HK.out.n; omega) (by omega) (Kd.zt H1.out (zi HB.out hX)))
  go_wp2_with (first | (go_at_call 88; refine FC.out.mono ?_; rintro e w1 ⟨rfl, hb⟩; have y0 := za hb y0; have y1 := za hb y1) | (go_at_call 89; refine (TC.out _ (by assumption)).mono ?_; rintro e w2 ⟨rfl, hb2⟩))
  go_ret
  refine ⟨?_, zi (zi HB.out (by assumption)) (by assumption)⟩
  rw [← HR.out, show decide (tv ≤ 7) = decide ((tv : Int) ≤ 7) from decide_eq_decide.2 (by omega)]
  rfl
end Go.Proofs.Ytppapibjbjmmbaa.QSY
set_option linter.unusedVariables false
set_option linter.unusedSimpArgs false
namespace Go.Proofs.Ytppapibjbjmmbaa.QSY
open Go.RowKit Go.Proofs.YtppapibjbjmmbaaW.PrintWords Go.Proofs.YtppapibjbjmmbaaW.PrintLast Go.Proofs.YtppapibjbjmmbaaW.PrintMore
def tasksF (Bs : List (List zO)) (nC : Nat) (T : List S43) (clk : Int) (nL : Nat) : Bool := (List.range T.length).all (fun i => xW Bs nC T clk nL (i : Int) (zF T (i : Int)))
def sysF (Cs : List Int) (Bs : List (List zO)) (C : List S33) (T : List S43) (clk : Int) (L : List S50) : Bool :=
 okF Cs Bs && ((C.length == Cs.length) && (inB T.length 1 7 && (inB clk 0 200 && (tasksF Bs C.length T clk L.length && (cellsF C T clk && logF Bs C.length T clk L)))))
set_option maxHeartbeats 8000000 in
set_option maxRecDepth 100000 in
theorem sys_calls (A0 : Option Addr) (Cs : List Int) (c0 : Nat) (A1 : Option Addr) (Bs : List (List zO)) (c1 : Nat) (AC : Option Addr) (C : List S33) (cC : Nat) (AT : Option Addr) (T : List S43) (cT : Nat) (clk : Int) (AL : Option Addr) (L : List S50) (cL : Nat) (r : Bool) (w : World)
    (h0 : Kd.C (Kd.int .i64) w A0 Cs.length Cs) (h1 : Kd.C (Kd.slice 110 xK) w A1 Bs.length Bs) (hC : Kd.C k33 w AC C.length C) (hT : Kd.C k43 w AT T.length T) (hcT : T.length ≤ cT) (hL : Kd.C k50 w AL L.length L) (hp : ∀ t ∈ T, t.f9.length ≤ 1000 ∧ t.f10.length ≤ 1000) (h : sysF Cs Bs C T clk L = r) :
    Calls Try.prog 22 #[.agg #[.slice A0 Cs.length c0, .slice A1 Bs.length c1], .agg #[.slice AC C.length cC, .slice AT T.length cT, .int .i64 clk, .slice AL L.length cL]] w fun e w' => e = .returned (.bool r) ∧ Below w.heap.size w w' := by
  have HA0 := zb.mk h0
  have HA1 := zb.mk h1
  have HC := zb.mk hC
  have HT := zb.mk hT
  have HL := zb.mk hL
  have HCT := zb.mk hcT
  have HM := zb.mk (And.intro hT.2.1 hL.2.1)
  have HPP := zb.mk hp
  have HH := zb.mk h
  obtain ⟨n0, hn0⟩ : ∃ n, n = Cs.length := ⟨_, rfl⟩
  obtain ⟨n1, hn1⟩ : ∃ n, n = Bs.length := ⟨_, rfl⟩
  obtain ⟨nC, hnC⟩ : ∃ n, n = C.length := ⟨_, rfl⟩
  obtain ⟨nT, hnT⟩ : ∃ n, n = T.length := ⟨_, rfl⟩
  obtain ⟨nL, hnL⟩ : ∃ n, n = L.length := ⟨_, rfl⟩
  have HN0 := zb.mk hn0
  have HN1 := zb.mk hn1
  have HNC := zb.mk hnC
  have HNT := zb.mk hnT
  have HNL := zb.mk hnL
  rw [← hnT, ← hnL] at HM
  rw [← hn0, ← hn1, ← hnC, ← hnT, ← hnL]
  clear h0 h1 hC hT hL hcT hp h hn0 hn1 hnC hnT hnL
  obtain ⟨Post, hPost⟩ : ∃ P, P = fun (e : Ending) (w' : World) => e = .returned (.bool r) ∧ Below w.heap.size w w' := ⟨_, rfl⟩
  have HP := zb.mk (show ∀ e w', Post e w' ↔ (e = .returned (.bool r) ∧ Below w.heap.size w w') from fun _ _ => by rw [hPost])
  rw [← hPost]
  clear hPost
  obtain ⟨W, hW⟩ : ∃ W, W = (w.alloc (.cells #[.slice A0 n0 c0, .slice A1 n1 c1] 37)).alloc (.cells #[.slice AC nC cC, .slice AT nT cT, .int .i64 clk, .slice AL nL cL] 27) := ⟨_, rfl⟩
  have HB := zb.mk (show Below w.heap.size w W by rw [hW]; exact zc (zc (Below.refl _ _) _) _)
  have E0 := zb.mk (show W.heap[w.heap.size]? = some (.cells #[.slice A0 n0 c0, .slice A1 n1 c1] 37 (0, 0)) by rw [hW]; exact zm (heap_alloc_new _ _) _)
  have E1 := zb.mk (show W.heap[w.heap.size + 1]? = some (.cells #[.slice AC nC cC, .slice AT nT cT, .int .i64 clk, .slice AL nL cL] 27 (0, 0)) by rw [hW]; exact yd (by simp))
  go_enter Try.func22, Try.ntmps22
  go_upto_region 1 with (fail)
  rw [← hW]
  clear hW
  obtain ⟨q0, hq0⟩ : ∃ q, okF Cs Bs = q := ⟨_, rfl⟩
  obtain ⟨q2, hq2⟩ : ∃ q, inB (nT : Int) 1 7 = q := ⟨_, rfl⟩
  obtain ⟨q3, hq3⟩ : ∃ q, inB clk 0 200 = q := ⟨_, rfl⟩
  have HQ0 := zb.mk hq0
  have HQ2 := zb.mk hq2
  have HQ3 := zb.mk hq3
  have HSF := zb.mk (show r = (q0 && ((nC == n0) && (q2 && (q3 && (tasksF Bs C.length T clk L.length && (cellsF C T clk && logF Bs C.length T clk L)))))) by rw [← HH.out]; unfold sysF; rw [← HNC.out, ← HN0.out, ← HNT.out, hq0, hq2, hq3])
  clear hq0 hq2 hq3
  have K0 := zb.mk (show ∀ X', Below w.heap.size w X' → Calls Try.prog 58 #[.agg #[.slice A0 n0 c0, .slice A1 n1 c1]] X' fun e w' => e = .returned (.bool q0) ∧ Below X'.heap.size X' w' from fun X' hX => by rw [HN0.out, HN1.out]; exact ok_calls A0 Cs c0 A1 Bs c1 q0 X' (Kd.zt HA0.out hX) (Kd.zt HA1.out hX) HQ0.out)
  have hs := fun w' (hb : Below W.heap.size W w') => And.intro (za hb ((zd E1.out 0).trans rfl : W.cell? ⟨w.heap.size + 1, 0, none⟩ = some (.slice AC nC cC))) (And.intro (za hb ((zd E1.out 1).trans rfl : W.cell? ⟨w.heap.size + 1, 1, none⟩ = some (.slice AT nT cT))) (And.intro (za hb ((zd E1.out 2).trans rfl : W.cell? ⟨w.heap.size + 1, 2, none⟩ = some (.int .i64 clk))) (And.intro (za hb ((zd E1.out 3).trans rfl : W.cell? ⟨w.heap.size + 1, 3, none⟩ = some (.slice AL nL cL))) (And.intro (za hb ((zd E0.out 0).trans rfl : W.cell? ⟨w.heap.size, 0, none⟩ = some (.slice A0 n0 c0))) (za hb ((zd E0.out 1).trans rfl : W.cell? ⟨w.heap.size, 1, none⟩ = some (.slice A1 n1 c1)))))))
  have HS := zb.mk hs
  clear hs
  obtain ⟨s0, s1, s2, s3, p0, p1⟩ := HS.out _ (Below.refl _ _)
  go_cut [30] from 6 to 50 (fun v30 wx => ∃ bad, v30 = .bool bad ∧ zb (Below W.heap.size W wx) ∧ zb (bad = true → r = false) ∧ zb (bad = false → q0 = true ∧ nC = n0 ∧ q2 = true ∧ q3 = true))
  case first =>
    cases q0 <;> cases q2 <;> cases q3 <;> (by_cases hnn : (nC : Int) = (n0 : Int))
    all_goals
      go_wp2_with (first | (go_at_call 58; refine (K0.out _ HB.out).mono ?_; rintro e w1 ⟨rfl, hb⟩; have HB1 := zb.mk hb; clear hb; obtain ⟨s0, s1, s2, s3, p0, p1⟩ := HS.out _ HB1.out) | (go_at_call 59; with_reducible refine (yU _ _ _ _ _ HQ2.out).mono ?_; rintro e w' ⟨rfl, rfl⟩) | (go_at_call 59; with_reducible refine (yU _ _ _ _ _ HQ3.out).mono ?_; rintro e w' ⟨rfl, rfl⟩))
      go_meet
      case rel =>
        first
        | exact ⟨false, rfl, HB1, ⟨fun h => by cases h⟩, ⟨fun _ => ⟨by trivial, by omega, by trivial, by trivial⟩⟩⟩
        | (refine ⟨true, rfl, HB1, ⟨fun _ => ?_⟩, ⟨fun h => by cases h⟩⟩
           rw [HSF.out]
           first | rfl | (simp; done) | (rw [show (nC == n0) = false from beq_eq_false_iff_ne.2 (by omega)]; rfl))
  case rest =>
    obtain ⟨bad, rfl, HBc, HF, HG⟩ := hcut
    cases bad
    rotate_left
    · have hf := HF.out rfl
      subst hf
      go_wp2
      (try refine bodyPost_ret (results_tmp rfl _ _ _) rfl ?_)
      rw [HP.out]
      exact ⟨rfl, zi HB.out HBc.out⟩
    obtain ⟨g0, g1, g2, g3⟩ := HG.out rfl
    subst g0 g1 g2 g3
    clear HF HG s0 s1 s2 s3 p0 p1
    have HFO := zb.mk (formF_ok (show formF Cs Bs = true by have h := HQ0.out; unfold okF at h; rw [Bool.and_eq_true] at h; exact h.1))
    have HT7 := zb.mk (show nT ≤ 7 by have := inB_ok'.1 HQ2.out; omega)
    have KT := zb.mk (show ∀ (X' : World) (i : Nat) (b : Bool), Below w.heap.size w X' → i < nT → xW Bs C.length T clk L.length (i : Int) (zF T (i : Int)) = b → Calls Try.prog 60 #[.agg #[.slice A0 nC c0, .slice A1 n1 c1], .agg #[.slice AC nC cC, .slice AT nT cT, .int .i64 clk, .slice AL nL cL], .int .i64 (i : Int)] X' fun e w' => e = .returned (.bool b) ∧ Below X'.heap.size X' w' from fun X' i b hX hi hb => by
      have ht := HT7.out
      have hf := HFO.out
      have hin : zF T (i : Int) ∈ T := by unfold zF; rw [Int.toNat_natCast]; exact getD_in' _ (by rw [← HNT.out]; exact hi)
      have hpp := HPP.out _ hin
      rw [HN1.out, HNT.out, HNL.out]
      have hnc := HNC.out
      rw [hnc]
      exact task_calls A0 _ c0 A1 c1 Bs AC _ cC AT cT T clk AL _ cL (i : Int) b X' (Kd.zt HA1.out hX) (by omega) (Kd.zt HT.out hX) HCT.out (by omega) (by rw [← HNT.out]; omega) (by rw [← HNT.out]; omega) (by omega) (by omega) hb)
    go_wp2
    go_loopw [5] (fun v5 wr => ∃ (V : World) (i : Nat), V = wr ∧ v5 = .int .i64 i ∧ zb (i ≤ T.length ∧ ∀ j, j < i → xW Bs C.length T clk L.length (j : Int) (zF T (j : Int)) = true) ∧ zb (Below W.heap.size W V)) (fun v5 _ => T.length - (intOf v5).toNat)
    case atStart => exact ⟨_, 0, rfl, rfl, ⟨Nat.zero_le _, fun j hj => absurd hj (by omega)⟩, HBc⟩
    case round =>
      obtain ⟨V, i, hV, rfl, hi, HBL⟩ := hrel
      rw [← hV]
      clear hV
      obtain ⟨s0, s1, s2, s3, p0, p1⟩ := HS.out _ HBL.out
      by_cases hlt : (i : Int) < (nT : Int)
      · have HLI := zb.mk (show i < T.length by rw [← HNT.out]; omega)
        have ei := yx (i := i) (n := nT) (by omega) HM.out.1
        obtain ⟨b, hb⟩ : ∃ b, xW Bs C.length T clk L.length (i : Int) (zF T (i : Int)) = b := ⟨_, rfl⟩
        have HBT := zb.mk hb
        clear hb
        cases b
        all_goals
          go_wp2_with (first | (go_at_call 60; refine (KT.out _ i _ (zi HB.out HBL.out) (by rw [HNT.out]; exact HLI.out) HBT.out).mono ?_; rintro e w1 ⟨rfl, hb⟩; have HB2 := zb.mk (zi HBL.out hb); clear hb))
        · (try refine bodyPost_ret (results_tmp rfl _ _ _) rfl ?_)
          rw [HP.out]
          exact ⟨by rw [HSF.out]; have hz : tasksF Bs C.length T clk L.length = false := xY HLI.out HBT.out; rw [hz]; simp, zi HB.out HB2.out⟩
        · go_roundw
          case rel => exact ⟨_, i + 1, rfl, by first | rw [ei] | rfl | simp, ⟨HLI.out, fun j hj => by
            by_cases e : j = i
            · rw [e]; exact HBT.out
            · exact hi.out.2 j (by omega)⟩, HB2⟩
          case measure => (try rw [ei]); have := HLI.out; simp [intOf]; omega
      · have HTS := zb.mk (show tasksF Bs C.length T clk L.length = true from xF (fun j hj => hi.out.2 j (by rw [← HNT.out] at hj; omega)))
        obtain ⟨d0, hd0⟩ : ∃ b, cellsF C T clk = b := ⟨_, rfl⟩
        obtain ⟨d1, hd1⟩ : ∃ b, logF Bs C.length T clk L = b := ⟨_, rfl⟩
        have HR := zb.mk (show r = (d0 && d1) by rw [HSF.out, HTS.out, hd0, hd1]; simp)
        have HTB := zb.mk (show ∀ t ∈ T, 0 ≤ t.f0 ∧ t.f0 < Bs.length ∧ (bd Bs t.f0).length ≤ 1000 from fun t ht => by
          obtain ⟨j, hj, e⟩ := List.mem_iff_getElem.1 ht
          have h1 := hi.out.2 j (by rw [← HNT.out] at hj; omega)
          have e2 : zF T (j : Int) = t := by unfold zF; rw [Int.toNat_natCast, List.getD_eq_getElem?_getD, List.getElem?_eq_getElem hj]; exact e
          rw [e2] at h1
          unfold xW at h1
          rw [Bool.and_eq_true] at h1
          have h2 := inB_ok'.1 h1.1
          have h3 := HFO.out.2.2.2.2 t.f0 h2.1 (by omega)
          exact ⟨h2.1, by omega, by omega⟩)
        have KC := zb.mk (show ∀ X', Below w.heap.size w X' → Calls Try.prog 61 #[.agg #[.slice AC nC cC, .slice AT nT cT, .int .i64 clk, .slice AL nL cL]] X' fun e w' => e = .returned (.bool d0) ∧ Below X'.heap.size X' w' from fun X' hX => by
          have ht := HT7.out
          have hnc := HNC.out
          rw [HNT.out] at ht ⊢
          rw [hnc]
          exact cells_calls AC C cC AT T cT clk AL nL cL d0 X' (Kd.zt HC.out hX) (Kd.zt HT.out hX) (by omega) (fun t ht => (HPP.out t ht).2) hd0)
        have KL := zb.mk (show ∀ X', Below w.heap.size w X' → Calls Try.prog 62 #[.agg #[.slice A0 nC c0, .slice A1 n1 c1], .agg #[.slice AC nC cC, .slice AT nT cT, .int .i64 clk, .slice AL nL cL]] X' fun e w' => e = .returned (.bool d1) ∧ Below X'.heap.size X' w' from fun X' hX => by
          have ht := HT7.out
          rw [HNT.out] at ht ⊢
          rw [HN1.out, HNL.out]
          exact log_calls A0 nC c0 A1 Bs c1 AC nC cC AT T cT clk AL L cL d1 X' (Kd.zt HA1.out hX) (Kd.zt HT.out hX) (Kd.zt HL.out hX) (by omega) HTB.out (by have h := hd1; rw [← HNC.out] at h; exact h))
        clear hd0 hd1
        cases d0
        all_goals
          go_wp2_with (first | (go_at_call 61; refine (KC.out _ (zi HB.out HBL.out)).mono ?_; rintro e w1 ⟨rfl, hb⟩; have HB2 := zb.mk (zi HBL.out hb); clear hb; obtain ⟨s0, s1, s2, s3, p0, p1⟩ := HS.out _ HB2.out) | (go_at_call 62; refine (KL.out _ (zi HB.out HB2.out)).mono ?_; rintro e w2 ⟨rfl, hb⟩; have HB3 := zb.mk (zi HB2.out hb); clear hb))
          (try refine bodyPost_ret (results_tmp rfl _ _ _) rfl ?_)
          rw [HP.out]
          first | exact ⟨by rw [HR.out]; rfl, zi HB.out HB3.out⟩ | exact ⟨by rw [HR.out]; rfl, zi HB.out HB2.out⟩
end Go.Proofs.Ytppapibjbjmmbaa.QSY
namespace Go.Proofs.Ytppapibjbjmmbaa.QSY
open Go.RowKit Go.Proofs.YtppapibjbjmmbaaW.PrintWords Go.Proofs.YtppapibjbjmmbaaW.PrintLast Go.Proofs.YtppapibjbjmmbaaW.PrintMore
attribute [local go_sem] max2_int min2_int max_two min_two we xZ max_four min_four   -- for this text's walks alone
set_option linter.unusedVariables false
set_option linter.unusedSimpArgs false
def yq (w0 W : World) (g : Nat) (f0 : List Int) (f1 : Int) : Prop := ∃ A0 c0, W.heap[g]? = some (.cells #[.slice A0 f0.length c0, .int .i64 f1] 105 (0, 0)) ∧ w0.heap.size ≤ g ∧ Kd.C (Kd.int .u8) w0 A0 f0.length f0
theorem yq.grown {w0 W : World} {g : Nat} {f0 : List Int} {f1 : Int} {W1 : World} {row : Option Nat} (h : yq w0 W g f0 f1) (hw : W.grownBy W1 row) (hne : some g ≠ row) : yq w0 W1 g f0 f1 := by
 obtain ⟨A0, c0, hb, hg, hr0⟩ := h
 exact ⟨A0, c0, yv hb hw hne, hg, hr0⟩
theorem yq.fresh {w0 W : World} {g : Nat} {f0 : List Int} {f1 : Int} (h : yq w0 W g f0 f1) : ∀ k, W.heap.size ≤ k → k ≠ g := by
 obtain ⟨A0, c0, hb, hg, hr0⟩ := h
 exact Kd.xN hb
theorem yq.kept {w0 W : World} {g : Nat} {f0 : List Int} {f1 : Int} {W1 : World} {S : Nat → Prop} (h : yq w0 W g f0 f1) (hk : Kept W W1 S) (hne : ¬ S g) : yq w0 W1 g f0 f1 := by
 obtain ⟨A0, c0, hb, hg, hr0⟩ := h
 exact ⟨A0, c0, blk_kept hb hk hne, hg, hr0⟩
theorem yq.below {w0 W : World} {g : Nat} {f0 : List Int} {f1 : Int} {W1 : World} (h : yq w0 W g f0 f1) (hw : Below W.heap.size W W1) : yq w0 W1 g f0 f1 := h.grown (grown_of_below hw none) (by simp)
theorem yq.alloc {w0 W : World} {g : Nat} {f0 : List Int} {f1 : Int} (h : yq w0 W g f0 f1) (o : Obj) : yq w0 (W.alloc o) g f0 f1 := h.below (zc (Below.refl _ _) o)
theorem yq.drewN {w0 W : World} {g : Nat} {f0 : List Int} {f1 : Int} (h : yq w0 W g f0 f1) (m : Nat) : yq w0 (W.drewN m) g f0 f1 := h
theorem yq.drew {w0 W : World} {g : Nat} {f0 : List Int} {f1 : Int} (h : yq w0 W g f0 f1) : yq w0 W.drew g f0 f1 := h
theorem yq.at_ {w0 W : World} {g : Nat} {f0 : List Int} {f1 : Int} {w' : World} {m : Nat} (hq : W.drewN m = w') (h : yq w0 W g f0 f1) : yq w0 w' g f0 f1 := by subst hq; exact yq.drewN h m
theorem yq.apart {w0 W : World} {g : Nat} {f0 : List Int} {f1 : Int} {α : Type} {d : Kd α} {e : Nat} {base : Nat} {ok : Nat → Prop} {v : Value} {xs : List α} (h : yq w0 W g f0 f1) (ho : d.R e W base ok v xs) (ht : ∀ q, q ∈ e :: d.E → q ≠ 105) : d.R e W base (fun k => ok k ∧ k ≠ g) v xs := by
 obtain ⟨A0, c0, hb, hg, hr0⟩ := h
 exact Kd.R_types ho hb ht
theorem yq.lt {w0 W : World} {g : Nat} {f0 : List Int} {f1 : Int} (h : yq w0 W g f0 f1) : g < W.heap.size := by
 obtain ⟨A0, c0, hb, hg, hr0⟩ := h
 exact zo hb
theorem yq.far {w0 W : World} {g : Nat} {f0 : List Int} {f1 : Int} {p : Addr} (h : yq w0 W g f0 f1) (hne : g ≠ p.block) (u : Value) : yq w0 (W.setCell p u) g f0 f1 := by
 obtain ⟨A0, c0, hb, hg, hr0⟩ := h
 exact ⟨A0, c0, blk_far hb hne u, hg, hr0⟩
theorem yq.new (w0 W : World) (A0 : Option Addr) (c0 : Nat) (f0 : List Int) (f1 : Int) (hB : Below w0.heap.size w0 W) (hr0 : Kd.C (Kd.int .u8) w0 A0 f0.length f0) : yq w0 (W.alloc (.cells #[.slice A0 f0.length c0, .int .i64 f1] 105)) W.heap.size f0 f1 := ⟨A0, c0, by simpa using heap_alloc_new W _, hB.size, hr0⟩
def xX.f (a0 : Int) (a1 : Int) (a2 : Int) : Option (Bool) := if a0 ≥ a1 then (some (decide (a0 ≤ a2))) else (some false)
set_option maxHeartbeats 8000000 in
set_option maxRecDepth 100000 in
theorem xX.calls (a0 : Int) (a1 : Int) (a2 : Int) (r : Bool) (w : World) (h : xX.f a0 a1 a2 = some r) :
  Calls Try.prog 59 #[.int .i64 a0, .int .i64 a1, .int .i64 a2] w fun e w' => e = .returned (.bool r) ∧ yA w w' := by
 have H : (if a0 ≥ a1 then (some (decide (a0 ≤ a2))) else (some false)) = some r := h
 clear h
 by_cases c4 : a0 ≥ a1
 ·rw [if_pos c4] at H
  have c4b0 : decide (a1 ≤ a0) = true := decide_eq_true c4
  clear c4
  obtain rfl := Option.some.inj H
  go_enter Try.func59, Try.ntmps59
  go_wp2
  go_ret
  exact ⟨by first | rfl | (simp; done) | (simp [*]; done), by repeat (first | exact yA.refl _ | apply yA.step)⟩
 ·rw [if_neg c4] at H
  have c4b0 : decide (a1 ≤ a0) = false := decide_eq_false c4
  clear c4
  obtain rfl := Option.some.inj H
  go_enter Try.func59, Try.ntmps59
  go_wp2
  go_ret
  exact ⟨by first | rfl | (simp; done) | (simp [*]; done), by repeat (first | exact yA.refl _ | apply yA.step)⟩
end Go.Proofs.Ytppapibjbjmmbaa.QSY
namespace Go.Proofs.Ytppapibjbjmmbaa.QSY
open Go.RowKit Go.Proofs.YtppapibjbjmmbaaW.PrintWords Go.Proofs.YtppapibjbjmmbaaW.PrintLast Go.Proofs.YtppapibjbjmmbaaW.PrintMore
attribute [local go_sem] max2_int min2_int max_two min_two we xZ max_four min_four   -- for this text's walks alone
set_option linter.unusedVariables false
set_option linter.unusedSimpArgs false
def yj.f (a0 : Int) (a1 : Int) : Option (Bool) := if 0 ≤ a0 then (some (decide (a0 < a1))) else (some false)
set_option maxHeartbeats 8000000 in
set_option maxRecDepth 100000 in
theorem yj.calls (a0 : Int) (a1 : Int) (r : Bool) (w : World) (h : yj.f a0 a1 = some r) :
  Calls Try.prog 100 #[.int .i64 a0, .int .i64 a1] w fun e w' => e = .returned (.bool r) ∧ yA w w' := by
 have H : (if 0 ≤ a0 then (some (decide (a0 < a1))) else (some false)) = some r := h
 clear h
 by_cases c3 : 0 ≤ a0
 ·rw [if_pos c3] at H
  have c3b0 : decide (0 ≤ a0) = true := decide_eq_true c3
  clear c3
  obtain rfl := Option.some.inj H
  go_enter Try.func100, Try.ntmps100
  go_wp2
  go_ret
  exact ⟨by first | rfl | (simp; done) | (simp [*]; done), by repeat (first | exact yA.refl _ | apply yA.step)⟩
 ·rw [if_neg c3] at H
  have c3b0 : decide (0 ≤ a0) = false := decide_eq_false c3
  clear c3
  obtain rfl := Option.some.inj H
  go_enter Try.func100, Try.ntmps100
  go_wp2
  go_ret
  exact ⟨by first | rfl | (simp; done) | (simp [*]; done), by repeat (first | exact yA.refl _ | apply yA.step)⟩
end Go.Proofs.Ytppapibjbjmmbaa.QSY
