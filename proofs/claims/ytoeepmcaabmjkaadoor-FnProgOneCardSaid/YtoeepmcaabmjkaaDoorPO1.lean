import Derived.Shelf.Strings.OnBuilder
import Derived.Shelf.Strconv.Itoa3
import Derived.Test.YtoeepmcaabmjkaaDoorProg
import Derived.Below
import Derived.Deep.Draws
import Derived.Deep.AppendLies
import Derived.Maps.AppendAt
import Derived.OwnWalk
import Derived.Laws.BytesArg
import Derived.Laws.MakeOwn
import Derived.Laws.OwnMore
import Derived.Deep.OwnRows
import Derived.Tactics
import Derived.Lib.ConvBytes
import Derived.Laws.Slices
import Derived.WalkKit
import Derived.KernelRfl
import Derived.RowKit3
import Derived.Deep.LoopGhost
import Derived.Deep.QuietTactic
import Derived.BigQuiet
import Derived.WideLaws
import Derived.Deep.DeepCutAuto
import Derived.Deep.CutBlock
import Derived.Deep.RegionHeld3
import Derived.Laws.Rows
import Derived.Lib.AppendStr
import Derived.ArgAppend
import Derived.Laws.IdiomCopy
import Derived.OrdersHeld
import Derived.Laws.BitsLemmas
import Derived.RowKit
import Derived.Test.YtoeepmcaabmjkaaDoorPO0
namespace Go.Proofs.YtoeepmcaabmjkaaDoor.Shelf
open Go.Shelf
def Tryd.lays156_ren : Go.Shelf.Ren := ⟨fun | 156 => 52 | 165 => 71 | 166 => 72 | 169 => 73 | 240 => 90 | 241 => 91 | 276 => 100 | 277 => 101 | n => n, fun | 31 => 79 | 9 => 9 | 3 => 3 | 4 => 4 | 0 => 0 | 20 => 20 | 72 => 129 | 76 => 133 | 70 => 127 | 37 => 34 | 75 => 132 | 127 => 155 | 164 => 165 | 5 => 5 | 80 => 135 | n => n, fun | n => n⟩
theorem Tryd.lays156 : Go.Proofs.Lays.n156 Tryd.prog Tryd.lays156_ren := {
  mixed := by kernel_rfl
  f156 := Tryd.func52.trans (congrArg some (by kernel_rfl))
  f165 := Tryd.func71.trans (congrArg some (by kernel_rfl))
  f166 := Tryd.func72.trans (congrArg some (by kernel_rfl))
  f169 := Tryd.func73.trans (congrArg some (by kernel_rfl))
  f240 := Tryd.func90.trans (congrArg some (by kernel_rfl))
  f241 := Tryd.func91.trans (congrArg some (by kernel_rfl))
  f276 := Tryd.func100.trans (congrArg some (by kernel_rfl))
  f277 := Tryd.func101.trans (congrArg some (by kernel_rfl))
  t0 := Tryd.underlying0
  a0 := Tryd.isAgg0
  z0 := Tryd.sizeOf0
  v0 := Tryd.zeroValue0
  t3 := Tryd.underlying3
  a3 := Tryd.isAgg3
  z3 := Tryd.sizeOf3
  v3 := Tryd.zeroValue3
  t4 := Tryd.underlying4
  a4 := Tryd.isAgg4
  z4 := Tryd.sizeOf4
  v4 := Tryd.zeroValue4
  t9 := Tryd.underlying9
  a9 := Tryd.isAgg9
  z9 := Tryd.sizeOf9
  v9 := Tryd.zeroValue9
  t20 := Tryd.underlying20
  a20 := Tryd.isAgg20
  z20 := Tryd.sizeOf20
  v20 := Tryd.zeroValue20
  t31 := Tryd.underlying79
  a31 := Tryd.isAgg79
  z31 := Tryd.sizeOf79
  v31 := Tryd.zeroValue79
  t37 := Tryd.underlying34
  a37 := Tryd.isAgg34
  z37 := Tryd.sizeOf34
  v37 := Tryd.zeroValue34
  t70 := Tryd.underlying127
  a70 := Tryd.isAgg127
  z70 := Tryd.sizeOf127
  v70 := Tryd.zeroValue127
  t72 := Tryd.underlying129
  a72 := Tryd.isAgg129
  z72 := Tryd.sizeOf129
  v72 := Tryd.zeroValue129
  t75 := Tryd.underlying132
  a75 := Tryd.isAgg132
  z75 := Tryd.sizeOf132
  v75 := Tryd.zeroValue132
  t76 := Tryd.underlying133
  a76 := Tryd.isAgg133
  z76 := Tryd.sizeOf133
  v76 := Tryd.zeroValue133
  t127 := Tryd.underlying155
  a127 := Tryd.isAgg155
  z127 := Tryd.sizeOf155
  v127 := Tryd.zeroValue155
  t164 := Tryd.underlying165
  a164 := Tryd.isAgg165
  z164 := Tryd.sizeOf165
  v164 := Tryd.zeroValue165 }
theorem Tryd.Builder_Extra_156 : Builder.Extra Tryd.prog Tryd.lays156_ren := {
  sizeBuilder := by kernel_rfl
  liesBuilder := by kernel_rfl
  t5 := Tryd.underlying5
  a5 := Tryd.isAgg5
  z5 := Tryd.sizeOf5
  v5 := Tryd.zeroValue5
  infoByte := by kernel_rfl
  cellsByte := by kernel_rfl
  sizeByte := by kernel_rfl
  neB5 := by decide }
open Go.RowKit in
theorem Tryd.strings_Join (bk o c : Nat) (xs : List ByteArray) (sep : ByteArray) (w : World) (hcells : ∀ (j : Nat) x, xs[j]? = some x → w.cell? ⟨bk, o + j, none⟩ = some (.string x)) (hbk : bk < w.heap.size) (hN : xs.length ≤ 140737488355328) (hcap : xs.length ≤ c) (hlen : (Lib.join (xs.map (·.data.toList)) sep.data.toList).length ≤ 140737488355328) :
    Calls Tryd.prog 52 #[.slice (some ⟨bk, o, none⟩) xs.length c, .string sep] w fun e w' => e = .returned (.string ⟨(Lib.join (xs.map (·.data.toList)) sep.data.toList).toArray⟩) ∧ Below w.heap.size w w' := Any.strings_Join Tryd.lays156 Tryd.Builder_Extra_156 bk o c xs sep w hcells hbk hN hcap hlen
def Tryd.lays171_ren : Go.Shelf.Ren := ⟨fun | 171 => 26 | 243 => 49 | 246 => 69 | 283 => 86 | 284 => 87 | 285 => 88 | 286 => 89 | 129 => 96 | 317 => 95 | 318 => 97 | 319 => 98 | 320 => 99 | 337 => 103 | 338 => 104 | n => n, fun | 3 => 3 | 9 => 9 | 2 => 2 | 4 => 4 | 171 => 150 | 0 => 0 | 53 => 141 | 37 => 34 | 5 => 5 | 173 => 153 | 212 => 160 | 51 => 161 | 20 => 20 | 213 => 162 | 46 => 163 | 232 => 170 | 233 => 171 | n => n, fun | 17 => 0 | 18 => 2 | 19 => 3 | n => n⟩
theorem Tryd.lays171 : Go.Proofs.Lays.n171 Tryd.prog Tryd.lays171_ren := {
  mixed := by kernel_rfl
  f129 := Tryd.func96.trans (congrArg some (by kernel_rfl))
  f171 := Tryd.func26.trans (congrArg some (by kernel_rfl))
  f243 := Tryd.func49.trans (congrArg some (by kernel_rfl))
  f246 := Tryd.func69.trans (congrArg some (by kernel_rfl))
  f283 := Tryd.func86.trans (congrArg some (by kernel_rfl))
  f284 := Tryd.func87.trans (congrArg some (by kernel_rfl))
  f285 := Tryd.func88.trans (congrArg some (by kernel_rfl))
  f286 := Tryd.func89.trans (congrArg some (by kernel_rfl))
  f317 := Tryd.func95.trans (congrArg some (by kernel_rfl))
  f318 := Tryd.func97.trans (congrArg some (by kernel_rfl))
  f319 := Tryd.func98.trans (congrArg some (by kernel_rfl))
  f320 := Tryd.func99.trans (congrArg some (by kernel_rfl))
  f337 := Tryd.func103.trans (congrArg some (by kernel_rfl))
  f338 := Tryd.func104.trans (congrArg some (by kernel_rfl))
  t0 := Tryd.underlying0
  a0 := Tryd.isAgg0
  z0 := Tryd.sizeOf0
  v0 := Tryd.zeroValue0
  t2 := Tryd.underlying2
  a2 := Tryd.isAgg2
  z2 := Tryd.sizeOf2
  v2 := Tryd.zeroValue2
  t3 := Tryd.underlying3
  a3 := Tryd.isAgg3
  z3 := Tryd.sizeOf3
  v3 := Tryd.zeroValue3
  t4 := Tryd.underlying4
  a4 := Tryd.isAgg4
  z4 := Tryd.sizeOf4
  v4 := Tryd.zeroValue4
  t5 := Tryd.underlying5
  a5 := Tryd.isAgg5
  z5 := Tryd.sizeOf5
  v5 := Tryd.zeroValue5
  t9 := Tryd.underlying9
  a9 := Tryd.isAgg9
  z9 := Tryd.sizeOf9
  v9 := Tryd.zeroValue9
  t20 := Tryd.underlying20
  a20 := Tryd.isAgg20
  z20 := Tryd.sizeOf20
  v20 := Tryd.zeroValue20
  t37 := Tryd.underlying34
  a37 := Tryd.isAgg34
  z37 := Tryd.sizeOf34
  v37 := Tryd.zeroValue34
  t46 := Tryd.underlying163
  a46 := Tryd.isAgg163
  z46 := Tryd.sizeOf163
  v46 := Tryd.zeroValue163
  t51 := Tryd.underlying161
  a51 := Tryd.isAgg161
  z51 := Tryd.sizeOf161
  v51 := Tryd.zeroValue161
  t53 := Tryd.underlying141
  a53 := Tryd.isAgg141
  z53 := Tryd.sizeOf141
  v53 := Tryd.zeroValue141
  t171 := Tryd.underlying150
  a171 := Tryd.isAgg150
  z171 := Tryd.sizeOf150
  v171 := Tryd.zeroValue150
  t173 := Tryd.underlying153
  a173 := Tryd.isAgg153
  z173 := Tryd.sizeOf153
  v173 := Tryd.zeroValue153
  t212 := Tryd.underlying160
  a212 := Tryd.isAgg160
  z212 := Tryd.sizeOf160
  v212 := Tryd.zeroValue160
  t213 := Tryd.underlying162
  a213 := Tryd.isAgg162
  z213 := Tryd.sizeOf162
  t232 := Tryd.underlying170
  a232 := Tryd.isAgg170
  z232 := Tryd.sizeOf170
  v232 := Tryd.zeroValue170
  t233 := Tryd.underlying171
  a233 := Tryd.isAgg171
  z233 := Tryd.sizeOf171
  v233 := Tryd.zeroValue171
  g17 := by kernel_rfl
  g18 := by kernel_rfl
  g19 := by kernel_rfl }
open Go.RowKit Go.Sort Go.Lib in
theorem Tryd.strconv_Itoa_small (i : Nat) (hi : i < 100) (w : World) :
    Calls Tryd.prog 26 #[.int .i64 i] w fun e w' => e = .returned (.string ⟨(Lib.decDigits i).toArray⟩) ∧ w' = w := Any.strconv_Itoa_small Tryd.lays171 i hi w
end Go.Proofs.YtoeepmcaabmjkaaDoor.Shelf
namespace Go.Proofs.YtoeepmcaabmjkaaDoor.QPO
open Go.RowKit Go.Proofs.YtoeepmcaabmjkaaDoorW.PrintWords Go.Proofs.YtoeepmcaabmjkaaDoorW.PrintLast Go.Proofs.YtoeepmcaabmjkaaDoorW.PrintMore
attribute [local go_sem] yz yx yQ yP yl yk yy yw   -- for this text's walks alone
set_option linter.unusedVariables false
set_option linter.unusedSimpArgs false
def errW : Option Int → Value
  | none => .nilIface
  | some c => .iface 0 (.int .i64 c)
theorem zr : errW none = .nilIface := rfl
theorem zq (c : Int) : errW (some c) = .iface 0 (.int .i64 c) := rfl
theorem info3 : (Tryd.prog.info? 3).map (fun i => (i.zero, i.size, i.bytes)) = some (some (.int .i64 0), 1, 8) := by kernel_rfl
theorem info5 : (Tryd.prog.info? 5).map (fun i => (i.zero, i.size, i.bytes)) = some (some (.int .u8 0), 1, 1) := by kernel_rfl
theorem info52 : (Tryd.prog.info? 52).map (fun i => (i.zero, i.size, i.bytes)) = some (some (.agg #[(.int .i64 0), (.slice none 0 0), (.slice none 0 0), (.int .i64 0)]), 4, 64) := by kernel_rfl
theorem info82 : (Tryd.prog.info? 82).map (fun i => (i.zero, i.size, i.bytes)) = some (some (.agg #[(.int .i64 0), (.int .i64 0), (.int .i64 0)]), 3, 24) := by kernel_rfl
structure S82 where
  f0 : Int
  f1 : Int
  f2 : Int
instance instDecS82 : DecidableEq S82 := fun x y => decidable_of_iff (x.f0 = y.f0 ∧ x.f1 = y.f1 ∧ x.f2 = y.f2) (by cases x; cases y; simp)
def z82 : S82 := ⟨(0 : Int), (0 : Int), (0 : Int)⟩
def k82 : Kd S82 := Kd.iso (Kd.pair (Kd.int .i64) (Kd.pair (Kd.int .i64) (Kd.int .i64))) (fun x : S82 => (x.f0, x.f1, x.f2))
theorem k82_open {w : World} {x : S82} {cs : List Value} (h : k82.K w x cs) : cs = [.int .i64 x.f0, .int .i64 x.f1, .int .i64 x.f2] := by
  obtain ⟨_, _, rfl, rfl, ⟨_, _, rfl, rfl, rfl⟩⟩ := h
  exact rfl
theorem k82_mkM (w : World) (base : Nat) (ok : Nat → Prop) (x : S82)  : k82.M w base ok x [.int .i64 x.f0, .int .i64 x.f1, .int .i64 x.f2] := ⟨[.int .i64 x.f0], [.int .i64 x.f1, .int .i64 x.f2], rfl, rfl, ⟨[.int .i64 x.f1], [.int .i64 x.f2], rfl, rfl, rfl⟩⟩
def zP (xs : List S82) (i : Int) : S82 := xs.getD i.toNat z82
theorem at_T82 {w : World} {A : Option Addr} {n : Nat} {xs : List S82} (h : Kd.C k82 w A n xs) (i : Int) (h0 : 0 ≤ i) (h1 : i < n) : ∃ ad , A = some ad ∧ w.cell? (ad.add (i.toNat * 3)) = some (.int .i64 (zP xs i).f0) ∧ w.cell? ⟨(ad.add (i.toNat * 3)).block, (ad.add (i.toNat * 3)).off + 1, none⟩ = some (.int .i64 (zP xs i).f1) ∧ w.cell? ⟨(ad.add (i.toNat * 3)).block, (ad.add (i.toNat * 3)).off + 2, none⟩ = some (.int .i64 (zP xs i).f2) := by
  obtain ⟨ad, c, e, _, hK, hc0⟩ := Kd.C_get h z82 i h0 h1
  have hc : ∀ j u, c[j]? = some u → w.cell? (ad.add (i.toNat * 3 + j)) = some u := hc0
  obtain rfl := k82_open hK
  exact ⟨ad, e, hc 0 _ rfl, by rw [← add_field _ _ 1 (by omega)]; exact hc 1 _ rfl, by rw [← add_field _ _ 2 (by omega)]; exact hc 2 _ rfl⟩
structure S52 where
  f0 : Int
  f1 : (List S82)
  f2 : (List Int)
  f3 : Int
instance instDecS52 : DecidableEq S52 := fun x y => decidable_of_iff (x.f0 = y.f0 ∧ x.f1 = y.f1 ∧ x.f2 = y.f2 ∧ x.f3 = y.f3) (by cases x; cases y; simp)
def z52 : S52 := ⟨(0 : Int), ([] : List S82), ([] : List Int), (0 : Int)⟩
def k52 : Kd S52 := Kd.iso (Kd.pair (Kd.int .i64) (Kd.pair (Kd.slice 82 k82) (Kd.pair (Kd.slice 3 (Kd.int .i64)) (Kd.int .i64)))) (fun x : S52 => (x.f0, x.f1, x.f2, x.f3))
theorem k52_open {w : World} {x : S52} {cs : List Value} (h : k52.K w x cs) : ∃ A1 c1 A2 c2, cs = [.int .i64 x.f0, .slice A1 x.f1.length c1, .slice A2 x.f2.length c2, .int .i64 x.f3] ∧ x.f1.length ≤ c1 ∧ k82.C w A1 x.f1.length x.f1 ∧ x.f2.length ≤ c2 ∧ (Kd.int .i64).C w A2 x.f2.length x.f2 := by
  obtain ⟨_, _, rfl, rfl, ⟨_, _, rfl, ⟨A1, c1, rfl, l1, g1⟩, ⟨_, _, rfl, ⟨A2, c2, rfl, l2, g2⟩, rfl⟩⟩⟩ := h
  exact ⟨A1, c1, A2, c2, rfl, l1, g1, l2, g2⟩
theorem xC (w : World) (base : Nat) (ok : Nat → Prop) (x : S52) {v1 : Value} (g1 : k82.R 82 w base ok v1 x.f1) {v2 : Value} (g2 : (Kd.int .i64).R 3 w base ok v2 x.f2) : k52.M w base ok x [.int .i64 x.f0, v1, v2, .int .i64 x.f3] := ⟨[.int .i64 x.f0], [v1, v2, .int .i64 x.f3], rfl, rfl, ⟨[v1], [v2, .int .i64 x.f3], rfl, ⟨v1, rfl, g1⟩, ⟨[v2], [.int .i64 x.f3], rfl, ⟨v2, rfl, g2⟩, rfl⟩⟩⟩
def zM (xs : List S52) (i : Int) : S52 := xs.getD i.toNat z52
theorem at_T52 {w : World} {A : Option Addr} {n : Nat} {xs : List S52} (h : Kd.C k52 w A n xs) (i : Int) (h0 : 0 ≤ i) (h1 : i < n) : ∃ ad A1 c1 A2 c2, A = some ad ∧ w.cell? (ad.add (i.toNat * 4)) = some (.int .i64 (zM xs i).f0) ∧ w.cell? ⟨(ad.add (i.toNat * 4)).block, (ad.add (i.toNat * 4)).off + 1, none⟩ = some (.slice A1 (zM xs i).f1.length c1) ∧ w.cell? ⟨(ad.add (i.toNat * 4)).block, (ad.add (i.toNat * 4)).off + 2, none⟩ = some (.slice A2 (zM xs i).f2.length c2) ∧ w.cell? ⟨(ad.add (i.toNat * 4)).block, (ad.add (i.toNat * 4)).off + 3, none⟩ = some (.int .i64 (zM xs i).f3) ∧ (zM xs i).f1.length ≤ c1 ∧ k82.C w A1 (zM xs i).f1.length (zM xs i).f1 ∧ (zM xs i).f2.length ≤ c2 ∧ (Kd.int .i64).C w A2 (zM xs i).f2.length (zM xs i).f2 := by
  obtain ⟨ad, c, e, _, hK, hc0⟩ := Kd.C_get h z52 i h0 h1
  have hc : ∀ j u, c[j]? = some u → w.cell? (ad.add (i.toNat * 4 + j)) = some u := hc0
  obtain ⟨A1, c1, A2, c2, rfl, l1, g1, l2, g2⟩ := k52_open hK
  exact ⟨ad, A1, c1, A2, c2, e, hc 0 _ rfl, by rw [← add_field _ _ 1 (by omega)]; exact hc 1 _ rfl, by rw [← add_field _ _ 2 (by omega)]; exact hc 2 _ rfl, by rw [← add_field _ _ 3 (by omega)]; exact hc 3 _ rfl, l1, g1, l2, g2⟩
def zR (xs : List (List S52)) (i : Int) : (List S52) := xs.getD i.toNat ([] : List S52)
theorem at_L5 {w : World} {A : Option Addr} {n : Nat} {xs : List (List S52)} (h : Kd.C (Kd.slice 52 k52) w A n xs) (i : Int) (h0 : 0 ≤ i) (h1 : i < n) : ∃ ad A0 c0, A = some ad ∧ w.cell? (ad.add i.toNat) = some (.slice A0 (zR xs i).length c0) ∧ (zR xs i).length ≤ c0 ∧ k52.C w A0 (zR xs i).length (zR xs i) := by
  obtain ⟨ad, c, e, _, hK, hc0⟩ := Kd.C_get h ([] : List S52) i h0 h1
  have hc : ∀ j u, c[j]? = some u → w.cell? (ad.add (i.toNat * 1 + j)) = some u := hc0
  obtain ⟨A0, c0, rfl, l0, g0⟩ := hK
  exact ⟨ad, A0, c0, e, by have hq := hc 0 _ rfl; rwa [Nat.mul_one, Nat.add_zero] at hq, l0, g0⟩
structure S30 where
  f0 : (List Int)
  f1 : (List (List S52))
instance instDecS30 : DecidableEq S30 := fun x y => decidable_of_iff (x.f0 = y.f0 ∧ x.f1 = y.f1) (by cases x; cases y; simp)
end Go.Proofs.YtoeepmcaabmjkaaDoor.QPO
namespace Go.Proofs.YtoeepmcaabmjkaaDoor.QPO
open Go.RowKit Go.Proofs.YtoeepmcaabmjkaaDoorW.PrintWords Go.Proofs.YtoeepmcaabmjkaaDoorW.PrintLast Go.Proofs.YtoeepmcaabmjkaaDoorW.PrintMore
attribute [local go_sem] yz yx yQ yP yl yk yy yw   -- for this text's walks alone
set_option linter.unusedVariables false
set_option linter.unusedSimpArgs false
def zK.f (a0 : Int) (a1 : Int) (a2 : Int) : Option (Bool) := if a0 ≥ a1 then (some (decide (a0 ≤ a2))) else (some false)
set_option maxHeartbeats 8000000 in
set_option maxRecDepth 100000 in
theorem zK.calls (a0 : Int) (a1 : Int) (a2 : Int) (r : Bool) (w : World) (h : zK.f a0 a1 a2 = some r) :
    Calls Tryd.prog 63 #[.int .i64 a0, .int .i64 a1, .int .i64 a2] w fun e w' => e = .returned (.bool r) ∧ ya w w' := by
  have H : (if a0 ≥ a1 then (some (decide (a0 ≤ a2))) else (some false)) = some r := h
  clear h
  by_cases c4 : a0 ≥ a1
  · rw [if_pos c4] at H
    have c4b0 : decide (a1 ≤ a0) = true := decide_eq_true c4
    clear c4
    obtain rfl := Option.some.inj H
    go_enter Tryd.func63, Tryd.ntmps63
    go_wp2
    go_ret
    exact ⟨by first | rfl | (simp; done) | (simp [*]; done), by repeat (first | exact ya.refl _ | apply ya.step)⟩
  · rw [if_neg c4] at H
    have c4b0 : decide (a1 ≤ a0) = false := decide_eq_false c4
    clear c4
    obtain rfl := Option.some.inj H
    go_enter Tryd.func63, Tryd.ntmps63
    go_wp2
    go_ret
    exact ⟨by first | rfl | (simp; done) | (simp [*]; done), by repeat (first | exact ya.refl _ | apply ya.step)⟩
def xE.f (a0_0 : Int) (a0_1 : Int) (a0_2 : Int) (a1 : Int) : Option (Bool) := (zK.f a0_1 0 2).bind fun t102 => (if a0_0 = 1 then (if t102 = true then ((zK.f a0_2 0 (wrap64 (a1 - 1))).bind fun t103 => (some t103)) else (some false)) else (if a0_0 = 2 then ((zK.f a0_1 0 (wrap64 (a1 - 1))).bind fun t104 => (if t104 = true then ((zK.f a0_2 0 2).bind fun t105 => (some t105)) else (some false))) else (if a0_0 = 3 then (if t102 = true then ((zK.f a0_2 0 99).bind fun t106 => (some t106)) else (some false)) else (if a0_0 = 4 then (if t102 = true then ((zK.f a0_2 0 2).bind fun t107 => (some t107)) else (some false)) else (if a0_0 = 5 then (if t102 = true then (some (a0_2 == 0)) else (some false)) else (some false))))))
set_option maxHeartbeats 8000000 in
set_option maxRecDepth 100000 in
theorem xE.calls (a0_0 : Int) (a0_1 : Int) (a0_2 : Int) (a1 : Int) (r : Bool) (w : World) (h : xE.f a0_0 a0_1 a0_2 a1 = some r) :
    Calls Tryd.prog 81 #[.agg #[.int .i64 a0_0, .int .i64 a0_1, .int .i64 a0_2], .int .i64 a1] w fun e w' => e = .returned (.bool r) ∧ Below w.heap.size w w' := by
  have hu82 := Tryd.underlying82
  have HB := za.mk (Below.refl w.heap.size w)
  have H : ((zK.f a0_1 0 2).bind fun t102 => (if a0_0 = 1 then (if t102 = true then ((zK.f a0_2 0 (wrap64 (a1 - 1))).bind fun t103 => (some t103)) else (some false)) else (if a0_0 = 2 then ((zK.f a0_1 0 (wrap64 (a1 - 1))).bind fun t104 => (if t104 = true then ((zK.f a0_2 0 2).bind fun t105 => (some t105)) else (some false))) else (if a0_0 = 3 then (if t102 = true then ((zK.f a0_2 0 99).bind fun t106 => (some t106)) else (some false)) else (if a0_0 = 4 then (if t102 = true then ((zK.f a0_2 0 2).bind fun t107 => (some t107)) else (some false)) else (if a0_0 = 5 then (if t102 = true then (some (a0_2 == 0)) else (some false)) else (some false))))))) = some r := h
  clear h
  replace H := Option.bind_eq_some_iff.mp H
  obtain ⟨t102, A30, H⟩ := H
  replace H : (if a0_0 = 1 then (if t102 = true then ((zK.f a0_2 0 (wrap64 (a1 - 1))).bind fun t103 => (some t103)) else (some false)) else (if a0_0 = 2 then ((zK.f a0_1 0 (wrap64 (a1 - 1))).bind fun t104 => (if t104 = true then ((zK.f a0_2 0 2).bind fun t105 => (some t105)) else (some false))) else (if a0_0 = 3 then (if t102 = true then ((zK.f a0_2 0 99).bind fun t106 => (some t106)) else (some false)) else (if a0_0 = 4 then (if t102 = true then ((zK.f a0_2 0 2).bind fun t107 => (some t107)) else (some false)) else (if a0_0 = 5 then (if t102 = true then (some (a0_2 == 0)) else (some false)) else (some false)))))) = some r := H
  have A3 := za.mk A30
  clear A30
  by_cases c4 : a0_0 = 1
  · rw [if_pos c4] at H
    have c4b0 : (a0_0 == 1) = true := beq_iff_eq.mpr c4
    have c4b1 : (a0_0 != 1) = false := bne_eq_false_iff_eq.mpr c4
    clear c4
    by_cases c5 : t102 = true
    · subst c5
      have H1 : ((zK.f a0_2 0 (wrap64 (a1 - 1))).bind fun t103 => (some t103)) = some r := by rw [if_pos rfl] at H; exact H
      clear H
      have H := H1
      clear H1
      replace H := Option.bind_eq_some_iff.mp H
      obtain ⟨t103, A60, H⟩ := H
      replace H : (some t103) = some r := H
      have A6 := za.mk A60
      clear A60
      obtain rfl := Option.some.inj H
      go_enter Tryd.func81, Tryd.ntmps81
      go_wp2_with (first | ((with_reducible refine zY (N := 2) rfl ?_); refine ye ?hg (N := 2) ?hd (cs := #[.int .i64 a0_0, .int .i64 a0_1, .int .i64 a0_2]) (t := 82) ?hr ?_; (case hd => rfl); (case hg => rfl); (case hr => first | (go_simp; done) | (go_simp; rfl)); intro gb101 hg w7 hbox hb; have n0_ := za.mk (zp (by repeat (with_reducible first | exact HB.out | apply zc | apply zb | apply zd)) hb); have n1_ := za.mk (hbox); have n2_ := za.mk ((by rw [hg]; exact (zy (by repeat (with_reducible first | exact HB.out | apply zc | apply zb | apply zd))) : w.heap.size ≤ gb101)); have n3_ := za.mk ((by rw [hg]; exact (zy (by repeat (with_reducible first | exact HB.out | apply zc | apply zb | apply zd))) : w.heap.size ≤ gb101)); clear HB; have HB := n0_; have BK101 := n1_; have GW101 := n2_; have GE101 := n3_; clear n0_ n1_ n2_ n3_; clear hb hbox hg; have hcz8_0 : w7.cell? ⟨gb101, 0, none⟩ = some (.int .i64 a0_0) := (zf BK101.out 0).trans rfl; have hcz8_1 : w7.cell? ⟨gb101, 1, none⟩ = some (.int .i64 a0_1) := (zf BK101.out 1).trans rfl; have hcz8_2 : w7.cell? ⟨gb101, 2, none⟩ = some (.int .i64 a0_2) := (zf BK101.out 2).trans rfl; have hfz8_0 := zg BK101.out 0; have hfz8_1 := zg BK101.out 1; have hfz8_2 := zg BK101.out 2) | ((with_reducible refine zx (f := 63) rfl ?_); refine z6 (some 8) rfl rfl Tryd.func63 (by kernel_rfl) rfl #[.int .i64 a0_1, .int .i64 0, .int .i64 2] rfl (by (try simp only [List.map_toArray, List.map_cons, List.map_nil]); first | done | rfl | (simp only [List.length_drop, List.length_take]; rfl)) ?_; (with_reducible refine (zK.calls a0_1 0 2 true _ A3.out).mono ?_); rintro e w' ⟨rfl, ⟨nd, rfl⟩⟩; refine ⟨_, rfl, ?_⟩) | (go_at_call 63; (with_reducible refine (zK.calls a0_2 0 (wrap64 (a1 - 1)) t103 _ A6.out).mono ?_); rintro e w' ⟨rfl, ⟨nd, rfl⟩⟩))
      go_ret
      exact ⟨by first | rfl | (simp [zr, zq] <;> rfl) | (simp [*, zr, zq] <;> rfl), by repeat (with_reducible first | exact HB.out | apply zc | apply zb | apply zd | refine zh ?_ GE101.out)⟩
    · replace c5 := Bool.eq_false_iff.mpr c5
      subst c5
      have H1 : (some false) = some r := by rw [if_neg (show ¬ (false = true) by decide)] at H; exact H
      clear H
      have H := H1
      clear H1
      obtain rfl := Option.some.inj H
      go_enter Tryd.func81, Tryd.ntmps81
      go_wp2_with (first | ((with_reducible refine zY (N := 2) rfl ?_); refine ye ?hg (N := 2) ?hd (cs := #[.int .i64 a0_0, .int .i64 a0_1, .int .i64 a0_2]) (t := 82) ?hr ?_; (case hd => rfl); (case hg => rfl); (case hr => first | (go_simp; done) | (go_simp; rfl)); intro gb101 hg w9 hbox hb; have n0_ := za.mk (zp (by repeat (with_reducible first | exact HB.out | apply zc | apply zb | apply zd)) hb); have n1_ := za.mk (hbox); have n2_ := za.mk ((by rw [hg]; exact (zy (by repeat (with_reducible first | exact HB.out | apply zc | apply zb | apply zd))) : w.heap.size ≤ gb101)); have n3_ := za.mk ((by rw [hg]; exact (zy (by repeat (with_reducible first | exact HB.out | apply zc | apply zb | apply zd))) : w.heap.size ≤ gb101)); clear HB; have HB := n0_; have BK101 := n1_; have GW101 := n2_; have GE101 := n3_; clear n0_ n1_ n2_ n3_; clear hb hbox hg; have hcz10_0 : w9.cell? ⟨gb101, 0, none⟩ = some (.int .i64 a0_0) := (zf BK101.out 0).trans rfl; have hcz10_1 : w9.cell? ⟨gb101, 1, none⟩ = some (.int .i64 a0_1) := (zf BK101.out 1).trans rfl; have hcz10_2 : w9.cell? ⟨gb101, 2, none⟩ = some (.int .i64 a0_2) := (zf BK101.out 2).trans rfl; have hfz10_0 := zg BK101.out 0; have hfz10_1 := zg BK101.out 1; have hfz10_2 := zg BK101.out 2) | ((with_reducible refine zx (f := 63) rfl ?_); refine z6 (some 8) rfl rfl Tryd.func63 (by kernel_rfl) rfl #[.int .i64 a0_1, .int .i64 0, .int .i64 2] rfl (by (try simp only [List.map_toArray, List.map_cons, List.map_nil]); first | done | rfl | (simp only [List.length_drop, List.length_take]; rfl)) ?_; (with_reducible refine (zK.calls a0_1 0 2 false _ A3.out).mono ?_); rintro e w' ⟨rfl, ⟨nd, rfl⟩⟩; refine ⟨_, rfl, ?_⟩))
      go_ret
      exact ⟨by first | rfl | (simp [zr, zq] <;> rfl) | (simp [*, zr, zq] <;> rfl), by repeat (with_reducible first | exact HB.out | apply zc | apply zb | apply zd | refine zh ?_ GE101.out)⟩
  · rw [if_neg c4] at H
    have c4b0 : (a0_0 == 1) = false := beq_eq_false_iff_ne.mpr c4
    have c4b1 : (a0_0 != 1) = true := bne_iff_ne.mpr c4
    by_cases c11 : a0_0 = 2
    · rw [if_pos c11] at H
      have c11b0 : (a0_0 == 2) = true := beq_iff_eq.mpr c11
      have c11b1 : (a0_0 != 2) = false := bne_eq_false_iff_eq.mpr c11
      clear c11
      replace H := Option.bind_eq_some_iff.mp H
      obtain ⟨t104, A120, H⟩ := H
      replace H : (if t104 = true then ((zK.f a0_2 0 2).bind fun t105 => (some t105)) else (some false)) = some r := H
      have A12 := za.mk A120
      clear A120
      by_cases c13 : t104 = true
      · subst c13
        have H1 : ((zK.f a0_2 0 2).bind fun t105 => (some t105)) = some r := by rw [if_pos rfl] at H; exact H
        clear H
        have H := H1
        clear H1
        replace H := Option.bind_eq_some_iff.mp H
        obtain ⟨t105, A140, H⟩ := H
        replace H : (some t105) = some r := H
        have A14 := za.mk A140
        clear A140
        obtain rfl := Option.some.inj H
        go_enter Tryd.func81, Tryd.ntmps81
        go_wp2_with (first | ((with_reducible refine zY (N := 2) rfl ?_); refine ye ?hg (N := 2) ?hd (cs := #[.int .i64 a0_0, .int .i64 a0_1, .int .i64 a0_2]) (t := 82) ?hr ?_; (case hd => rfl); (case hg => rfl); (case hr => first | (go_simp; done) | (go_simp; rfl)); intro gb101 hg w15 hbox hb; have n0_ := za.mk (zp (by repeat (with_reducible first | exact HB.out | apply zc | apply zb | apply zd)) hb); have n1_ := za.mk (hbox); have n2_ := za.mk ((by rw [hg]; exact (zy (by repeat (with_reducible first | exact HB.out | apply zc | apply zb | apply zd))) : w.heap.size ≤ gb101)); have n3_ := za.mk ((by rw [hg]; exact (zy (by repeat (with_reducible first | exact HB.out | apply zc | apply zb | apply zd))) : w.heap.size ≤ gb101)); clear HB; have HB := n0_; have BK101 := n1_; have GW101 := n2_; have GE101 := n3_; clear n0_ n1_ n2_ n3_; clear hb hbox hg; have hcz16_0 : w15.cell? ⟨gb101, 0, none⟩ = some (.int .i64 a0_0) := (zf BK101.out 0).trans rfl; have hcz16_1 : w15.cell? ⟨gb101, 1, none⟩ = some (.int .i64 a0_1) := (zf BK101.out 1).trans rfl; have hcz16_2 : w15.cell? ⟨gb101, 2, none⟩ = some (.int .i64 a0_2) := (zf BK101.out 2).trans rfl; have hfz16_0 := zg BK101.out 0; have hfz16_1 := zg BK101.out 1; have hfz16_2 := zg BK101.out 2) | ((with_reducible refine zx (f := 63) rfl ?_); refine z6 (some 8) rfl rfl Tryd.func63 (by kernel_rfl) rfl #[.int .i64 a0_1, .int .i64 0, .int .i64 2] rfl (by (try simp only [List.map_toArray, List.map_cons, List.map_nil]); first | done | rfl | (simp only [List.length_drop, List.length_take]; rfl)) ?_; (with_reducible refine (zK.calls a0_1 0 2 t102 _ A3.out).mono ?_); rintro e w' ⟨rfl, ⟨nd, rfl⟩⟩; refine ⟨_, rfl, ?_⟩) | ((with_reducible refine zx (f := 63) rfl ?_); refine z6 (some 27) rfl rfl Tryd.func63 (by kernel_rfl) rfl #[.int .i64 a0_1, .int .i64 0, .int .i64 (wrap64 (a1 - 1))] rfl (by (try simp only [List.map_toArray, List.map_cons, List.map_nil]); first | done | rfl | (simp only [List.length_drop, List.length_take]; rfl)) ?_; (with_reducible refine (zK.calls a0_1 0 (wrap64 (a1 - 1)) true _ A12.out).mono ?_); rintro e w' ⟨rfl, ⟨nd, rfl⟩⟩; refine ⟨_, rfl, ?_⟩) | (go_at_call 63; (with_reducible refine (zK.calls a0_2 0 2 t105 _ A14.out).mono ?_); rintro e w' ⟨rfl, ⟨nd, rfl⟩⟩))
        go_ret
        exact ⟨by first | rfl | (simp [zr, zq] <;> rfl) | (simp [*, zr, zq] <;> rfl), by repeat (with_reducible first | exact HB.out | apply zc | apply zb | apply zd | refine zh ?_ GE101.out)⟩
      · replace c13 := Bool.eq_false_iff.mpr c13
        subst c13
        have H1 : (some false) = some r := by rw [if_neg (show ¬ (false = true) by decide)] at H; exact H
        clear H
        have H := H1
        clear H1
        obtain rfl := Option.some.inj H
        go_enter Tryd.func81, Tryd.ntmps81
        go_wp2_with (first | ((with_reducible refine zY (N := 2) rfl ?_); refine ye ?hg (N := 2) ?hd (cs := #[.int .i64 a0_0, .int .i64 a0_1, .int .i64 a0_2]) (t := 82) ?hr ?_; (case hd => rfl); (case hg => rfl); (case hr => first | (go_simp; done) | (go_simp; rfl)); intro gb101 hg w17 hbox hb; have n0_ := za.mk (zp (by repeat (with_reducible first | exact HB.out | apply zc | apply zb | apply zd)) hb); have n1_ := za.mk (hbox); have n2_ := za.mk ((by rw [hg]; exact (zy (by repeat (with_reducible first | exact HB.out | apply zc | apply zb | apply zd))) : w.heap.size ≤ gb101)); have n3_ := za.mk ((by rw [hg]; exact (zy (by repeat (with_reducible first | exact HB.out | apply zc | apply zb | apply zd))) : w.heap.size ≤ gb101)); clear HB; have HB := n0_; have BK101 := n1_; have GW101 := n2_; have GE101 := n3_; clear n0_ n1_ n2_ n3_; clear hb hbox hg; have hcz18_0 : w17.cell? ⟨gb101, 0, none⟩ = some (.int .i64 a0_0) := (zf BK101.out 0).trans rfl; have hcz18_1 : w17.cell? ⟨gb101, 1, none⟩ = some (.int .i64 a0_1) := (zf BK101.out 1).trans rfl; have hcz18_2 : w17.cell? ⟨gb101, 2, none⟩ = some (.int .i64 a0_2) := (zf BK101.out 2).trans rfl; have hfz18_0 := zg BK101.out 0; have hfz18_1 := zg BK101.out 1; have hfz18_2 := zg BK101.out 2) | ((with_reducible refine zx (f := 63) rfl ?_); refine z6 (some 8) rfl rfl Tryd.func63 (by kernel_rfl) rfl #[.int .i64 a0_1, .int .i64 0, .int .i64 2] rfl (by (try simp only [List.map_toArray, List.map_cons, List.map_nil]); first | done | rfl | (simp only [List.length_drop, List.length_take]; rfl)) ?_; (with_reducible refine (zK.calls a0_1 0 2 t102 _ A3.out).mono ?_); rintro e w' ⟨rfl, ⟨nd, rfl⟩⟩; refine ⟨_, rfl, ?_⟩) | ((with_reducible refine zx (f := 63) rfl ?_); refine z6 (some 27) rfl rfl Tryd.func63 (by kernel_rfl) rfl #[.int .i64 a0_1, .int .i64 0, .int .i64 (wrap64 (a1 - 1))] rfl (by (try simp only [List.map_toArray, List.map_cons, List.map_nil]); first | done | rfl | (simp only [List.length_drop, List.length_take]; rfl)) ?_; (with_reducible refine (zK.calls a0_1 0 (wrap64 (a1 - 1)) false _ A12.out).mono ?_); rintro e w' ⟨rfl, ⟨nd, rfl⟩⟩; refine ⟨_, rfl, ?_⟩))
        go_ret
        exact ⟨by first | rfl | (simp [zr, zq] <;> rfl) | (simp [*, zr, zq] <;> rfl), by repeat (with_reducible first | exact HB.out | apply zc | apply zb | apply zd | refine zh ?_ GE101.out)⟩
    · rw [if_neg c11] at H
      have c11b0 : (a0_0 == 2) = false := beq_eq_false_iff_ne.mpr c11
      have c11b1 : (a0_0 != 2) = true := bne_iff_ne.mpr c11
      by_cases c19 : a0_0 = 3
      · rw [if_pos c19] at H
        have c19b0 : (a0_0 == 3) = true := beq_iff_eq.mpr c19
        have c19b1 : (a0_0 != 3) = false := bne_eq_false_iff_eq.mpr c19
        clear c19
        by_cases c20 : t102 = true
        · subst c20
          have H1 : ((zK.f a0_2 0 99).bind fun t106 => (some t106)) = some r := by rw [if_pos rfl] at H; exact H
          clear H
          have H := H1
          clear H1
          replace H := Option.bind_eq_some_iff.mp H
          obtain ⟨t106, A210, H⟩ := H
          replace H : (some t106) = some r := H
          have A21 := za.mk A210
          clear A210
          obtain rfl := Option.some.inj H
          go_enter Tryd.func81, Tryd.ntmps81
          go_wp2_with (first | ((with_reducible refine zY (N := 2) rfl ?_); refine ye ?hg (N := 2) ?hd (cs := #[.int .i64 a0_0, .int .i64 a0_1, .int .i64 a0_2]) (t := 82) ?hr ?_; (case hd => rfl); (case hg => rfl); (case hr => first | (go_simp; done) | (go_simp; rfl)); intro gb101 hg w22 hbox hb; have n0_ := za.mk (zp (by repeat (with_reducible first | exact HB.out | apply zc | apply zb | apply zd)) hb); have n1_ := za.mk (hbox); have n2_ := za.mk ((by rw [hg]; exact (zy (by repeat (with_reducible first | exact HB.out | apply zc | apply zb | apply zd))) : w.heap.size ≤ gb101)); have n3_ := za.mk ((by rw [hg]; exact (zy (by repeat (with_reducible first | exact HB.out | apply zc | apply zb | apply zd))) : w.heap.size ≤ gb101)); clear HB; have HB := n0_; have BK101 := n1_; have GW101 := n2_; have GE101 := n3_; clear n0_ n1_ n2_ n3_; clear hb hbox hg; have hcz23_0 : w22.cell? ⟨gb101, 0, none⟩ = some (.int .i64 a0_0) := (zf BK101.out 0).trans rfl; have hcz23_1 : w22.cell? ⟨gb101, 1, none⟩ = some (.int .i64 a0_1) := (zf BK101.out 1).trans rfl; have hcz23_2 : w22.cell? ⟨gb101, 2, none⟩ = some (.int .i64 a0_2) := (zf BK101.out 2).trans rfl; have hfz23_0 := zg BK101.out 0; have hfz23_1 := zg BK101.out 1; have hfz23_2 := zg BK101.out 2) | ((with_reducible refine zx (f := 63) rfl ?_); refine z6 (some 8) rfl rfl Tryd.func63 (by kernel_rfl) rfl #[.int .i64 a0_1, .int .i64 0, .int .i64 2] rfl (by (try simp only [List.map_toArray, List.map_cons, List.map_nil]); first | done | rfl | (simp only [List.length_drop, List.length_take]; rfl)) ?_; (with_reducible refine (zK.calls a0_1 0 2 true _ A3.out).mono ?_); rintro e w' ⟨rfl, ⟨nd, rfl⟩⟩; refine ⟨_, rfl, ?_⟩) | (go_at_call 63; (with_reducible refine (zK.calls a0_2 0 99 t106 _ A21.out).mono ?_); rintro e w' ⟨rfl, ⟨nd, rfl⟩⟩))
          go_ret
          exact ⟨by first | rfl | (simp [zr, zq] <;> rfl) | (simp [*, zr, zq] <;> rfl), by repeat (with_reducible first | exact HB.out | apply zc | apply zb | apply zd | refine zh ?_ GE101.out)⟩
        · replace c20 := Bool.eq_false_iff.mpr c20
          subst c20
          have H1 : (some false) = some r := by rw [if_neg (show ¬ (false = true) by decide)] at H; exact H
          clear H
          have H := H1
          clear H1
          obtain rfl := Option.some.inj H
          go_enter Tryd.func81, Tryd.ntmps81
          go_wp2_with (first | ((with_reducible refine zY (N := 2) rfl ?_); refine ye ?hg (N := 2) ?hd (cs := #[.int .i64 a0_0, .int .i64 a0_1, .int .i64 a0_2]) (t := 82) ?hr ?_; (case hd => rfl); (case hg => rfl); (case hr => first | (go_simp; done) | (go_simp; rfl)); intro gb101 hg w24 hbox hb; have n0_ := za.mk (zp (by repeat (with_reducible first | exact HB.out | apply zc | apply zb | apply zd)) hb); have n1_ := za.mk (hbox); have n2_ := za.mk ((by rw [hg]; exact (zy (by repeat (with_reducible first | exact HB.out | apply zc | apply zb | apply zd))) : w.heap.size ≤ gb101)); have n3_ := za.mk ((by rw [hg]; exact (zy (by repeat (with_reducible first | exact HB.out | apply zc | apply zb | apply zd))) : w.heap.size ≤ gb101)); clear HB; have HB := n0_; have BK101 := n1_; have GW101 := n2_; have GE101 := n3_; clear n0_ n1_ n2_ n3_; clear hb hbox hg; have hcz25_0 : w24.cell? ⟨gb101, 0, none⟩ = some (.int .i64 a0_0) := (zf BK101.out 0).trans rfl; have hcz25_1 : w24.cell? ⟨gb101, 1, none⟩ = some (.int .i64 a0_1) := (zf BK101.out 1).trans rfl; have hcz25_2 : w24.cell? ⟨gb101, 2, none⟩ = some (.int .i64 a0_2) := (zf BK101.out 2).trans rfl; have hfz25_0 := zg BK101.out 0; have hfz25_1 := zg BK101.out 1; have hfz25_2 := zg BK101.out 2) | ((with_reducible refine zx (f := 63) rfl ?_); refine z6 (some 8) rfl rfl Tryd.func63 (by kernel_rfl) rfl #[.int .i64 a0_1, .int .i64 0, .int .i64 2] rfl (by (try simp only [List.map_toArray, List.map_cons, List.map_nil]); first | done | rfl | (simp only [List.length_drop, List.length_take]; rfl)) ?_; (with_reducible refine (zK.calls a0_1 0 2 false _ A3.out).mono ?_); rintro e w' ⟨rfl, ⟨nd, rfl⟩⟩; refine ⟨_, rfl, ?_⟩))
          go_ret
          exact ⟨by first | rfl | (simp [zr, zq] <;> rfl) | (simp [*, zr, zq] <;> rfl), by repeat (with_reducible first | exact HB.out | apply zc | apply zb | apply zd | refine zh ?_ GE101.out)⟩
      · rw [if_neg c19] at H
        have c19b0 : (a0_0 == 3) = false := beq_eq_false_iff_ne.mpr c19
        have c19b1 : (a0_0 != 3) = true := bne_iff_ne.mpr c19
        by_cases c26 : a0_0 = 4
        · rw [if_pos c26] at H
          have c26b0 : (a0_0 == 4) = true := beq_iff_eq.mpr c26
          have c26b1 : (a0_0 != 4) = false := bne_eq_false_iff_eq.mpr c26
          clear c26
          by_cases c27 : t102 = true
          · subst c27
            have H1 : ((zK.f a0_2 0 2).bind fun t107 => (some t107)) = some r := by rw [if_pos rfl] at H; exact H
            clear H
            have H := H1
            clear H1
            replace H := Option.bind_eq_some_iff.mp H
            obtain ⟨t107, A280, H⟩ := H
            replace H : (some t107) = some r := H
            have A28 := za.mk A280
            clear A280
            obtain rfl := Option.some.inj H
            go_enter Tryd.func81, Tryd.ntmps81
            go_wp2_with (first | ((with_reducible refine zY (N := 2) rfl ?_); refine ye ?hg (N := 2) ?hd (cs := #[.int .i64 a0_0, .int .i64 a0_1, .int .i64 a0_2]) (t := 82) ?hr ?_; (case hd => rfl); (case hg => rfl); (case hr => first | (go_simp; done) | (go_simp; rfl)); intro gb101 hg w29 hbox hb; have n0_ := za.mk (zp (by repeat (with_reducible first | exact HB.out | apply zc | apply zb | apply zd)) hb); have n1_ := za.mk (hbox); have n2_ := za.mk ((by rw [hg]; exact (zy (by repeat (with_reducible first | exact HB.out | apply zc | apply zb | apply zd))) : w.heap.size ≤ gb101)); have n3_ := za.mk ((by rw [hg]; exact (zy (by repeat (with_reducible first | exact HB.out | apply zc | apply zb | apply zd))) : w.heap.size ≤ gb101)); clear HB; have HB := n0_; have BK101 := n1_; have GW101 := n2_; have GE101 := n3_; clear n0_ n1_ n2_ n3_; clear hb hbox hg; have hcz30_0 : w29.cell? ⟨gb101, 0, none⟩ = some (.int .i64 a0_0) := (zf BK101.out 0).trans rfl; have hcz30_1 : w29.cell? ⟨gb101, 1, none⟩ = some (.int .i64 a0_1) := (zf BK101.out 1).trans rfl; have hcz30_2 : w29.cell? ⟨gb101, 2, none⟩ = some (.int .i64 a0_2) := (zf BK101.out 2).trans rfl; have hfz30_0 := zg BK101.out 0; have hfz30_1 := zg BK101.out 1; have hfz30_2 := zg BK101.out 2) | ((with_reducible refine zx (f := 63) rfl ?_); refine z6 (some 8) rfl rfl Tryd.func63 (by kernel_rfl) rfl #[.int .i64 a0_1, .int .i64 0, .int .i64 2] rfl (by (try simp only [List.map_toArray, List.map_cons, List.map_nil]); first | done | rfl | (simp only [List.length_drop, List.length_take]; rfl)) ?_; (with_reducible refine (zK.calls a0_1 0 2 true _ A3.out).mono ?_); rintro e w' ⟨rfl, ⟨nd, rfl⟩⟩; refine ⟨_, rfl, ?_⟩) | (go_at_call 63; (with_reducible refine (zK.calls a0_2 0 2 t107 _ A28.out).mono ?_); rintro e w' ⟨rfl, ⟨nd, rfl⟩⟩))
            go_ret
            exact ⟨by first | rfl | (simp [zr, zq] <;> rfl) | (simp [*, zr, zq] <;> rfl), by repeat (with_reducible first | exact HB.out | apply zc | apply zb | apply zd | refine zh ?_ GE101.out)⟩
          · replace c27 := Bool.eq_false_iff.mpr c27
            subst c27
            have H1 : (some false) = some r := by rw [if_neg (show ¬ (false = true) by decide)] at H; exact H
            clear H
            have H := H1
            clear H1
            obtain rfl := Option.some.inj H
            go_enter Tryd.func81, Tryd.ntmps81
            go_wp2_with (first | ((with_reducible refine zY (N := 2) rfl ?_); refine ye ?hg (N := 2) ?hd (cs := #[.int .i64 a0_0, .int .i64 a0_1, .int .i64 a0_2]) (t := 82) ?hr ?_; (case hd => rfl); (case hg => rfl); (case hr => first | (go_simp; done) | (go_simp; rfl)); intro gb101 hg w31 hbox hb; have n0_ := za.mk (zp (by repeat (with_reducible first | exact HB.out | apply zc | apply zb | apply zd)) hb); have n1_ := za.mk (hbox); have n2_ := za.mk ((by rw [hg]; exact (zy (by repeat (with_reducible first | exact HB.out | apply zc | apply zb | apply zd))) : w.heap.size ≤ gb101)); have n3_ := za.mk ((by rw [hg]; exact (zy (by repeat (with_reducible first | exact HB.out | apply zc | apply zb | apply zd))) : w.heap.size ≤ gb101)); clear HB; have HB := n0_; have BK101 := n1_; have GW101 := n2_; have GE101 := n3_; clear n0_ n1_ n2_ n3_; clear hb hbox hg; have hcz32_0 : w31.cell? ⟨gb101, 0, none⟩ = some (.int .i64 a0_0) := (zf BK101.out 0).trans rfl; have hcz32_1 : w31.cell? ⟨gb101, 1, none⟩ = some (.int .i64 a0_1) := (zf BK101.out 1).trans rfl; have hcz32_2 : w31.cell? ⟨gb101, 2, none⟩ = some (.int .i64 a0_2) := (zf BK101.out 2).trans rfl; have hfz32_0 := zg BK101.out 0; have hfz32_1 := zg BK101.out 1; have hfz32_2 := zg BK101.out 2) | ((with_reducible refine zx (f := 63) rfl ?_); refine z6 (some 8) rfl rfl Tryd.func63 (by kernel_rfl) rfl #[.int .i64 a0_1, .int .i64 0, .int .i64 2] rfl (by (try simp only [List.map_toArray, List.map_cons, List.map_nil]); first | done | rfl | (simp only [List.length_drop, List.length_take]; rfl)) ?_; (with_reducible refine (zK.calls a0_1 0 2 false _ A3.out).mono ?_); rintro e w' ⟨rfl, ⟨nd, rfl⟩⟩; refine ⟨_, rfl, ?_⟩))
            go_ret
            exact ⟨by first | rfl | (simp [zr, zq] <;> rfl) | (simp [*, zr, zq] <;> rfl), by repeat (with_reducible first | exact HB.out | apply zc | apply zb | apply zd | refine zh ?_ GE101.out)⟩
        · rw [if_neg c26] at H
          have c26b0 : (a0_0 == 4) = false := beq_eq_false_iff_ne.mpr c26
          have c26b1 : (a0_0 != 4) = true := bne_iff_ne.mpr c26
          by_cases c33 : a0_0 = 5
          · rw [if_pos c33] at H
            have c33b0 : (a0_0 == 5) = true := beq_iff_eq.mpr c33
            have c33b1 : (a0_0 != 5) = false := bne_eq_false_iff_eq.mpr c33
            clear c33
            by_cases c34 : t102 = true
            · subst c34
              have H1 : (some (a0_2 == 0)) = some r := by rw [if_pos rfl] at H; exact H
              clear H
              have H := H1
              clear H1
              obtain rfl := Option.some.inj H
              go_enter Tryd.func81, Tryd.ntmps81
              go_wp2_with (first | ((with_reducible refine zY (N := 2) rfl ?_); refine ye ?hg (N := 2) ?hd (cs := #[.int .i64 a0_0, .int .i64 a0_1, .int .i64 a0_2]) (t := 82) ?hr ?_; (case hd => rfl); (case hg => rfl); (case hr => first | (go_simp; done) | (go_simp; rfl)); intro gb101 hg w35 hbox hb; have n0_ := za.mk (zp (by repeat (with_reducible first | exact HB.out | apply zc | apply zb | apply zd)) hb); have n1_ := za.mk (hbox); have n2_ := za.mk ((by rw [hg]; exact (zy (by repeat (with_reducible first | exact HB.out | apply zc | apply zb | apply zd))) : w.heap.size ≤ gb101)); have n3_ := za.mk ((by rw [hg]; exact (zy (by repeat (with_reducible first | exact HB.out | apply zc | apply zb | apply zd))) : w.heap.size ≤ gb101)); clear HB; have HB := n0_; have BK101 := n1_; have GW101 := n2_; have GE101 := n3_; clear n0_ n1_ n2_ n3_; clear hb hbox hg; have hcz36_0 : w35.cell? ⟨gb101, 0, none⟩ = some (.int .i64 a0_0) := (zf BK101.out 0).trans rfl; have hcz36_1 : w35.cell? ⟨gb101, 1, none⟩ = some (.int .i64 a0_1) := (zf BK101.out 1).trans rfl; have hcz36_2 : w35.cell? ⟨gb101, 2, none⟩ = some (.int .i64 a0_2) := (zf BK101.out 2).trans rfl; have hfz36_0 := zg BK101.out 0; have hfz36_1 := zg BK101.out 1; have hfz36_2 := zg BK101.out 2) | ((with_reducible refine zx (f := 63) rfl ?_); refine z6 (some 8) rfl rfl Tryd.func63 (by kernel_rfl) rfl #[.int .i64 a0_1, .int .i64 0, .int .i64 2] rfl (by (try simp only [List.map_toArray, List.map_cons, List.map_nil]); first | done | rfl | (simp only [List.length_drop, List.length_take]; rfl)) ?_; (with_reducible refine (zK.calls a0_1 0 2 true _ A3.out).mono ?_); rintro e w' ⟨rfl, ⟨nd, rfl⟩⟩; refine ⟨_, rfl, ?_⟩))
              go_ret
              exact ⟨by first | rfl | (simp [zr, zq] <;> rfl) | (simp [*, zr, zq] <;> rfl), by repeat (with_reducible first | exact HB.out | apply zc | apply zb | apply zd | refine zh ?_ GE101.out)⟩
            · replace c34 := Bool.eq_false_iff.mpr c34
              subst c34
              have H1 : (some false) = some r := by rw [if_neg (show ¬ (false = true) by decide)] at H; exact H
              clear H
              have H := H1
              clear H1
              obtain rfl := Option.some.inj H
              go_enter Tryd.func81, Tryd.ntmps81
              go_wp2_with (first | ((with_reducible refine zY (N := 2) rfl ?_); refine ye ?hg (N := 2) ?hd (cs := #[.int .i64 a0_0, .int .i64 a0_1, .int .i64 a0_2]) (t := 82) ?hr ?_; (case hd => rfl); (case hg => rfl); (case hr => first | (go_simp; done) | (go_simp; rfl)); intro gb101 hg w37 hbox hb; have n0_ := za.mk (zp (by repeat (with_reducible first | exact HB.out | apply zc | apply zb | apply zd)) hb); have n1_ := za.mk (hbox); have n2_ := za.mk ((by rw [hg]; exact (zy (by repeat (with_reducible first | exact HB.out | apply zc | apply zb | apply zd))) : w.heap.size ≤ gb101)); have n3_ := za.mk ((by rw [hg]; exact (zy (by repeat (with_reducible first | exact HB.out | apply zc | apply zb | apply zd))) : w.heap.size ≤ gb101)); clear HB; have HB := n0_; have BK101 := n1_; have GW101 := n2_; have GE101 := n3_; clear n0_ n1_ n2_ n3_; clear hb hbox hg; have hcz38_0 : w37.cell? ⟨gb101, 0, none⟩ = some (.int .i64 a0_0) := (zf BK101.out 0).trans rfl; have hcz38_1 : w37.cell? ⟨gb101, 1, none⟩ = some (.int .i64 a0_1) := (zf BK101.out 1).trans rfl; have hcz38_2 : w37.cell? ⟨gb101, 2, none⟩ = some (.int .i64 a0_2) := (zf BK101.out 2).trans rfl; have hfz38_0 := zg BK101.out 0; have hfz38_1 := zg BK101.out 1; have hfz38_2 := zg BK101.out 2) | ((with_reducible refine zx (f := 63) rfl ?_); refine z6 (some 8) rfl rfl Tryd.func63 (by kernel_rfl) rfl #[.int .i64 a0_1, .int .i64 0, .int .i64 2] rfl (by (try simp only [List.map_toArray, List.map_cons, List.map_nil]); first | done | rfl | (simp only [List.length_drop, List.length_take]; rfl)) ?_; (with_reducible refine (zK.calls a0_1 0 2 false _ A3.out).mono ?_); rintro e w' ⟨rfl, ⟨nd, rfl⟩⟩; refine ⟨_, rfl, ?_⟩))
              go_ret
              exact ⟨by first | rfl | (simp [zr, zq] <;> rfl) | (simp [*, zr, zq] <;> rfl), by repeat (with_reducible first | exact HB.out | apply zc | apply zb | apply zd | refine zh ?_ GE101.out)⟩
          · rw [if_neg c33] at H
            have c33b0 : (a0_0 == 5) = false := beq_eq_false_iff_ne.mpr c33
            have c33b1 : (a0_0 != 5) = true := bne_iff_ne.mpr c33
            obtain rfl := Option.some.inj H
            go_enter Tryd.func81, Tryd.ntmps81
            go_wp2_with (first | ((with_reducible refine zY (N := 2) rfl ?_); refine ye ?hg (N := 2) ?hd (cs := #[.int .i64 a0_0, .int .i64 a0_1, .int .i64 a0_2]) (t := 82) ?hr ?_; (case hd => rfl); (case hg => rfl); (case hr => first | (go_simp; done) | (go_simp; rfl)); intro gb101 hg w39 hbox hb; have n0_ := za.mk (zp (by repeat (with_reducible first | exact HB.out | apply zc | apply zb | apply zd)) hb); have n1_ := za.mk (hbox); have n2_ := za.mk ((by rw [hg]; exact (zy (by repeat (with_reducible first | exact HB.out | apply zc | apply zb | apply zd))) : w.heap.size ≤ gb101)); have n3_ := za.mk ((by rw [hg]; exact (zy (by repeat (with_reducible first | exact HB.out | apply zc | apply zb | apply zd))) : w.heap.size ≤ gb101)); clear HB; have HB := n0_; have BK101 := n1_; have GW101 := n2_; have GE101 := n3_; clear n0_ n1_ n2_ n3_; clear hb hbox hg; have hcz40_0 : w39.cell? ⟨gb101, 0, none⟩ = some (.int .i64 a0_0) := (zf BK101.out 0).trans rfl; have hcz40_1 : w39.cell? ⟨gb101, 1, none⟩ = some (.int .i64 a0_1) := (zf BK101.out 1).trans rfl; have hcz40_2 : w39.cell? ⟨gb101, 2, none⟩ = some (.int .i64 a0_2) := (zf BK101.out 2).trans rfl; have hfz40_0 := zg BK101.out 0; have hfz40_1 := zg BK101.out 1; have hfz40_2 := zg BK101.out 2) | ((with_reducible refine zx (f := 63) rfl ?_); refine z6 (some 8) rfl rfl Tryd.func63 (by kernel_rfl) rfl #[.int .i64 a0_1, .int .i64 0, .int .i64 2] rfl (by (try simp only [List.map_toArray, List.map_cons, List.map_nil]); first | done | rfl | (simp only [List.length_drop, List.length_take]; rfl)) ?_; (with_reducible refine (zK.calls a0_1 0 2 t102 _ A3.out).mono ?_); rintro e w' ⟨rfl, ⟨nd, rfl⟩⟩; refine ⟨_, rfl, ?_⟩))
            go_ret
            exact ⟨by first | rfl | (simp [zr, zq] <;> rfl) | (simp [*, zr, zq] <;> rfl), by repeat (with_reducible first | exact HB.out | apply zc | apply zb | apply zd | refine zh ?_ GE101.out)⟩
def yu.l0 : Nat → List Int → Int → Int → Int → Option (Bool)
  | 0, _, _, _, _ => none
  | k + 1, x0, x1, x2, x7 => if x7 < (x0.length : Int) then (if 0 ≤ x7 then ((zK.f (rd x0 x7) (wrap64 (x1 + 1)) (wrap64 (x2 - 1))).bind fun t109 => (if t109 = true then (yu.l0 k x0 x1 x2 (wrap64 (x7 + 1))) else (some false))) else (none)) else ((zK.f (x0.length : Int) 1 2).bind fun t110 => (some t110))
def yu.f (k : Nat) (l0 : List Int) (a1 : Int) (a2 : Int) : Option (Bool) := yu.l0 k l0 a1 a2 0
set_option maxHeartbeats 8000000 in
set_option maxRecDepth 100000 in
theorem yu.calls (k : Nat) (A0 : Option Addr) (c0 : Nat) (l0 : List Int) (a1 : Int) (a2 : Int) (r : Bool) (w : World) (hr0 : Kd.C (Kd.int .i64) w A0 l0.length l0) (hc0 : l0.length ≤ c0) (h : yu.f k l0 a1 a2 = some r) :
    Calls Tryd.prog 82 #[.slice A0 l0.length c0, .int .i64 a1, .int .i64 a2] w fun e w' => e = .returned (.bool r) ∧ ya w w' := by
  have HR0 := za.mk hr0
  have HC0 := za.mk hc0
  clear hr0 hc0
  have H : (yu.l0 k l0 a1 a2 0) = some r := h
  clear h
  have H' := za.mk H
  clear H
  go_enter Tryd.func82, Tryd.ntmps82
  go_wp2
  go_loopg [7] k (fun kq v7 w' => ∃ (x7_1 : Int), v7 = .int .i64 x7_1 ∧ za (yu.l0 kq l0 a1 a2 x7_1 = some r) ∧ za (kq ≤ k) ∧ ya w w')
  case atStart => exact ⟨(0), (by first | rfl | (simp; done) | (simp [*]; done)), H', ⟨Nat.le_refl _⟩, by repeat (first | exact ya.refl _ | apply ya.step)⟩
  case round =>
    clear H'
    try clear p2
    obtain ⟨x7_1, rfl, HA, HK1, ⟨m1, rfl⟩⟩ := hrel
    cases gk with
    | zero => exact absurd HA.out (by simp [yu.l0])
    | succ k1 =>
      have H := HA.out
      clear HA
      simp only [yu.l0] at H
      by_cases c4 : x7_1 < (l0.length : Int)
      · rw [if_pos c4] at H
        have c4b0 : decide (x7_1 < (l0.length : Int)) = true := decide_eq_true c4
        clear c4
        by_cases c5 : 0 ≤ x7_1
        · rw [if_pos c5] at H
          have c5b0 : decide (0 ≤ x7_1) = true := decide_eq_true c5
          clear c5
          replace H := Option.bind_eq_some_iff.mp H
          obtain ⟨t109, A60, H⟩ := H
          replace H : (if t109 = true then (yu.l0 k1 l0 a1 a2 (wrap64 (x7_1 + 1))) else (some false)) = some r := H
          have A6 := za.mk A60
          clear A60
          by_cases c7 : t109 = true
          · subst c7
            have H1 : (yu.l0 k1 l0 a1 a2 (wrap64 (x7_1 + 1))) = some r := by rw [if_pos rfl] at H; exact H
            clear H
            have H := H1
            clear H1
            have H' := za.mk H
            clear H
            have p108 : 0 ≤ (x7_1 : Int) := of_decide_eq_true (by first | (with_reducible assumption) | assumption)
            have q108 : x7_1 < (l0.length : Int) := of_decide_eq_true (by first | (with_reducible assumption) | assumption)
            obtain ⟨ad108, e108, hx108_0⟩ := Kd.xu HR0.out x7_1 p108 q108
            cases e108
            replace p108 := eq_true p108
            replace q108 := eq_true q108
            go_wp2_with (first | ((with_reducible refine zx (f := 63) rfl ?_); refine z6 (some 22) rfl rfl Tryd.func63 (by kernel_rfl) rfl #[.int .i64 (rd l0 x7_1), .int .i64 (wrap64 (a1 + 1)), .int .i64 (wrap64 (a2 - 1))] rfl (by (try simp only [List.map_toArray, List.map_cons, List.map_nil]); first | done | rfl | (simp only [List.length_drop, List.length_take]; rfl)) ?_; (with_reducible refine (zK.calls (rd l0 x7_1) (wrap64 (a1 + 1)) (wrap64 (a2 - 1)) true _ A6.out).mono ?_); rintro e w' ⟨rfl, ⟨nd, rfl⟩⟩; refine ⟨_, rfl, ?_⟩))
            go_roundg k1
            case measure => have := HK1.out; omega
            case rel => exact ⟨(wrap64 (x7_1 + 1)), (by first | rfl | (simp; done) | (simp [*]; done)), H', ⟨by have := HK1.out; omega⟩, by repeat (first | exact ya.refl _ | apply ya.step)⟩
          · replace c7 := Bool.eq_false_iff.mpr c7
            subst c7
            have H1 : (some false) = some r := by rw [if_neg (show ¬ (false = true) by decide)] at H; exact H
            clear H
            have H := H1
            clear H1
            obtain rfl := Option.some.inj H
            have p108 : 0 ≤ (x7_1 : Int) := of_decide_eq_true (by first | (with_reducible assumption) | assumption)
            have q108 : x7_1 < (l0.length : Int) := of_decide_eq_true (by first | (with_reducible assumption) | assumption)
            obtain ⟨ad108, e108, hx108_0⟩ := Kd.xu HR0.out x7_1 p108 q108
            cases e108
            replace p108 := eq_true p108
            replace q108 := eq_true q108
            go_wp2_with (first | ((with_reducible refine zx (f := 63) rfl ?_); refine z6 (some 22) rfl rfl Tryd.func63 (by kernel_rfl) rfl #[.int .i64 (rd l0 x7_1), .int .i64 (wrap64 (a1 + 1)), .int .i64 (wrap64 (a2 - 1))] rfl (by (try simp only [List.map_toArray, List.map_cons, List.map_nil]); first | done | rfl | (simp only [List.length_drop, List.length_take]; rfl)) ?_; (with_reducible refine (zK.calls (rd l0 x7_1) (wrap64 (a1 + 1)) (wrap64 (a2 - 1)) false _ A6.out).mono ?_); rintro e w' ⟨rfl, ⟨nd, rfl⟩⟩; refine ⟨_, rfl, ?_⟩))
            go_ret
            exact ⟨by first | rfl | (simp; done) | (simp [*]; done), by repeat (first | exact ya.refl _ | apply ya.step)⟩
        · rw [if_neg c5] at H
          exact absurd H (by simp)
      · rw [if_neg c4] at H
        have c4b0 : decide (x7_1 < (l0.length : Int)) = false := decide_eq_false c4
        clear c4
        replace H := Option.bind_eq_some_iff.mp H
        obtain ⟨t110, A80, H⟩ := H
        replace H : (some t110) = some r := H
        have A8 := za.mk A80
        clear A80
        obtain rfl := Option.some.inj H
        go_wp2_with (first | ((with_reducible refine zx (f := 63) rfl ?_); refine z6 (some 26) rfl rfl Tryd.func63 (by kernel_rfl) rfl #[.int .i64 (l0.length : Int), .int .i64 1, .int .i64 2] rfl (by (try simp only [List.map_toArray, List.map_cons, List.map_nil]); first | done | rfl | (simp only [List.length_drop, List.length_take]; rfl)) ?_; (with_reducible refine (zK.calls (l0.length : Int) 1 2 t110 _ A8.out).mono ?_); rintro e w' ⟨rfl, ⟨nd, rfl⟩⟩; refine ⟨_, rfl, ?_⟩))
        go_ret
        exact ⟨by first | rfl | (simp; done) | (simp [*]; done), by repeat (first | exact ya.refl _ | apply ya.step)⟩
end Go.Proofs.YtoeepmcaabmjkaaDoor.QPO
namespace Go.Proofs.YtoeepmcaabmjkaaDoor.QPO
open Go.RowKit Go.Proofs.YtoeepmcaabmjkaaDoorW.PrintWords Go.Proofs.YtoeepmcaabmjkaaDoorW.PrintLast Go.Proofs.YtoeepmcaabmjkaaDoorW.PrintMore
attribute [local go_sem] yz yx yQ yP yl yk yy yw   -- for this text's walks alone
set_option linter.unusedVariables false
set_option linter.unusedSimpArgs false
mutual
def zC.j0 : Nat → Int → Bool → List Int → List (List (S52)) → Int → List (S82) → List Int → Int → Option (Bool)
  | 0, _, _, _, _, _, _, _, _ => none
  | k + 1, x1, x37, x112000, x112001, x113000, x113001, x113002, x113003 => if x37 = true then (some false) else (if x113000 = 1 then (zC.l0 k 0 x112000 x112001 x113000 x113001 x113002 x113003) else (if x113000 = 2 then ((yu.f k x113002 x1 (x112001.length : Int)).bind fun t115 => (some t115)) else (if x113000 = 3 then (some true) else (if x113000 = 4 then ((zK.f x113003 0 2).bind fun t116 => (some t116)) else (some false)))))
def zC.l0 : Nat → Int → List Int → List (List (S52)) → Int → List (S82) → List Int → Int → Option (Bool)
  | 0, _, _, _, _, _, _, _ => none
  | k + 1, x7, x112000, x112001, x113000, x113001, x113002, x113003 => if x7 < (x113001.length : Int) then (if 0 ≤ x7 then ((xE.f ((zP x113001 x7).f0) ((zP x113001 x7).f1) ((zP x113001 x7).f2) (x112000.length : Int)).bind fun t114 => (if t114 = true then (zC.l0 k (wrap64 (x7 + 1)) x112000 x112001 x113000 x113001 x113002 x113003) else (some false))) else (none)) else (some (decide ((x113001.length : Int) ≤ 5)))
end
def zC.f (k : Nat) (l0_0 : List Int) (l0_1 : List (List (S52))) (a1 : Int) (a2_0 : Int) (l2_1 : List (S82)) (l2_2 : List Int) (a2_3 : Int) : Option (Bool) := if a2_0 = 1 then (if a2_0 = 2 then (if a2_0 = 4 then (zC.j0 k a1 false l0_0 l0_1 a2_0 l2_1 l2_2 a2_3) else (zC.j0 k a1 (a2_3 != 0) l0_0 l0_1 a2_0 l2_1 l2_2 a2_3)) else (if (l2_2.length : Int) > 0 then (zC.j0 k a1 true l0_0 l0_1 a2_0 l2_1 l2_2 a2_3) else (if a2_0 = 4 then (zC.j0 k a1 false l0_0 l0_1 a2_0 l2_1 l2_2 a2_3) else (zC.j0 k a1 (a2_3 != 0) l0_0 l0_1 a2_0 l2_1 l2_2 a2_3)))) else (if (l2_1.length : Int) > 0 then (zC.j0 k a1 true l0_0 l0_1 a2_0 l2_1 l2_2 a2_3) else (if a2_0 = 2 then (if a2_0 = 4 then (zC.j0 k a1 false l0_0 l0_1 a2_0 l2_1 l2_2 a2_3) else (zC.j0 k a1 (a2_3 != 0) l0_0 l0_1 a2_0 l2_1 l2_2 a2_3)) else (if (l2_2.length : Int) > 0 then (zC.j0 k a1 true l0_0 l0_1 a2_0 l2_1 l2_2 a2_3) else (if a2_0 = 4 then (zC.j0 k a1 false l0_0 l0_1 a2_0 l2_1 l2_2 a2_3) else (zC.j0 k a1 (a2_3 != 0) l0_0 l0_1 a2_0 l2_1 l2_2 a2_3)))))
def zC.T8 : Bool × List (List Nat × List Nat) := (true, [([], []), ([0], [0]), ([], []), ([1, 2], [1, 2]), ([3], [3]), ([], []), ([5], [5]), ([6], [6]), ([4, 7], [4, 7]), ([8], [8])])
def zC.B8 : List Nat := [0, 1, 0, 7, 15, 0, 32, 96, 255, 511]
theorem zC.tab8 : rtab .any (opsOf Tryd.f64 8) = zC.T8 := by kernel_rfl
theorem zC.bits8 : waitsOk zC.T8.2 zC.B8 = true := by kernel_rfl
set_option maxHeartbeats 8000000 in
set_option maxRecDepth 100000 in
theorem zC.calls (k : Nat) (A0_0 : Option Addr) (c0_0 : Nat) (l0_0 : List Int) (A0_1 : Option Addr) (c0_1 : Nat) (l0_1 : List (List (S52))) (a1 : Int) (a2_0 : Int) (A2_1 : Option Addr) (c2_1 : Nat) (l2_1 : List (S82)) (A2_2 : Option Addr) (c2_2 : Nat) (l2_2 : List Int) (a2_3 : Int) (r : Bool) (w : World) (hr0_0 : Kd.C (Kd.int .i64) w A0_0 l0_0.length l0_0) (hc0_0 : l0_0.length ≤ c0_0) (hr0_1 : Kd.C (Kd.slice 52 k52) w A0_1 l0_1.length l0_1) (hc0_1 : l0_1.length ≤ c0_1) (hr2_1 : Kd.C k82 w A2_1 l2_1.length l2_1) (hc2_1 : l2_1.length ≤ c2_1) (hr2_2 : Kd.C (Kd.int .i64) w A2_2 l2_2.length l2_2) (hc2_2 : l2_2.length ≤ c2_2) (h : zC.f k l0_0 l0_1 a1 a2_0 l2_1 l2_2 a2_3 = some r) :
    Calls Tryd.prog 64 #[.agg #[.slice A0_0 l0_0.length c0_0, .slice A0_1 l0_1.length c0_1], .int .i64 a1, .agg #[.int .i64 a2_0, .slice A2_1 l2_1.length c2_1, .slice A2_2 l2_2.length c2_2, .int .i64 a2_3]] w fun e w' => e = .returned (.bool r) ∧ Below w.heap.size w w' := by
  have hu30 := Tryd.underlying30
  have hu52 := Tryd.underlying52
  have hu82 := Tryd.underlying82
  have HR0_0 := za.mk hr0_0
  have HC0_0 := za.mk hc0_0
  clear hr0_0 hc0_0
  have HR0_1 := za.mk hr0_1
  have HC0_1 := za.mk hc0_1
  clear hr0_1 hc0_1
  have HR2_1 := za.mk hr2_1
  have HC2_1 := za.mk hc2_1
  clear hr2_1 hc2_1
  have HR2_2 := za.mk hr2_2
  have HC2_2 := za.mk hc2_2
  clear hr2_2 hc2_2
  have HB := za.mk (Below.refl w.heap.size w)
  have H : (if a2_0 = 1 then (if a2_0 = 2 then (if a2_0 = 4 then (zC.j0 k a1 false l0_0 l0_1 a2_0 l2_1 l2_2 a2_3) else (zC.j0 k a1 (a2_3 != 0) l0_0 l0_1 a2_0 l2_1 l2_2 a2_3)) else (if (l2_2.length : Int) > 0 then (zC.j0 k a1 true l0_0 l0_1 a2_0 l2_1 l2_2 a2_3) else (if a2_0 = 4 then (zC.j0 k a1 false l0_0 l0_1 a2_0 l2_1 l2_2 a2_3) else (zC.j0 k a1 (a2_3 != 0) l0_0 l0_1 a2_0 l2_1 l2_2 a2_3)))) else (if (l2_1.length : Int) > 0 then (zC.j0 k a1 true l0_0 l0_1 a2_0 l2_1 l2_2 a2_3) else (if a2_0 = 2 then (if a2_0 = 4 then (zC.j0 k a1 false l0_0 l0_1 a2_0 l2_1 l2_2 a2_3) else (zC.j0 k a1 (a2_3 != 0) l0_0 l0_1 a2_0 l2_1 l2_2 a2_3)) else (if (l2_2.length : Int) > 0 then (zC.j0 k a1 true l0_0 l0_1 a2_0 l2_1 l2_2 a2_3) else (if a2_0 = 4 then (zC.j0 k a1 false l0_0 l0_1 a2_0 l2_1 l2_2 a2_3) else (zC.j0 k a1 (a2_3 != 0) l0_0 l0_1 a2_0 l2_1 l2_2 a2_3)))))) = some r := h
  clear h
  have HC4 := za.mk H
  clear H
  go_enter Tryd.func64, Tryd.ntmps64
  go_upto_region 1 with (first | ((with_reducible refine zY (N := 3) rfl ?_); (try (refine xK (by rfl) ?_; dsimp only)); refine ye ?hg (N := 3) ?hd (cs := #[.slice A0_0 l0_0.length c0_0, .slice A0_1 l0_1.length c0_1]) (t := 30) ?hr ?_; (case hd => rfl); (case hg => rfl); (case hr => first | (go_simp; done) | (go_simp; rfl)); intro gb111 hg w5 hbox hb; have n0_ := za.mk (zp (by repeat (with_reducible first | exact HB.out | apply zc | apply zb | apply zd)) hb); have n1_ := za.mk (hbox); have n2_ := za.mk ((by rw [hg]; exact (zy (by repeat (with_reducible first | exact HB.out | apply zc | apply zb | apply zd))) : w.heap.size ≤ gb111)); have n3_ := za.mk ((by rw [hg]; exact (zy (by repeat (with_reducible first | exact HB.out | apply zc | apply zb | apply zd))) : w.heap.size ≤ gb111)); clear HB; have HB := n0_; have BK111 := n1_; have GW111 := n2_; have GE111 := n3_; clear n0_ n1_ n2_ n3_; clear hb hbox hg) | ((with_reducible refine zY (N := 5) rfl ?_); (try (refine xK (by rfl) ?_; dsimp only)); refine ye ?hg (N := 5) ?hd (cs := #[.int .i64 a2_0, .slice A2_1 l2_1.length c2_1, .slice A2_2 l2_2.length c2_2, .int .i64 a2_3]) (t := 52) ?hr ?_; (case hd => rfl); (case hg => rfl); (case hr => first | (go_simp; done) | (go_simp; rfl)); intro gb112 hg w6 hbox hb; have n0_ := za.mk (zI (g := gb111) (o := .cells #[.slice A0_0 l0_0.length c0_0, .slice A0_1 l0_1.length c0_1] 30 (0, 0)) (by (with_reducible repeat (first | refine zl ?_ _ | refine zm ?_ | refine zj ?_ _)); exact BK111.out) hb); have n1_ := za.mk (zp (by repeat (with_reducible first | exact HB.out | apply zc | apply zb | apply zd | refine zh ?_ GE111.out)) hb); have n2_ := za.mk (hbox); have n3_ := za.mk ((by rw [hg]; exact (zy (by repeat (with_reducible first | exact HB.out | apply zc | apply zb | apply zd | refine zh ?_ GE111.out))) : w.heap.size ≤ gb112)); have n4_ := za.mk ((by rw [hg]; exact (zy (by repeat (with_reducible first | exact HB.out | apply zc | apply zb | apply zd | refine zh ?_ GE111.out))) : w.heap.size ≤ gb112)); have n5_ := za.mk ((by rw [hg]; exact Nat.ne_of_lt (yO (g := gb111) (o := .cells #[.slice A0_0 l0_0.length c0_0, .slice A0_1 l0_1.length c0_1] 30 (0, 0)) (by (with_reducible repeat (first | refine zl ?_ _ | refine zm ?_ | refine zj ?_ _)); exact BK111.out)) : gb111 ≠ gb112)); have n6_ := za.mk ((by rw [hg]; exact Nat.ne_of_gt (yO (g := gb111) (o := .cells #[.slice A0_0 l0_0.length c0_0, .slice A0_1 l0_1.length c0_1] 30 (0, 0)) (by (with_reducible repeat (first | refine zl ?_ _ | refine zm ?_ | refine zj ?_ _)); exact BK111.out)) : gb112 ≠ gb111)); clear BK111; clear HB; have BK111 := n0_; have HB := n1_; have BK112 := n2_; have GW112 := n3_; have GE112 := n4_; have NB111_112 := n5_; have NB112_111 := n6_; clear n0_ n1_ n2_ n3_ n4_ n5_ n6_; clear hb hbox hg))
  (try simp only [Act.put, List.setIfInBounds_toArray, List.set_cons_zero, List.set_cons_succ])
  go_cut [37] (fun v37 wc => ∃ (kq : Nat) (x37_3 : Bool), v37 = .bool x37_3 ∧ za (zC.j0 kq a1 x37_3 l0_0 l0_1 a2_0 l2_1 l2_2 a2_3 = some r) ∧ za (kq ≤ k) ∧ za (wc.heap[gb111]? = some (.cells #[(.slice A0_0 l0_0.length c0_0), (.slice A0_1 l0_1.length c0_1)] 30 (0, 0))) ∧ za (wc.heap[gb112]? = some (.cells #[.int .i64 a2_0, (.slice A2_1 l2_1.length c2_1), (.slice A2_2 l2_2.length c2_2), .int .i64 a2_3] 52 (0, 0))) ∧ za (Below w.heap.size w wc))
  case first =>
    have H := HC4.out
    clear HC4
    by_cases c7 : a2_0 = 1
    · rw [if_pos c7] at H
      have c7b0 : (a2_0 == 1) = true := beq_iff_eq.mpr c7
      have c7b1 : (a2_0 != 1) = false := bne_eq_false_iff_eq.mpr c7
      clear c7
      (first | rw [c7b0] | (simp only [zn, zo]; rw [c7b0]) | skip)
      by_cases c8 : a2_0 = 2
      · rw [if_pos c8] at H
        have c8b0 : (a2_0 == 2) = true := beq_iff_eq.mpr c8
        have c8b1 : (a2_0 != 2) = false := bne_eq_false_iff_eq.mpr c8
        clear c8
        by_cases c9 : a2_0 = 4
        · rw [if_pos c9] at H
          have c9b0 : (a2_0 == 4) = true := beq_iff_eq.mpr c9
          have c9b1 : (a2_0 != 4) = false := bne_eq_false_iff_eq.mpr c9
          clear c9
          have H' := za.mk H
          clear H
          have hnb10 := NB112_111.out
          have hnc10 := NB111_112.out
          have hcz11_0 : w6.cell? ⟨gb112, 0, none⟩ = some (.int .i64 a2_0) := (zf BK112.out 0).trans rfl
          have hcz11_1 : w6.cell? ⟨gb112, 1, none⟩ = some (.slice A2_1 l2_1.length c2_1) := (zf BK112.out 1).trans rfl
          have hcz11_2 : w6.cell? ⟨gb112, 2, none⟩ = some (.slice A2_2 l2_2.length c2_2) := (zf BK112.out 2).trans rfl
          have hcz11_3 : w6.cell? ⟨gb112, 3, none⟩ = some (.int .i64 a2_3) := (zf BK112.out 3).trans rfl
          have hfz11_0 := zg BK112.out 0
          have hfz11_1 := zg BK112.out 1
          have hfz11_2 := zg BK112.out 2
          have hfz11_3 := zg BK112.out 3
          go_wp2
          go_meet
          case rel => exact ⟨_, (false), (by first | rfl | (simp; done) | (simp [*]; done)), H', ⟨by first | omega | exact Nat.le_refl _⟩, ⟨by (with_reducible repeat (first | refine zl ?_ _ | refine zm ?_ | refine zj ?_ _)); exact BK111.out⟩, ⟨by (with_reducible repeat (first | refine zl ?_ _ | refine zm ?_ | refine zj ?_ _)); exact BK112.out⟩, ⟨by repeat (with_reducible first | exact HB.out | apply zc | apply zb | apply zd | refine zh ?_ GE111.out | refine zh ?_ GE112.out)⟩⟩
        · rw [if_neg c9] at H
          have c9b0 : (a2_0 == 4) = false := beq_eq_false_iff_ne.mpr c9
          have c9b1 : (a2_0 != 4) = true := bne_iff_ne.mpr c9
          have H' := za.mk H
          clear H
          have hnb12 := NB112_111.out
          have hnc12 := NB111_112.out
          have hcz13_0 : w6.cell? ⟨gb112, 0, none⟩ = some (.int .i64 a2_0) := (zf BK112.out 0).trans rfl
          have hcz13_1 : w6.cell? ⟨gb112, 1, none⟩ = some (.slice A2_1 l2_1.length c2_1) := (zf BK112.out 1).trans rfl
          have hcz13_2 : w6.cell? ⟨gb112, 2, none⟩ = some (.slice A2_2 l2_2.length c2_2) := (zf BK112.out 2).trans rfl
          have hcz13_3 : w6.cell? ⟨gb112, 3, none⟩ = some (.int .i64 a2_3) := (zf BK112.out 3).trans rfl
          have hfz13_0 := zg BK112.out 0
          have hfz13_1 := zg BK112.out 1
          have hfz13_2 := zg BK112.out 2
          have hfz13_3 := zg BK112.out 3
          go_wp2
          go_meet
          case rel => exact ⟨_, ((a2_3 != 0)), (by first | rfl | (simp; done) | (simp [*]; done)), H', ⟨by first | omega | exact Nat.le_refl _⟩, ⟨by (with_reducible repeat (first | refine zl ?_ _ | refine zm ?_ | refine zj ?_ _)); exact BK111.out⟩, ⟨by (with_reducible repeat (first | refine zl ?_ _ | refine zm ?_ | refine zj ?_ _)); exact BK112.out⟩, ⟨by repeat (with_reducible first | exact HB.out | apply zc | apply zb | apply zd | refine zh ?_ GE111.out | refine zh ?_ GE112.out)⟩⟩
      · rw [if_neg c8] at H
        have c8b0 : (a2_0 == 2) = false := beq_eq_false_iff_ne.mpr c8
        have c8b1 : (a2_0 != 2) = true := bne_iff_ne.mpr c8
        by_cases c14 : (l2_2.length : Int) > 0
        · rw [if_pos c14] at H
          have c14b0 : decide (0 < (l2_2.length : Int)) = true := decide_eq_true c14
          have c14b1 : decide (0 < l2_2.length) = true := decide_eq_true (by omega)
          clear c14
          have H' := za.mk H
          clear H
          have hnb15 := NB112_111.out
          have hnc15 := NB111_112.out
          have hcz16_0 : w6.cell? ⟨gb112, 0, none⟩ = some (.int .i64 a2_0) := (zf BK112.out 0).trans rfl
          have hcz16_1 : w6.cell? ⟨gb112, 1, none⟩ = some (.slice A2_1 l2_1.length c2_1) := (zf BK112.out 1).trans rfl
          have hcz16_2 : w6.cell? ⟨gb112, 2, none⟩ = some (.slice A2_2 l2_2.length c2_2) := (zf BK112.out 2).trans rfl
          have hcz16_3 : w6.cell? ⟨gb112, 3, none⟩ = some (.int .i64 a2_3) := (zf BK112.out 3).trans rfl
          have hfz16_0 := zg BK112.out 0
          have hfz16_1 := zg BK112.out 1
          have hfz16_2 := zg BK112.out 2
          have hfz16_3 := zg BK112.out 3
          go_wp2
          go_meet
          case rel => exact ⟨_, (true), (by first | rfl | (simp; done) | (simp [*]; done)), H', ⟨by first | omega | exact Nat.le_refl _⟩, ⟨by (with_reducible repeat (first | refine zl ?_ _ | refine zm ?_ | refine zj ?_ _)); exact BK111.out⟩, ⟨by (with_reducible repeat (first | refine zl ?_ _ | refine zm ?_ | refine zj ?_ _)); exact BK112.out⟩, ⟨by repeat (with_reducible first | exact HB.out | apply zc | apply zb | apply zd | refine zh ?_ GE111.out | refine zh ?_ GE112.out)⟩⟩
        · rw [if_neg c14] at H
          have c14b0 : decide (0 < (l2_2.length : Int)) = false := decide_eq_false c14
          have c14b1 : decide (0 < l2_2.length) = false := decide_eq_false (by omega)
          clear c14
          by_cases c17 : a2_0 = 4
          · rw [if_pos c17] at H
            have c17b0 : (a2_0 == 4) = true := beq_iff_eq.mpr c17
            have c17b1 : (a2_0 != 4) = false := bne_eq_false_iff_eq.mpr c17
            clear c17
            have H' := za.mk H
            clear H
            have hnb18 := NB112_111.out
            have hnc18 := NB111_112.out
            have hcz19_0 : w6.cell? ⟨gb112, 0, none⟩ = some (.int .i64 a2_0) := (zf BK112.out 0).trans rfl
            have hcz19_1 : w6.cell? ⟨gb112, 1, none⟩ = some (.slice A2_1 l2_1.length c2_1) := (zf BK112.out 1).trans rfl
            have hcz19_2 : w6.cell? ⟨gb112, 2, none⟩ = some (.slice A2_2 l2_2.length c2_2) := (zf BK112.out 2).trans rfl
            have hcz19_3 : w6.cell? ⟨gb112, 3, none⟩ = some (.int .i64 a2_3) := (zf BK112.out 3).trans rfl
            have hfz19_0 := zg BK112.out 0
            have hfz19_1 := zg BK112.out 1
            have hfz19_2 := zg BK112.out 2
            have hfz19_3 := zg BK112.out 3
            go_wp2
            go_meet
            case rel => exact ⟨_, (false), (by first | rfl | (simp; done) | (simp [*]; done)), H', ⟨by first | omega | exact Nat.le_refl _⟩, ⟨by (with_reducible repeat (first | refine zl ?_ _ | refine zm ?_ | refine zj ?_ _)); exact BK111.out⟩, ⟨by (with_reducible repeat (first | refine zl ?_ _ | refine zm ?_ | refine zj ?_ _)); exact BK112.out⟩, ⟨by repeat (with_reducible first | exact HB.out | apply zc | apply zb | apply zd | refine zh ?_ GE111.out | refine zh ?_ GE112.out)⟩⟩
          · rw [if_neg c17] at H
            have c17b0 : (a2_0 == 4) = false := beq_eq_false_iff_ne.mpr c17
            have c17b1 : (a2_0 != 4) = true := bne_iff_ne.mpr c17
            have H' := za.mk H
            clear H
            have hnb20 := NB112_111.out
            have hnc20 := NB111_112.out
            have hcz21_0 : w6.cell? ⟨gb112, 0, none⟩ = some (.int .i64 a2_0) := (zf BK112.out 0).trans rfl
            have hcz21_1 : w6.cell? ⟨gb112, 1, none⟩ = some (.slice A2_1 l2_1.length c2_1) := (zf BK112.out 1).trans rfl
            have hcz21_2 : w6.cell? ⟨gb112, 2, none⟩ = some (.slice A2_2 l2_2.length c2_2) := (zf BK112.out 2).trans rfl
            have hcz21_3 : w6.cell? ⟨gb112, 3, none⟩ = some (.int .i64 a2_3) := (zf BK112.out 3).trans rfl
            have hfz21_0 := zg BK112.out 0
            have hfz21_1 := zg BK112.out 1
            have hfz21_2 := zg BK112.out 2
            have hfz21_3 := zg BK112.out 3
            go_wp2
            go_meet
            case rel => exact ⟨_, ((a2_3 != 0)), (by first | rfl | (simp; done) | (simp [*]; done)), H', ⟨by first | omega | exact Nat.le_refl _⟩, ⟨by (with_reducible repeat (first | refine zl ?_ _ | refine zm ?_ | refine zj ?_ _)); exact BK111.out⟩, ⟨by (with_reducible repeat (first | refine zl ?_ _ | refine zm ?_ | refine zj ?_ _)); exact BK112.out⟩, ⟨by repeat (with_reducible first | exact HB.out | apply zc | apply zb | apply zd | refine zh ?_ GE111.out | refine zh ?_ GE112.out)⟩⟩
    · rw [if_neg c7] at H
      have c7b0 : (a2_0 == 1) = false := beq_eq_false_iff_ne.mpr c7
      have c7b1 : (a2_0 != 1) = true := bne_iff_ne.mpr c7
      (first | rw [c7b0] | (simp only [zn, zo]; rw [c7b0]) | skip)
      by_cases c22 : (l2_1.length : Int) > 0
      · rw [if_pos c22] at H
        have c22b0 : decide (0 < (l2_1.length : Int)) = true := decide_eq_true c22
        have c22b1 : decide (0 < l2_1.length) = true := decide_eq_true (by omega)
        clear c22
        have H' := za.mk H
        clear H
        have hnb23 := NB112_111.out
        have hnc23 := NB111_112.out
        have hcz24_0 : w6.cell? ⟨gb112, 0, none⟩ = some (.int .i64 a2_0) := (zf BK112.out 0).trans rfl
        have hcz24_1 : w6.cell? ⟨gb112, 1, none⟩ = some (.slice A2_1 l2_1.length c2_1) := (zf BK112.out 1).trans rfl
        have hcz24_2 : w6.cell? ⟨gb112, 2, none⟩ = some (.slice A2_2 l2_2.length c2_2) := (zf BK112.out 2).trans rfl
        have hcz24_3 : w6.cell? ⟨gb112, 3, none⟩ = some (.int .i64 a2_3) := (zf BK112.out 3).trans rfl
        have hfz24_0 := zg BK112.out 0
        have hfz24_1 := zg BK112.out 1
        have hfz24_2 := zg BK112.out 2
        have hfz24_3 := zg BK112.out 3
        go_wp2
        go_meet
        case rel => exact ⟨_, (true), (by first | rfl | (simp; done) | (simp [*]; done)), H', ⟨by first | omega | exact Nat.le_refl _⟩, ⟨by (with_reducible repeat (first | refine zl ?_ _ | refine zm ?_ | refine zj ?_ _)); exact BK111.out⟩, ⟨by (with_reducible repeat (first | refine zl ?_ _ | refine zm ?_ | refine zj ?_ _)); exact BK112.out⟩, ⟨by repeat (with_reducible first | exact HB.out | apply zc | apply zb | apply zd | refine zh ?_ GE111.out | refine zh ?_ GE112.out)⟩⟩
      · rw [if_neg c22] at H
        have c22b0 : decide (0 < (l2_1.length : Int)) = false := decide_eq_false c22
        have c22b1 : decide (0 < l2_1.length) = false := decide_eq_false (by omega)
        clear c22
        by_cases c25 : a2_0 = 2
        · rw [if_pos c25] at H
          have c25b0 : (a2_0 == 2) = true := beq_iff_eq.mpr c25
          have c25b1 : (a2_0 != 2) = false := bne_eq_false_iff_eq.mpr c25
          clear c25
          by_cases c26 : a2_0 = 4
          · rw [if_pos c26] at H
            have c26b0 : (a2_0 == 4) = true := beq_iff_eq.mpr c26
            have c26b1 : (a2_0 != 4) = false := bne_eq_false_iff_eq.mpr c26
            clear c26
            have H' := za.mk H
            clear H
            have hnb27 := NB112_111.out
            have hnc27 := NB111_112.out
            have hcz28_0 : w6.cell? ⟨gb112, 0, none⟩ = some (.int .i64 a2_0) := (zf BK112.out 0).trans rfl
            have hcz28_1 : w6.cell? ⟨gb112, 1, none⟩ = some (.slice A2_1 l2_1.length c2_1) := (zf BK112.out 1).trans rfl
            have hcz28_2 : w6.cell? ⟨gb112, 2, none⟩ = some (.slice A2_2 l2_2.length c2_2) := (zf BK112.out 2).trans rfl
            have hcz28_3 : w6.cell? ⟨gb112, 3, none⟩ = some (.int .i64 a2_3) := (zf BK112.out 3).trans rfl
            have hfz28_0 := zg BK112.out 0
            have hfz28_1 := zg BK112.out 1
            have hfz28_2 := zg BK112.out 2
            have hfz28_3 := zg BK112.out 3
            go_wp2
            go_meet
            case rel => exact ⟨_, (false), (by first | rfl | (simp; done) | (simp [*]; done)), H', ⟨by first | omega | exact Nat.le_refl _⟩, ⟨by (with_reducible repeat (first | refine zl ?_ _ | refine zm ?_ | refine zj ?_ _)); exact BK111.out⟩, ⟨by (with_reducible repeat (first | refine zl ?_ _ | refine zm ?_ | refine zj ?_ _)); exact BK112.out⟩, ⟨by repeat (with_reducible first | exact HB.out | apply zc | apply zb | apply zd | refine zh ?_ GE111.out | refine zh ?_ GE112.out)⟩⟩
          · rw [if_neg c26] at H
            have c26b0 : (a2_0 == 4) = false := beq_eq_false_iff_ne.mpr c26
            have c26b1 : (a2_0 != 4) = true := bne_iff_ne.mpr c26
            have H' := za.mk H
            clear H
            have hnb29 := NB112_111.out
            have hnc29 := NB111_112.out
            have hcz30_0 : w6.cell? ⟨gb112, 0, none⟩ = some (.int .i64 a2_0) := (zf BK112.out 0).trans rfl
            have hcz30_1 : w6.cell? ⟨gb112, 1, none⟩ = some (.slice A2_1 l2_1.length c2_1) := (zf BK112.out 1).trans rfl
            have hcz30_2 : w6.cell? ⟨gb112, 2, none⟩ = some (.slice A2_2 l2_2.length c2_2) := (zf BK112.out 2).trans rfl
            have hcz30_3 : w6.cell? ⟨gb112, 3, none⟩ = some (.int .i64 a2_3) := (zf BK112.out 3).trans rfl
            have hfz30_0 := zg BK112.out 0
            have hfz30_1 := zg BK112.out 1
            have hfz30_2 := zg BK112.out 2
            have hfz30_3 := zg BK112.out 3
            go_wp2
            go_meet
            case rel => exact ⟨_, ((a2_3 != 0)), (by first | rfl | (simp; done) | (simp [*]; done)), H', ⟨by first | omega | exact Nat.le_refl _⟩, ⟨by (with_reducible repeat (first | refine zl ?_ _ | refine zm ?_ | refine zj ?_ _)); exact BK111.out⟩, ⟨by (with_reducible repeat (first | refine zl ?_ _ | refine zm ?_ | refine zj ?_ _)); exact BK112.out⟩, ⟨by repeat (with_reducible first | exact HB.out | apply zc | apply zb | apply zd | refine zh ?_ GE111.out | refine zh ?_ GE112.out)⟩⟩
        · rw [if_neg c25] at H
          have c25b0 : (a2_0 == 2) = false := beq_eq_false_iff_ne.mpr c25
          have c25b1 : (a2_0 != 2) = true := bne_iff_ne.mpr c25
          by_cases c31 : (l2_2.length : Int) > 0
          · rw [if_pos c31] at H
            have c31b0 : decide (0 < (l2_2.length : Int)) = true := decide_eq_true c31
            have c31b1 : decide (0 < l2_2.length) = true := decide_eq_true (by omega)
            clear c31
            have H' := za.mk H
            clear H
            have hnb32 := NB112_111.out
            have hnc32 := NB111_112.out
            have hcz33_0 : w6.cell? ⟨gb112, 0, none⟩ = some (.int .i64 a2_0) := (zf BK112.out 0).trans rfl
            have hcz33_1 : w6.cell? ⟨gb112, 1, none⟩ = some (.slice A2_1 l2_1.length c2_1) := (zf BK112.out 1).trans rfl
            have hcz33_2 : w6.cell? ⟨gb112, 2, none⟩ = some (.slice A2_2 l2_2.length c2_2) := (zf BK112.out 2).trans rfl
            have hcz33_3 : w6.cell? ⟨gb112, 3, none⟩ = some (.int .i64 a2_3) := (zf BK112.out 3).trans rfl
            have hfz33_0 := zg BK112.out 0
            have hfz33_1 := zg BK112.out 1
            have hfz33_2 := zg BK112.out 2
            have hfz33_3 := zg BK112.out 3
            go_wp2
            go_meet
            case rel => exact ⟨_, (true), (by first | rfl | (simp; done) | (simp [*]; done)), H', ⟨by first | omega | exact Nat.le_refl _⟩, ⟨by (with_reducible repeat (first | refine zl ?_ _ | refine zm ?_ | refine zj ?_ _)); exact BK111.out⟩, ⟨by (with_reducible repeat (first | refine zl ?_ _ | refine zm ?_ | refine zj ?_ _)); exact BK112.out⟩, ⟨by repeat (with_reducible first | exact HB.out | apply zc | apply zb | apply zd | refine zh ?_ GE111.out | refine zh ?_ GE112.out)⟩⟩
          · rw [if_neg c31] at H
            have c31b0 : decide (0 < (l2_2.length : Int)) = false := decide_eq_false c31
            have c31b1 : decide (0 < l2_2.length) = false := decide_eq_false (by omega)
            clear c31
            by_cases c34 : a2_0 = 4
            · rw [if_pos c34] at H
              have c34b0 : (a2_0 == 4) = true := beq_iff_eq.mpr c34
              have c34b1 : (a2_0 != 4) = false := bne_eq_false_iff_eq.mpr c34
              clear c34
              have H' := za.mk H
              clear H
              have hnb35 := NB112_111.out
              have hnc35 := NB111_112.out
              have hcz36_0 : w6.cell? ⟨gb112, 0, none⟩ = some (.int .i64 a2_0) := (zf BK112.out 0).trans rfl
              have hcz36_1 : w6.cell? ⟨gb112, 1, none⟩ = some (.slice A2_1 l2_1.length c2_1) := (zf BK112.out 1).trans rfl
              have hcz36_2 : w6.cell? ⟨gb112, 2, none⟩ = some (.slice A2_2 l2_2.length c2_2) := (zf BK112.out 2).trans rfl
              have hcz36_3 : w6.cell? ⟨gb112, 3, none⟩ = some (.int .i64 a2_3) := (zf BK112.out 3).trans rfl
              have hfz36_0 := zg BK112.out 0
              have hfz36_1 := zg BK112.out 1
              have hfz36_2 := zg BK112.out 2
              have hfz36_3 := zg BK112.out 3
              go_wp2
              go_meet
              case rel => exact ⟨_, (false), (by first | rfl | (simp; done) | (simp [*]; done)), H', ⟨by first | omega | exact Nat.le_refl _⟩, ⟨by (with_reducible repeat (first | refine zl ?_ _ | refine zm ?_ | refine zj ?_ _)); exact BK111.out⟩, ⟨by (with_reducible repeat (first | refine zl ?_ _ | refine zm ?_ | refine zj ?_ _)); exact BK112.out⟩, ⟨by repeat (with_reducible first | exact HB.out | apply zc | apply zb | apply zd | refine zh ?_ GE111.out | refine zh ?_ GE112.out)⟩⟩
            · rw [if_neg c34] at H
              have c34b0 : (a2_0 == 4) = false := beq_eq_false_iff_ne.mpr c34
              have c34b1 : (a2_0 != 4) = true := bne_iff_ne.mpr c34
              have H' := za.mk H
              clear H
              have hnb37 := NB112_111.out
              have hnc37 := NB111_112.out
              have hcz38_0 : w6.cell? ⟨gb112, 0, none⟩ = some (.int .i64 a2_0) := (zf BK112.out 0).trans rfl
              have hcz38_1 : w6.cell? ⟨gb112, 1, none⟩ = some (.slice A2_1 l2_1.length c2_1) := (zf BK112.out 1).trans rfl
              have hcz38_2 : w6.cell? ⟨gb112, 2, none⟩ = some (.slice A2_2 l2_2.length c2_2) := (zf BK112.out 2).trans rfl
              have hcz38_3 : w6.cell? ⟨gb112, 3, none⟩ = some (.int .i64 a2_3) := (zf BK112.out 3).trans rfl
              have hfz38_0 := zg BK112.out 0
              have hfz38_1 := zg BK112.out 1
              have hfz38_2 := zg BK112.out 2
              have hfz38_3 := zg BK112.out 3
              go_wp2
              go_meet
              case rel => exact ⟨_, ((a2_3 != 0)), (by first | rfl | (simp; done) | (simp [*]; done)), H', ⟨by first | omega | exact Nat.le_refl _⟩, ⟨by (with_reducible repeat (first | refine zl ?_ _ | refine zm ?_ | refine zj ?_ _)); exact BK111.out⟩, ⟨by (with_reducible repeat (first | refine zl ?_ _ | refine zm ?_ | refine zj ?_ _)); exact BK112.out⟩, ⟨by repeat (with_reducible first | exact HB.out | apply zc | apply zb | apply zd | refine zh ?_ GE111.out | refine zh ?_ GE112.out)⟩⟩
  case rest =>
    clear HC4
    try clear c1
    try clear c2
    try clear p2
    try clear c3
    try clear c6
    try clear c7
    try clear c7b0
    try clear c7b1
    try clear c8
    try clear c8b0
    try clear c8b1
    try clear c9
    try clear c9b0
    try clear c9b1
    try clear c10
    try clear c12
    try clear c14
    try clear c14b0
    try clear c14b1
    try clear c15
    try clear c17
    try clear c17b0
    try clear c17b1
    try clear c18
    try clear c20
    try clear c22
    try clear c22b0
    try clear c22b1
    try clear c23
    try clear c25
    try clear c25b0
    try clear c25b1
    try clear c26
    try clear c26b0
    try clear c26b1
    try clear c27
    try clear c29
    try clear c31
    try clear c31b0
    try clear c31b1
    try clear c32
    try clear c34
    try clear c34b0
    try clear c34b1
    try clear c35
    try clear c37
    try clear hcz11_0
    try clear hcz11_1
    try clear hcz11_2
    try clear hcz11_3
    try clear hcz13_0
    try clear hcz13_1
    try clear hcz13_2
    try clear hcz13_3
    try clear hcz16_0
    try clear hcz16_1
    try clear hcz16_2
    try clear hcz16_3
    try clear hcz19_0
    try clear hcz19_1
    try clear hcz19_2
    try clear hcz19_3
    try clear hcz21_0
    try clear hcz21_1
    try clear hcz21_2
    try clear hcz21_3
    try clear hcz24_0
    try clear hcz24_1
    try clear hcz24_2
    try clear hcz24_3
    try clear hcz28_0
    try clear hcz28_1
    try clear hcz28_2
    try clear hcz28_3
    try clear hcz30_0
    try clear hcz30_1
    try clear hcz30_2
    try clear hcz30_3
    try clear hcz33_0
    try clear hcz33_1
    try clear hcz33_2
    try clear hcz33_3
    try clear hcz36_0
    try clear hcz36_1
    try clear hcz36_2
    try clear hcz36_3
    try clear hcz38_0
    try clear hcz38_1
    try clear hcz38_2
    try clear hcz38_3
    try clear hfz11_0
    try clear hfz11_1
    try clear hfz11_2
    try clear hfz11_3
    try clear hfz13_0
    try clear hfz13_1
    try clear hfz13_2
    try clear hfz13_3
    try clear hfz16_0
    try clear hfz16_1
    try clear hfz16_2
    try clear hfz16_3
    try clear hfz19_0
    try clear hfz19_1
    try clear hfz19_2
    try clear hfz19_3
    try clear hfz21_0
    try clear hfz21_1
    try clear hfz21_2
    try clear hfz21_3
    try clear hfz24_0
    try clear hfz24_1
    try clear hfz24_2
    try clear hfz24_3
    try clear hfz28_0
    try clear hfz28_1
    try clear hfz28_2
    try clear hfz28_3
    try clear hfz30_0
    try clear hfz30_1
    try clear hfz30_2
    try clear hfz30_3
    try clear hfz33_0
    try clear hfz33_1
    try clear hfz33_2
    try clear hfz33_3
    try clear hfz36_0
    try clear hfz36_1
    try clear hfz36_2
    try clear hfz36_3
    try clear hfz38_0
    try clear hfz38_1
    try clear hfz38_2
    try clear hfz38_3
    obtain ⟨kq, x37_3, rfl, HA, HJ3, BK111, BK112, HB⟩ := hcut
    cases kq with
    | zero => exact absurd HA.out (by simp [zC.j0])
    | succ kj3 =>
      have H := HA.out
      clear HA
      simp only [zC.j0] at H
      by_cases c39 : x37_3 = true
      · subst c39
        have H1 : (some false) = some r := by rw [if_pos rfl] at H; exact H
        clear H
        have H := H1
        clear H1
        obtain rfl := Option.some.inj H
        go_wp2
        go_ret
        exact ⟨by first | rfl | (simp [zr, zq] <;> rfl) | (simp [*, zr, zq] <;> rfl), by repeat (with_reducible first | exact HB.out | apply zc | apply zb | apply zd | refine zh ?_ GE111.out | refine zh ?_ GE112.out)⟩
      · replace c39 := Bool.eq_false_iff.mpr c39
        subst c39
        have H1 : (if a2_0 = 1 then (zC.l0 kj3 0 l0_0 l0_1 a2_0 l2_1 l2_2 a2_3) else (if a2_0 = 2 then ((yu.f kj3 l2_2 a1 (l0_1.length : Int)).bind fun t115 => (some t115)) else (if a2_0 = 3 then (some true) else (if a2_0 = 4 then ((zK.f a2_3 0 2).bind fun t116 => (some t116)) else (some false))))) = some r := by rw [if_neg (show ¬ (false = true) by decide)] at H; exact H
        clear H
        have H := H1
        clear H1
        by_cases c40 : a2_0 = 1
        · rw [if_pos c40] at H
          have c40b0 : (a2_0 == 1) = true := beq_iff_eq.mpr c40
          have c40b1 : (a2_0 != 1) = false := bne_eq_false_iff_eq.mpr c40
          clear c40
          have H' := za.mk H
          clear H
          have hnb41 := NB112_111.out
          have hnc41 := NB111_112.out
          have hcz42_0 : wc.cell? ⟨gb112, 0, none⟩ = some (.int .i64 a2_0) := (zf BK112.out 0).trans rfl
          have hcz42_1 : wc.cell? ⟨gb112, 1, none⟩ = some (.slice A2_1 l2_1.length c2_1) := (zf BK112.out 1).trans rfl
          have hcz42_2 : wc.cell? ⟨gb112, 2, none⟩ = some (.slice A2_2 l2_2.length c2_2) := (zf BK112.out 2).trans rfl
          have hcz42_3 : wc.cell? ⟨gb112, 3, none⟩ = some (.int .i64 a2_3) := (zf BK112.out 3).trans rfl
          have hfz42_0 := zg BK112.out 0
          have hfz42_1 := zg BK112.out 1
          have hfz42_2 := zg BK112.out 2
          have hfz42_3 := zg BK112.out 3
          go_wp2
          go_loopg [7] kj3 (fun kq v7 w' => ∃ (x7_2 : Int), v7 = .int .i64 x7_2 ∧ za (zC.l0 kq x7_2 l0_0 l0_1 a2_0 l2_1 l2_2 a2_3 = some r) ∧ za (kq ≤ kj3) ∧ za (w'.heap[gb111]? = some (.cells #[(.slice A0_0 l0_0.length c0_0), (.slice A0_1 l0_1.length c0_1)] 30 (0, 0))) ∧ za (w'.heap[gb112]? = some (.cells #[.int .i64 a2_0, (.slice A2_1 l2_1.length c2_1), (.slice A2_2 l2_2.length c2_2), .int .i64 a2_3] 52 (0, 0))) ∧ za (Below w.heap.size w w'))
          case atStart => exact ⟨(0), (by first | rfl | (simp; done) | (simp [*]; done)), H', ⟨Nat.le_refl _⟩, ⟨by (with_reducible repeat (first | refine zl ?_ _ | refine zm ?_ | refine zj ?_ _)); exact BK111.out⟩, ⟨by (with_reducible repeat (first | refine zl ?_ _ | refine zm ?_ | refine zj ?_ _)); exact BK112.out⟩, ⟨by repeat (with_reducible first | exact HB.out | apply zc | apply zb | apply zd | refine zh ?_ GE111.out | refine zh ?_ GE112.out)⟩⟩
          case round =>
            clear H'
            try clear c1
            try clear c2
            try clear p2
            try clear c3
            try clear c4
            try clear c6
            try clear c7
            try clear c7b0
            try clear c7b1
            try clear c8
            try clear c8b0
            try clear c8b1
            try clear c9
            try clear c9b0
            try clear c9b1
            try clear c10
            try clear c12
            try clear c14
            try clear c14b0
            try clear c14b1
            try clear c15
            try clear c17
            try clear c17b0
            try clear c17b1
            try clear c18
            try clear c20
            try clear c22
            try clear c22b0
            try clear c22b1
            try clear c23
            try clear c25
            try clear c25b0
            try clear c25b1
            try clear c26
            try clear c26b0
            try clear c26b1
            try clear c27
            try clear c29
            try clear c31
            try clear c31b0
            try clear c31b1
            try clear c32
            try clear c34
            try clear c34b0
            try clear c34b1
            try clear c35
            try clear c37
            try clear c39
            try clear c40
            try clear c40b0
            try clear c40b1
            try clear c41
            try clear hcz11_0
            try clear hcz11_1
            try clear hcz11_2
            try clear hcz11_3
            try clear hcz13_0
            try clear hcz13_1
            try clear hcz13_2
            try clear hcz13_3
            try clear hcz16_0
            try clear hcz16_1
            try clear hcz16_2
            try clear hcz16_3
            try clear hcz19_0
            try clear hcz19_1
            try clear hcz19_2
            try clear hcz19_3
            try clear hcz21_0
            try clear hcz21_1
            try clear hcz21_2
            try clear hcz21_3
            try clear hcz24_0
            try clear hcz24_1
            try clear hcz24_2
            try clear hcz24_3
            try clear hcz28_0
            try clear hcz28_1
            try clear hcz28_2
            try clear hcz28_3
            try clear hcz30_0
            try clear hcz30_1
            try clear hcz30_2
            try clear hcz30_3
            try clear hcz33_0
            try clear hcz33_1
            try clear hcz33_2
            try clear hcz33_3
            try clear hcz36_0
            try clear hcz36_1
            try clear hcz36_2
            try clear hcz36_3
            try clear hcz38_0
            try clear hcz38_1
            try clear hcz38_2
            try clear hcz38_3
            try clear hcz42_0
            try clear hcz42_1
            try clear hcz42_2
            try clear hcz42_3
            try clear hfz11_0
            try clear hfz11_1
            try clear hfz11_2
            try clear hfz11_3
            try clear hfz13_0
            try clear hfz13_1
            try clear hfz13_2
            try clear hfz13_3
            try clear hfz16_0
            try clear hfz16_1
            try clear hfz16_2
            try clear hfz16_3
            try clear hfz19_0
            try clear hfz19_1
            try clear hfz19_2
            try clear hfz19_3
            try clear hfz21_0
            try clear hfz21_1
            try clear hfz21_2
            try clear hfz21_3
            try clear hfz24_0
            try clear hfz24_1
            try clear hfz24_2
            try clear hfz24_3
            try clear hfz28_0
            try clear hfz28_1
            try clear hfz28_2
            try clear hfz28_3
            try clear hfz30_0
            try clear hfz30_1
            try clear hfz30_2
            try clear hfz30_3
            try clear hfz33_0
            try clear hfz33_1
            try clear hfz33_2
            try clear hfz33_3
            try clear hfz36_0
            try clear hfz36_1
            try clear hfz36_2
            try clear hfz36_3
            try clear hfz38_0
            try clear hfz38_1
            try clear hfz38_2
            try clear hfz38_3
            try clear hfz42_0
            try clear hfz42_1
            try clear hfz42_2
            try clear hfz42_3
            try clear p2
            obtain ⟨x7_2, rfl, HA, HK2, BK111, BK112, HB⟩ := hrel
            cases gk with
            | zero => exact absurd HA.out (by simp [zC.l0])
            | succ k2 =>
              have H := HA.out
              clear HA
              simp only [zC.l0] at H
              by_cases c43 : x7_2 < (l2_1.length : Int)
              · rw [if_pos c43] at H
                have c43b0 : decide (x7_2 < (l2_1.length : Int)) = true := decide_eq_true c43
                clear c43
                by_cases c44 : 0 ≤ x7_2
                · rw [if_pos c44] at H
                  have c44b0 : decide (0 ≤ x7_2) = true := decide_eq_true c44
                  clear c44
                  replace H := Option.bind_eq_some_iff.mp H
                  obtain ⟨t114, A450, H⟩ := H
                  replace H : (if t114 = true then (zC.l0 k2 (wrap64 (x7_2 + 1)) l0_0 l0_1 a2_0 l2_1 l2_2 a2_3) else (some false)) = some r := H
                  have A45 := za.mk A450
                  clear A450
                  by_cases c46 : t114 = true
                  · subst c46
                    have H1 : (zC.l0 k2 (wrap64 (x7_2 + 1)) l0_0 l0_1 a2_0 l2_1 l2_2 a2_3) = some r := by rw [if_pos rfl] at H; exact H
                    clear H
                    have H := H1
                    clear H1
                    have H' := za.mk H
                    clear H
                    have hnb47 := NB112_111.out
                    have hnc47 := NB111_112.out
                    have hcz48_0 : wr.cell? ⟨gb112, 0, none⟩ = some (.int .i64 a2_0) := (zf BK112.out 0).trans rfl
                    have hcz48_1 : wr.cell? ⟨gb112, 1, none⟩ = some (.slice A2_1 l2_1.length c2_1) := (zf BK112.out 1).trans rfl
                    have hcz48_2 : wr.cell? ⟨gb112, 2, none⟩ = some (.slice A2_2 l2_2.length c2_2) := (zf BK112.out 2).trans rfl
                    have hcz48_3 : wr.cell? ⟨gb112, 3, none⟩ = some (.int .i64 a2_3) := (zf BK112.out 3).trans rfl
                    have hfz48_0 := zg BK112.out 0
                    have hfz48_1 := zg BK112.out 1
                    have hfz48_2 := zg BK112.out 2
                    have hfz48_3 := zg BK112.out 3
                    try go_wp2
                    have n0_ := za.mk (zm BK111.out)
                    have n1_ := za.mk (zm BK112.out)
                    have n2_ := za.mk (zd HB.out)
                    clear BK111
                    clear BK112
                    clear HB
                    have BK111 := n0_
                    have BK112 := n1_
                    have HB := n2_
                    clear n0_ n1_ n2_
                    have p113 : 0 ≤ (x7_2 : Int) := of_decide_eq_true (by first | (with_reducible assumption) | assumption)
                    have q113 : x7_2 < (l2_1.length : Int) := of_decide_eq_true (by first | (with_reducible assumption) | assumption)
                    obtain ⟨ad113, e113, hx113_0, hx113_1, hx113_2⟩ := at_T82 HR2_1.out x7_2 p113 q113
                    have hw113_2 := hx113_2
                    have hw113_1 := hx113_1
                    have hw113_0 := hx113_0
                    cases e113
                    replace hx113_0 := (HB.out.cell (World.block_lt_of_cell? w _ hx113_0)).trans hx113_0
                    replace hx113_1 := (HB.out.cell (World.block_lt_of_cell? w _ hx113_1)).trans hx113_1
                    replace hx113_2 := (HB.out.cell (World.block_lt_of_cell? w _ hx113_2)).trans hx113_2
                    replace p113 := eq_true p113
                    replace q113 := eq_true q113
                    refine xi (n := 10) (S := fun w' => w'.cell? ⟨gb112, 0, none⟩ = some (.int .i64 a2_0) ∧ w'.cell? ⟨gb112, 1, none⟩ = some (.slice (some ad113) l2_1.length c2_1) ∧ w'.cell? ⟨gb112, 2, none⟩ = some (.slice A2_2 l2_2.length c2_2) ∧ w'.cell? ⟨gb112, 3, none⟩ = some (.int .i64 a2_3) ∧ w'.cell? ⟨gb111, 0, none⟩ = some (.slice A0_0 l0_0.length c0_0) ∧ w'.cell? ⟨gb111, 1, none⟩ = some (.slice A0_1 l0_1.length c0_1) ∧ w'.cell? (ad113.add ((x7_2).toNat * 3)) = some (.int .i64 ((zP l2_1 x7_2).f0)) ∧ w'.cell? ⟨(ad113.add ((x7_2).toNat * 3)).block, (ad113.add ((x7_2).toNat * 3)).off + 1, none⟩ = some (.int .i64 ((zP l2_1 x7_2).f1)) ∧ w'.cell? ⟨(ad113.add ((x7_2).toNat * 3)).block, (ad113.add ((x7_2).toNat * 3)).off + 2, none⟩ = some (.int .i64 ((zP l2_1 x7_2).f2))) (ds := []) #[false, false, false, false, false, false, false, false, false, false] (by kernel_rfl) rfl rfl ⟨(zf BK112.out 0).trans rfl, (zf BK112.out 1).trans rfl, (zf BK112.out 2).trans rfl, (zf BK112.out 3).trans rfl, (zf BK111.out 0).trans rfl, (zf BK111.out 1).trans rfl, ((HB.out.cell (World.block_lt_of_cell? w _ hw113_0)).trans hw113_0), ((HB.out.cell (World.block_lt_of_cell? w _ hw113_1)).trans hw113_1), ((HB.out.cell (World.block_lt_of_cell? w _ hw113_2)).trans hw113_2)⟩ (fun hHeld => ?_); refine with_tabW zC.tab8 zC.bits8 (fun HT_ HW_ => ?_)
                    generalize wr.drew = w49 at BK111 BK112 HB hx113_0 hx113_1 hx113_2 hHeld ⊢
                    refine zF (i := 0) (N := some 49) (v := ?_) (a' := ?_) #[true, false, false, false, false, false, false, false, false, false] rfl rfl (yL HT_.out (by kernel_rfl)) (fun _ _ _ h => h) (Or.inl ⟨by rfl, ?_⟩) ?_ ?_
                    rotate_left
                    · intro w'
                      go_simp
                      with_reducible rfl
                    rotate_left
                    · simp only [Act.put, List.setIfInBounds_toArray, List.set_cons_zero, List.set_cons_succ, zn, zo]
                      rfl
                    refine zF (i := 2) (N := some 51) (v := ?_) (a' := ?_) #[true, false, true, false, false, false, false, false, false, false] rfl rfl (yL HT_.out (by kernel_rfl)) (fun _ _ _ h => h) (Or.inl ⟨by rfl, ?_⟩) ?_ ?_
                    rotate_left
                    · intro w'
                      go_simp
                      with_reducible rfl
                    rotate_left
                    · simp only [Act.put, List.setIfInBounds_toArray, List.set_cons_zero, List.set_cons_succ, zn, zo]
                      rfl
                    refine zF (i := 5) (N := some 54) (v := ?_) (a' := ?_) #[true, false, true, false, false, true, false, false, false, false] rfl rfl (yL HT_.out (by kernel_rfl)) (fun _ _ _ h => h) (Or.inl ⟨by rfl, ?_⟩) ?_ ?_
                    rotate_left
                    · intro w'
                      go_simp
                      with_reducible rfl
                    rotate_left
                    · simp only [Act.put, List.setIfInBounds_toArray, List.set_cons_zero, List.set_cons_succ, zn, zo]
                      rfl
                    refine yK (i := 1) (N := some 50) (v := ?_) (a' := ?_) #[true, true, true, false, false, true, false, false, false, false] rfl rfl (xj HT_.out HW_.out (by kernel_rfl)) (fun _ _ _ h => h) (Or.inl ⟨by rfl, ?_⟩) hHeld ?_ ?_
                    rotate_left
                    · rintro w' ⟨s0, s1, s2, s3, s4, s5, s6, s7, s8⟩
                      go_simp
                      with_reducible rfl
                    rotate_left
                    · simp only [Act.put, List.setIfInBounds_toArray, List.set_cons_zero, List.set_cons_succ, zn, zo]
                      rfl
                    refine zF (i := 3) (N := some 52) (v := ?_) (a' := ?_) #[true, true, true, true, false, true, false, false, false, false] rfl rfl (yL HT_.out (by kernel_rfl)) (fun _ _ _ h => h) (Or.inl ⟨by rfl, ?_⟩) ?_ ?_
                    rotate_left
                    · intro w'
                      go_simp
                      with_reducible rfl
                    rotate_left
                    · simp only [Act.put, List.setIfInBounds_toArray, List.set_cons_zero, List.set_cons_succ, zn, zo]
                      rfl
                    refine yK (i := 4) (N := some 53) (v := ?_) (a' := ?_) #[true, true, true, true, true, true, false, false, false, false] rfl rfl (xj HT_.out HW_.out (by kernel_rfl)) (fun _ _ _ h => h) (Or.inl ⟨by rfl, ?_⟩) hHeld ?_ ?_
                    rotate_left
                    · rintro w' ⟨s0, s1, s2, s3, s4, s5, s6, s7, s8⟩
                      go_simp
                      with_reducible rfl
                    rotate_left
                    · simp only [Act.put, List.setIfInBounds_toArray, List.set_cons_zero, List.set_cons_succ, zn, zo]
                      rfl
                    refine yK (i := 6) (N := some 55) (v := ?_) (a' := ?_) #[true, true, true, true, true, true, true, false, false, false] rfl rfl (xj HT_.out HW_.out (by kernel_rfl)) (fun _ _ _ h => h) (Or.inl ⟨by rfl, ?_⟩) hHeld ?_ ?_
                    rotate_left
                    · rintro w' ⟨s0, s1, s2, s3, s4, s5, s6, s7, s8⟩
                      go_simp
                      with_reducible rfl
                    rotate_left
                    · simp only [Act.put, List.setIfInBounds_toArray, List.set_cons_zero, List.set_cons_succ, zn, zo]
                      rfl
                    refine zF (i := 7) (N := some 56) (v := ?_) (a' := ?_) #[true, true, true, true, true, true, true, true, false, false] rfl rfl (yL HT_.out (by kernel_rfl)) (fun _ _ _ h => h) (Or.inl ⟨by rfl, ?_⟩) ?_ ?_
                    rotate_left
                    · intro w'
                      go_simp
                      with_reducible rfl
                    rotate_left
                    · simp only [Act.put, List.setIfInBounds_toArray, List.set_cons_zero, List.set_cons_succ, zn, zo]
                      rfl
                    refine yM (i := 8) (N := some 57) #[true, true, true, true, true, true, true, true, true, false] rfl rfl (one_of HT_.out (by kernel_rfl)) (by decide) (fun K hK => ?_)
                    refine y7 Tryd.func81 (by kernel_rfl) rfl #[.agg #[.int .i64 ((zP l2_1 x7_2).f0), .int .i64 ((zP l2_1 x7_2).f1), .int .i64 ((zP l2_1 x7_2).f2)], .int .i64 (l0_0.length : Int)] (by rfl) rfl rfl (by (try simp only [List.map_toArray, List.map_cons, List.map_nil]); first | done | rfl | (simp only [List.length_drop, List.length_take]; rfl)) ?_
                    with_reducible refine (xE.calls ((zP l2_1 x7_2).f0) ((zP l2_1 x7_2).f1) ((zP l2_1 x7_2).f2) (l0_0.length : Int) true _ A45.out).mono ?_
                    rintro e w50 ⟨rfl, hb⟩
                    refine ⟨_, rfl, ?_⟩
                    have n0_ := za.mk (zI (g := gb111) (o := .cells #[.slice A0_0 l0_0.length c0_0, .slice A0_1 l0_1.length c0_1] 30 (0, 0)) (by (with_reducible repeat (first | refine zl ?_ _ | refine zm ?_ | refine zj ?_ _)); exact BK111.out) hb)
                    have n1_ := za.mk (zI (g := gb112) (o := .cells #[.int .i64 a2_0, .slice (some ad113) l2_1.length c2_1, .slice A2_2 l2_2.length c2_2, .int .i64 a2_3] 52 (0, 0)) (by (with_reducible repeat (first | refine zl ?_ _ | refine zm ?_ | refine zj ?_ _)); exact BK112.out) hb)
                    have n2_ := za.mk (zp (by repeat (with_reducible first | exact HB.out | apply zc | apply zb | apply zd | refine zh ?_ GE111.out | refine zh ?_ GE112.out)) hb)
                    clear BK111
                    clear BK112
                    clear HB
                    have BK111 := n0_
                    have BK112 := n1_
                    have HB := n2_
                    clear n0_ n1_ n2_
                    (try clear hb)
                    (try clear hb2)
                    (try clear hk)
                    (try clear hi)
                    refine hK.out _ _ ⟨(zf BK112.out 0).trans rfl, (zf BK112.out 1).trans rfl, (zf BK112.out 2).trans rfl, (zf BK112.out 3).trans rfl, (zf BK111.out 0).trans rfl, (zf BK111.out 1).trans rfl, ((HB.out.cell (World.block_lt_of_cell? w _ hw113_0)).trans hw113_0), ((HB.out.cell (World.block_lt_of_cell? w _ hw113_1)).trans hw113_1), ((HB.out.cell (World.block_lt_of_cell? w _ hw113_2)).trans hw113_2)⟩ (fun hHeld => ?_)
                    clear hK K
                    refine zQ (a' := ?_) ?_ ?_
                    rotate_left
                    · show Act.put _ (some 57) _ = _
                      simp only [Act.put, List.setIfInBounds_toArray, List.set_cons_zero, List.set_cons_succ, zn, zo]
                      rfl
                    refine zF (i := 9) (N := some 58) (v := ?_) (a' := ?_) #[true, true, true, true, true, true, true, true, true, true] rfl rfl (yL HT_.out (by kernel_rfl)) (fun _ _ _ h => h) (Or.inl ⟨by rfl, ?_⟩) ?_ ?_
                    rotate_left
                    · intro w'
                      go_simp
                      with_reducible rfl
                    rotate_left
                    · simp only [Act.put, List.setIfInBounds_toArray, List.set_cons_zero, List.set_cons_succ, zn, zo]
                      rfl
                    refine xA (done_of HT_.out (by kernel_rfl)) ?_
                    try go_wp2
                    go_roundg k2
                    case measure => have := HJ3.out; have := HK2.out; omega
                    case rel => exact ⟨(wrap64 (x7_2 + 1)), (by first | rfl | (simp; done) | (simp [*]; done)), H', ⟨by have := HJ3.out; have := HK2.out; omega⟩, ⟨by (with_reducible repeat (first | refine zl ?_ _ | refine zm ?_ | refine zj ?_ _)); exact BK111.out⟩, ⟨by (with_reducible repeat (first | refine zl ?_ _ | refine zm ?_ | refine zj ?_ _)); exact BK112.out⟩, ⟨by repeat (with_reducible first | exact HB.out | apply zc | apply zb | apply zd | refine zh ?_ GE111.out | refine zh ?_ GE112.out)⟩⟩
                  · replace c46 := Bool.eq_false_iff.mpr c46
                    subst c46
                    have H1 : (some false) = some r := by rw [if_neg (show ¬ (false = true) by decide)] at H; exact H
                    clear H
                    have H := H1
                    clear H1
                    obtain rfl := Option.some.inj H
                    have hnb51 := NB112_111.out
                    have hnc51 := NB111_112.out
                    have hcz52_0 : wr.cell? ⟨gb112, 0, none⟩ = some (.int .i64 a2_0) := (zf BK112.out 0).trans rfl
                    have hcz52_1 : wr.cell? ⟨gb112, 1, none⟩ = some (.slice A2_1 l2_1.length c2_1) := (zf BK112.out 1).trans rfl
                    have hcz52_2 : wr.cell? ⟨gb112, 2, none⟩ = some (.slice A2_2 l2_2.length c2_2) := (zf BK112.out 2).trans rfl
                    have hcz52_3 : wr.cell? ⟨gb112, 3, none⟩ = some (.int .i64 a2_3) := (zf BK112.out 3).trans rfl
                    have hfz52_0 := zg BK112.out 0
                    have hfz52_1 := zg BK112.out 1
                    have hfz52_2 := zg BK112.out 2
                    have hfz52_3 := zg BK112.out 3
                    try go_wp2
                    have n0_ := za.mk (zm BK111.out)
                    have n1_ := za.mk (zm BK112.out)
                    have n2_ := za.mk (zd HB.out)
                    clear BK111
                    clear BK112
                    clear HB
                    have BK111 := n0_
                    have BK112 := n1_
                    have HB := n2_
                    clear n0_ n1_ n2_
                    have p113 : 0 ≤ (x7_2 : Int) := of_decide_eq_true (by first | (with_reducible assumption) | assumption)
                    have q113 : x7_2 < (l2_1.length : Int) := of_decide_eq_true (by first | (with_reducible assumption) | assumption)
                    obtain ⟨ad113, e113, hx113_0, hx113_1, hx113_2⟩ := at_T82 HR2_1.out x7_2 p113 q113
                    have hw113_2 := hx113_2
                    have hw113_1 := hx113_1
                    have hw113_0 := hx113_0
                    cases e113
                    replace hx113_0 := (HB.out.cell (World.block_lt_of_cell? w _ hx113_0)).trans hx113_0
                    replace hx113_1 := (HB.out.cell (World.block_lt_of_cell? w _ hx113_1)).trans hx113_1
                    replace hx113_2 := (HB.out.cell (World.block_lt_of_cell? w _ hx113_2)).trans hx113_2
                    replace p113 := eq_true p113
                    replace q113 := eq_true q113
                    refine xi (n := 10) (S := fun w' => w'.cell? ⟨gb112, 0, none⟩ = some (.int .i64 a2_0) ∧ w'.cell? ⟨gb112, 1, none⟩ = some (.slice (some ad113) l2_1.length c2_1) ∧ w'.cell? ⟨gb112, 2, none⟩ = some (.slice A2_2 l2_2.length c2_2) ∧ w'.cell? ⟨gb112, 3, none⟩ = some (.int .i64 a2_3) ∧ w'.cell? ⟨gb111, 0, none⟩ = some (.slice A0_0 l0_0.length c0_0) ∧ w'.cell? ⟨gb111, 1, none⟩ = some (.slice A0_1 l0_1.length c0_1) ∧ w'.cell? (ad113.add ((x7_2).toNat * 3)) = some (.int .i64 ((zP l2_1 x7_2).f0)) ∧ w'.cell? ⟨(ad113.add ((x7_2).toNat * 3)).block, (ad113.add ((x7_2).toNat * 3)).off + 1, none⟩ = some (.int .i64 ((zP l2_1 x7_2).f1)) ∧ w'.cell? ⟨(ad113.add ((x7_2).toNat * 3)).block, (ad113.add ((x7_2).toNat * 3)).off + 2, none⟩ = some (.int .i64 ((zP l2_1 x7_2).f2))) (ds := []) #[false, false, false, false, false, false, false, false, false, false] (by kernel_rfl) rfl rfl ⟨(zf BK112.out 0).trans rfl, (zf BK112.out 1).trans rfl, (zf BK112.out 2).trans rfl, (zf BK112.out 3).trans rfl, (zf BK111.out 0).trans rfl, (zf BK111.out 1).trans rfl, ((HB.out.cell (World.block_lt_of_cell? w _ hw113_0)).trans hw113_0), ((HB.out.cell (World.block_lt_of_cell? w _ hw113_1)).trans hw113_1), ((HB.out.cell (World.block_lt_of_cell? w _ hw113_2)).trans hw113_2)⟩ (fun hHeld => ?_); refine with_tabW zC.tab8 zC.bits8 (fun HT_ HW_ => ?_)
                    generalize wr.drew = w53 at BK111 BK112 HB hx113_0 hx113_1 hx113_2 hHeld ⊢
                    refine zF (i := 0) (N := some 49) (v := ?_) (a' := ?_) #[true, false, false, false, false, false, false, false, false, false] rfl rfl (yL HT_.out (by kernel_rfl)) (fun _ _ _ h => h) (Or.inl ⟨by rfl, ?_⟩) ?_ ?_
                    rotate_left
                    · intro w'
                      go_simp
                      with_reducible rfl
                    rotate_left
                    · simp only [Act.put, List.setIfInBounds_toArray, List.set_cons_zero, List.set_cons_succ, zn, zo]
                      rfl
                    refine zF (i := 2) (N := some 51) (v := ?_) (a' := ?_) #[true, false, true, false, false, false, false, false, false, false] rfl rfl (yL HT_.out (by kernel_rfl)) (fun _ _ _ h => h) (Or.inl ⟨by rfl, ?_⟩) ?_ ?_
                    rotate_left
                    · intro w'
                      go_simp
                      with_reducible rfl
                    rotate_left
                    · simp only [Act.put, List.setIfInBounds_toArray, List.set_cons_zero, List.set_cons_succ, zn, zo]
                      rfl
                    refine zF (i := 5) (N := some 54) (v := ?_) (a' := ?_) #[true, false, true, false, false, true, false, false, false, false] rfl rfl (yL HT_.out (by kernel_rfl)) (fun _ _ _ h => h) (Or.inl ⟨by rfl, ?_⟩) ?_ ?_
                    rotate_left
                    · intro w'
                      go_simp
                      with_reducible rfl
                    rotate_left
                    · simp only [Act.put, List.setIfInBounds_toArray, List.set_cons_zero, List.set_cons_succ, zn, zo]
                      rfl
                    refine yK (i := 1) (N := some 50) (v := ?_) (a' := ?_) #[true, true, true, false, false, true, false, false, false, false] rfl rfl (xj HT_.out HW_.out (by kernel_rfl)) (fun _ _ _ h => h) (Or.inl ⟨by rfl, ?_⟩) hHeld ?_ ?_
                    rotate_left
                    · rintro w' ⟨s0, s1, s2, s3, s4, s5, s6, s7, s8⟩
                      go_simp
                      with_reducible rfl
                    rotate_left
                    · simp only [Act.put, List.setIfInBounds_toArray, List.set_cons_zero, List.set_cons_succ, zn, zo]
                      rfl
                    refine zF (i := 3) (N := some 52) (v := ?_) (a' := ?_) #[true, true, true, true, false, true, false, false, false, false] rfl rfl (yL HT_.out (by kernel_rfl)) (fun _ _ _ h => h) (Or.inl ⟨by rfl, ?_⟩) ?_ ?_
                    rotate_left
                    · intro w'
                      go_simp
                      with_reducible rfl
                    rotate_left
                    · simp only [Act.put, List.setIfInBounds_toArray, List.set_cons_zero, List.set_cons_succ, zn, zo]
                      rfl
                    refine yK (i := 4) (N := some 53) (v := ?_) (a' := ?_) #[true, true, true, true, true, true, false, false, false, false] rfl rfl (xj HT_.out HW_.out (by kernel_rfl)) (fun _ _ _ h => h) (Or.inl ⟨by rfl, ?_⟩) hHeld ?_ ?_
                    rotate_left
                    · rintro w' ⟨s0, s1, s2, s3, s4, s5, s6, s7, s8⟩
                      go_simp
                      with_reducible rfl
                    rotate_left
                    · simp only [Act.put, List.setIfInBounds_toArray, List.set_cons_zero, List.set_cons_succ, zn, zo]
                      rfl
                    refine yK (i := 6) (N := some 55) (v := ?_) (a' := ?_) #[true, true, true, true, true, true, true, false, false, false] rfl rfl (xj HT_.out HW_.out (by kernel_rfl)) (fun _ _ _ h => h) (Or.inl ⟨by rfl, ?_⟩) hHeld ?_ ?_
                    rotate_left
                    · rintro w' ⟨s0, s1, s2, s3, s4, s5, s6, s7, s8⟩
                      go_simp
                      with_reducible rfl
                    rotate_left
                    · simp only [Act.put, List.setIfInBounds_toArray, List.set_cons_zero, List.set_cons_succ, zn, zo]
                      rfl
                    refine zF (i := 7) (N := some 56) (v := ?_) (a' := ?_) #[true, true, true, true, true, true, true, true, false, false] rfl rfl (yL HT_.out (by kernel_rfl)) (fun _ _ _ h => h) (Or.inl ⟨by rfl, ?_⟩) ?_ ?_
                    rotate_left
                    · intro w'
                      go_simp
                      with_reducible rfl
                    rotate_left
                    · simp only [Act.put, List.setIfInBounds_toArray, List.set_cons_zero, List.set_cons_succ, zn, zo]
                      rfl
                    refine yM (i := 8) (N := some 57) #[true, true, true, true, true, true, true, true, true, false] rfl rfl (one_of HT_.out (by kernel_rfl)) (by decide) (fun K hK => ?_)
                    refine y7 Tryd.func81 (by kernel_rfl) rfl #[.agg #[.int .i64 ((zP l2_1 x7_2).f0), .int .i64 ((zP l2_1 x7_2).f1), .int .i64 ((zP l2_1 x7_2).f2)], .int .i64 (l0_0.length : Int)] (by rfl) rfl rfl (by (try simp only [List.map_toArray, List.map_cons, List.map_nil]); first | done | rfl | (simp only [List.length_drop, List.length_take]; rfl)) ?_
                    with_reducible refine (xE.calls ((zP l2_1 x7_2).f0) ((zP l2_1 x7_2).f1) ((zP l2_1 x7_2).f2) (l0_0.length : Int) false _ A45.out).mono ?_
                    rintro e w54 ⟨rfl, hb⟩
                    refine ⟨_, rfl, ?_⟩
                    have n0_ := za.mk (zI (g := gb111) (o := .cells #[.slice A0_0 l0_0.length c0_0, .slice A0_1 l0_1.length c0_1] 30 (0, 0)) (by (with_reducible repeat (first | refine zl ?_ _ | refine zm ?_ | refine zj ?_ _)); exact BK111.out) hb)
                    have n1_ := za.mk (zI (g := gb112) (o := .cells #[.int .i64 a2_0, .slice (some ad113) l2_1.length c2_1, .slice A2_2 l2_2.length c2_2, .int .i64 a2_3] 52 (0, 0)) (by (with_reducible repeat (first | refine zl ?_ _ | refine zm ?_ | refine zj ?_ _)); exact BK112.out) hb)
                    have n2_ := za.mk (zp (by repeat (with_reducible first | exact HB.out | apply zc | apply zb | apply zd | refine zh ?_ GE111.out | refine zh ?_ GE112.out)) hb)
                    clear BK111
                    clear BK112
                    clear HB
                    have BK111 := n0_
                    have BK112 := n1_
                    have HB := n2_
                    clear n0_ n1_ n2_
                    (try clear hb)
                    (try clear hb2)
                    (try clear hk)
                    (try clear hi)
                    refine hK.out _ _ ⟨(zf BK112.out 0).trans rfl, (zf BK112.out 1).trans rfl, (zf BK112.out 2).trans rfl, (zf BK112.out 3).trans rfl, (zf BK111.out 0).trans rfl, (zf BK111.out 1).trans rfl, ((HB.out.cell (World.block_lt_of_cell? w _ hw113_0)).trans hw113_0), ((HB.out.cell (World.block_lt_of_cell? w _ hw113_1)).trans hw113_1), ((HB.out.cell (World.block_lt_of_cell? w _ hw113_2)).trans hw113_2)⟩ (fun hHeld => ?_)
                    clear hK K
                    refine zQ (a' := ?_) ?_ ?_
                    rotate_left
                    · show Act.put _ (some 57) _ = _
                      simp only [Act.put, List.setIfInBounds_toArray, List.set_cons_zero, List.set_cons_succ, zn, zo]
                      rfl
                    refine zF (i := 9) (N := some 58) (v := ?_) (a' := ?_) #[true, true, true, true, true, true, true, true, true, true] rfl rfl (yL HT_.out (by kernel_rfl)) (fun _ _ _ h => h) (Or.inl ⟨by rfl, ?_⟩) ?_ ?_
                    rotate_left
                    · intro w'
                      go_simp
                      with_reducible rfl
                    rotate_left
                    · simp only [Act.put, List.setIfInBounds_toArray, List.set_cons_zero, List.set_cons_succ, zn, zo]
                      rfl
                    refine xA (done_of HT_.out (by kernel_rfl)) ?_
                    try go_wp2
                    go_ret
                    exact ⟨by first | rfl | (simp [zr, zq] <;> rfl) | (simp [*, zr, zq] <;> rfl), by repeat (with_reducible first | exact HB.out | apply zc | apply zb | apply zd | refine zh ?_ GE111.out | refine zh ?_ GE112.out)⟩
                · rw [if_neg c44] at H
                  exact absurd H (by simp)
              · rw [if_neg c43] at H
                have c43b0 : decide (x7_2 < (l2_1.length : Int)) = false := decide_eq_false c43
                clear c43
                obtain rfl := Option.some.inj H
                have hnb55 := NB112_111.out
                have hnc55 := NB111_112.out
                have hcz56_0 : wr.cell? ⟨gb112, 0, none⟩ = some (.int .i64 a2_0) := (zf BK112.out 0).trans rfl
                have hcz56_1 : wr.cell? ⟨gb112, 1, none⟩ = some (.slice A2_1 l2_1.length c2_1) := (zf BK112.out 1).trans rfl
                have hcz56_2 : wr.cell? ⟨gb112, 2, none⟩ = some (.slice A2_2 l2_2.length c2_2) := (zf BK112.out 2).trans rfl
                have hcz56_3 : wr.cell? ⟨gb112, 3, none⟩ = some (.int .i64 a2_3) := (zf BK112.out 3).trans rfl
                have hfz56_0 := zg BK112.out 0
                have hfz56_1 := zg BK112.out 1
                have hfz56_2 := zg BK112.out 2
                have hfz56_3 := zg BK112.out 3
                go_wp2
                go_ret
                exact ⟨by first | rfl | (simp [zr, zq] <;> rfl) | (simp [*, zr, zq] <;> rfl), by repeat (with_reducible first | exact HB.out | apply zc | apply zb | apply zd | refine zh ?_ GE111.out | refine zh ?_ GE112.out)⟩
        · rw [if_neg c40] at H
          have c40b0 : (a2_0 == 1) = false := beq_eq_false_iff_ne.mpr c40
          have c40b1 : (a2_0 != 1) = true := bne_iff_ne.mpr c40
          by_cases c57 : a2_0 = 2
          · rw [if_pos c57] at H
            have c57b0 : (a2_0 == 2) = true := beq_iff_eq.mpr c57
            have c57b1 : (a2_0 != 2) = false := bne_eq_false_iff_eq.mpr c57
            clear c57
            replace H := Option.bind_eq_some_iff.mp H
            obtain ⟨t115, A580, H⟩ := H
            replace H : (some t115) = some r := H
            have A58 := za.mk A580
            clear A580
            obtain rfl := Option.some.inj H
            have hnb59 := NB112_111.out
            have hnc59 := NB111_112.out
            have hcz60_0 : wc.cell? ⟨gb112, 0, none⟩ = some (.int .i64 a2_0) := (zf BK112.out 0).trans rfl
            have hcz60_1 : wc.cell? ⟨gb112, 1, none⟩ = some (.slice A2_1 l2_1.length c2_1) := (zf BK112.out 1).trans rfl
            have hcz60_2 : wc.cell? ⟨gb112, 2, none⟩ = some (.slice A2_2 l2_2.length c2_2) := (zf BK112.out 2).trans rfl
            have hcz60_3 : wc.cell? ⟨gb112, 3, none⟩ = some (.int .i64 a2_3) := (zf BK112.out 3).trans rfl
            have hfz60_0 := zg BK112.out 0
            have hfz60_1 := zg BK112.out 1
            have hfz60_2 := zg BK112.out 2
            have hfz60_3 := zg BK112.out 3
            have hcz61_0 : wc.cell? ⟨gb111, 0, none⟩ = some (.slice A0_0 l0_0.length c0_0) := (zf BK111.out 0).trans rfl
            have hcz61_1 : wc.cell? ⟨gb111, 1, none⟩ = some (.slice A0_1 l0_1.length c0_1) := (zf BK111.out 1).trans rfl
            have hfz61_0 := zg BK111.out 0
            have hfz61_1 := zg BK111.out 1
            go_wp2_with (first | ((with_reducible refine zx (f := 82) rfl ?_); refine z6 (some 71) rfl rfl Tryd.func82 (by kernel_rfl) rfl #[.slice A2_2 l2_2.length c2_2, .int .i64 a1, .int .i64 (l0_1.length : Int)] rfl (by (try simp only [List.map_toArray, List.map_cons, List.map_nil]); first | done | rfl | (simp only [List.length_drop, List.length_take]; rfl)) ?_; (with_reducible refine (yu.calls kj3 _ _ l2_2 a1 (l0_1.length : Int) t115 _ ?side1 ?side2 A58.out).mono ?_); (case side1 => repeat (first | exact (Kd.zX HR2_2.out HB.out) | (with_reducible refine Kd.yg ?_ _) | (with_reducible refine Kd.yi ?_ _) | (with_reducible refine Kd.yG ?_))); (case side2 => exact HC2_2.out); rintro e w' ⟨rfl, ⟨nd, rfl⟩⟩; refine ⟨_, rfl, ?_⟩))
            go_ret
            exact ⟨by first | rfl | (simp [zr, zq] <;> rfl) | (simp [*, zr, zq] <;> rfl), by repeat (with_reducible first | exact HB.out | apply zc | apply zb | apply zd | refine zh ?_ GE111.out | refine zh ?_ GE112.out)⟩
          · rw [if_neg c57] at H
            have c57b0 : (a2_0 == 2) = false := beq_eq_false_iff_ne.mpr c57
            have c57b1 : (a2_0 != 2) = true := bne_iff_ne.mpr c57
            by_cases c62 : a2_0 = 3
            · rw [if_pos c62] at H
              have c62b0 : (a2_0 == 3) = true := beq_iff_eq.mpr c62
              have c62b1 : (a2_0 != 3) = false := bne_eq_false_iff_eq.mpr c62
              clear c62
              obtain rfl := Option.some.inj H
              have hnb63 := NB112_111.out
              have hnc63 := NB111_112.out
              have hcz64_0 : wc.cell? ⟨gb112, 0, none⟩ = some (.int .i64 a2_0) := (zf BK112.out 0).trans rfl
              have hcz64_1 : wc.cell? ⟨gb112, 1, none⟩ = some (.slice A2_1 l2_1.length c2_1) := (zf BK112.out 1).trans rfl
              have hcz64_2 : wc.cell? ⟨gb112, 2, none⟩ = some (.slice A2_2 l2_2.length c2_2) := (zf BK112.out 2).trans rfl
              have hcz64_3 : wc.cell? ⟨gb112, 3, none⟩ = some (.int .i64 a2_3) := (zf BK112.out 3).trans rfl
              have hfz64_0 := zg BK112.out 0
              have hfz64_1 := zg BK112.out 1
              have hfz64_2 := zg BK112.out 2
              have hfz64_3 := zg BK112.out 3
              go_wp2
              go_ret
              exact ⟨by first | rfl | (simp [zr, zq] <;> rfl) | (simp [*, zr, zq] <;> rfl), by repeat (with_reducible first | exact HB.out | apply zc | apply zb | apply zd | refine zh ?_ GE111.out | refine zh ?_ GE112.out)⟩
            · rw [if_neg c62] at H
              have c62b0 : (a2_0 == 3) = false := beq_eq_false_iff_ne.mpr c62
              have c62b1 : (a2_0 != 3) = true := bne_iff_ne.mpr c62
              by_cases c65 : a2_0 = 4
              · rw [if_pos c65] at H
                have c65b0 : (a2_0 == 4) = true := beq_iff_eq.mpr c65
                have c65b1 : (a2_0 != 4) = false := bne_eq_false_iff_eq.mpr c65
                clear c65
                replace H := Option.bind_eq_some_iff.mp H
                obtain ⟨t116, A660, H⟩ := H
                replace H : (some t116) = some r := H
                have A66 := za.mk A660
                clear A660
                obtain rfl := Option.some.inj H
                have hnb67 := NB112_111.out
                have hnc67 := NB111_112.out
                have hcz68_0 : wc.cell? ⟨gb112, 0, none⟩ = some (.int .i64 a2_0) := (zf BK112.out 0).trans rfl
                have hcz68_1 : wc.cell? ⟨gb112, 1, none⟩ = some (.slice A2_1 l2_1.length c2_1) := (zf BK112.out 1).trans rfl
                have hcz68_2 : wc.cell? ⟨gb112, 2, none⟩ = some (.slice A2_2 l2_2.length c2_2) := (zf BK112.out 2).trans rfl
                have hcz68_3 : wc.cell? ⟨gb112, 3, none⟩ = some (.int .i64 a2_3) := (zf BK112.out 3).trans rfl
                have hfz68_0 := zg BK112.out 0
                have hfz68_1 := zg BK112.out 1
                have hfz68_2 := zg BK112.out 2
                have hfz68_3 := zg BK112.out 3
                go_wp2_with (first | ((with_reducible refine zx (f := 63) rfl ?_); refine z6 (some 78) rfl rfl Tryd.func63 (by kernel_rfl) rfl #[.int .i64 a2_3, .int .i64 0, .int .i64 2] rfl (by (try simp only [List.map_toArray, List.map_cons, List.map_nil]); first | done | rfl | (simp only [List.length_drop, List.length_take]; rfl)) ?_; (with_reducible refine (zK.calls a2_3 0 2 t116 _ A66.out).mono ?_); rintro e w' ⟨rfl, ⟨nd, rfl⟩⟩; refine ⟨_, rfl, ?_⟩))
                go_ret
                exact ⟨by first | rfl | (simp [zr, zq] <;> rfl) | (simp [*, zr, zq] <;> rfl), by repeat (with_reducible first | exact HB.out | apply zc | apply zb | apply zd | refine zh ?_ GE111.out | refine zh ?_ GE112.out)⟩
              · rw [if_neg c65] at H
                have c65b0 : (a2_0 == 4) = false := beq_eq_false_iff_ne.mpr c65
                have c65b1 : (a2_0 != 4) = true := bne_iff_ne.mpr c65
                obtain rfl := Option.some.inj H
                have hnb69 := NB112_111.out
                have hnc69 := NB111_112.out
                have hcz70_0 : wc.cell? ⟨gb112, 0, none⟩ = some (.int .i64 a2_0) := (zf BK112.out 0).trans rfl
                have hcz70_1 : wc.cell? ⟨gb112, 1, none⟩ = some (.slice A2_1 l2_1.length c2_1) := (zf BK112.out 1).trans rfl
                have hcz70_2 : wc.cell? ⟨gb112, 2, none⟩ = some (.slice A2_2 l2_2.length c2_2) := (zf BK112.out 2).trans rfl
                have hcz70_3 : wc.cell? ⟨gb112, 3, none⟩ = some (.int .i64 a2_3) := (zf BK112.out 3).trans rfl
                have hfz70_0 := zg BK112.out 0
                have hfz70_1 := zg BK112.out 1
                have hfz70_2 := zg BK112.out 2
                have hfz70_3 := zg BK112.out 3
                go_wp2
                go_ret
                exact ⟨by first | rfl | (simp [zr, zq] <;> rfl) | (simp [*, zr, zq] <;> rfl), by repeat (with_reducible first | exact HB.out | apply zc | apply zb | apply zd | refine zh ?_ GE111.out | refine zh ?_ GE112.out)⟩
end Go.Proofs.YtoeepmcaabmjkaaDoor.QPO
namespace Go.Proofs.YtoeepmcaabmjkaaDoor.QPO
open Go.RowKit Go.Proofs.YtoeepmcaabmjkaaDoorW.PrintWords Go.Proofs.YtoeepmcaabmjkaaDoorW.PrintLast Go.Proofs.YtoeepmcaabmjkaaDoorW.PrintMore
attribute [local go_sem] yz yx yQ yP yl yk yy yw   -- for this text's walks alone
set_option linter.unusedVariables false
set_option linter.unusedSimpArgs false
mutual
def zB.j0 : Nat → Bool → List Int → List (List (S52)) → Option (Bool)
  | 0, _, _, _ => none
  | k + 1, x16, x118000, x118001 => if x16 = true then (some false) else (zB.l0 k 0 x118000 x118001)
def zB.l0 : Nat → Int → List Int → List (List (S52)) → Option (Bool)
  | 0, _, _, _ => none
  | k + 1, x3, x118000, x118001 => if x3 < (x118000.length : Int) then (if 0 ≤ x3 then ((zK.f (rd x118000 x3) 0 99).bind fun t120 => (if t120 = true then (zB.l0 k (wrap64 (x3 + 1)) x118000 x118001) else (some false))) else (none)) else (zB.l1 k 0 x118000 x118001)
def zB.l1 : Nat → Int → List Int → List (List (S52)) → Option (Bool)
  | 0, _, _, _ => none
  | k + 1, x4, x118000, x118001 => if x4 < (x118001.length : Int) then (if 0 ≤ x4 then (if ((zR x118001 x4).length : Int) > 4 then (some false) else (zB.l2 k x4 0 x118000 x118001)) else (none)) else (some true)
def zB.l2 : Nat → Int → Int → List Int → List (List (S52)) → Option (Bool)
  | 0, _, _, _, _ => none
  | k + 1, x4, x5, x118000, x118001 => if 0 ≤ x4 then (if x4 < (x118001.length : Int) then (if x5 < ((zR x118001 x4).length : Int) then (if 0 ≤ x5 then ((zC.f k x118000 x118001 x4 ((zM (zR x118001 x4) x5).f0) ((zM (zR x118001 x4) x5).f1) ((zM (zR x118001 x4) x5).f2) ((zM (zR x118001 x4) x5).f3)).bind fun t125 => (if t125 = true then (zB.l2 k x4 (wrap64 (x5 + 1)) x118000 x118001) else (some false))) else (none)) else (zB.l1 k (wrap64 (x4 + 1)) x118000 x118001)) else (none)) else (none)
end
def zB.f (k : Nat) (l0_0 : List Int) (l0_1 : List (List (S52))) : Option (Bool) := if (l0_0.length : Int) > 3 then (zB.j0 k true l0_0 l0_1) else ((zK.f (l0_1.length : Int) 1 4).bind fun t118 => (zB.j0 k (!t118) l0_0 l0_1))
def zB.T16 : Bool × List (List Nat × List Nat) := (true, [([], []), ([], []), ([], []), ([2], [2]), ([], []), ([3, 4], [3, 4]), ([5], [5]), ([], []), ([6, 7], [6, 7]), ([8], [8]), ([0, 1, 9], [0, 1, 9]), ([10], [10])])
def zB.B16 : List Nat := [0, 0, 0, 4, 0, 28, 60, 0, 252, 508, 1023, 2047]
theorem zB.tab16 : rtab .any (opsOf Tryd.f42 16) = zB.T16 := by kernel_rfl
theorem zB.bits16 : waitsOk zB.T16.2 zB.B16 = true := by kernel_rfl
set_option maxHeartbeats 8000000 in
set_option maxRecDepth 100000 in
theorem zB.calls (k : Nat) (A0_0 : Option Addr) (c0_0 : Nat) (l0_0 : List Int) (A0_1 : Option Addr) (c0_1 : Nat) (l0_1 : List (List (S52))) (r : Bool) (w : World) (hr0_0 : Kd.C (Kd.int .i64) w A0_0 l0_0.length l0_0) (hc0_0 : l0_0.length ≤ c0_0) (hr0_1 : Kd.C (Kd.slice 52 k52) w A0_1 l0_1.length l0_1) (hc0_1 : l0_1.length ≤ c0_1) (h : zB.f k l0_0 l0_1 = some r) :
    Calls Tryd.prog 42 #[.agg #[.slice A0_0 l0_0.length c0_0, .slice A0_1 l0_1.length c0_1]] w fun e w' => e = .returned (.bool r) ∧ Below w.heap.size w w' := by
  have hu30 := Tryd.underlying30
  have hu52 := Tryd.underlying52
  have HR0_0 := za.mk hr0_0
  have HC0_0 := za.mk hc0_0
  clear hr0_0 hc0_0
  have HR0_1 := za.mk hr0_1
  have HC0_1 := za.mk hc0_1
  clear hr0_1 hc0_1
  have HB := za.mk (Below.refl w.heap.size w)
  have H : (if (l0_0.length : Int) > 3 then (zB.j0 k true l0_0 l0_1) else ((zK.f (l0_1.length : Int) 1 4).bind fun t118 => (zB.j0 k (!t118) l0_0 l0_1))) = some r := h
  clear h
  have HC2 := za.mk H
  clear H
  go_enter Tryd.func42, Tryd.ntmps42
  go_upto_region 1 with (first | ((with_reducible refine zY (N := 1) rfl ?_); (try (refine xK (by rfl) ?_; dsimp only)); refine ye ?hg (N := 1) ?hd (cs := #[.slice A0_0 l0_0.length c0_0, .slice A0_1 l0_1.length c0_1]) (t := 30) ?hr ?_; (case hd => rfl); (case hg => rfl); (case hr => first | (go_simp; done) | (go_simp; rfl)); intro gb117 hg w3 hbox hb; have n0_ := za.mk (zp (by repeat (with_reducible first | exact HB.out | apply zc | apply zb | apply zd)) hb); have n1_ := za.mk (hbox); have n2_ := za.mk ((by rw [hg]; exact (zy (by repeat (with_reducible first | exact HB.out | apply zc | apply zb | apply zd))) : w.heap.size ≤ gb117)); have n3_ := za.mk ((by rw [hg]; exact (zy (by repeat (with_reducible first | exact HB.out | apply zc | apply zb | apply zd))) : w.heap.size ≤ gb117)); clear HB; have HB := n0_; have BK117 := n1_; have GW117 := n2_; have GE117 := n3_; clear n0_ n1_ n2_ n3_; clear hb hbox hg))
  (try simp only [Act.put, List.setIfInBounds_toArray, List.set_cons_zero, List.set_cons_succ])
  go_cut [16] (fun v16 wc => ∃ (kq : Nat) (x16_1 : Bool), v16 = .bool x16_1 ∧ za (zB.j0 kq x16_1 l0_0 l0_1 = some r) ∧ za (kq ≤ k) ∧ za (wc.heap[gb117]? = some (.cells #[(.slice A0_0 l0_0.length c0_0), (.slice A0_1 l0_1.length c0_1)] 30 (0, 0))) ∧ za (Below w.heap.size w wc))
  case first =>
    have H := HC2.out
    clear HC2
    by_cases c4 : (l0_0.length : Int) > 3
    · rw [if_pos c4] at H
      have c4b0 : decide (3 < (l0_0.length : Int)) = true := decide_eq_true c4
      have c4b1 : decide (3 < l0_0.length) = true := decide_eq_true (by omega)
      clear c4
      (first | rw [c4b0] | (simp only [zn, zo]; rw [c4b0]) | skip)
      have H' := za.mk H
      clear H
      have hcz5_0 : w3.cell? ⟨gb117, 0, none⟩ = some (.slice A0_0 l0_0.length c0_0) := (zf BK117.out 0).trans rfl
      have hcz5_1 : w3.cell? ⟨gb117, 1, none⟩ = some (.slice A0_1 l0_1.length c0_1) := (zf BK117.out 1).trans rfl
      have hfz5_0 := zg BK117.out 0
      have hfz5_1 := zg BK117.out 1
      go_wp2
      go_meet
      case rel => exact ⟨_, (true), (by first | rfl | (simp; done) | (simp [*]; done)), H', ⟨by first | omega | exact Nat.le_refl _⟩, ⟨by (with_reducible repeat (first | refine zl ?_ _ | refine zm ?_ | refine zj ?_ _)); exact BK117.out⟩, ⟨by repeat (with_reducible first | exact HB.out | apply zc | apply zb | apply zd | refine zh ?_ GE117.out)⟩⟩
    · rw [if_neg c4] at H
      have c4b0 : decide (3 < (l0_0.length : Int)) = false := decide_eq_false c4
      have c4b1 : decide (3 < l0_0.length) = false := decide_eq_false (by omega)
      clear c4
      (first | rw [c4b0] | (simp only [zn, zo]; rw [c4b0]) | skip)
      replace H := Option.bind_eq_some_iff.mp H
      obtain ⟨t118, A60, H⟩ := H
      replace H : (zB.j0 k (!t118) l0_0 l0_1) = some r := H
      have A6 := za.mk A60
      clear A60
      have H' := za.mk H
      clear H
      have hcz7_0 : w3.cell? ⟨gb117, 0, none⟩ = some (.slice A0_0 l0_0.length c0_0) := (zf BK117.out 0).trans rfl
      have hcz7_1 : w3.cell? ⟨gb117, 1, none⟩ = some (.slice A0_1 l0_1.length c0_1) := (zf BK117.out 1).trans rfl
      have hfz7_0 := zg BK117.out 0
      have hfz7_1 := zg BK117.out 1
      go_wp2_with (first | (go_at_call 63; (with_reducible refine (zK.calls (l0_1.length : Int) 1 4 t118 _ A6.out).mono ?_); rintro e w' ⟨rfl, ⟨nd, rfl⟩⟩))
      go_meet
      case rel => exact ⟨_, (!t118), (by first | rfl | (simp; done) | (simp [*]; done)), H', ⟨by first | omega | exact Nat.le_refl _⟩, ⟨by (with_reducible repeat (first | refine zl ?_ _ | refine zm ?_ | refine zj ?_ _)); exact BK117.out⟩, ⟨by repeat (with_reducible first | exact HB.out | apply zc | apply zb | apply zd | refine zh ?_ GE117.out)⟩⟩
  case rest =>
    clear HC2
    try clear p2
    try clear c4
    try clear c4b0
    try clear c4b1
    try clear hcz5_0
    try clear hcz5_1
    try clear hcz7_0
    try clear hcz7_1
    try clear hfz5_0
    try clear hfz5_1
    try clear hfz7_0
    try clear hfz7_1
    obtain ⟨kq, x16_1, rfl, HA, HJ1, BK117, HB⟩ := hcut
    cases kq with
    | zero => exact absurd HA.out (by simp [zB.j0])
    | succ kj1 =>
      have H := HA.out
      clear HA
      simp only [zB.j0] at H
      by_cases c8 : x16_1 = true
      · subst c8
        have H1 : (some false) = some r := by rw [if_pos rfl] at H; exact H
        clear H
        have H := H1
        clear H1
        obtain rfl := Option.some.inj H
        go_wp2
        go_ret
        exact ⟨by first | rfl | (simp [zr, zq] <;> rfl) | (simp [*, zr, zq] <;> rfl), by repeat (with_reducible first | exact HB.out | apply zc | apply zb | apply zd | refine zh ?_ GE117.out)⟩
      · replace c8 := Bool.eq_false_iff.mpr c8
        subst c8
        have H1 : (zB.l0 kj1 0 l0_0 l0_1) = some r := by rw [if_neg (show ¬ (false = true) by decide)] at H; exact H
        clear H
        have H := H1
        clear H1
        have H' := za.mk H
        clear H
        go_wp2
        go_loopg [3] kj1 (fun kq v3 w' => ∃ (x3_2 : Int), v3 = .int .i64 x3_2 ∧ za (zB.l0 kq x3_2 l0_0 l0_1 = some r) ∧ za (kq ≤ kj1) ∧ za (w'.heap[gb117]? = some (.cells #[(.slice A0_0 l0_0.length c0_0), (.slice A0_1 l0_1.length c0_1)] 30 (0, 0))) ∧ za (Below w.heap.size w w'))
        case atStart => exact ⟨(0), (by first | rfl | (simp; done) | (simp [*]; done)), H', ⟨Nat.le_refl _⟩, ⟨by (with_reducible repeat (first | refine zl ?_ _ | refine zm ?_ | refine zj ?_ _)); exact BK117.out⟩, ⟨by repeat (with_reducible first | exact HB.out | apply zc | apply zb | apply zd | refine zh ?_ GE117.out)⟩⟩
        case round =>
          clear H'
          try clear p2
          try clear c4
          try clear c4b0
          try clear c4b1
          try clear c8
          try clear hcz5_0
          try clear hcz5_1
          try clear hcz7_0
          try clear hcz7_1
          try clear hfz5_0
          try clear hfz5_1
          try clear hfz7_0
          try clear hfz7_1
          try clear p2
          obtain ⟨x3_2, rfl, HA, HK2, BK117, HB⟩ := hrel
          cases gk with
          | zero => exact absurd HA.out (by simp [zB.l0])
          | succ k2 =>
            have H := HA.out
            clear HA
            simp only [zB.l0] at H
            by_cases c9 : x3_2 < (l0_0.length : Int)
            · rw [if_pos c9] at H
              have c9b0 : decide (x3_2 < (l0_0.length : Int)) = true := decide_eq_true c9
              clear c9
              by_cases c10 : 0 ≤ x3_2
              · rw [if_pos c10] at H
                have c10b0 : decide (0 ≤ x3_2) = true := decide_eq_true c10
                clear c10
                replace H := Option.bind_eq_some_iff.mp H
                obtain ⟨t120, A110, H⟩ := H
                replace H : (if t120 = true then (zB.l0 k2 (wrap64 (x3_2 + 1)) l0_0 l0_1) else (some false)) = some r := H
                have A11 := za.mk A110
                clear A110
                by_cases c12 : t120 = true
                · subst c12
                  have H1 : (zB.l0 k2 (wrap64 (x3_2 + 1)) l0_0 l0_1) = some r := by rw [if_pos rfl] at H; exact H
                  clear H
                  have H := H1
                  clear H1
                  have H' := za.mk H
                  clear H
                  have hcz13_0 : wr.cell? ⟨gb117, 0, none⟩ = some (.slice A0_0 l0_0.length c0_0) := (zf BK117.out 0).trans rfl
                  have hcz13_1 : wr.cell? ⟨gb117, 1, none⟩ = some (.slice A0_1 l0_1.length c0_1) := (zf BK117.out 1).trans rfl
                  have hfz13_0 := zg BK117.out 0
                  have hfz13_1 := zg BK117.out 1
                  have p119 : 0 ≤ (x3_2 : Int) := of_decide_eq_true (by first | (with_reducible assumption) | assumption)
                  have q119 : x3_2 < (l0_0.length : Int) := of_decide_eq_true (by first | (with_reducible assumption) | assumption)
                  obtain ⟨ad119, e119, hx119_0⟩ := Kd.xu HR0_0.out x3_2 p119 q119
                  cases e119
                  replace hx119_0 := (HB.out.cell (World.block_lt_of_cell? w _ hx119_0)).trans hx119_0
                  replace p119 := eq_true p119
                  replace q119 := eq_true q119
                  go_wp2_with (first | ((with_reducible refine zx (f := 63) rfl ?_); refine z6 (some 29) rfl rfl Tryd.func63 (by kernel_rfl) rfl #[.int .i64 (rd l0_0 x3_2), .int .i64 0, .int .i64 99] rfl (by (try simp only [List.map_toArray, List.map_cons, List.map_nil]); first | done | rfl | (simp only [List.length_drop, List.length_take]; rfl)) ?_; (with_reducible refine (zK.calls (rd l0_0 x3_2) 0 99 true _ A11.out).mono ?_); rintro e w' ⟨rfl, ⟨nd, rfl⟩⟩; refine ⟨_, rfl, ?_⟩))
                  go_roundg k2
                  case measure => have := HJ1.out; have := HK2.out; omega
                  case rel => exact ⟨(wrap64 (x3_2 + 1)), (by first | rfl | (simp; done) | (simp [*]; done)), H', ⟨by have := HJ1.out; have := HK2.out; omega⟩, ⟨by (with_reducible repeat (first | refine zl ?_ _ | refine zm ?_ | refine zj ?_ _)); exact BK117.out⟩, ⟨by repeat (with_reducible first | exact HB.out | apply zc | apply zb | apply zd | refine zh ?_ GE117.out)⟩⟩
                · replace c12 := Bool.eq_false_iff.mpr c12
                  subst c12
                  have H1 : (some false) = some r := by rw [if_neg (show ¬ (false = true) by decide)] at H; exact H
                  clear H
                  have H := H1
                  clear H1
                  obtain rfl := Option.some.inj H
                  have hcz14_0 : wr.cell? ⟨gb117, 0, none⟩ = some (.slice A0_0 l0_0.length c0_0) := (zf BK117.out 0).trans rfl
                  have hcz14_1 : wr.cell? ⟨gb117, 1, none⟩ = some (.slice A0_1 l0_1.length c0_1) := (zf BK117.out 1).trans rfl
                  have hfz14_0 := zg BK117.out 0
                  have hfz14_1 := zg BK117.out 1
                  have p119 : 0 ≤ (x3_2 : Int) := of_decide_eq_true (by first | (with_reducible assumption) | assumption)
                  have q119 : x3_2 < (l0_0.length : Int) := of_decide_eq_true (by first | (with_reducible assumption) | assumption)
                  obtain ⟨ad119, e119, hx119_0⟩ := Kd.xu HR0_0.out x3_2 p119 q119
                  cases e119
                  replace hx119_0 := (HB.out.cell (World.block_lt_of_cell? w _ hx119_0)).trans hx119_0
                  replace p119 := eq_true p119
                  replace q119 := eq_true q119
                  go_wp2_with (first | ((with_reducible refine zx (f := 63) rfl ?_); refine z6 (some 29) rfl rfl Tryd.func63 (by kernel_rfl) rfl #[.int .i64 (rd l0_0 x3_2), .int .i64 0, .int .i64 99] rfl (by (try simp only [List.map_toArray, List.map_cons, List.map_nil]); first | done | rfl | (simp only [List.length_drop, List.length_take]; rfl)) ?_; (with_reducible refine (zK.calls (rd l0_0 x3_2) 0 99 false _ A11.out).mono ?_); rintro e w' ⟨rfl, ⟨nd, rfl⟩⟩; refine ⟨_, rfl, ?_⟩))
                  go_ret
                  exact ⟨by first | rfl | (simp [zr, zq] <;> rfl) | (simp [*, zr, zq] <;> rfl), by repeat (with_reducible first | exact HB.out | apply zc | apply zb | apply zd | refine zh ?_ GE117.out)⟩
              · rw [if_neg c10] at H
                exact absurd H (by simp)
            · rw [if_neg c9] at H
              have c9b0 : decide (x3_2 < (l0_0.length : Int)) = false := decide_eq_false c9
              clear c9
              have H' := za.mk H
              clear H
              have hcz15_0 : wr.cell? ⟨gb117, 0, none⟩ = some (.slice A0_0 l0_0.length c0_0) := (zf BK117.out 0).trans rfl
              have hcz15_1 : wr.cell? ⟨gb117, 1, none⟩ = some (.slice A0_1 l0_1.length c0_1) := (zf BK117.out 1).trans rfl
              have hfz15_0 := zg BK117.out 0
              have hfz15_1 := zg BK117.out 1
              go_wp2
              go_loopg [4] k2 (fun kq v4 w' => ∃ (x4_3 : Int), v4 = .int .i64 x4_3 ∧ za (zB.l1 kq x4_3 l0_0 l0_1 = some r) ∧ za (kq ≤ k2) ∧ za (w'.heap[gb117]? = some (.cells #[(.slice A0_0 l0_0.length c0_0), (.slice A0_1 l0_1.length c0_1)] 30 (0, 0))) ∧ za (Below w.heap.size w w'))
              case atStart => exact ⟨(0), (by first | rfl | (simp; done) | (simp [*]; done)), H', ⟨Nat.le_refl _⟩, ⟨by (with_reducible repeat (first | refine zl ?_ _ | refine zm ?_ | refine zj ?_ _)); exact BK117.out⟩, ⟨by repeat (with_reducible first | exact HB.out | apply zc | apply zb | apply zd | refine zh ?_ GE117.out)⟩⟩
              case round =>
                clear H'
                try clear c1
                try clear p1
                try clear q1
                try clear hx1
                try clear p2
                try clear c4
                try clear c4b0
                try clear c4b1
                try clear c6
                try clear p6
                try clear c8
                try clear c9
                try clear c9b0
                try clear c10
                try clear c10b0
                try clear p11
                try clear q11
                try clear hx11
                try clear c12
                try clear hcz13_0
                try clear hcz13_1
                try clear hcz14_0
                try clear hcz14_1
                try clear hcz15_0
                try clear hcz15_1
                try clear hcz5_0
                try clear hcz5_1
                try clear hcz7_0
                try clear hcz7_1
                try clear hfz13_0
                try clear hfz13_1
                try clear hfz14_0
                try clear hfz14_1
                try clear hfz15_0
                try clear hfz15_1
                try clear hfz5_0
                try clear hfz5_1
                try clear hfz7_0
                try clear hfz7_1
                try clear hx119_0
                try clear p119
                try clear p2
                try clear q119
                obtain ⟨x4_3, rfl, HA, HK3, BK117, HB⟩ := hrel
                cases gk with
                | zero => exact absurd HA.out (by simp [zB.l1])
                | succ k3 =>
                  have H := HA.out
                  clear HA
                  simp only [zB.l1] at H
                  by_cases c16 : x4_3 < (l0_1.length : Int)
                  · rw [if_pos c16] at H
                    have c16b0 : decide (x4_3 < (l0_1.length : Int)) = true := decide_eq_true c16
                    clear c16
                    by_cases c17 : 0 ≤ x4_3
                    · rw [if_pos c17] at H
                      have c17b0 : decide (0 ≤ x4_3) = true := decide_eq_true c17
                      clear c17
                      by_cases c18 : ((zR l0_1 x4_3).length : Int) > 4
                      · rw [if_pos c18] at H
                        have c18b0 : decide (4 < ((zR l0_1 x4_3).length : Int)) = true := decide_eq_true c18
                        have c18b1 : decide (4 < (zR l0_1 x4_3).length) = true := decide_eq_true (by omega)
                        clear c18
                        obtain rfl := Option.some.inj H
                        have hcz19_0 : wr.cell? ⟨gb117, 0, none⟩ = some (.slice A0_0 l0_0.length c0_0) := (zf BK117.out 0).trans rfl
                        have hcz19_1 : wr.cell? ⟨gb117, 1, none⟩ = some (.slice A0_1 l0_1.length c0_1) := (zf BK117.out 1).trans rfl
                        have hfz19_0 := zg BK117.out 0
                        have hfz19_1 := zg BK117.out 1
                        have p121 : 0 ≤ (x4_3 : Int) := of_decide_eq_true (by first | (with_reducible assumption) | assumption)
                        have q121 : x4_3 < (l0_1.length : Int) := of_decide_eq_true (by first | (with_reducible assumption) | assumption)
                        obtain ⟨ad121, A121_0, c121_0, e121, hx121_0, hl121_0, hi121_0⟩ := at_L5 HR0_1.out x4_3 p121 q121
                        cases e121
                        replace hx121_0 := (HB.out.cell (World.block_lt_of_cell? w _ hx121_0)).trans hx121_0
                        have HR121_0 := za.mk hi121_0
                        have HC121_0 := za.mk hl121_0
                        clear hi121_0 hl121_0
                        replace p121 := eq_true p121
                        replace q121 := eq_true q121
                        go_wp2
                        go_ret
                        exact ⟨by first | rfl | (simp [zr, zq] <;> rfl) | (simp [*, zr, zq] <;> rfl), by repeat (with_reducible first | exact HB.out | apply zc | apply zb | apply zd | refine zh ?_ GE117.out)⟩
                      · rw [if_neg c18] at H
                        have c18b0 : decide (4 < ((zR l0_1 x4_3).length : Int)) = false := decide_eq_false c18
                        have c18b1 : decide (4 < (zR l0_1 x4_3).length) = false := decide_eq_false (by omega)
                        clear c18
                        have H' := za.mk H
                        clear H
                        have hcz20_0 : wr.cell? ⟨gb117, 0, none⟩ = some (.slice A0_0 l0_0.length c0_0) := (zf BK117.out 0).trans rfl
                        have hcz20_1 : wr.cell? ⟨gb117, 1, none⟩ = some (.slice A0_1 l0_1.length c0_1) := (zf BK117.out 1).trans rfl
                        have hfz20_0 := zg BK117.out 0
                        have hfz20_1 := zg BK117.out 1
                        have p121 : 0 ≤ (x4_3 : Int) := of_decide_eq_true (by first | (with_reducible assumption) | assumption)
                        have q121 : x4_3 < (l0_1.length : Int) := of_decide_eq_true (by first | (with_reducible assumption) | assumption)
                        obtain ⟨ad121, A121_0, c121_0, e121, hx121_0, hl121_0, hi121_0⟩ := at_L5 HR0_1.out x4_3 p121 q121
                        cases e121
                        replace hx121_0 := (HB.out.cell (World.block_lt_of_cell? w _ hx121_0)).trans hx121_0
                        have HR121_0 := za.mk hi121_0
                        have HC121_0 := za.mk hl121_0
                        clear hi121_0 hl121_0
                        replace p121 := eq_true p121
                        replace q121 := eq_true q121
                        go_wp2
                        go_loopg [5] k3 (fun kq v5 w' => ∃ (x5_4 : Int), v5 = .int .i64 x5_4 ∧ za (zB.l2 kq x4_3 x5_4 l0_0 l0_1 = some r) ∧ za (kq ≤ k3) ∧ za (w'.heap[gb117]? = some (.cells #[(.slice A0_0 l0_0.length c0_0), (.slice (some ad121) l0_1.length c0_1)] 30 (0, 0))) ∧ za (Below w.heap.size w w'))
                        case atStart => exact ⟨(0), (by first | rfl | (simp; done) | (simp [*]; done)), H', ⟨Nat.le_refl _⟩, ⟨by (with_reducible repeat (first | refine zl ?_ _ | refine zm ?_ | refine zj ?_ _)); exact BK117.out⟩, ⟨by repeat (with_reducible first | exact HB.out | apply zc | apply zb | apply zd | refine zh ?_ GE117.out)⟩⟩
                        case round =>
                          clear H'
                          try clear c1
                          try clear p1
                          try clear q1
                          try clear hx1
                          try clear p2
                          try clear c4
                          try clear c4b0
                          try clear c4b1
                          try clear c6
                          try clear p6
                          try clear c8
                          try clear c9
                          try clear c9b0
                          try clear c10
                          try clear c10b0
                          try clear p11
                          try clear q11
                          try clear hx11
                          try clear c12
                          try clear p12
                          try clear q12
                          try clear hx12
                          try clear c16
                          try clear c16b0
                          try clear c17
                          try clear c17b0
                          try clear c18
                          try clear c18b0
                          try clear c18b1
                          try clear hcz13_0
                          try clear hcz13_1
                          try clear hcz14_0
                          try clear hcz14_1
                          try clear hcz15_0
                          try clear hcz15_1
                          try clear hcz19_0
                          try clear hcz19_1
                          try clear hcz20_0
                          try clear hcz20_1
                          try clear hcz5_0
                          try clear hcz5_1
                          try clear hcz7_0
                          try clear hcz7_1
                          try clear hfz13_0
                          try clear hfz13_1
                          try clear hfz14_0
                          try clear hfz14_1
                          try clear hfz15_0
                          try clear hfz15_1
                          try clear hfz19_0
                          try clear hfz19_1
                          try clear hfz20_0
                          try clear hfz20_1
                          try clear hfz5_0
                          try clear hfz5_1
                          try clear hfz7_0
                          try clear hfz7_1
                          try clear hx119_0
                          try clear hx121_0
                          try clear p1
                          try clear p11
                          try clear p119
                          try clear p121
                          try clear p2
                          try clear p6
                          try clear q1
                          try clear q11
                          try clear q119
                          try clear q121
                          obtain ⟨x5_4, rfl, HA, HK4, BK117, HB⟩ := hrel
                          cases gk with
                          | zero => exact absurd HA.out (by simp [zB.l2])
                          | succ k4 =>
                            have H := HA.out
                            clear HA
                            simp only [zB.l2] at H
                            by_cases c21 : 0 ≤ x4_3
                            · rw [if_pos c21] at H
                              have c21b0 : decide (0 ≤ x4_3) = true := decide_eq_true c21
                              clear c21
                              by_cases c22 : x4_3 < (l0_1.length : Int)
                              · rw [if_pos c22] at H
                                have c22b0 : decide (x4_3 < (l0_1.length : Int)) = true := decide_eq_true c22
                                clear c22
                                by_cases c23 : x5_4 < ((zR l0_1 x4_3).length : Int)
                                · rw [if_pos c23] at H
                                  have c23b0 : decide (x5_4 < ((zR l0_1 x4_3).length : Int)) = true := decide_eq_true c23
                                  clear c23
                                  by_cases c24 : 0 ≤ x5_4
                                  · rw [if_pos c24] at H
                                    have c24b0 : decide (0 ≤ x5_4) = true := decide_eq_true c24
                                    clear c24
                                    replace H := Option.bind_eq_some_iff.mp H
                                    obtain ⟨t125, A250, H⟩ := H
                                    replace H : (if t125 = true then (zB.l2 k4 x4_3 (wrap64 (x5_4 + 1)) l0_0 l0_1) else (some false)) = some r := H
                                    have A25 := za.mk A250
                                    clear A250
                                    by_cases c26 : t125 = true
                                    · subst c26
                                      have H1 : (zB.l2 k4 x4_3 (wrap64 (x5_4 + 1)) l0_0 l0_1) = some r := by rw [if_pos rfl] at H; exact H
                                      clear H
                                      have H := H1
                                      clear H1
                                      have H' := za.mk H
                                      clear H
                                      have hcz27_0 : wr.cell? ⟨gb117, 0, none⟩ = some (.slice A0_0 l0_0.length c0_0) := (zf BK117.out 0).trans rfl
                                      have hcz27_1 : wr.cell? ⟨gb117, 1, none⟩ = some (.slice (some ad121) l0_1.length c0_1) := (zf BK117.out 1).trans rfl
                                      have hfz27_0 := zg BK117.out 0
                                      have hfz27_1 := zg BK117.out 1
                                      have p122 : 0 ≤ (x4_3 : Int) := of_decide_eq_true (by first | (with_reducible assumption) | assumption)
                                      have q122 : x4_3 < (l0_1.length : Int) := of_decide_eq_true (by first | (with_reducible assumption) | assumption)
                                      obtain ⟨ad122, A122_0, c122_0, e122, hx122_0, hl122_0, hi122_0⟩ := at_L5 HR0_1.out x4_3 p122 q122
                                      obtain rfl : ad121 = ad122 := (by injection e122)
                                      replace hx122_0 := (HB.out.cell (World.block_lt_of_cell? w _ hx122_0)).trans hx122_0
                                      have HR122_0 := za.mk hi122_0
                                      have HC122_0 := za.mk hl122_0
                                      clear hi122_0 hl122_0
                                      replace p122 := eq_true p122
                                      replace q122 := eq_true q122
                                      try go_wp2
                                      have n0_ := za.mk (zm BK117.out)
                                      have n1_ := za.mk (zd HB.out)
                                      clear BK117
                                      clear HB
                                      have BK117 := n0_
                                      have HB := n1_
                                      clear n0_ n1_
                                      have p123 : 0 ≤ (x4_3 : Int) := of_decide_eq_true (by first | (with_reducible assumption) | assumption)
                                      have q123 : x4_3 < (l0_1.length : Int) := of_decide_eq_true (by first | (with_reducible assumption) | assumption)
                                      obtain ⟨ad123, A123_0, c123_0, e123, hx123_0, hl123_0, hi123_0⟩ := at_L5 HR0_1.out x4_3 p123 q123
                                      have hw123_0 := hx123_0
                                      obtain rfl : ad121 = ad123 := (by injection e123)
                                      replace hx123_0 := (HB.out.cell (World.block_lt_of_cell? w _ hx123_0)).trans hx123_0
                                      have HR123_0 := za.mk hi123_0
                                      have HC123_0 := za.mk hl123_0
                                      clear hi123_0 hl123_0
                                      replace p123 := eq_true p123
                                      replace q123 := eq_true q123
                                      have p124 : 0 ≤ (x5_4 : Int) := of_decide_eq_true (by first | (with_reducible assumption) | assumption)
                                      have q124 : x5_4 < ((zR l0_1 x4_3).length : Int) := of_decide_eq_true (by first | (with_reducible assumption) | assumption)
                                      obtain ⟨ad124, A124_1, c124_1, A124_2, c124_2, e124, hx124_0, hx124_1, hx124_2, hx124_3, hl124_1, hi124_1, hl124_2, hi124_2⟩ := at_T52 HR123_0.out x5_4 p124 q124
                                      have hw124_3 := hx124_3
                                      have hw124_2 := hx124_2
                                      have hw124_1 := hx124_1
                                      have hw124_0 := hx124_0
                                      cases e124
                                      replace hx124_0 := (HB.out.cell (World.block_lt_of_cell? w _ hx124_0)).trans hx124_0
                                      replace hx124_1 := (HB.out.cell (World.block_lt_of_cell? w _ hx124_1)).trans hx124_1
                                      replace hx124_2 := (HB.out.cell (World.block_lt_of_cell? w _ hx124_2)).trans hx124_2
                                      replace hx124_3 := (HB.out.cell (World.block_lt_of_cell? w _ hx124_3)).trans hx124_3
                                      have HR124_1 := za.mk hi124_1
                                      have HC124_1 := za.mk hl124_1
                                      clear hi124_1 hl124_1
                                      have HR124_2 := za.mk hi124_2
                                      have HC124_2 := za.mk hl124_2
                                      clear hi124_2 hl124_2
                                      replace p124 := eq_true p124
                                      replace q124 := eq_true q124
                                      refine xi (n := 12) (S := fun w' => w'.cell? ⟨gb117, 0, none⟩ = some (.slice A0_0 l0_0.length c0_0) ∧ w'.cell? ⟨gb117, 1, none⟩ = some (.slice (some ad121) l0_1.length c0_1) ∧ w'.cell? (ad121.add (x4_3).toNat) = some (.slice (some ad124) (zR l0_1 x4_3).length c123_0) ∧ w'.cell? (ad124.add ((x5_4).toNat * 4)) = some (.int .i64 ((zM (zR l0_1 x4_3) x5_4).f0)) ∧ w'.cell? ⟨(ad124.add ((x5_4).toNat * 4)).block, (ad124.add ((x5_4).toNat * 4)).off + 1, none⟩ = some (.slice A124_1 ((zM (zR l0_1 x4_3) x5_4).f1).length c124_1) ∧ w'.cell? ⟨(ad124.add ((x5_4).toNat * 4)).block, (ad124.add ((x5_4).toNat * 4)).off + 2, none⟩ = some (.slice A124_2 ((zM (zR l0_1 x4_3) x5_4).f2).length c124_2) ∧ w'.cell? ⟨(ad124.add ((x5_4).toNat * 4)).block, (ad124.add ((x5_4).toNat * 4)).off + 3, none⟩ = some (.int .i64 ((zM (zR l0_1 x4_3) x5_4).f3))) (ds := []) #[false, false, false, false, false, false, false, false, false, false, false, false] (by kernel_rfl) rfl rfl ⟨(zf BK117.out 0).trans rfl, (zf BK117.out 1).trans rfl, ((HB.out.cell (World.block_lt_of_cell? w _ hw123_0)).trans hw123_0), ((HB.out.cell (World.block_lt_of_cell? w _ hw124_0)).trans hw124_0), ((HB.out.cell (World.block_lt_of_cell? w _ hw124_1)).trans hw124_1), ((HB.out.cell (World.block_lt_of_cell? w _ hw124_2)).trans hw124_2), ((HB.out.cell (World.block_lt_of_cell? w _ hw124_3)).trans hw124_3)⟩ (fun hHeld => ?_); refine with_tabW zB.tab16 zB.bits16 (fun HT_ HW_ => ?_)
                                      generalize wr.drew = w28 at BK117 HB HR123_0 HR124_1 HR124_2 hx123_0 hx124_0 hx124_1 hx124_2 hx124_3 hHeld ⊢
                                      refine zF (i := 1) (N := some 56) (v := ?_) (a' := ?_) #[false, true, false, false, false, false, false, false, false, false, false, false] rfl rfl (yL HT_.out (by kernel_rfl)) (fun _ _ _ h => h) (Or.inl ⟨by rfl, ?_⟩) ?_ ?_
                                      rotate_left
                                      · intro w'
                                        go_simp
                                        with_reducible rfl
                                      rotate_left
                                      · simp only [Act.put, List.setIfInBounds_toArray, List.set_cons_zero, List.set_cons_succ, zn, zo]
                                        rfl
                                      refine zF (i := 2) (N := some 57) (v := ?_) (a' := ?_) #[false, true, true, false, false, false, false, false, false, false, false, false] rfl rfl (yL HT_.out (by kernel_rfl)) (fun _ _ _ h => h) (Or.inl ⟨by rfl, ?_⟩) ?_ ?_
                                      rotate_left
                                      · intro w'
                                        go_simp
                                        with_reducible rfl
                                      rotate_left
                                      · simp only [Act.put, List.setIfInBounds_toArray, List.set_cons_zero, List.set_cons_succ, zn, zo]
                                        rfl
                                      refine zF (i := 4) (N := some 59) (v := ?_) (a' := ?_) #[false, true, true, false, true, false, false, false, false, false, false, false] rfl rfl (yL HT_.out (by kernel_rfl)) (fun _ _ _ h => h) (Or.inl ⟨by rfl, ?_⟩) ?_ ?_
                                      rotate_left
                                      · intro w'
                                        go_simp
                                        with_reducible rfl
                                      rotate_left
                                      · simp only [Act.put, List.setIfInBounds_toArray, List.set_cons_zero, List.set_cons_succ, zn, zo]
                                        rfl
                                      refine zF (i := 7) (N := some 62) (v := ?_) (a' := ?_) #[false, true, true, false, true, false, false, true, false, false, false, false] rfl rfl (yL HT_.out (by kernel_rfl)) (fun _ _ _ h => h) (Or.inl ⟨by rfl, ?_⟩) ?_ ?_
                                      rotate_left
                                      · intro w'
                                        go_simp
                                        with_reducible rfl
                                      rotate_left
                                      · simp only [Act.put, List.setIfInBounds_toArray, List.set_cons_zero, List.set_cons_succ, zn, zo]
                                        rfl
                                      refine yK (i := 0) (N := some 55) (v := ?_) (a' := ?_) #[true, true, true, false, true, false, false, true, false, false, false, false] rfl rfl (xj HT_.out HW_.out (by kernel_rfl)) (fun _ _ _ h => h) (Or.inl ⟨by rfl, ?_⟩) hHeld ?_ ?_
                                      rotate_left
                                      · rintro w' ⟨s0, s1, s2, s3, s4, s5, s6⟩
                                        go_simp
                                        with_reducible rfl
                                      rotate_left
                                      · simp only [Act.put, List.setIfInBounds_toArray, List.set_cons_zero, List.set_cons_succ, zn, zo]
                                        rfl
                                      refine yK (i := 3) (N := some 58) (v := ?_) (a' := ?_) #[true, true, true, true, true, false, false, true, false, false, false, false] rfl rfl (xj HT_.out HW_.out (by kernel_rfl)) (fun _ _ _ h => h) (Or.inl ⟨by rfl, ?_⟩) hHeld ?_ ?_
                                      rotate_left
                                      · rintro w' ⟨s0, s1, s2, s3, s4, s5, s6⟩
                                        go_simp
                                        with_reducible rfl
                                      rotate_left
                                      · simp only [Act.put, List.setIfInBounds_toArray, List.set_cons_zero, List.set_cons_succ, zn, zo]
                                        rfl
                                      refine zF (i := 5) (N := some 60) (v := ?_) (a' := ?_) #[true, true, true, true, true, true, false, true, false, false, false, false] rfl rfl (yL HT_.out (by kernel_rfl)) (fun _ _ _ h => h) (Or.inl ⟨by rfl, ?_⟩) ?_ ?_
                                      rotate_left
                                      · intro w'
                                        go_simp
                                        with_reducible rfl
                                      rotate_left
                                      · simp only [Act.put, List.setIfInBounds_toArray, List.set_cons_zero, List.set_cons_succ, zn, zo]
                                        rfl
                                      refine yK (i := 6) (N := some 61) (v := ?_) (a' := ?_) #[true, true, true, true, true, true, true, true, false, false, false, false] rfl rfl (xj HT_.out HW_.out (by kernel_rfl)) (fun _ _ _ h => h) (Or.inl ⟨by rfl, ?_⟩) hHeld ?_ ?_
                                      rotate_left
                                      · rintro w' ⟨s0, s1, s2, s3, s4, s5, s6⟩
                                        go_simp
                                        with_reducible rfl
                                      rotate_left
                                      · simp only [Act.put, List.setIfInBounds_toArray, List.set_cons_zero, List.set_cons_succ, zn, zo]
                                        rfl
                                      refine zF (i := 8) (N := some 63) (v := ?_) (a' := ?_) #[true, true, true, true, true, true, true, true, true, false, false, false] rfl rfl (yL HT_.out (by kernel_rfl)) (fun _ _ _ h => h) (Or.inl ⟨by rfl, ?_⟩) ?_ ?_
                                      rotate_left
                                      · intro w'
                                        go_simp
                                        with_reducible rfl
                                      rotate_left
                                      · simp only [Act.put, List.setIfInBounds_toArray, List.set_cons_zero, List.set_cons_succ, zn, zo]
                                        rfl
                                      refine yK (i := 9) (N := some 64) (v := ?_) (a' := ?_) #[true, true, true, true, true, true, true, true, true, true, false, false] rfl rfl (xj HT_.out HW_.out (by kernel_rfl)) (fun _ _ _ h => h) (Or.inl ⟨by rfl, ?_⟩) hHeld ?_ ?_
                                      rotate_left
                                      · rintro w' ⟨s0, s1, s2, s3, s4, s5, s6⟩
                                        go_simp
                                        with_reducible rfl
                                      rotate_left
                                      · simp only [Act.put, List.setIfInBounds_toArray, List.set_cons_zero, List.set_cons_succ, zn, zo]
                                        rfl
                                      refine yM (i := 10) (N := some 65) #[true, true, true, true, true, true, true, true, true, true, true, false] rfl rfl (one_of HT_.out (by kernel_rfl)) (by decide) (fun K hK => ?_)
                                      refine y7 Tryd.func64 (by kernel_rfl) rfl #[.agg #[.slice A0_0 l0_0.length c0_0, .slice (some ad121) l0_1.length c0_1], .int .i64 x4_3, .agg #[.int .i64 ((zM (zR l0_1 x4_3) x5_4).f0), .slice A124_1 ((zM (zR l0_1 x4_3) x5_4).f1).length c124_1, .slice A124_2 ((zM (zR l0_1 x4_3) x5_4).f2).length c124_2, .int .i64 ((zM (zR l0_1 x4_3) x5_4).f3)]] (by rfl) rfl rfl (by (try simp only [List.map_toArray, List.map_cons, List.map_nil]); first | done | rfl | (simp only [List.length_drop, List.length_take]; rfl)) ?_
                                      with_reducible refine (zC.calls k4 _ _ l0_0 _ _ l0_1 x4_3 ((zM (zR l0_1 x4_3) x5_4).f0) _ _ ((zM (zR l0_1 x4_3) x5_4).f1) _ _ ((zM (zR l0_1 x4_3) x5_4).f2) ((zM (zR l0_1 x4_3) x5_4).f3) true _ ?side1 ?side2 ?side3 ?side4 ?side5 ?side6 ?side7 ?side8 A25.out).mono ?_
                                      (case side1 => repeat (first | exact (Kd.zX HR0_0.out HB.out) | (with_reducible refine Kd.yg ?_ _) | (with_reducible refine Kd.yi ?_ _) | (with_reducible refine Kd.yG ?_)))
                                      (case side2 => exact HC0_0.out)
                                      (case side3 => repeat (first | exact (Kd.zX HR0_1.out HB.out) | (with_reducible refine Kd.yg ?_ _) | (with_reducible refine Kd.yi ?_ _) | (with_reducible refine Kd.yG ?_)))
                                      (case side4 => exact HC0_1.out)
                                      (case side5 => repeat (first | exact (Kd.zX HR124_1.out HB.out) | (with_reducible refine Kd.yg ?_ _) | (with_reducible refine Kd.yi ?_ _) | (with_reducible refine Kd.yG ?_)))
                                      (case side6 => exact HC124_1.out)
                                      (case side7 => repeat (first | exact (Kd.zX HR124_2.out HB.out) | (with_reducible refine Kd.yg ?_ _) | (with_reducible refine Kd.yi ?_ _) | (with_reducible refine Kd.yG ?_)))
                                      (case side8 => exact HC124_2.out)
                                      rintro e w29 ⟨rfl, hb⟩
                                      refine ⟨_, rfl, ?_⟩
                                      have n0_ := za.mk (zI (g := gb117) (o := .cells #[.slice A0_0 l0_0.length c0_0, .slice (some ad121) l0_1.length c0_1] 30 (0, 0)) (by (with_reducible repeat (first | refine zl ?_ _ | refine zm ?_ | refine zj ?_ _)); exact BK117.out) hb)
                                      have n1_ := za.mk (zp (by repeat (with_reducible first | exact HB.out | apply zc | apply zb | apply zd | refine zh ?_ GE117.out)) hb)
                                      clear BK117
                                      clear HB
                                      have BK117 := n0_
                                      have HB := n1_
                                      clear n0_ n1_
                                      (try clear hb)
                                      (try clear hb2)
                                      (try clear hk)
                                      (try clear hi)
                                      refine hK.out _ _ ⟨(zf BK117.out 0).trans rfl, (zf BK117.out 1).trans rfl, ((HB.out.cell (World.block_lt_of_cell? w _ hw123_0)).trans hw123_0), ((HB.out.cell (World.block_lt_of_cell? w _ hw124_0)).trans hw124_0), ((HB.out.cell (World.block_lt_of_cell? w _ hw124_1)).trans hw124_1), ((HB.out.cell (World.block_lt_of_cell? w _ hw124_2)).trans hw124_2), ((HB.out.cell (World.block_lt_of_cell? w _ hw124_3)).trans hw124_3)⟩ (fun hHeld => ?_)
                                      clear hK K
                                      refine zQ (a' := ?_) ?_ ?_
                                      rotate_left
                                      · show Act.put _ (some 65) _ = _
                                        simp only [Act.put, List.setIfInBounds_toArray, List.set_cons_zero, List.set_cons_succ, zn, zo]
                                        rfl
                                      refine zF (i := 11) (N := some 66) (v := ?_) (a' := ?_) #[true, true, true, true, true, true, true, true, true, true, true, true] rfl rfl (yL HT_.out (by kernel_rfl)) (fun _ _ _ h => h) (Or.inl ⟨by rfl, ?_⟩) ?_ ?_
                                      rotate_left
                                      · intro w'
                                        go_simp
                                        with_reducible rfl
                                      rotate_left
                                      · simp only [Act.put, List.setIfInBounds_toArray, List.set_cons_zero, List.set_cons_succ, zn, zo]
                                        rfl
                                      refine xA (done_of HT_.out (by kernel_rfl)) ?_
                                      try go_wp2
                                      go_roundg k4
                                      case measure => have := HJ1.out; have := HK2.out; have := HK3.out; have := HK4.out; omega
                                      case rel => exact ⟨(wrap64 (x5_4 + 1)), (by first | rfl | (simp; done) | (simp [*]; done)), H', ⟨by have := HJ1.out; have := HK2.out; have := HK3.out; have := HK4.out; omega⟩, ⟨by (with_reducible repeat (first | refine zl ?_ _ | refine zm ?_ | refine zj ?_ _)); exact BK117.out⟩, ⟨by repeat (with_reducible first | exact HB.out | apply zc | apply zb | apply zd | refine zh ?_ GE117.out)⟩⟩
                                    · replace c26 := Bool.eq_false_iff.mpr c26
                                      subst c26
                                      have H1 : (some false) = some r := by rw [if_neg (show ¬ (false = true) by decide)] at H; exact H
                                      clear H
                                      have H := H1
                                      clear H1
                                      obtain rfl := Option.some.inj H
                                      have hcz30_0 : wr.cell? ⟨gb117, 0, none⟩ = some (.slice A0_0 l0_0.length c0_0) := (zf BK117.out 0).trans rfl
                                      have hcz30_1 : wr.cell? ⟨gb117, 1, none⟩ = some (.slice (some ad121) l0_1.length c0_1) := (zf BK117.out 1).trans rfl
                                      have hfz30_0 := zg BK117.out 0
                                      have hfz30_1 := zg BK117.out 1
                                      have p122 : 0 ≤ (x4_3 : Int) := of_decide_eq_true (by first | (with_reducible assumption) | assumption)
                                      have q122 : x4_3 < (l0_1.length : Int) := of_decide_eq_true (by first | (with_reducible assumption) | assumption)
                                      obtain ⟨ad122, A122_0, c122_0, e122, hx122_0, hl122_0, hi122_0⟩ := at_L5 HR0_1.out x4_3 p122 q122
                                      obtain rfl : ad121 = ad122 := (by injection e122)
                                      replace hx122_0 := (HB.out.cell (World.block_lt_of_cell? w _ hx122_0)).trans hx122_0
                                      have HR122_0 := za.mk hi122_0
                                      have HC122_0 := za.mk hl122_0
                                      clear hi122_0 hl122_0
                                      replace p122 := eq_true p122
                                      replace q122 := eq_true q122
                                      try go_wp2
                                      have n0_ := za.mk (zm BK117.out)
                                      have n1_ := za.mk (zd HB.out)
                                      clear BK117
                                      clear HB
                                      have BK117 := n0_
                                      have HB := n1_
                                      clear n0_ n1_
                                      have p123 : 0 ≤ (x4_3 : Int) := of_decide_eq_true (by first | (with_reducible assumption) | assumption)
                                      have q123 : x4_3 < (l0_1.length : Int) := of_decide_eq_true (by first | (with_reducible assumption) | assumption)
                                      obtain ⟨ad123, A123_0, c123_0, e123, hx123_0, hl123_0, hi123_0⟩ := at_L5 HR0_1.out x4_3 p123 q123
                                      have hw123_0 := hx123_0
                                      obtain rfl : ad121 = ad123 := (by injection e123)
                                      replace hx123_0 := (HB.out.cell (World.block_lt_of_cell? w _ hx123_0)).trans hx123_0
                                      have HR123_0 := za.mk hi123_0
                                      have HC123_0 := za.mk hl123_0
                                      clear hi123_0 hl123_0
                                      replace p123 := eq_true p123
                                      replace q123 := eq_true q123
                                      have p124 : 0 ≤ (x5_4 : Int) := of_decide_eq_true (by first | (with_reducible assumption) | assumption)
                                      have q124 : x5_4 < ((zR l0_1 x4_3).length : Int) := of_decide_eq_true (by first | (with_reducible assumption) | assumption)
                                      obtain ⟨ad124, A124_1, c124_1, A124_2, c124_2, e124, hx124_0, hx124_1, hx124_2, hx124_3, hl124_1, hi124_1, hl124_2, hi124_2⟩ := at_T52 HR123_0.out x5_4 p124 q124
                                      have hw124_3 := hx124_3
                                      have hw124_2 := hx124_2
                                      have hw124_1 := hx124_1
                                      have hw124_0 := hx124_0
                                      cases e124
                                      replace hx124_0 := (HB.out.cell (World.block_lt_of_cell? w _ hx124_0)).trans hx124_0
                                      replace hx124_1 := (HB.out.cell (World.block_lt_of_cell? w _ hx124_1)).trans hx124_1
                                      replace hx124_2 := (HB.out.cell (World.block_lt_of_cell? w _ hx124_2)).trans hx124_2
                                      replace hx124_3 := (HB.out.cell (World.block_lt_of_cell? w _ hx124_3)).trans hx124_3
                                      have HR124_1 := za.mk hi124_1
                                      have HC124_1 := za.mk hl124_1
                                      clear hi124_1 hl124_1
                                      have HR124_2 := za.mk hi124_2
                                      have HC124_2 := za.mk hl124_2
                                      clear hi124_2 hl124_2
                                      replace p124 := eq_true p124
                                      replace q124 := eq_true q124
                                      refine xi (n := 12) (S := fun w' => w'.cell? ⟨gb117, 0, none⟩ = some (.slice A0_0 l0_0.length c0_0) ∧ w'.cell? ⟨gb117, 1, none⟩ = some (.slice (some ad121) l0_1.length c0_1) ∧ w'.cell? (ad121.add (x4_3).toNat) = some (.slice (some ad124) (zR l0_1 x4_3).length c123_0) ∧ w'.cell? (ad124.add ((x5_4).toNat * 4)) = some (.int .i64 ((zM (zR l0_1 x4_3) x5_4).f0)) ∧ w'.cell? ⟨(ad124.add ((x5_4).toNat * 4)).block, (ad124.add ((x5_4).toNat * 4)).off + 1, none⟩ = some (.slice A124_1 ((zM (zR l0_1 x4_3) x5_4).f1).length c124_1) ∧ w'.cell? ⟨(ad124.add ((x5_4).toNat * 4)).block, (ad124.add ((x5_4).toNat * 4)).off + 2, none⟩ = some (.slice A124_2 ((zM (zR l0_1 x4_3) x5_4).f2).length c124_2) ∧ w'.cell? ⟨(ad124.add ((x5_4).toNat * 4)).block, (ad124.add ((x5_4).toNat * 4)).off + 3, none⟩ = some (.int .i64 ((zM (zR l0_1 x4_3) x5_4).f3))) (ds := []) #[false, false, false, false, false, false, false, false, false, false, false, false] (by kernel_rfl) rfl rfl ⟨(zf BK117.out 0).trans rfl, (zf BK117.out 1).trans rfl, ((HB.out.cell (World.block_lt_of_cell? w _ hw123_0)).trans hw123_0), ((HB.out.cell (World.block_lt_of_cell? w _ hw124_0)).trans hw124_0), ((HB.out.cell (World.block_lt_of_cell? w _ hw124_1)).trans hw124_1), ((HB.out.cell (World.block_lt_of_cell? w _ hw124_2)).trans hw124_2), ((HB.out.cell (World.block_lt_of_cell? w _ hw124_3)).trans hw124_3)⟩ (fun hHeld => ?_); refine with_tabW zB.tab16 zB.bits16 (fun HT_ HW_ => ?_)
                                      generalize wr.drew = w31 at BK117 HB HR123_0 HR124_1 HR124_2 hx123_0 hx124_0 hx124_1 hx124_2 hx124_3 hHeld ⊢
                                      refine zF (i := 1) (N := some 56) (v := ?_) (a' := ?_) #[false, true, false, false, false, false, false, false, false, false, false, false] rfl rfl (yL HT_.out (by kernel_rfl)) (fun _ _ _ h => h) (Or.inl ⟨by rfl, ?_⟩) ?_ ?_
                                      rotate_left
                                      · intro w'
                                        go_simp
                                        with_reducible rfl
                                      rotate_left
                                      · simp only [Act.put, List.setIfInBounds_toArray, List.set_cons_zero, List.set_cons_succ, zn, zo]
                                        rfl
                                      refine zF (i := 2) (N := some 57) (v := ?_) (a' := ?_) #[false, true, true, false, false, false, false, false, false, false, false, false] rfl rfl (yL HT_.out (by kernel_rfl)) (fun _ _ _ h => h) (Or.inl ⟨by rfl, ?_⟩) ?_ ?_
                                      rotate_left
                                      · intro w'
                                        go_simp
                                        with_reducible rfl
                                      rotate_left
                                      · simp only [Act.put, List.setIfInBounds_toArray, List.set_cons_zero, List.set_cons_succ, zn, zo]
                                        rfl
                                      refine zF (i := 4) (N := some 59) (v := ?_) (a' := ?_) #[false, true, true, false, true, false, false, false, false, false, false, false] rfl rfl (yL HT_.out (by kernel_rfl)) (fun _ _ _ h => h) (Or.inl ⟨by rfl, ?_⟩) ?_ ?_
                                      rotate_left
                                      · intro w'
                                        go_simp
                                        with_reducible rfl
                                      rotate_left
                                      · simp only [Act.put, List.setIfInBounds_toArray, List.set_cons_zero, List.set_cons_succ, zn, zo]
                                        rfl
                                      refine zF (i := 7) (N := some 62) (v := ?_) (a' := ?_) #[false, true, true, false, true, false, false, true, false, false, false, false] rfl rfl (yL HT_.out (by kernel_rfl)) (fun _ _ _ h => h) (Or.inl ⟨by rfl, ?_⟩) ?_ ?_
                                      rotate_left
                                      · intro w'
                                        go_simp
                                        with_reducible rfl
                                      rotate_left
                                      · simp only [Act.put, List.setIfInBounds_toArray, List.set_cons_zero, List.set_cons_succ, zn, zo]
                                        rfl
                                      refine yK (i := 0) (N := some 55) (v := ?_) (a' := ?_) #[true, true, true, false, true, false, false, true, false, false, false, false] rfl rfl (xj HT_.out HW_.out (by kernel_rfl)) (fun _ _ _ h => h) (Or.inl ⟨by rfl, ?_⟩) hHeld ?_ ?_
                                      rotate_left
                                      · rintro w' ⟨s0, s1, s2, s3, s4, s5, s6⟩
                                        go_simp
                                        with_reducible rfl
                                      rotate_left
                                      · simp only [Act.put, List.setIfInBounds_toArray, List.set_cons_zero, List.set_cons_succ, zn, zo]
                                        rfl
                                      refine yK (i := 3) (N := some 58) (v := ?_) (a' := ?_) #[true, true, true, true, true, false, false, true, false, false, false, false] rfl rfl (xj HT_.out HW_.out (by kernel_rfl)) (fun _ _ _ h => h) (Or.inl ⟨by rfl, ?_⟩) hHeld ?_ ?_
                                      rotate_left
                                      · rintro w' ⟨s0, s1, s2, s3, s4, s5, s6⟩
                                        go_simp
                                        with_reducible rfl
                                      rotate_left
                                      · simp only [Act.put, List.setIfInBounds_toArray, List.set_cons_zero, List.set_cons_succ, zn, zo]
                                        rfl
                                      refine zF (i := 5) (N := some 60) (v := ?_) (a' := ?_) #[true, true, true, true, true, true, false, true, false, false, false, false] rfl rfl (yL HT_.out (by kernel_rfl)) (fun _ _ _ h => h) (Or.inl ⟨by rfl, ?_⟩) ?_ ?_
                                      rotate_left
                                      · intro w'
                                        go_simp
                                        with_reducible rfl
                                      rotate_left
                                      · simp only [Act.put, List.setIfInBounds_toArray, List.set_cons_zero, List.set_cons_succ, zn, zo]
                                        rfl
                                      refine yK (i := 6) (N := some 61) (v := ?_) (a' := ?_) #[true, true, true, true, true, true, true, true, false, false, false, false] rfl rfl (xj HT_.out HW_.out (by kernel_rfl)) (fun _ _ _ h => h) (Or.inl ⟨by rfl, ?_⟩) hHeld ?_ ?_
                                      rotate_left
                                      · rintro w' ⟨s0, s1, s2, s3, s4, s5, s6⟩
                                        go_simp
                                        with_reducible rfl
                                      rotate_left
                                      · simp only [Act.put, List.setIfInBounds_toArray, List.set_cons_zero, List.set_cons_succ, zn, zo]
                                        rfl
                                      refine zF (i := 8) (N := some 63) (v := ?_) (a' := ?_) #[true, true, true, true, true, true, true, true, true, false, false, false] rfl rfl (yL HT_.out (by kernel_rfl)) (fun _ _ _ h => h) (Or.inl ⟨by rfl, ?_⟩) ?_ ?_
                                      rotate_left
                                      · intro w'
                                        go_simp
                                        with_reducible rfl
                                      rotate_left
                                      · simp only [Act.put, List.setIfInBounds_toArray, List.set_cons_zero, List.set_cons_succ, zn, zo]
                                        rfl
                                      refine yK (i := 9) (N := some 64) (v := ?_) (a' := ?_) #[true, true, true, true, true, true, true, true, true, true, false, false] rfl rfl (xj HT_.out HW_.out (by kernel_rfl)) (fun _ _ _ h => h) (Or.inl ⟨by rfl, ?_⟩) hHeld ?_ ?_
                                      rotate_left
                                      · rintro w' ⟨s0, s1, s2, s3, s4, s5, s6⟩
                                        go_simp
                                        with_reducible rfl
                                      rotate_left
                                      · simp only [Act.put, List.setIfInBounds_toArray, List.set_cons_zero, List.set_cons_succ, zn, zo]
                                        rfl
                                      refine yM (i := 10) (N := some 65) #[true, true, true, true, true, true, true, true, true, true, true, false] rfl rfl (one_of HT_.out (by kernel_rfl)) (by decide) (fun K hK => ?_)
                                      refine y7 Tryd.func64 (by kernel_rfl) rfl #[.agg #[.slice A0_0 l0_0.length c0_0, .slice (some ad121) l0_1.length c0_1], .int .i64 x4_3, .agg #[.int .i64 ((zM (zR l0_1 x4_3) x5_4).f0), .slice A124_1 ((zM (zR l0_1 x4_3) x5_4).f1).length c124_1, .slice A124_2 ((zM (zR l0_1 x4_3) x5_4).f2).length c124_2, .int .i64 ((zM (zR l0_1 x4_3) x5_4).f3)]] (by rfl) rfl rfl (by (try simp only [List.map_toArray, List.map_cons, List.map_nil]); first | done | rfl | (simp only [List.length_drop, List.length_take]; rfl)) ?_
                                      with_reducible refine (zC.calls k4 _ _ l0_0 _ _ l0_1 x4_3 ((zM (zR l0_1 x4_3) x5_4).f0) _ _ ((zM (zR l0_1 x4_3) x5_4).f1) _ _ ((zM (zR l0_1 x4_3) x5_4).f2) ((zM (zR l0_1 x4_3) x5_4).f3) false _ ?side1 ?side2 ?side3 ?side4 ?side5 ?side6 ?side7 ?side8 A25.out).mono ?_
                                      (case side1 => repeat (first | exact (Kd.zX HR0_0.out HB.out) | (with_reducible refine Kd.yg ?_ _) | (with_reducible refine Kd.yi ?_ _) | (with_reducible refine Kd.yG ?_)))
                                      (case side2 => exact HC0_0.out)
                                      (case side3 => repeat (first | exact (Kd.zX HR0_1.out HB.out) | (with_reducible refine Kd.yg ?_ _) | (with_reducible refine Kd.yi ?_ _) | (with_reducible refine Kd.yG ?_)))
                                      (case side4 => exact HC0_1.out)
                                      (case side5 => repeat (first | exact (Kd.zX HR124_1.out HB.out) | (with_reducible refine Kd.yg ?_ _) | (with_reducible refine Kd.yi ?_ _) | (with_reducible refine Kd.yG ?_)))
                                      (case side6 => exact HC124_1.out)
                                      (case side7 => repeat (first | exact (Kd.zX HR124_2.out HB.out) | (with_reducible refine Kd.yg ?_ _) | (with_reducible refine Kd.yi ?_ _) | (with_reducible refine Kd.yG ?_)))
                                      (case side8 => exact HC124_2.out)
                                      rintro e w32 ⟨rfl, hb⟩
                                      refine ⟨_, rfl, ?_⟩
                                      have n0_ := za.mk (zI (g := gb117) (o := .cells #[.slice A0_0 l0_0.length c0_0, .slice (some ad121) l0_1.length c0_1] 30 (0, 0)) (by (with_reducible repeat (first | refine zl ?_ _ | refine zm ?_ | refine zj ?_ _)); exact BK117.out) hb)
                                      have n1_ := za.mk (zp (by repeat (with_reducible first | exact HB.out | apply zc | apply zb | apply zd | refine zh ?_ GE117.out)) hb)
                                      clear BK117
                                      clear HB
                                      have BK117 := n0_
                                      have HB := n1_
                                      clear n0_ n1_
                                      (try clear hb)
                                      (try clear hb2)
                                      (try clear hk)
                                      (try clear hi)
                                      refine hK.out _ _ ⟨(zf BK117.out 0).trans rfl, (zf BK117.out 1).trans rfl, ((HB.out.cell (World.block_lt_of_cell? w _ hw123_0)).trans hw123_0), ((HB.out.cell (World.block_lt_of_cell? w _ hw124_0)).trans hw124_0), ((HB.out.cell (World.block_lt_of_cell? w _ hw124_1)).trans hw124_1), ((HB.out.cell (World.block_lt_of_cell? w _ hw124_2)).trans hw124_2), ((HB.out.cell (World.block_lt_of_cell? w _ hw124_3)).trans hw124_3)⟩ (fun hHeld => ?_)
                                      clear hK K
                                      refine zQ (a' := ?_) ?_ ?_
                                      rotate_left
                                      · show Act.put _ (some 65) _ = _
                                        simp only [Act.put, List.setIfInBounds_toArray, List.set_cons_zero, List.set_cons_succ, zn, zo]
                                        rfl
                                      refine zF (i := 11) (N := some 66) (v := ?_) (a' := ?_) #[true, true, true, true, true, true, true, true, true, true, true, true] rfl rfl (yL HT_.out (by kernel_rfl)) (fun _ _ _ h => h) (Or.inl ⟨by rfl, ?_⟩) ?_ ?_
                                      rotate_left
                                      · intro w'
                                        go_simp
                                        with_reducible rfl
                                      rotate_left
                                      · simp only [Act.put, List.setIfInBounds_toArray, List.set_cons_zero, List.set_cons_succ, zn, zo]
                                        rfl
                                      refine xA (done_of HT_.out (by kernel_rfl)) ?_
                                      try go_wp2
                                      go_ret
                                      exact ⟨by first | rfl | (simp [zr, zq] <;> rfl) | (simp [*, zr, zq] <;> rfl), by repeat (with_reducible first | exact HB.out | apply zc | apply zb | apply zd | refine zh ?_ GE117.out)⟩
                                  · rw [if_neg c24] at H
                                    exact absurd H (by simp)
                                · rw [if_neg c23] at H
                                  have c23b0 : decide (x5_4 < ((zR l0_1 x4_3).length : Int)) = false := decide_eq_false c23
                                  clear c23
                                  have H' := za.mk H
                                  clear H
                                  have hcz33_0 : wr.cell? ⟨gb117, 0, none⟩ = some (.slice A0_0 l0_0.length c0_0) := (zf BK117.out 0).trans rfl
                                  have hcz33_1 : wr.cell? ⟨gb117, 1, none⟩ = some (.slice (some ad121) l0_1.length c0_1) := (zf BK117.out 1).trans rfl
                                  have hfz33_0 := zg BK117.out 0
                                  have hfz33_1 := zg BK117.out 1
                                  have p122 : 0 ≤ (x4_3 : Int) := of_decide_eq_true (by first | (with_reducible assumption) | assumption)
                                  have q122 : x4_3 < (l0_1.length : Int) := of_decide_eq_true (by first | (with_reducible assumption) | assumption)
                                  obtain ⟨ad122, A122_0, c122_0, e122, hx122_0, hl122_0, hi122_0⟩ := at_L5 HR0_1.out x4_3 p122 q122
                                  obtain rfl : ad121 = ad122 := (by injection e122)
                                  replace hx122_0 := (HB.out.cell (World.block_lt_of_cell? w _ hx122_0)).trans hx122_0
                                  have HR122_0 := za.mk hi122_0
                                  have HC122_0 := za.mk hl122_0
                                  clear hi122_0 hl122_0
                                  replace p122 := eq_true p122
                                  replace q122 := eq_true q122
                                  go_wp2
                                  go_roundg k4
                                  case measure => have := HJ1.out; have := HK2.out; have := HK3.out; have := HK4.out; omega
                                  case rel => exact ⟨(wrap64 (x4_3 + 1)), (by first | rfl | (simp; done) | (simp [*]; done)), H', ⟨by have := HJ1.out; have := HK2.out; have := HK3.out; have := HK4.out; omega⟩, ⟨by (with_reducible repeat (first | refine zl ?_ _ | refine zm ?_ | refine zj ?_ _)); exact BK117.out⟩, ⟨by repeat (with_reducible first | exact HB.out | apply zc | apply zb | apply zd | refine zh ?_ GE117.out)⟩⟩
                              · rw [if_neg c22] at H
                                exact absurd H (by simp)
                            · rw [if_neg c21] at H
                              exact absurd H (by simp)
                    · rw [if_neg c17] at H
                      exact absurd H (by simp)
                  · rw [if_neg c16] at H
                    have c16b0 : decide (x4_3 < (l0_1.length : Int)) = false := decide_eq_false c16
                    clear c16
                    obtain rfl := Option.some.inj H
                    have hcz34_0 : wr.cell? ⟨gb117, 0, none⟩ = some (.slice A0_0 l0_0.length c0_0) := (zf BK117.out 0).trans rfl
                    have hcz34_1 : wr.cell? ⟨gb117, 1, none⟩ = some (.slice A0_1 l0_1.length c0_1) := (zf BK117.out 1).trans rfl
                    have hfz34_0 := zg BK117.out 0
                    have hfz34_1 := zg BK117.out 1
                    go_wp2
                    go_ret
                    exact ⟨by first | rfl | (simp [zr, zq] <;> rfl) | (simp [*, zr, zq] <;> rfl), by repeat (with_reducible first | exact HB.out | apply zc | apply zb | apply zd | refine zh ?_ GE117.out)⟩
end Go.Proofs.YtoeepmcaabmjkaaDoor.QPO
namespace Go.Proofs.YtoeepmcaabmjkaaDoor.QPO
open Go.RowKit Go.Proofs.YtoeepmcaabmjkaaDoorW.PrintWords Go.Proofs.YtoeepmcaabmjkaaDoorW.PrintLast Go.Proofs.YtoeepmcaabmjkaaDoorW.PrintMore
attribute [local go_sem] yz yx yQ yP yl yk yy yw   -- for this text's walks alone
set_option linter.unusedVariables false
set_option linter.unusedSimpArgs false
mutual
def zN.l0 : Nat → Int → Int → Int → List Int → List (List (S52)) → Option (Int)
  | 0, _, _, _, _, _ => none
  | k + 1, x1, x5, x6, x127000, x127001 => if 0 ≤ x1 then (if x1 < (x127001.length : Int) then (if x6 < ((zR x127001 x1).length : Int) then (if 0 ≤ x6 then (zN.l1 k x1 x5 x6 ((zM (zR x127001 x1) x6).f2) 0 x127000 x127001) else (none)) else (some x5)) else (none)) else (none)
def zN.l1 : Nat → Int → Int → Int → List Int → Int → List Int → List (List (S52)) → Option (Int)
  | 0, _, _, _, _, _, _, _ => none
  | k + 1, x1, x5, x6, x7, x8, x127000, x127001 => if x8 < (x7.length : Int) then (if 0 ≤ x8 then ((zN.f k x127000 x127001 (rd x7 x8)).bind fun t131 => (zN.l1 k x1 (wrap64 (x5 + t131)) x6 x7 (wrap64 (x8 + 1)) x127000 x127001)) else (none)) else (zN.l0 k x1 x5 (wrap64 (x6 + 1)) x127000 x127001)
def zN.f : Nat → List Int → List (List (S52)) → Int → Option (Int)
  | 0, _, _, _ => none
  | k + 1, l0_0, l0_1, a1 => zN.l0 k a1 1 0 l0_0 l0_1
end
def zN.T9 : Bool × List (List Nat × List Nat) := (true, [([], []), ([], []), ([], []), ([], []), ([2, 3], [2, 3]), ([4], [4]), ([1, 5], [1, 5]), ([0, 6], [0, 6]), ([7, 6, 0, 1, 2, 3, 4, 5, 6, 7], [0, 7])])
def zN.B9 : List Nat := [0, 0, 0, 0, 12, 28, 62, 127, 255]
theorem zN.tab9 : rtab .any (opsOf Tryd.f43 9) = zN.T9 := by kernel_rfl
theorem zN.bits9 : waitsOk zN.T9.2 zN.B9 = true := by kernel_rfl
set_option maxHeartbeats 8000000 in
set_option maxRecDepth 100000 in
theorem zN.calls (k : Nat) : ∀ (A0_0 : Option Addr) (c0_0 : Nat) (l0_0 : List Int) (A0_1 : Option Addr) (c0_1 : Nat) (l0_1 : List (List (S52))) (a1 : Int) (r : Int) (w : World) (hr0_0 : Kd.C (Kd.int .i64) w A0_0 l0_0.length l0_0) (hc0_0 : l0_0.length ≤ c0_0) (hr0_1 : Kd.C (Kd.slice 52 k52) w A0_1 l0_1.length l0_1) (hc0_1 : l0_1.length ≤ c0_1) (h : zN.f k l0_0 l0_1 a1 = some r),
    Calls Tryd.prog 43 #[.agg #[.slice A0_0 l0_0.length c0_0, .slice A0_1 l0_1.length c0_1], .int .i64 a1] w fun e w' => e = .returned (.int .i64 r) ∧ Below w.heap.size w w' := by
  induction k using Nat.strongRecOn with
  | _ k ih =>
  intro A0_0 c0_0 l0_0 A0_1 c0_1 l0_1 a1 r w hr0_0 hc0_0 hr0_1 hc0_1 h
  cases k with
  | zero => exact absurd h (by simp [zN.f])
  | succ k =>
  simp only [zN.f] at h
  have hu30 := Tryd.underlying30
  have HR0_0 := za.mk hr0_0
  have HC0_0 := za.mk hc0_0
  clear hr0_0 hc0_0
  have HR0_1 := za.mk hr0_1
  have HC0_1 := za.mk hc0_1
  clear hr0_1 hc0_1
  have HB := za.mk (Below.refl w.heap.size w)
  have H : (zN.l0 k a1 1 0 l0_0 l0_1) = some r := h
  clear h
  have H' := za.mk H
  clear H
  go_enter Tryd.func43, Tryd.ntmps43
  go_wp2_with (first | ((with_reducible refine zY (N := 2) rfl ?_); refine ye ?hg (N := 2) ?hd (cs := #[.slice A0_0 l0_0.length c0_0, .slice A0_1 l0_1.length c0_1]) (t := 30) ?hr ?_; (case hd => rfl); (case hg => rfl); (case hr => first | (go_simp; done) | (go_simp; rfl)); intro gb126 hg w3 hbox hb; have n0_ := za.mk (zp (by repeat (with_reducible first | exact HB.out | apply zc | apply zb | apply zd)) hb); have n1_ := za.mk (hbox); have n2_ := za.mk ((by rw [hg]; exact (zy (by repeat (with_reducible first | exact HB.out | apply zc | apply zb | apply zd))) : w.heap.size ≤ gb126)); have n3_ := za.mk ((by rw [hg]; exact (zy (by repeat (with_reducible first | exact HB.out | apply zc | apply zb | apply zd))) : w.heap.size ≤ gb126)); clear HB; have HB := n0_; have BK126 := n1_; have GW126 := n2_; have GE126 := n3_; clear n0_ n1_ n2_ n3_; clear hb hbox hg))
  go_loopg [5, 6] k (fun kq v5 v6 w' => ∃ (x5_1 : Int) (x6_1 : Int), v5 = .int .i64 x5_1 ∧ v6 = .int .i64 x6_1 ∧ za (zN.l0 kq a1 x5_1 x6_1 l0_0 l0_1 = some r) ∧ za (kq ≤ k) ∧ za (w'.heap[gb126]? = some (.cells #[(.slice A0_0 l0_0.length c0_0), (.slice A0_1 l0_1.length c0_1)] 30 (0, 0))) ∧ za (Below w.heap.size w w'))
  case atStart => exact ⟨(1), (0), (by first | rfl | (simp; done) | (simp [*]; done)), (by first | rfl | (simp; done) | (simp [*]; done)), H', ⟨Nat.le_refl _⟩, ⟨by (with_reducible repeat (first | refine zl ?_ _ | refine zm ?_ | refine zj ?_ _)); exact BK126.out⟩, ⟨by repeat (with_reducible first | exact HB.out | apply zc | apply zb | apply zd | refine zh ?_ GE126.out)⟩⟩
  case round =>
    clear H'
    try clear p2
    obtain ⟨x5_1, x6_1, rfl, rfl, HA, HK1, BK126, HB⟩ := hrel
    cases gk with
    | zero => exact absurd HA.out (by simp [zN.l0])
    | succ k1 =>
      have H := HA.out
      clear HA
      simp only [zN.l0] at H
      by_cases c4 : 0 ≤ a1
      · rw [if_pos c4] at H
        have c4b0 : decide (0 ≤ a1) = true := decide_eq_true c4
        clear c4
        by_cases c5 : a1 < (l0_1.length : Int)
        · rw [if_pos c5] at H
          have c5b0 : decide (a1 < (l0_1.length : Int)) = true := decide_eq_true c5
          clear c5
          by_cases c6 : x6_1 < ((zR l0_1 a1).length : Int)
          · rw [if_pos c6] at H
            have c6b0 : decide (x6_1 < ((zR l0_1 a1).length : Int)) = true := decide_eq_true c6
            clear c6
            by_cases c7 : 0 ≤ x6_1
            · rw [if_pos c7] at H
              have c7b0 : decide (0 ≤ x6_1) = true := decide_eq_true c7
              clear c7
              have H' := za.mk H
              clear H
              have hcz8_0 : wr.cell? ⟨gb126, 0, none⟩ = some (.slice A0_0 l0_0.length c0_0) := (zf BK126.out 0).trans rfl
              have hcz8_1 : wr.cell? ⟨gb126, 1, none⟩ = some (.slice A0_1 l0_1.length c0_1) := (zf BK126.out 1).trans rfl
              have hfz8_0 := zg BK126.out 0
              have hfz8_1 := zg BK126.out 1
              have p127 : 0 ≤ (a1 : Int) := of_decide_eq_true (by first | (with_reducible assumption) | assumption)
              have q127 : a1 < (l0_1.length : Int) := of_decide_eq_true (by first | (with_reducible assumption) | assumption)
              obtain ⟨ad127, A127_0, c127_0, e127, hx127_0, hl127_0, hi127_0⟩ := at_L5 HR0_1.out a1 p127 q127
              cases e127
              replace hx127_0 := (HB.out.cell (World.block_lt_of_cell? w _ hx127_0)).trans hx127_0
              have HR127_0 := za.mk hi127_0
              have HC127_0 := za.mk hl127_0
              clear hi127_0 hl127_0
              replace p127 := eq_true p127
              replace q127 := eq_true q127
              have p128 : 0 ≤ (a1 : Int) := of_decide_eq_true (by first | (with_reducible assumption) | assumption)
              have q128 : a1 < (l0_1.length : Int) := of_decide_eq_true (by first | (with_reducible assumption) | assumption)
              obtain ⟨ad128, A128_0, c128_0, e128, hx128_0, hl128_0, hi128_0⟩ := at_L5 HR0_1.out a1 p128 q128
              obtain rfl : ad127 = ad128 := (by injection e128)
              replace hx128_0 := (HB.out.cell (World.block_lt_of_cell? w _ hx128_0)).trans hx128_0
              have HR128_0 := za.mk hi128_0
              have HC128_0 := za.mk hl128_0
              clear hi128_0 hl128_0
              replace p128 := eq_true p128
              replace q128 := eq_true q128
              have ea_ := Option.some.inj (hx127_0.symm.trans hx128_0)
              injection ea_ with ea_ en_ ec_
              subst ea_
              subst ec_
              clear en_
              have p129 : 0 ≤ (x6_1 : Int) := of_decide_eq_true (by first | (with_reducible assumption) | assumption)
              have q129 : x6_1 < ((zR l0_1 a1).length : Int) := of_decide_eq_true (by first | (with_reducible assumption) | assumption)
              obtain ⟨ad129, A129_1, c129_1, A129_2, c129_2, e129, hx129_0, hx129_1, hx129_2, hx129_3, hl129_1, hi129_1, hl129_2, hi129_2⟩ := at_T52 HR128_0.out x6_1 p129 q129
              cases e129
              replace hx129_0 := (HB.out.cell (World.block_lt_of_cell? w _ hx129_0)).trans hx129_0
              replace hx129_1 := (HB.out.cell (World.block_lt_of_cell? w _ hx129_1)).trans hx129_1
              replace hx129_2 := (HB.out.cell (World.block_lt_of_cell? w _ hx129_2)).trans hx129_2
              replace hx129_3 := (HB.out.cell (World.block_lt_of_cell? w _ hx129_3)).trans hx129_3
              have HR129_1 := za.mk hi129_1
              have HC129_1 := za.mk hl129_1
              clear hi129_1 hl129_1
              have HR129_2 := za.mk hi129_2
              have HC129_2 := za.mk hl129_2
              clear hi129_2 hl129_2
              replace p129 := eq_true p129
              replace q129 := eq_true q129
              go_wp2
              go_loopg [5, 8] k1 (fun kq v5 v8 w' => ∃ (x5_2 : Int) (x8_2 : Int), v5 = .int .i64 x5_2 ∧ v8 = .int .i64 x8_2 ∧ za (zN.l1 kq a1 x5_2 x6_1 ((zM (zR l0_1 a1) x6_1).f2) x8_2 l0_0 l0_1 = some r) ∧ za (kq ≤ k1) ∧ za (w'.heap[gb126]? = some (.cells #[(.slice A0_0 l0_0.length c0_0), (.slice (some ad127) l0_1.length c0_1)] 30 (0, 0))) ∧ za (Below w.heap.size w w'))
              case atStart => exact ⟨(x5_1), (0), (by first | rfl | (simp; done) | (simp [*]; done)), (by first | rfl | (simp; done) | (simp [*]; done)), H', ⟨Nat.le_refl _⟩, ⟨by (with_reducible repeat (first | refine zl ?_ _ | refine zm ?_ | refine zj ?_ _)); exact BK126.out⟩, ⟨by repeat (with_reducible first | exact HB.out | apply zc | apply zb | apply zd | refine zh ?_ GE126.out)⟩⟩
              case round =>
                clear H'
                try clear c1
                try clear p1
                try clear q1
                try clear hx1
                try clear p2
                try clear c4
                try clear c4b0
                try clear c5
                try clear c5b0
                try clear c6
                try clear c6b0
                try clear c7
                try clear c7b0
                try clear hcz8_0
                try clear hcz8_1
                try clear hfz8_0
                try clear hfz8_1
                try clear hx127_0
                try clear hx128_0
                try clear hx129_0
                try clear hx129_1
                try clear hx129_2
                try clear hx129_3
                try clear p127
                try clear p128
                try clear p129
                try clear p2
                try clear q127
                try clear q128
                try clear q129
                obtain ⟨x5_2, x8_2, rfl, rfl, HA, HK2, BK126, HB⟩ := hrel
                cases gk with
                | zero => exact absurd HA.out (by simp [zN.l1])
                | succ k2 =>
                  have H := HA.out
                  clear HA
                  simp only [zN.l1] at H
                  by_cases c9 : x8_2 < (((zM (zR l0_1 a1) x6_1).f2).length : Int)
                  · rw [if_pos c9] at H
                    have c9b0 : decide (x8_2 < (((zM (zR l0_1 a1) x6_1).f2).length : Int)) = true := decide_eq_true c9
                    clear c9
                    by_cases c10 : 0 ≤ x8_2
                    · rw [if_pos c10] at H
                      have c10b0 : decide (0 ≤ x8_2) = true := decide_eq_true c10
                      clear c10
                      replace H := Option.bind_eq_some_iff.mp H
                      obtain ⟨t131, A110, H⟩ := H
                      replace H : (zN.l1 k2 a1 (wrap64 (x5_2 + t131)) x6_1 ((zM (zR l0_1 a1) x6_1).f2) (wrap64 (x8_2 + 1)) l0_0 l0_1) = some r := H
                      have A11 := za.mk A110
                      clear A110
                      have H' := za.mk H
                      clear H
                      try go_wp2
                      have n0_ := za.mk (zm BK126.out)
                      have n1_ := za.mk (zd HB.out)
                      clear BK126
                      clear HB
                      have BK126 := n0_
                      have HB := n1_
                      clear n0_ n1_
                      have p130 : 0 ≤ (x8_2 : Int) := of_decide_eq_true (by first | (with_reducible assumption) | assumption)
                      have q130 : x8_2 < (((zM (zR l0_1 a1) x6_1).f2).length : Int) := of_decide_eq_true (by first | (with_reducible assumption) | assumption)
                      obtain ⟨ad130, e130, hx130_0⟩ := Kd.xu HR129_2.out x8_2 p130 q130
                      have hw130_0 := hx130_0
                      cases e130
                      replace hx130_0 := (HB.out.cell (World.block_lt_of_cell? w _ hx130_0)).trans hx130_0
                      replace p130 := eq_true p130
                      replace q130 := eq_true q130
                      refine xi (n := 9) (S := fun w' => w'.cell? ⟨gb126, 0, none⟩ = some (.slice A0_0 l0_0.length c0_0) ∧ w'.cell? ⟨gb126, 1, none⟩ = some (.slice (some ad127) l0_1.length c0_1) ∧ w'.cell? (ad130.add (x8_2).toNat) = some (.int .i64 (rd ((zM (zR l0_1 a1) x6_1).f2) x8_2))) (ds := []) #[false, false, false, false, false, false, false, false, false] (by kernel_rfl) rfl rfl ⟨(zf BK126.out 0).trans rfl, (zf BK126.out 1).trans rfl, ((HB.out.cell (World.block_lt_of_cell? w _ hw130_0)).trans hw130_0)⟩ (fun hHeld => ?_); refine with_tabW zN.tab9 zN.bits9 (fun HT_ HW_ => ?_)
                      generalize wr.drew = w12 at BK126 HB hx130_0 hHeld ⊢
                      refine zF (i := 0) (N := some 34) (v := ?_) (a' := ?_) #[true, false, false, false, false, false, false, false, false] rfl rfl (yL HT_.out (by kernel_rfl)) (fun _ _ _ h => h) (Or.inl ⟨by rfl, ?_⟩) ?_ ?_
                      rotate_left
                      · intro w'
                        go_simp
                        with_reducible rfl
                      rotate_left
                      · simp only [Act.put, List.setIfInBounds_toArray, List.set_cons_zero, List.set_cons_succ, zn, zo]
                        rfl
                      refine zF (i := 2) (N := some 36) (v := ?_) (a' := ?_) #[true, false, true, false, false, false, false, false, false] rfl rfl (yL HT_.out (by kernel_rfl)) (fun _ _ _ h => h) (Or.inl ⟨by rfl, ?_⟩) ?_ ?_
                      rotate_left
                      · intro w'
                        go_simp
                        with_reducible rfl
                      rotate_left
                      · simp only [Act.put, List.setIfInBounds_toArray, List.set_cons_zero, List.set_cons_succ, zn, zo]
                        rfl
                      refine zF (i := 3) (N := some 37) (v := ?_) (a' := ?_) #[true, false, true, true, false, false, false, false, false] rfl rfl (yL HT_.out (by kernel_rfl)) (fun _ _ _ h => h) (Or.inl ⟨by rfl, ?_⟩) ?_ ?_
                      rotate_left
                      · intro w'
                        go_simp
                        with_reducible rfl
                      rotate_left
                      · simp only [Act.put, List.setIfInBounds_toArray, List.set_cons_zero, List.set_cons_succ, zn, zo]
                        rfl
                      refine zF (i := 4) (N := some 38) (v := ?_) (a' := ?_) #[true, false, true, true, true, false, false, false, false] rfl rfl (yL HT_.out (by kernel_rfl)) (fun _ _ _ h => h) (Or.inl ⟨by rfl, ?_⟩) ?_ ?_
                      rotate_left
                      · intro w'
                        go_simp
                        with_reducible rfl
                      rotate_left
                      · simp only [Act.put, List.setIfInBounds_toArray, List.set_cons_zero, List.set_cons_succ, zn, zo]
                        rfl
                      refine yK (i := 1) (N := some 35) (v := ?_) (a' := ?_) #[true, true, true, true, true, false, false, false, false] rfl rfl (xj HT_.out HW_.out (by kernel_rfl)) (fun _ _ _ h => h) (Or.inl ⟨by rfl, ?_⟩) hHeld ?_ ?_
                      rotate_left
                      · rintro w' ⟨s0, s1, s2⟩
                        go_simp
                        with_reducible rfl
                      rotate_left
                      · simp only [Act.put, List.setIfInBounds_toArray, List.set_cons_zero, List.set_cons_succ, zn, zo]
                        rfl
                      refine yK (i := 5) (N := some 39) (v := ?_) (a' := ?_) #[true, true, true, true, true, true, false, false, false] rfl rfl (xj HT_.out HW_.out (by kernel_rfl)) (fun _ _ _ h => h) (Or.inl ⟨by rfl, ?_⟩) hHeld ?_ ?_
                      rotate_left
                      · rintro w' ⟨s0, s1, s2⟩
                        go_simp
                        with_reducible rfl
                      rotate_left
                      · simp only [Act.put, List.setIfInBounds_toArray, List.set_cons_zero, List.set_cons_succ, zn, zo]
                        rfl
                      refine yM (i := 6) (N := some 40) #[true, true, true, true, true, true, true, false, false] rfl rfl (one_of HT_.out (by kernel_rfl)) (by decide) (fun K hK => ?_)
                      refine y7 Tryd.func43 (by kernel_rfl) rfl #[.agg #[.slice A0_0 l0_0.length c0_0, .slice (some ad127) l0_1.length c0_1], .int .i64 (rd ((zM (zR l0_1 a1) x6_1).f2) x8_2)] (by rfl) rfl rfl (by (try simp only [List.map_toArray, List.map_cons, List.map_nil]); first | done | rfl | (simp only [List.length_drop, List.length_take]; rfl)) ?_
                      with_reducible refine (ih k2 (by have := HK1.out; have := HK2.out; omega) _ _ l0_0 _ _ l0_1 (rd ((zM (zR l0_1 a1) x6_1).f2) x8_2) t131 _ ?side1 ?side2 ?side3 ?side4 A11.out).mono ?_
                      (case side1 => repeat (first | exact (Kd.zX HR0_0.out HB.out) | (with_reducible refine Kd.yg ?_ _) | (with_reducible refine Kd.yi ?_ _) | (with_reducible refine Kd.yG ?_)))
                      (case side2 => exact HC0_0.out)
                      (case side3 => repeat (first | exact (Kd.zX HR0_1.out HB.out) | (with_reducible refine Kd.yg ?_ _) | (with_reducible refine Kd.yi ?_ _) | (with_reducible refine Kd.yG ?_)))
                      (case side4 => exact HC0_1.out)
                      rintro e w13 ⟨rfl, hb⟩
                      refine ⟨_, rfl, ?_⟩
                      have n0_ := za.mk (zI (g := gb126) (o := .cells #[.slice A0_0 l0_0.length c0_0, .slice (some ad127) l0_1.length c0_1] 30 (0, 0)) (by (with_reducible repeat (first | refine zl ?_ _ | refine zm ?_ | refine zj ?_ _)); exact BK126.out) hb)
                      have n1_ := za.mk (zp (by repeat (with_reducible first | exact HB.out | apply zc | apply zb | apply zd | refine zh ?_ GE126.out)) hb)
                      clear BK126
                      clear HB
                      have BK126 := n0_
                      have HB := n1_
                      clear n0_ n1_
                      (try clear hb)
                      (try clear hb2)
                      (try clear hk)
                      (try clear hi)
                      refine hK.out _ _ ⟨(zf BK126.out 0).trans rfl, (zf BK126.out 1).trans rfl, ((HB.out.cell (World.block_lt_of_cell? w _ hw130_0)).trans hw130_0)⟩ (fun hHeld => ?_)
                      clear hK K
                      refine zQ (a' := ?_) ?_ ?_
                      rotate_left
                      · show Act.put _ (some 40) _ = _
                        simp only [Act.put, List.setIfInBounds_toArray, List.set_cons_zero, List.set_cons_succ, zn, zo]
                        rfl
                      refine zF (i := 7) (N := some 41) (v := ?_) (a' := ?_) #[true, true, true, true, true, true, true, true, false] rfl rfl (yL HT_.out (by kernel_rfl)) (fun _ _ _ h => h) (Or.inl ⟨by rfl, ?_⟩) ?_ ?_
                      rotate_left
                      · intro w'
                        go_simp
                        with_reducible rfl
                      rotate_left
                      · simp only [Act.put, List.setIfInBounds_toArray, List.set_cons_zero, List.set_cons_succ, zn, zo]
                        rfl
                      refine zF (i := 8) (N := some 5) (v := ?_) (a' := ?_) #[true, true, true, true, true, true, true, true, true] rfl rfl (yL HT_.out (by kernel_rfl)) (fun _ _ _ h => h) (Or.inl ⟨by rfl, ?_⟩) ?_ ?_
                      rotate_left
                      · intro w'
                        go_simp
                        with_reducible rfl
                      rotate_left
                      · simp only [Act.put, List.setIfInBounds_toArray, List.set_cons_zero, List.set_cons_succ, zn, zo]
                        rfl
                      refine xA (done_of HT_.out (by kernel_rfl)) ?_
                      try go_wp2
                      go_roundg k2
                      case measure => have := HK1.out; have := HK2.out; omega
                      case rel => exact ⟨(wrap64 (x5_2 + t131)), (wrap64 (x8_2 + 1)), (by first | rfl | (simp; done) | (simp [*]; done)), (by first | rfl | (simp; done) | (simp [*]; done)), H', ⟨by have := HK1.out; have := HK2.out; omega⟩, ⟨by (with_reducible repeat (first | refine zl ?_ _ | refine zm ?_ | refine zj ?_ _)); exact BK126.out⟩, ⟨by repeat (with_reducible first | exact HB.out | apply zc | apply zb | apply zd | refine zh ?_ GE126.out)⟩⟩
                    · rw [if_neg c10] at H
                      exact absurd H (by simp)
                  · rw [if_neg c9] at H
                    have c9b0 : decide (x8_2 < (((zM (zR l0_1 a1) x6_1).f2).length : Int)) = false := decide_eq_false c9
                    clear c9
                    have H' := za.mk H
                    clear H
                    go_wp2
                    go_roundg k2
                    case measure => have := HK1.out; have := HK2.out; omega
                    case rel => exact ⟨(x5_2), (wrap64 (x6_1 + 1)), (by first | rfl | (simp; done) | (simp [*]; done)), (by first | rfl | (simp; done) | (simp [*]; done)), H', ⟨by have := HK1.out; have := HK2.out; omega⟩, ⟨by (with_reducible repeat (first | refine zl ?_ _ | refine zm ?_ | refine zj ?_ _)); exact BK126.out⟩, ⟨by repeat (with_reducible first | exact HB.out | apply zc | apply zb | apply zd | refine zh ?_ GE126.out)⟩⟩
            · rw [if_neg c7] at H
              exact absurd H (by simp)
          · rw [if_neg c6] at H
            have c6b0 : decide (x6_1 < ((zR l0_1 a1).length : Int)) = false := decide_eq_false c6
            clear c6
            obtain rfl := Option.some.inj H
            have hcz14_0 : wr.cell? ⟨gb126, 0, none⟩ = some (.slice A0_0 l0_0.length c0_0) := (zf BK126.out 0).trans rfl
            have hcz14_1 : wr.cell? ⟨gb126, 1, none⟩ = some (.slice A0_1 l0_1.length c0_1) := (zf BK126.out 1).trans rfl
            have hfz14_0 := zg BK126.out 0
            have hfz14_1 := zg BK126.out 1
            have p127 : 0 ≤ (a1 : Int) := of_decide_eq_true (by first | (with_reducible assumption) | assumption)
            have q127 : a1 < (l0_1.length : Int) := of_decide_eq_true (by first | (with_reducible assumption) | assumption)
            obtain ⟨ad127, A127_0, c127_0, e127, hx127_0, hl127_0, hi127_0⟩ := at_L5 HR0_1.out a1 p127 q127
            cases e127
            replace hx127_0 := (HB.out.cell (World.block_lt_of_cell? w _ hx127_0)).trans hx127_0
            have HR127_0 := za.mk hi127_0
            have HC127_0 := za.mk hl127_0
            clear hi127_0 hl127_0
            replace p127 := eq_true p127
            replace q127 := eq_true q127
            go_wp2
            go_ret
            exact ⟨by first | rfl | (simp [zr, zq] <;> rfl) | (simp [*, zr, zq] <;> rfl), by repeat (with_reducible first | exact HB.out | apply zc | apply zb | apply zd | refine zh ?_ GE126.out)⟩
        · rw [if_neg c5] at H
          exact absurd H (by simp)
      · rw [if_neg c4] at H
        exact absurd H (by simp)
end Go.Proofs.YtoeepmcaabmjkaaDoor.QPO
namespace Go.Proofs.YtoeepmcaabmjkaaDoor.QPO
open Go.RowKit Go.Proofs.YtoeepmcaabmjkaaDoorW.PrintWords Go.Proofs.YtoeepmcaabmjkaaDoorW.PrintLast Go.Proofs.YtoeepmcaabmjkaaDoorW.PrintMore
attribute [local go_sem] yz yx yQ yP yl yk yy yw   -- for this text's walks alone
set_option linter.unusedVariables false
set_option linter.unusedSimpArgs false
def yY.f (k : Nat) (l0_0 : List Int) (l0_1 : List (List (S52))) : Option (Bool) := (zB.f k l0_0 l0_1).bind fun t133 => (if t133 = true then ((zN.f k l0_0 l0_1 0).bind fun t134 => (some (decide (t134 ≤ 7)))) else (some false))
set_option maxHeartbeats 8000000 in
set_option maxRecDepth 100000 in
theorem yY.calls (k : Nat) (A0_0 : Option Addr) (c0_0 : Nat) (l0_0 : List Int) (A0_1 : Option Addr) (c0_1 : Nat) (l0_1 : List (List (S52))) (r : Bool) (w : World) (hr0_0 : Kd.C (Kd.int .i64) w A0_0 l0_0.length l0_0) (hc0_0 : l0_0.length ≤ c0_0) (hr0_1 : Kd.C (Kd.slice 52 k52) w A0_1 l0_1.length l0_1) (hc0_1 : l0_1.length ≤ c0_1) (h : yY.f k l0_0 l0_1 = some r) :
    Calls Tryd.prog 20 #[.agg #[.slice A0_0 l0_0.length c0_0, .slice A0_1 l0_1.length c0_1]] w fun e w' => e = .returned (.bool r) ∧ Below w.heap.size w w' := by
  have hu30 := Tryd.underlying30
  have HR0_0 := za.mk hr0_0
  have HC0_0 := za.mk hc0_0
  clear hr0_0 hc0_0
  have HR0_1 := za.mk hr0_1
  have HC0_1 := za.mk hc0_1
  clear hr0_1 hc0_1
  have HB := za.mk (Below.refl w.heap.size w)
  have H : ((zB.f k l0_0 l0_1).bind fun t133 => (if t133 = true then ((zN.f k l0_0 l0_1 0).bind fun t134 => (some (decide (t134 ≤ 7)))) else (some false))) = some r := h
  clear h
  replace H := Option.bind_eq_some_iff.mp H
  obtain ⟨t133, A20, H⟩ := H
  replace H : (if t133 = true then ((zN.f k l0_0 l0_1 0).bind fun t134 => (some (decide (t134 ≤ 7)))) else (some false)) = some r := H
  have A2 := za.mk A20
  clear A20
  by_cases c3 : t133 = true
  · subst c3
    have H1 : ((zN.f k l0_0 l0_1 0).bind fun t134 => (some (decide (t134 ≤ 7)))) = some r := by rw [if_pos rfl] at H; exact H
    clear H
    have H := H1
    clear H1
    replace H := Option.bind_eq_some_iff.mp H
    obtain ⟨t134, A40, H⟩ := H
    replace H : (some (decide (t134 ≤ 7))) = some r := H
    have A4 := za.mk A40
    clear A40
    obtain rfl := Option.some.inj H
    go_enter Tryd.func20, Tryd.ntmps20
    go_wp2_with (first | ((with_reducible refine zY (N := 1) rfl ?_); refine ye ?hg (N := 1) ?hd (cs := #[.slice A0_0 l0_0.length c0_0, .slice A0_1 l0_1.length c0_1]) (t := 30) ?hr ?_; (case hd => rfl); (case hg => rfl); (case hr => first | (go_simp; done) | (go_simp; rfl)); intro gb132 hg w5 hbox hb; have n0_ := za.mk (zp (by repeat (with_reducible first | exact HB.out | apply zc | apply zb | apply zd)) hb); have n1_ := za.mk (hbox); have n2_ := za.mk ((by rw [hg]; exact (zy (by repeat (with_reducible first | exact HB.out | apply zc | apply zb | apply zd))) : w.heap.size ≤ gb132)); have n3_ := za.mk ((by rw [hg]; exact (zy (by repeat (with_reducible first | exact HB.out | apply zc | apply zb | apply zd))) : w.heap.size ≤ gb132)); clear HB; have HB := n0_; have BK132 := n1_; have GW132 := n2_; have GE132 := n3_; clear n0_ n1_ n2_ n3_; clear hb hbox hg; have hcz6_0 : w5.cell? ⟨gb132, 0, none⟩ = some (.slice A0_0 l0_0.length c0_0) := (zf BK132.out 0).trans rfl; have hcz6_1 : w5.cell? ⟨gb132, 1, none⟩ = some (.slice A0_1 l0_1.length c0_1) := (zf BK132.out 1).trans rfl; have hfz6_0 := zg BK132.out 0; have hfz6_1 := zg BK132.out 1) | ((with_reducible refine zx (f := 42) rfl ?_); refine z6 (some 4) rfl rfl Tryd.func42 (by kernel_rfl) rfl #[.agg #[.slice A0_0 l0_0.length c0_0, .slice A0_1 l0_1.length c0_1]] rfl (by (try simp only [List.map_toArray, List.map_cons, List.map_nil]); first | done | rfl | (simp only [List.length_drop, List.length_take]; rfl)) ?_; (with_reducible refine (zB.calls k _ _ l0_0 _ _ l0_1 true _ ?side1 ?side2 ?side3 ?side4 A2.out).mono ?_); (case side1 => repeat (first | exact (Kd.zX HR0_0.out HB.out) | (with_reducible refine Kd.yg ?_ _) | (with_reducible refine Kd.yi ?_ _) | (with_reducible refine Kd.yG ?_))); (case side2 => exact HC0_0.out); (case side3 => repeat (first | exact (Kd.zX HR0_1.out HB.out) | (with_reducible refine Kd.yg ?_ _) | (with_reducible refine Kd.yi ?_ _) | (with_reducible refine Kd.yG ?_))); (case side4 => exact HC0_1.out); rintro e w7 ⟨rfl, hb⟩; refine ⟨_, rfl, ?_⟩; have n0_ := za.mk (zI (g := gb132) (o := .cells #[.slice A0_0 l0_0.length c0_0, .slice A0_1 l0_1.length c0_1] 30 (0, 0)) (by (with_reducible repeat (first | refine zl ?_ _ | refine zm ?_ | refine zj ?_ _)); exact BK132.out) hb); have n1_ := za.mk (zp (by repeat (with_reducible first | exact HB.out | apply zc | apply zb | apply zd | refine zh ?_ GE132.out)) hb); clear BK132; clear HB; have BK132 := n0_; have HB := n1_; clear n0_ n1_; (try clear hb); (try clear hb2); (try clear hk); (try clear hi); have hcz8_0 : w7.cell? ⟨gb132, 0, none⟩ = some (.slice A0_0 l0_0.length c0_0) := (zf BK132.out 0).trans rfl; have hcz8_1 : w7.cell? ⟨gb132, 1, none⟩ = some (.slice A0_1 l0_1.length c0_1) := (zf BK132.out 1).trans rfl; have hfz8_0 := zg BK132.out 0; have hfz8_1 := zg BK132.out 1) | (go_at_call 43; (with_reducible refine (zN.calls k _ _ l0_0 _ _ l0_1 0 t134 _ ?side1 ?side2 ?side3 ?side4 A4.out).mono ?_); (case side1 => repeat (first | exact (Kd.zX HR0_0.out HB.out) | (with_reducible refine Kd.yg ?_ _) | (with_reducible refine Kd.yi ?_ _) | (with_reducible refine Kd.yG ?_))); (case side2 => exact HC0_0.out); (case side3 => repeat (first | exact (Kd.zX HR0_1.out HB.out) | (with_reducible refine Kd.yg ?_ _) | (with_reducible refine Kd.yi ?_ _) | (with_reducible refine Kd.yG ?_))); (case side4 => exact HC0_1.out); rintro e w9 ⟨rfl, hb⟩; have n0_ := za.mk (zI (g := gb132) (o := .cells #[.slice A0_0 l0_0.length c0_0, .slice A0_1 l0_1.length c0_1] 30 (0, 0)) (by (with_reducible repeat (first | refine zl ?_ _ | refine zm ?_ | refine zj ?_ _)); exact BK132.out) hb); have n1_ := za.mk (zp (by repeat (with_reducible first | exact HB.out | apply zc | apply zb | apply zd | refine zh ?_ GE132.out)) hb); clear BK132; clear HB; have BK132 := n0_; have HB := n1_; clear n0_ n1_; (try clear hb); (try clear hb2); (try clear hk); (try clear hi)))
    go_ret
    exact ⟨by first | rfl | (simp [zr, zq] <;> rfl) | (simp [*, zr, zq] <;> rfl), by repeat (with_reducible first | exact HB.out | apply zc | apply zb | apply zd | refine zh ?_ GE132.out)⟩
  · replace c3 := Bool.eq_false_iff.mpr c3
    subst c3
    have H1 : (some false) = some r := by rw [if_neg (show ¬ (false = true) by decide)] at H; exact H
    clear H
    have H := H1
    clear H1
    obtain rfl := Option.some.inj H
    go_enter Tryd.func20, Tryd.ntmps20
    go_wp2_with (first | ((with_reducible refine zY (N := 1) rfl ?_); refine ye ?hg (N := 1) ?hd (cs := #[.slice A0_0 l0_0.length c0_0, .slice A0_1 l0_1.length c0_1]) (t := 30) ?hr ?_; (case hd => rfl); (case hg => rfl); (case hr => first | (go_simp; done) | (go_simp; rfl)); intro gb132 hg w10 hbox hb; have n0_ := za.mk (zp (by repeat (with_reducible first | exact HB.out | apply zc | apply zb | apply zd)) hb); have n1_ := za.mk (hbox); have n2_ := za.mk ((by rw [hg]; exact (zy (by repeat (with_reducible first | exact HB.out | apply zc | apply zb | apply zd))) : w.heap.size ≤ gb132)); have n3_ := za.mk ((by rw [hg]; exact (zy (by repeat (with_reducible first | exact HB.out | apply zc | apply zb | apply zd))) : w.heap.size ≤ gb132)); clear HB; have HB := n0_; have BK132 := n1_; have GW132 := n2_; have GE132 := n3_; clear n0_ n1_ n2_ n3_; clear hb hbox hg; have hcz11_0 : w10.cell? ⟨gb132, 0, none⟩ = some (.slice A0_0 l0_0.length c0_0) := (zf BK132.out 0).trans rfl; have hcz11_1 : w10.cell? ⟨gb132, 1, none⟩ = some (.slice A0_1 l0_1.length c0_1) := (zf BK132.out 1).trans rfl; have hfz11_0 := zg BK132.out 0; have hfz11_1 := zg BK132.out 1) | ((with_reducible refine zx (f := 42) rfl ?_); refine z6 (some 4) rfl rfl Tryd.func42 (by kernel_rfl) rfl #[.agg #[.slice A0_0 l0_0.length c0_0, .slice A0_1 l0_1.length c0_1]] rfl (by (try simp only [List.map_toArray, List.map_cons, List.map_nil]); first | done | rfl | (simp only [List.length_drop, List.length_take]; rfl)) ?_; (with_reducible refine (zB.calls k _ _ l0_0 _ _ l0_1 false _ ?side1 ?side2 ?side3 ?side4 A2.out).mono ?_); (case side1 => repeat (first | exact (Kd.zX HR0_0.out HB.out) | (with_reducible refine Kd.yg ?_ _) | (with_reducible refine Kd.yi ?_ _) | (with_reducible refine Kd.yG ?_))); (case side2 => exact HC0_0.out); (case side3 => repeat (first | exact (Kd.zX HR0_1.out HB.out) | (with_reducible refine Kd.yg ?_ _) | (with_reducible refine Kd.yi ?_ _) | (with_reducible refine Kd.yG ?_))); (case side4 => exact HC0_1.out); rintro e w12 ⟨rfl, hb⟩; refine ⟨_, rfl, ?_⟩; have n0_ := za.mk (zI (g := gb132) (o := .cells #[.slice A0_0 l0_0.length c0_0, .slice A0_1 l0_1.length c0_1] 30 (0, 0)) (by (with_reducible repeat (first | refine zl ?_ _ | refine zm ?_ | refine zj ?_ _)); exact BK132.out) hb); have n1_ := za.mk (zp (by repeat (with_reducible first | exact HB.out | apply zc | apply zb | apply zd | refine zh ?_ GE132.out)) hb); clear BK132; clear HB; have BK132 := n0_; have HB := n1_; clear n0_ n1_; (try clear hb); (try clear hb2); (try clear hk); (try clear hi)))
    go_ret
    exact ⟨by first | rfl | (simp [zr, zq] <;> rfl) | (simp [*, zr, zq] <;> rfl), by repeat (with_reducible first | exact HB.out | apply zc | apply zb | apply zd | refine zh ?_ GE132.out)⟩
end Go.Proofs.YtoeepmcaabmjkaaDoor.QPO
namespace Go.Proofs.YtoeepmcaabmjkaaDoor.QPO
open Go.RowKit Go.Proofs.YtoeepmcaabmjkaaDoorW.PrintWords Go.Proofs.YtoeepmcaabmjkaaDoorW.PrintLast Go.Proofs.YtoeepmcaabmjkaaDoorW.PrintMore
attribute [local go_sem] yz yx yQ yP yl yk yy yw   -- for this text's walks alone
set_option linter.unusedVariables false
set_option linter.unusedSimpArgs false
def yd.f : Nat → Int → Option (ByteArray)
  | 0, _ => none
  | k + 1, a0 => if a0 < (-9223372036854775807) then (some (⟨#[45, 57, 50, 50, 51, 51, 55, 50, 48, 51, 54, 56, 53, 52, 55, 55, 53, 56, 48, 56]⟩ : ByteArray)) else (if a0 < 0 then ((yd.f k (wrap64 (-a0))).bind fun t135 => (if 1 + t135.size ≤ 9223372036854775807 then (some ((⟨#[45]⟩ : ByteArray) ++ t135)) else (none))) else (if a0 < 10 then (some (strOfNums (([(wrap64 (48 + a0)) % 256] : List Int)))) else ((yd.f k (wrap64 (Int.tdiv a0 10))).bind fun t139 => ((some (([(wrap64 (48 + (Int.tmod a0 10))) % 256] : List Int) : List Int)).bind fun y140 => (if t139.size + (strOfNums y140).size ≤ 9223372036854775807 then (some (t139 ++ (strOfNums y140))) else (none))))))
def yd.T7 : Bool × List (List Nat × List Nat) := (true, [([], []), ([0], [0]), ([1], [1]), ([], []), ([3], [3]), ([4], [4]), ([5], [5]), ([6], [6]), ([7], [7]), ([2, 8], [2, 8]), ([9, 2, 0, 1, 2, 3, 4, 5, 6, 7, 8, 9], [9])])
def yd.B7 : List Nat := [0, 1, 3, 0, 8, 24, 56, 120, 248, 511, 1023]
theorem yd.tab7 : rtab .any (opsOf Tryd.f21 7) = yd.T7 := by kernel_rfl
theorem yd.bits7 : waitsOk yd.T7.2 yd.B7 = true := by kernel_rfl
set_option maxHeartbeats 8000000 in
set_option maxRecDepth 100000 in
theorem yd.calls (k : Nat) : ∀ (a0 : Int) (r : ByteArray) (w : World) (h : yd.f k a0 = some r),
    Calls Tryd.prog 21 #[.int .i64 a0] w fun e w' => e = .returned (.string r) ∧ Below w.heap.size w w' := by
  induction k using Nat.strongRecOn with
  | _ k ih =>
  intro a0 r w h
  cases k with
  | zero => exact absurd h (by simp [yd.f])
  | succ k =>
  simp only [yd.f] at h
  have HB := za.mk (Below.refl w.heap.size w)
  have H : (if a0 < (-9223372036854775807) then (some (⟨#[45, 57, 50, 50, 51, 51, 55, 50, 48, 51, 54, 56, 53, 52, 55, 55, 53, 56, 48, 56]⟩ : ByteArray)) else (if a0 < 0 then ((yd.f k (wrap64 (-a0))).bind fun t135 => (if 1 + t135.size ≤ 9223372036854775807 then (some ((⟨#[45]⟩ : ByteArray) ++ t135)) else (none))) else (if a0 < 10 then (some (strOfNums (([(wrap64 (48 + a0)) % 256] : List Int)))) else ((yd.f k (wrap64 (Int.tdiv a0 10))).bind fun t139 => ((some (([(wrap64 (48 + (Int.tmod a0 10))) % 256] : List Int) : List Int)).bind fun y140 => (if t139.size + (strOfNums y140).size ≤ 9223372036854775807 then (some (t139 ++ (strOfNums y140))) else (none))))))) = some r := h
  clear h
  by_cases c2 : a0 < (-9223372036854775807)
  · rw [if_pos c2] at H
    have c2b0 : decide (a0 < (-9223372036854775807)) = true := decide_eq_true c2
    clear c2
    obtain rfl := Option.some.inj H
    go_enter Tryd.func21, Tryd.ntmps21
    go_wp2
    go_ret
    exact ⟨by first | rfl | (simp [zr, zq] <;> rfl) | (simp [*, zr, zq] <;> rfl), by repeat (with_reducible first | exact HB.out | apply zc | apply zb | apply zd)⟩
  · rw [if_neg c2] at H
    have c2b0 : decide (a0 < (-9223372036854775807)) = false := decide_eq_false c2
    clear c2
    by_cases c3 : a0 < 0
    · rw [if_pos c3] at H
      have c3b0 : decide (a0 < 0) = true := decide_eq_true c3
      clear c3
      replace H := Option.bind_eq_some_iff.mp H
      obtain ⟨t135, A40, H⟩ := H
      replace H : (if 1 + t135.size ≤ 9223372036854775807 then (some ((⟨#[45]⟩ : ByteArray) ++ t135)) else (none)) = some r := H
      have A4 := za.mk A40
      clear A40
      by_cases c5 : 1 + t135.size ≤ 9223372036854775807
      · rw [if_pos c5] at H
        have c5b0 := eq_true c5
        have c5b1 : decide (1 + t135.size ≤ 9223372036854775807) = true := decide_eq_true c5
        try have c5b2 : (9223372036854775807 < 1 + t135.size) = False := eq_false (Nat.not_lt.2 c5)
        obtain rfl := Option.some.inj H
        go_enter Tryd.func21, Tryd.ntmps21
        go_wp2_with (first | ((with_reducible refine zx (f := 21) rfl ?_); refine z6 (some 9) rfl rfl Tryd.func21 (by kernel_rfl) rfl #[.int .i64 (wrap64 (-a0))] rfl (by (try simp only [List.map_toArray, List.map_cons, List.map_nil]); first | done | rfl | (simp only [List.length_drop, List.length_take]; rfl)) ?_; (with_reducible refine (ih k (by omega) (wrap64 (-a0)) t135 _ A4.out).mono ?_); rintro e w6 ⟨rfl, hb⟩; refine ⟨_, rfl, ?_⟩; have n0_ := za.mk (zp (by repeat (with_reducible first | exact HB.out | apply zc | apply zb | apply zd)) hb); clear HB; have HB := n0_; clear n0_; (try clear hb); (try clear hb2); (try clear hk); (try clear hi)))
        go_ret
        exact ⟨by first | rfl | (simp [zr, zq] <;> rfl) | (simp [*, zr, zq] <;> rfl), by repeat (with_reducible first | exact HB.out | apply zc | apply zb | apply zd)⟩
      · rw [if_neg c5] at H
        exact absurd H (by simp)
    · rw [if_neg c3] at H
      have c3b0 : decide (a0 < 0) = false := decide_eq_false c3
      clear c3
      by_cases c7 : a0 < 10
      · rw [if_pos c7] at H
        have c7b0 : decide (a0 < 10) = true := decide_eq_true c7
        clear c7
        obtain ⟨y136, hy136⟩ : ∃ y_ : List Int, y_ = (([(wrap64 (48 + a0)) % 256] : List Int)) := ⟨_, rfl⟩
        replace H : (some (strOfNums y136)) = some r := by first | (rw [hy136]; with_reducible exact H) | (have H2_ := (Option.bind_some _ _).symm.trans H; rw [hy136]; with_reducible exact H2_) | (have H2_ := (Option.bind_some _ _).symm.trans H; with_reducible exact H2_) | with_reducible exact H | (rw [hy136]; exact H) | exact H
        have Ny136 := za.mk hy136
        clear hy136
        obtain rfl := Option.some.inj H
        go_enter Tryd.func21, Tryd.ntmps21
        go_wp2_with (first | ((with_reducible refine zY (N := 16) rfl ?_); refine Kd.R_lit (Kd.int .u8) _ 5 ?hg (N := 16) ?hd (xs := ([(wrap64 (48 + a0)) % 256] : List Int)) (inner := [.int .u8 ((wrap64 (48 + a0)) % 256)]) (ok := fun _ => True) (okp := fun _ => True) ?hr ?hp (fun _ hk => hk) trivial (Below.refl _ _) (Nat.le_refl _) (by simp) ?_; (case hd => rfl); (case hg => rfl); (case hr => first | (go_simp; done) | (go_simp; rfl)); (case hp => exact (yt.one (show Kd.M (Kd.int .u8) _ _ _ ((wrap64 (48 + a0)) % 256) [.int .u8 ((wrap64 (48 + a0)) % 256)] from rfl) (yt.none _ _))); intro v137 w8 ho9 hb hg_ hnew_; clear hg_ hnew_; (first | rw [← Ny136.out] at ho9 | (simp only [Int.reduceToNat] at ho9; rw [← Ny136.out] at ho9)); have n0_ := za.mk (Kd.yq ho9 (zy (by repeat (with_reducible first | exact HB.out | apply zc | apply zb | apply zd)))); have n1_ := za.mk (zp (by repeat (with_reducible first | exact HB.out | apply zc | apply zb | apply zd)) hb); clear HB; have HO138 := n0_; have HB := n1_; clear n0_ n1_; clear hb ho9; have hcv10 := y9 (P := Tryd.prog) Tryd.underlying34 Tryd.underlying5 Tryd.underlying9 (Kd.xk HO138.out)))
        go_ret
        exact ⟨by first | rfl | (simp [zr, zq] <;> rfl) | (simp [*, zr, zq] <;> rfl), by repeat (with_reducible first | exact HB.out | apply zc | apply zb | apply zd)⟩
      · rw [if_neg c7] at H
        have c7b0 : decide (a0 < 10) = false := decide_eq_false c7
        clear c7
        replace H := Option.bind_eq_some_iff.mp H
        obtain ⟨t139, A110, H⟩ := H
        replace H : ((some (([(wrap64 (48 + (Int.tmod a0 10))) % 256] : List Int) : List Int)).bind fun y140 => (if t139.size + (strOfNums y140).size ≤ 9223372036854775807 then (some (t139 ++ (strOfNums y140))) else (none))) = some r := H
        have A11 := za.mk A110
        clear A110
        obtain ⟨y140, hy140⟩ : ∃ y_ : List Int, y_ = (([(wrap64 (48 + (Int.tmod a0 10))) % 256] : List Int)) := ⟨_, rfl⟩
        replace H : (if t139.size + (strOfNums y140).size ≤ 9223372036854775807 then (some (t139 ++ (strOfNums y140))) else (none)) = some r := by first | (rw [hy140]; with_reducible exact H) | (have H2_ := (Option.bind_some _ _).symm.trans H; rw [hy140]; with_reducible exact H2_) | (have H2_ := (Option.bind_some _ _).symm.trans H; with_reducible exact H2_) | with_reducible exact H | (rw [hy140]; exact H) | exact H
        have Ny140 := za.mk hy140
        clear hy140
        by_cases c12 : t139.size + (strOfNums y140).size ≤ 9223372036854775807
        · rw [if_pos c12] at H
          have c12b0 := eq_true c12
          have c12b1 : decide (t139.size + (strOfNums y140).size ≤ 9223372036854775807) = true := decide_eq_true c12
          try have c12b2 : (9223372036854775807 < t139.size + (strOfNums y140).size) = False := eq_false (Nat.not_lt.2 c12)
          obtain rfl := Option.some.inj H
          go_enter Tryd.func21, Tryd.ntmps21
          try go_wp2
          have n0_ := za.mk (zd HB.out)
          clear HB
          have HB := n0_
          clear n0_
          refine xi (n := 11) (S := fun w' => True) (ds := []) #[false, false, false, false, false, false, false, false, false, false, false] (by kernel_rfl) rfl rfl trivial (fun hHeld => ?_); refine with_tabW yd.tab7 yd.bits7 (fun HT_ HW_ => ?_)
          generalize w.drew = w13 at HB hHeld ⊢
          refine zF (i := 0) (N := some 18) (v := ?_) (a' := ?_) #[true, false, false, false, false, false, false, false, false, false, false] rfl rfl (yL HT_.out (by kernel_rfl)) (fun _ _ _ h => h) (Or.inl ⟨by rfl, ?_⟩) ?_ ?_
          rotate_left
          · intro w'
            go_simp
            with_reducible rfl
          rotate_left
          · simp only [Act.put, List.setIfInBounds_toArray, List.set_cons_zero, List.set_cons_succ, zn, zo]
            rfl
          refine zF (i := 1) (N := some 19) (v := ?_) (a' := ?_) #[true, true, false, false, false, false, false, false, false, false, false] rfl rfl (yL HT_.out (by kernel_rfl)) (fun _ _ _ h => h) (Or.inl ⟨by rfl, ?_⟩) ?_ ?_
          rotate_left
          · intro w'
            go_simp
            with_reducible rfl
          rotate_left
          · simp only [Act.put, List.setIfInBounds_toArray, List.set_cons_zero, List.set_cons_succ, zn, zo]
            rfl
          refine zF (i := 3) (N := some 21) (v := ?_) (a' := ?_) #[true, true, false, true, false, false, false, false, false, false, false] rfl rfl (yL HT_.out (by kernel_rfl)) (fun _ _ _ h => h) (Or.inl ⟨by rfl, ?_⟩) ?_ ?_
          rotate_left
          · intro w'
            go_simp
            with_reducible rfl
          rotate_left
          · simp only [Act.put, List.setIfInBounds_toArray, List.set_cons_zero, List.set_cons_succ, zn, zo]
            rfl
          refine zF (i := 4) (N := some 22) (v := ?_) (a' := ?_) #[true, true, false, true, true, false, false, false, false, false, false] rfl rfl (yL HT_.out (by kernel_rfl)) (fun _ _ _ h => h) (Or.inl ⟨by rfl, ?_⟩) ?_ ?_
          rotate_left
          · intro w'
            go_simp
            with_reducible rfl
          rotate_left
          · simp only [Act.put, List.setIfInBounds_toArray, List.set_cons_zero, List.set_cons_succ, zn, zo]
            rfl
          refine zF (i := 5) (N := some 23) (v := ?_) (a' := ?_) #[true, true, false, true, true, true, false, false, false, false, false] rfl rfl (yL HT_.out (by kernel_rfl)) (fun _ _ _ h => h) (Or.inl ⟨by rfl, ?_⟩) ?_ ?_
          rotate_left
          · intro w'
            go_simp
            with_reducible rfl
          rotate_left
          · simp only [Act.put, List.setIfInBounds_toArray, List.set_cons_zero, List.set_cons_succ, zn, zo]
            rfl
          refine zF (i := 6) (N := some 24) (v := ?_) (a' := ?_) #[true, true, false, true, true, true, true, false, false, false, false] rfl rfl (yL HT_.out (by kernel_rfl)) (fun _ _ _ h => h) (Or.inl ⟨by rfl, ?_⟩) ?_ ?_
          rotate_left
          · intro w'
            go_simp
            with_reducible rfl
          rotate_left
          · simp only [Act.put, List.setIfInBounds_toArray, List.set_cons_zero, List.set_cons_succ, zn, zo]
            rfl
          refine join_ (σ := Value) 2 #[true, true, true, true, true, true, true, true, true, false, false] (fun s_ => [(20, .string t139), (25, s_), (26, .string (strOfNums y140))]) (fun s_ w' => (Kd.R (Kd.int .u8) 5 w' w.heap.size (fun _ => True) s_ y140) ∧ (Below w.heap.size w w')) ?_ ?_
          rotate_left
          · intro hCont
            refine two_ (i := 2) (j := 7) (Ni := some 20) (Nj := some 25) #[true, true, true, true, true, true, true, false, false, false, false] #[true, true, false, true, true, true, true, true, false, false, false] rfl rfl rfl rfl (two_of HT_.out (by kernel_rfl)) (by decide) (by decide) (fun K hK => ?_) (fun K hK => ?_)
            · skip
              refine y7 Tryd.func21 (by kernel_rfl) rfl #[.int .i64 (wrap64 (Int.tdiv a0 10))] (by rfl) rfl rfl (by (try simp only [List.map_toArray, List.map_cons, List.map_nil]); first | done | rfl | (simp only [List.length_drop, List.length_take]; rfl)) ?_
              with_reducible refine (ih k (by omega) (wrap64 (Int.tdiv a0 10)) t139 _ A11.out).mono ?_
              rintro e w14 ⟨rfl, hb⟩
              refine ⟨_, rfl, ?_⟩
              have n0_ := za.mk (zp (by repeat (with_reducible first | exact HB.out | apply zc | apply zb | apply zd)) hb)
              clear HB
              have HB := n0_
              clear n0_
              (try clear hb)
              (try clear hb2)
              (try clear hk)
              (try clear hi)
              refine hK.out _ _ trivial (fun hHeld => ?_)
              clear hK K
              refine zQ (a' := ?_) ?_ ?_
              rotate_left
              · show Act.put _ (some 20) _ = _
                simp only [Act.put, List.setIfInBounds_toArray, List.set_cons_zero, List.set_cons_succ, zn, zo]
                rfl
              refine yM (i := 7) (N := some 25) #[true, true, true, true, true, true, true, true, false, false, false] rfl rfl (one_of HT_.out (by kernel_rfl)) (by decide) (fun K hK => ?_)
              refine Kd.R_lit_step (Kd.int .u8) _ 5 ?hg (N := 25) ?hd (xs := ([(wrap64 (48 + (Int.tmod a0 10))) % 256] : List Int)) (inner := [.int .u8 ((wrap64 (48 + (Int.tmod a0 10))) % 256)]) (ok := fun _ => True) (okp := fun _ => True) ?hr ?hp (fun _ hk => hk) trivial (Below.refl _ _) (Nat.le_refl _) (by simp) ?_; (case hd => rfl); (case hg => rfl); (case hr => first | (go_simp; done) | (go_simp; rfl)); (case hp => exact (yt.one (show Kd.M (Kd.int .u8) _ _ _ ((wrap64 (48 + (Int.tmod a0 10))) % 256) [.int .u8 ((wrap64 (48 + (Int.tmod a0 10))) % 256)] from rfl) (yt.none _ _)))
              intro v141 w15 ho16 hb hg_ hnew_
              clear hg_ hnew_
              (first | rw [← Ny140.out] at ho16 | (simp only [Int.reduceToNat] at ho16; rw [← Ny140.out] at ho16))
              have n0_ := za.mk (Kd.yq ho16 (zy (by repeat (with_reducible first | exact HB.out | apply zc | apply zb | apply zd))))
              have n1_ := za.mk (zp (by repeat (with_reducible first | exact HB.out | apply zc | apply zb | apply zd)) hb)
              clear HB
              have HO142 := n0_
              have HB := n1_
              clear n0_ n1_
              clear hb ho16
              refine hK.out _ _ trivial (fun hHeld => ?_)
              clear hK K
              refine zQ (a' := ?_) ?_ ?_
              rotate_left
              · show Act.put _ (some 25) _ = _
                simp only [Act.put, List.setIfInBounds_toArray, List.set_cons_zero, List.set_cons_succ, zn, zo]
                rfl
              refine yM (i := 8) (N := some 26) #[true, true, true, true, true, true, true, true, true, false, false] rfl rfl (one_of HT_.out (by kernel_rfl)) (by decide) (fun K hK => ?_)
              have hcv17 := y9 (P := Tryd.prog) Tryd.underlying34 Tryd.underlying5 Tryd.underlying9 (Kd.xk HO142.out)
              refine yI (w1 := ?_) (v := ?_) (by rfl) rfl ?_ ?_
              rotate_left 2
              · go_simp
                constructor
                · rfl
                · rfl
              clear hcv17
              refine hK.out _ _ trivial (fun hHeld => ?_)
              clear hK K
              refine zQ (a' := ?_) ?_ ?_
              rotate_left
              · show Act.put _ (some 26) _ = _
                simp only [Act.put, List.setIfInBounds_toArray, List.set_cons_zero, List.set_cons_succ, zn, zo]
                rfl
              exact zQ (by simp only [yZ, Act.put, List.setIfInBounds_toArray, List.set_cons_zero, List.set_cons_succ]) (hCont (v141) _ ⟨(by (with_reducible repeat (first | apply Kd.zE | apply Kd.zG | apply Kd.zT)); exact HO142.out), (by repeat (with_reducible first | exact HB.out | apply zc | apply zb | apply zd))⟩)
            · skip
              refine Kd.R_lit_step (Kd.int .u8) _ 5 ?hg (N := 25) ?hd (xs := ([(wrap64 (48 + (Int.tmod a0 10))) % 256] : List Int)) (inner := [.int .u8 ((wrap64 (48 + (Int.tmod a0 10))) % 256)]) (ok := fun _ => True) (okp := fun _ => True) ?hr ?hp (fun _ hk => hk) trivial (Below.refl _ _) (Nat.le_refl _) (by simp) ?_; (case hd => rfl); (case hg => rfl); (case hr => first | (go_simp; done) | (go_simp; rfl)); (case hp => exact (yt.one (show Kd.M (Kd.int .u8) _ _ _ ((wrap64 (48 + (Int.tmod a0 10))) % 256) [.int .u8 ((wrap64 (48 + (Int.tmod a0 10))) % 256)] from rfl) (yt.none _ _)))
              intro v141 w14 ho15 hb hg_ hnew_
              clear hg_ hnew_
              (first | rw [← Ny140.out] at ho15 | (simp only [Int.reduceToNat] at ho15; rw [← Ny140.out] at ho15))
              have n0_ := za.mk (Kd.yq ho15 (zy (by repeat (with_reducible first | exact HB.out | apply zc | apply zb | apply zd))))
              have n1_ := za.mk (zp (by repeat (with_reducible first | exact HB.out | apply zc | apply zb | apply zd)) hb)
              clear HB
              have HO142 := n0_
              have HB := n1_
              clear n0_ n1_
              clear hb ho15
              refine hK.out _ _ trivial (fun hHeld => ?_)
              clear hK K
              refine zQ (a' := ?_) ?_ ?_
              rotate_left
              · show Act.put _ (some 25) _ = _
                simp only [Act.put, List.setIfInBounds_toArray, List.set_cons_zero, List.set_cons_succ, zn, zo]
                rfl
              refine two_ (i := 2) (j := 8) (Ni := some 20) (Nj := some 26) #[true, true, true, true, true, true, true, true, false, false, false] #[true, true, false, true, true, true, true, true, true, false, false] rfl rfl rfl rfl (two_of HT_.out (by kernel_rfl)) (by decide) (by decide) (fun K hK => ?_) (fun K hK => ?_)
              · skip
                refine y7 Tryd.func21 (by kernel_rfl) rfl #[.int .i64 (wrap64 (Int.tdiv a0 10))] (by rfl) rfl rfl (by (try simp only [List.map_toArray, List.map_cons, List.map_nil]); first | done | rfl | (simp only [List.length_drop, List.length_take]; rfl)) ?_
                with_reducible refine (ih k (by omega) (wrap64 (Int.tdiv a0 10)) t139 _ A11.out).mono ?_
                rintro e w16 ⟨rfl, hb⟩
                refine ⟨_, rfl, ?_⟩
                have n0_ := za.mk (Kd.yc (by (with_reducible repeat (first | apply Kd.zE | apply Kd.zG | apply Kd.zT)); exact HO142.out) hb)
                have n1_ := za.mk (zp (by repeat (with_reducible first | exact HB.out | apply zc | apply zb | apply zd)) hb)
                clear HO142
                clear HB
                have HO142 := n0_
                have HB := n1_
                clear n0_ n1_
                (try clear hb)
                (try clear hb2)
                (try clear hk)
                (try clear hi)
                refine hK.out _ _ trivial (fun hHeld => ?_)
                clear hK K
                refine zQ (a' := ?_) ?_ ?_
                rotate_left
                · show Act.put _ (some 20) _ = _
                  simp only [Act.put, List.setIfInBounds_toArray, List.set_cons_zero, List.set_cons_succ, zn, zo]
                  rfl
                refine yM (i := 8) (N := some 26) #[true, true, true, true, true, true, true, true, true, false, false] rfl rfl (one_of HT_.out (by kernel_rfl)) (by decide) (fun K hK => ?_)
                have hcv17 := y9 (P := Tryd.prog) Tryd.underlying34 Tryd.underlying5 Tryd.underlying9 (Kd.xk HO142.out)
                refine yI (w1 := ?_) (v := ?_) (by rfl) rfl ?_ ?_
                rotate_left 2
                · go_simp
                  constructor
                  · rfl
                  · rfl
                clear hcv17
                refine hK.out _ _ trivial (fun hHeld => ?_)
                clear hK K
                refine zQ (a' := ?_) ?_ ?_
                rotate_left
                · show Act.put _ (some 26) _ = _
                  simp only [Act.put, List.setIfInBounds_toArray, List.set_cons_zero, List.set_cons_succ, zn, zo]
                  rfl
                exact zQ (by simp only [yZ, Act.put, List.setIfInBounds_toArray, List.set_cons_zero, List.set_cons_succ]) (hCont (v141) _ ⟨(by (with_reducible repeat (first | apply Kd.zE | apply Kd.zG | apply Kd.zT)); exact HO142.out), (by repeat (with_reducible first | exact HB.out | apply zc | apply zb | apply zd))⟩)
              · skip
                have hcv16 := y9 (P := Tryd.prog) Tryd.underlying34 Tryd.underlying5 Tryd.underlying9 (Kd.xk HO142.out)
                refine yI (w1 := ?_) (v := ?_) (by rfl) rfl ?_ ?_
                rotate_left 2
                · go_simp
                  constructor
                  · rfl
                  · rfl
                clear hcv16
                refine hK.out _ _ trivial (fun hHeld => ?_)
                clear hK K
                refine zQ (a' := ?_) ?_ ?_
                rotate_left
                · show Act.put _ (some 26) _ = _
                  simp only [Act.put, List.setIfInBounds_toArray, List.set_cons_zero, List.set_cons_succ, zn, zo]
                  rfl
                refine yM (i := 2) (N := some 20) #[true, true, true, true, true, true, true, true, true, false, false] rfl rfl (one_of HT_.out (by kernel_rfl)) (by decide) (fun K hK => ?_)
                refine y7 Tryd.func21 (by kernel_rfl) rfl #[.int .i64 (wrap64 (Int.tdiv a0 10))] (by rfl) rfl rfl (by (try simp only [List.map_toArray, List.map_cons, List.map_nil]); first | done | rfl | (simp only [List.length_drop, List.length_take]; rfl)) ?_
                with_reducible refine (ih k (by omega) (wrap64 (Int.tdiv a0 10)) t139 _ A11.out).mono ?_
                rintro e w17 ⟨rfl, hb⟩
                refine ⟨_, rfl, ?_⟩
                have n0_ := za.mk (Kd.yc (by (with_reducible repeat (first | apply Kd.zE | apply Kd.zG | apply Kd.zT)); exact HO142.out) hb)
                have n1_ := za.mk (zp (by repeat (with_reducible first | exact HB.out | apply zc | apply zb | apply zd)) hb)
                clear HO142
                clear HB
                have HO142 := n0_
                have HB := n1_
                clear n0_ n1_
                (try clear hb)
                (try clear hb2)
                (try clear hk)
                (try clear hi)
                refine hK.out _ _ trivial (fun hHeld => ?_)
                clear hK K
                refine zQ (a' := ?_) ?_ ?_
                rotate_left
                · show Act.put _ (some 20) _ = _
                  simp only [Act.put, List.setIfInBounds_toArray, List.set_cons_zero, List.set_cons_succ, zn, zo]
                  rfl
                exact zQ (by simp only [yZ, Act.put, List.setIfInBounds_toArray, List.set_cons_zero, List.set_cons_succ]) (hCont (v141) _ ⟨(by (with_reducible repeat (first | apply Kd.zE | apply Kd.zG | apply Kd.zT)); exact HO142.out), (by repeat (with_reducible first | exact HB.out | apply zc | apply zb | apply zd))⟩)
          rintro v141 w18 ⟨h0_, h1_⟩
          have n0_ : za (Kd.R (Kd.int .u8) 5 w18 w.heap.size (fun _ => True) v141 y140) := ⟨h0_⟩
          have n1_ : za (Below w.heap.size w w18) := ⟨h1_⟩
          clear HB
          clear h0_ h1_
          have HO142 := n0_
          have HB := n1_
          clear n0_ n1_
          have hHeld := trivial
          refine zQ (a' := ?_) ?_ ?_
          rotate_left
          · simp only [yZ, Act.put, List.setIfInBounds_toArray, List.set_cons_zero, List.set_cons_succ]
            rfl
          refine zF (i := 9) (N := some 27) (v := ?_) (a' := ?_) #[true, true, true, true, true, true, true, true, true, true, false] rfl rfl (yL HT_.out (by kernel_rfl)) (fun _ _ _ h => h) (Or.inl ⟨by rfl, ?_⟩) ?_ ?_
          rotate_left
          · intro w'
            go_simp
            with_reducible rfl
          rotate_left
          · simp only [Act.put, List.setIfInBounds_toArray, List.set_cons_zero, List.set_cons_succ, zn, zo]
            rfl
          refine zF (i := 10) (N := some 2) (v := ?_) (a' := ?_) #[true, true, true, true, true, true, true, true, true, true, true] rfl rfl (yL HT_.out (by kernel_rfl)) (fun _ _ _ h => h) (Or.inl ⟨by rfl, ?_⟩) ?_ ?_
          rotate_left
          · intro w'
            go_simp
            with_reducible rfl
          rotate_left
          · simp only [Act.put, List.setIfInBounds_toArray, List.set_cons_zero, List.set_cons_succ, zn, zo]
            rfl
          refine xA (done_of HT_.out (by kernel_rfl)) ?_
          try go_wp2
          go_ret
          exact ⟨by first | rfl | (simp [zr, zq] <;> rfl) | (simp [*, zr, zq] <;> rfl), by repeat (with_reducible first | exact HB.out | apply zc | apply zb | apply zd)⟩
        · rw [if_neg c12] at H
          exact absurd H (by simp)
end Go.Proofs.YtoeepmcaabmjkaaDoor.QPO
