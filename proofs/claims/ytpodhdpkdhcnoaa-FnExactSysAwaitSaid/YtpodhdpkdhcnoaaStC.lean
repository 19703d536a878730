/- Struct types that are told whole: kinds. Written by wip/tools/genstruct.py. -/
import Derived.Test.YtpodhdpkdhcnoaaQSCx0
namespace Go.Proofs.Ytpodhdpkdhcnoaa.QSC
open Go.RowKit Go.Proofs.YtpodhdpkdhcnoaaW.PrintWords
structure S26 where
  f0 : List S102
  f1 : List S100
  f2 : Int
  f3 : List S76
def k26 : Kd S26 := Kd.iso (Kd.pair (Kd.slice 102 k102) (Kd.pair (Kd.slice 100 k100) (Kd.pair (Kd.int .i64) (Kd.slice 76 k76)))) (fun x : S26 => (x.f0, x.f1, x.f2, x.f3))
theorem k26_open {w : World} {x : S26} {cs : List Value} (h : k26.K w x cs) : ∃ A0 c0 A1 c1 A3 c3, cs = [.slice A0 x.f0.length c0, .slice A1 x.f1.length c1, .int .i64 x.f2, .slice A3 x.f3.length c3] ∧ x.f0.length ≤ c0 ∧ Kd.C k102 w A0 x.f0.length x.f0 ∧ x.f1.length ≤ c1 ∧ Kd.C k100 w A1 x.f1.length x.f1 ∧ x.f3.length ≤ c3 ∧ Kd.C k76 w A3 x.f3.length x.f3 := by
  obtain ⟨_, _, rfl, ⟨A0, c0, rfl, l0, g0⟩, ⟨_, _, rfl, ⟨A1, c1, rfl, l1, g1⟩, ⟨_, _, rfl, rfl, ⟨A3, c3, rfl, l3, g3⟩⟩⟩⟩ := h
  exact ⟨A0, c0, A1, c1, A3, c3, rfl, l0, g0, l1, g1, l3, g3⟩
end Go.Proofs.Ytpodhdpkdhcnoaa.QSC
