/- FnExactProgTree: on every program the program's ProgTree tells what the reference's tells; no condition. -/
import Derived.Test.YtpodhdpkdhcnoaaPTree
import Derived.Test.YtpodhdpkdhcnoaaQSBx22
namespace Go.Proofs.Ytpodhdpkdhcnoaa.Pure
open Go.RowKit Go.Proofs.Ytpodhdpkdhcnoaa.QSB Go.Proofs.YtpodhdpkdhcnoaaW.PrintWords Go.Proofs.YtpodhdpkdhcnoaaW.PrintLast Go.Proofs.Ytpodhdpkdhcnoaa.PProg Go.Proofs.Ytpodhdpkdhcnoaa.PTree

theorem FnExactProgTree (x : S49) (a : Int) (hok : ok49 x) (_ha : (Lit.int .i64 a).wf = true) : ∃ k, laws_FnExactProgTree.f k x.f0 x.f1 a = some true := by
  refine Ev.rounds (g := fun k => laws_FnExactProgTree.f k x.f0 x.f1 a) ?_
  obtain ⟨h0, h1, h2⟩ := ok_lens hok
  unfold laws_FnExactProgTree.f
  refine Ev.bind (szProg_ev _ _ h0 h1 h2) ?_
  by_cases c : cut 1048576 (szP x.f0 x.f1) < 0
  · exact ev_pos c (Ev.now _)
  obtain ⟨s0, s1, s2⟩ := small (l0 := x.f0) (l := x.f1) (by omega)
  obtain ⟨s3, s4⟩ := toB_small s1 s2
  have tp := toProg_ev _ _ s0 s1 s2
  obtain ⟨R, r1, r2⟩ := progTree_ev x.f0 (toB x.f1) a ⟨s0, s3, s4⟩
  refine ev_neg c (Ev.bind tp (Ev.bind r1 (Ev.bind tp (Ev.bind r2 (ev_pos rfl (Ev.bind tp (Ev.bind (eqProg_refl _ _ s0 s3 s4) (ev_pos rfl (Ev.now _)))))))))
end Go.Proofs.Ytpodhdpkdhcnoaa.Pure
