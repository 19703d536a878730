/- FnExactChangeOk: on all deeds and every number of cells the program's ChangeOk tells what the reference's tells; no condition. -/
import Derived.Test.YtkcoclfpcjfeiaaPDeed
import Derived.Test.YtkcoclfpcjfeiaaQCx19
namespace Go.Proofs.Ytkcoclfpcjfeiaa.Pure
open Go.RowKit Go.Proofs.Ytkcoclfpcjfeiaa.QC Go.Proofs.YtkcoclfpcjfeiaaW.PrintWords Go.Proofs.YtkcoclfpcjfeiaaW.PrintLast Go.Proofs.Ytkcoclfpcjfeiaa.PDeed

theorem set_conv {α β : Type} (c : α → β) (z : β) (l : List α) (i : Nat) (hi : i < l.length) (y : β) (hy : y = c l[i]) :
    ((l.take i).map c ++ List.replicate (l.length - i) z).set i y = (l.take (i + 1)).map c ++ List.replicate (l.length - (i + 1)) z := by
  subst hy
  have e : l.length - i = (l.length - (i + 1)) + 1 := by omega
  have hm : ((l.take i).map c).length = i := by rw [List.length_map, List.length_take]; omega
  rw [e, List.replicate_succ, List.set_append_right _ _ (by omega), hm, Nat.sub_self, List.set_cons_zero, List.take_succ_eq_append_getElem hi, List.map_append, List.append_assoc]
  rfl
theorem conv_start {α β : Type} (c : α → β) (z : β) (l : List α) : List.replicate l.length z = (l.take 0).map c ++ List.replicate (l.length - 0) z := by simp
theorem conv_len {α β : Type} (c : α → β) (z : β) (l : List α) (i : Nat) (hi : i ≤ l.length) : ((l.take i).map c ++ List.replicate (l.length - i) z).length = l.length := by
  rw [List.length_append, List.length_map, List.length_take, List.length_replicate]
  omega
theorem conv_end {α β : Type} (c : α → β) (z : β) (l : List α) : (l.take l.length).map c ++ List.replicate (l.length - l.length) z = l.map c := by simp

def toD (x : S75) : S68 := ⟨x.f0, x.f1, x.f2⟩
theorem rdL (l : List S75) (i : Nat) (hi : i < l.length) : rd_T75 l (i : Int) = l[i] := by
  simp [rd_T75, List.getD, hi]
theorem toDeedS_ev (l : List S75) (hl : l.length ≤ 1048576) : Ev (fun k => laws_toDeedS.f k l) (l.map toD) := by
  have key : ∀ i, i ≤ l.length → Ev (fun k => laws_toDeedS.l0 k l ((l.take i).map toD ++ List.replicate (l.length - i) z68) (i : Int)) (l.map toD) := by
    refine down ?_ ?_
    · refine Ev.step (fun k => by rw [laws_toDeedS.l0, if_neg (by omega)]) ?_
      rw [conv_end]
      exact Ev.now _
    · intro i hi ih
      refine Ev.step (fun k => ?_) ih
      rw [laws_toDeedS.l0, if_pos (by omega), if_pos (by omega)]
      simp only [laws_toDeed.f, Option.bind_some]
      rw [if_pos (by rw [conv_len _ _ _ _ (by omega)]; omega), w64 (by omega) (by omega), rdL l i hi]
      exact congrArg (fun q => laws_toDeedS.l0 k l q ((i : Int) + 1)) (set_conv toD z68 l i hi _ rfl)
  have := key 0 (Nat.zero_le _)
  rw [← conv_start] at this
  refine Ev.congr (fun k => ?_) this
  unfold laws_toDeedS.f
  rw [if_pos (by omega), if_pos (by omega)]
  rfl
theorem eqDeedS_refl (l : List S68) (hl : l.length ≤ 9223372036854775807) : Ev (fun k => laws_eqDeedS.f k l l) true := by
  have key : ∀ i, i ≤ l.length → Ev (fun k => laws_eqDeedS.l0 k l l (i : Int)) true := by
    refine down ?_ ?_
    · exact Ev.step (fun k => by rw [laws_eqDeedS.l0, if_neg (by omega)]) (Ev.now _)
    · intro i hi ih
      refine Ev.step (fun k => ?_) ih
      rw [laws_eqDeedS.l0, if_pos (by omega), if_pos (by omega), if_pos (by omega)]
      simp only [laws_eqDeed.f, if_true, Option.bind_some]
      rw [w64 (by omega) (by omega)]
      rfl
  refine Ev.congr (fun k => ?_) (key 0 (Nat.zero_le _))
  unfold laws_eqDeedS.f
  rw [if_pos rfl]
  rfl
def ok75 (x : S75) : Prop := (Lit.int .i64 x.f0).wf = true ∧ (Lit.int .i64 x.f1).wf = true ∧ (Lit.int .i64 x.f2).wf = true

theorem FnExactChangeOk (l : List S75) (a : Int) (hok : l.length ≤ 9223372036854775807 ∧ ∀ x ∈ l, ok75 x) (_ha : (Lit.int .i64 a).wf = true) : ∃ k, laws_FnExactChangeOk.f k l a = some true := by
  refine Ev.rounds (g := fun k => laws_FnExactChangeOk.f k l a) ?_
  have h1 := hok.1
  unfold laws_FnExactChangeOk.f laws_szDeedS.f
  rw [w64 (by omega) (by omega)]
  by_cases c : 1048576 - (l.length : Int) < 0
  · rw [if_pos c]
    exact Ev.bind (Ev.now (-1 : Int)) (ev_pos (c := (-1 : Int) < 0) (by decide) (Ev.now _))
  · rw [if_neg c]
    simp only [Option.bind_some]
    have e := toDeedS_ev l (by omega)
    have hm : (l.map toD).length ≤ 1048576 := by rw [List.length_map]; omega
    refine ev_neg (by omega) (Ev.bind e (Ev.bind (specOk_ev _ a (by omega)) (Ev.bind e (Ev.bind (implOk_ev _ a (by omega)) ?_))))
    refine ev_neg (by simp) (Ev.bind e (Ev.bind (eqDeedS_refl _ (by omega)) (ev_pos rfl (Ev.now _))))
end Go.Proofs.Ytkcoclfpcjfeiaa.Pure
