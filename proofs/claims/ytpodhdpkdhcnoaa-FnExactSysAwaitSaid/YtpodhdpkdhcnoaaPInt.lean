/- Plain lemmas on the laws' copies, comparisons and marks of whole numbers (no condition but lengths that fit). -/
import Derived.Test.YtpodhdpkdhcnoaaPEnt
import Derived.Test.YtpodhdpkdhcnoaaVC
namespace Go.Proofs.Ytpodhdpkdhcnoaa.PEnt
open Go.RowKit Go.Proofs.Ytpodhdpkdhcnoaa.QSC Go.Proofs.YtpodhdpkdhcnoaaW.PrintWords Go.Proofs.YtpodhdpkdhcnoaaW.PrintLast

theorem rdI (l : List Int) (i : Nat) (hi : i < l.length) : rd l (i : Int) = l[i] := by
  simp [rd, List.getD, hi]
theorem toIntS_ev (l : List Int) (hl : l.length ≤ 1048576) : Ev (fun k => laws_toIntS.f k l) l := by
  have key : ∀ i, i ≤ l.length → Ev (fun k => laws_toIntS.l0 k l ((l.take i).map id ++ List.replicate (l.length - i) 0) (i : Int)) (l.map id) := by
    refine down ?_ ?_
    · refine Ev.step (fun k => by rw [laws_toIntS.l0, if_neg (by omega)]) ?_
      rw [conv_end]
      exact Ev.now _
    · intro i hi ih
      refine Ev.step (fun k => ?_) ih
      rw [laws_toIntS.l0, if_pos (by omega), if_pos (by omega), if_pos (by rw [conv_len _ _ _ _ (by omega)]; omega), w64 (by omega) (by omega), rdI l i hi]
      exact congrArg (fun q => laws_toIntS.l0 k l q ((i : Int) + 1)) (set_conv id 0 l i hi _ rfl)
  have := key 0 (Nat.zero_le _)
  rw [← conv_start, List.map_id] at this
  refine Ev.congr (fun k => ?_) this
  unfold laws_toIntS.f
  rw [if_pos (by omega), if_pos (by omega)]
  rfl
theorem eqIntS_refl (l : List Int) (hl : l.length ≤ 9223372036854775807) : Ev (fun k => laws_eqIntS.f k l l) true := by
  have key : ∀ i, i ≤ l.length → Ev (fun k => laws_eqIntS.l0 k l l (i : Int)) true := by
    refine down ?_ ?_
    · exact Ev.step (fun k => by rw [laws_eqIntS.l0, if_neg (by omega)]) (Ev.now _)
    · intro i hi ih
      refine Ev.step (fun k => ?_) ih
      rw [laws_eqIntS.l0, if_pos (by omega), if_pos (by omega), if_pos (by omega), if_pos rfl, w64 (by omega) (by omega)]
      rfl
  refine Ev.congr (fun k => ?_) (key 0 (Nat.zero_le _))
  unfold laws_eqIntS.f
  rw [if_pos rfl]
  rfl

/-- The marks a, a + 1, .. -/
def marks (n : Nat) (a : Int) : List Int := (List.range n).map fun (i : Nat) => a + (i : Int)
theorem marks_len (n : Nat) (a : Int) : (marks n a).length = n := by simp [marks]
theorem marks_set (l : List Int) (a : Int) (i : Nat) (hi : i < l.length) : (marks i a ++ l.drop i).set i (a + i) = marks (i + 1) a ++ l.drop (i + 1) := by
  rw [List.set_append_right _ _ (by rw [marks_len]; exact Nat.le_refl _), marks_len, Nat.sub_self, List.drop_eq_getElem_cons hi, List.set_cons_zero]
  unfold marks
  rw [List.range_succ, List.map_append, List.append_assoc]
  rfl
theorem markIntS_ev (l : List Int) (a : Int) (hl : l.length ≤ 1048576) (h0 : 0 ≤ a) (h1 : a ≤ 4611686018427387904) : Ev (fun k => laws_markIntS.f k l a) (a + (l.length : Int), marks l.length a) := by
  have key : ∀ i, i ≤ l.length → Ev (fun k => laws_markIntS.l0 k (marks i a ++ l.drop i) (a + (i : Int)) (i : Int)) (a + (l.length : Int), marks l.length a) := by
    refine down ?_ ?_
    · refine Ev.step (fun k => by rw [laws_markIntS.l0, if_neg (by rw [List.length_append, marks_len, List.length_drop]; omega)]) ?_
      rw [List.drop_length, List.append_nil]
      exact Ev.now _
    · intro i hi ih
      refine Ev.step (fun k => ?_) ih
      rw [laws_markIntS.l0, if_pos (by rw [List.length_append, marks_len, List.length_drop]; omega), if_pos (by omega), w64 (by omega) (by omega), w64 (by omega) (by omega), show ((i : Int)).toNat = i from rfl, marks_set l a i hi]
      congr 1
      omega
  have := key 0 (Nat.zero_le _)
  refine Ev.congr (fun k => ?_) this
  unfold laws_markIntS.f
  simp [marks]
theorem heldIntS_ev (n : Nat) (a : Int) (hn : n ≤ 1048576) (h0 : 0 ≤ a) (h1 : a ≤ 4611686018427387904) : Ev (fun k => laws_heldIntS.f k (marks n a) a) (a + (n : Int)) := by
  have key : ∀ i, i ≤ n → Ev (fun k => laws_heldIntS.l0 k (marks n a) (a + (i : Int)) (i : Int)) (a + (n : Int)) := by
    refine down ?_ ?_
    · exact Ev.step (fun k => by rw [laws_heldIntS.l0, if_neg (by rw [marks_len]; omega)]) (Ev.now _)
    · intro i hi ih
      refine Ev.step (fun k => ?_) ih
      rw [laws_heldIntS.l0, if_pos (by rw [marks_len]; omega), if_pos (by omega), rdI _ i (by rw [marks_len]; exact hi), w64 (by omega) (by omega), w64 (by omega) (by omega), if_pos (by simp [marks])]
      congr 1
      omega
  have := key 0 (Nat.zero_le _)
  refine Ev.congr (fun k => ?_) this
  unfold laws_heldIntS.f
  simp
/-- Two that come to an end come to it together. -/
theorem ev_and {P Q : Nat → Prop} (h : ∃ K, ∀ k, K ≤ k → P k) (g : ∃ K, ∀ k, K ≤ k → Q k) : ∃ K, ∀ k, K ≤ k → P k ∧ Q k := by
  obtain ⟨K, h⟩ := h
  obtain ⟨L, g⟩ := g
  exact ⟨max K L, fun k hk => ⟨h k (by omega), g k (by omega)⟩⟩
end Go.Proofs.Ytpodhdpkdhcnoaa.PEnt
