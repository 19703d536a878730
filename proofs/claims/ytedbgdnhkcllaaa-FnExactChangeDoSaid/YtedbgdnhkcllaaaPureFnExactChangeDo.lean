/- FnExactChangeDo: on all cells, registers and deeds the program's ChangeDo tells what the reference's tells, in new memory; no condition. -/
import Derived.Test.YtedbgdnhkcllaaaPDesk
import Derived.Test.YtedbgdnhkcllaaaQRBx16
namespace Go.Proofs.Ytedbgdnhkcllaaa.Pure
open Go.RowKit Go.Proofs.Ytedbgdnhkcllaaa.QRB Go.Proofs.YtedbgdnhkcllaaaW.PrintWords Go.Proofs.YtedbgdnhkcllaaaW.PrintLast Go.Proofs.Ytedbgdnhkcllaaa.PDeed Go.Proofs.Ytedbgdnhkcllaaa.PDesk

theorem set_conv {α β : Type} (c : α → β) (z : β) (l : List α) (i : Nat) (hi : i < l.length) (y : β) (hy : y = c l[i]) :
    ((l.take i).map c ++ List.replicate (l.length - i) z).set i y = (l.take (i + 1)).map c ++ List.replicate (l.length - (i + 1)) z := by
  subst hy
  have e : l.length - i = (l.length - (i + 1)) + 1 := by omega
  have hm : ((l.take i).map c).length = i := by rw [List.length_map, List.length_take]; omega
  rw [e, List.replicate_succ, List.set_append_right _ _ (by omega), hm, Nat.sub_self, List.set_cons_zero, List.take_succ_eq_append_getElem hi, List.map_append, List.append_assoc]
  rfl
theorem conv_start {α β : Type} (c : α → β) (z : β) (l : List α) : List.replicate l.length z = (l.take 0).map c ++ List.replicate (l.length - 0) z := by simp
theorem conv_len {α β : Type} (c : α → β) (z : β) (l : List α) (i : Nat) (hi : i ≤ l.length) : ((l.take i).map c ++ List.replicate (l.length - i) z).length = l.length := by
  rw [List.length_append, List.length_map, List.length_take, List.length_replicate]
  omega
theorem conv_end {α β : Type} (c : α → β) (z : β) (l : List α) : (l.take l.length).map c ++ List.replicate (l.length - l.length) z = l.map c := by simp

theorem rdI (l : List Int) (i : Nat) (hi : i < l.length) : rd l (i : Int) = l[i] := by
  simp [rd, List.getD, hi]
theorem toIntS_ev (l : List Int) (hl : l.length ≤ 1048576) : Ev (fun k => laws_toIntS.f k l) l := by
  have key : ∀ i, i ≤ l.length → Ev (fun k => laws_toIntS.l0 k l ((l.take i).map id ++ List.replicate (l.length - i) 0) (i : Int)) (l.map id) := by
    refine down ?_ ?_
    · refine Ev.step (fun k => by rw [laws_toIntS.l0, if_neg (by omega)]) ?_
      rw [conv_end]
      exact Ev.now _
    · intro i hi ih
      refine Ev.step (fun k => ?_) ih
      rw [laws_toIntS.l0, if_pos (by omega), if_pos (by omega), if_pos (by rw [conv_len _ _ _ _ (by omega)]; omega), w64 (by omega) (by omega), rdI l i hi]
      exact congrArg (fun q => laws_toIntS.l0 k l q ((i : Int) + 1)) (set_conv id 0 l i hi _ rfl)
  have := key 0 (Nat.zero_le _)
  rw [← conv_start, List.map_id] at this
  refine Ev.congr (fun k => ?_) this
  unfold laws_toIntS.f
  rw [if_pos (by omega), if_pos (by omega)]
  rfl
theorem eqIntS_refl (l : List Int) (hl : l.length ≤ 9223372036854775807) : Ev (fun k => laws_eqIntS.f k l l) true := by
  have key : ∀ i, i ≤ l.length → Ev (fun k => laws_eqIntS.l0 k l l (i : Int)) true := by
    refine down ?_ ?_
    · exact Ev.step (fun k => by rw [laws_eqIntS.l0, if_neg (by omega)]) (Ev.now _)
    · intro i hi ih
      refine Ev.step (fun k => ?_) ih
      rw [laws_eqIntS.l0, if_pos (by omega), if_pos (by omega), if_pos (by omega), if_pos rfl, w64 (by omega) (by omega)]
      rfl
  refine Ev.congr (fun k => ?_) (key 0 (Nat.zero_le _))
  unfold laws_eqIntS.f
  rw [if_pos rfl]
  rfl

/-- The marks a, a + 1, .. -/
def marks (n : Nat) (a : Int) : List Int := (List.range n).map fun (i : Nat) => a + (i : Int)
theorem marks_len (n : Nat) (a : Int) : (marks n a).length = n := by simp [marks]
theorem marks_set (l : List Int) (a : Int) (i : Nat) (hi : i < l.length) : (marks i a ++ l.drop i).set i (a + i) = marks (i + 1) a ++ l.drop (i + 1) := by
  rw [List.set_append_right _ _ (by rw [marks_len]; exact Nat.le_refl _), marks_len, Nat.sub_self, List.drop_eq_getElem_cons hi, List.set_cons_zero]
  unfold marks
  rw [List.range_succ, List.map_append, List.append_assoc]
  rfl
theorem markIntS_ev (l : List Int) (a : Int) (hl : l.length ≤ 1048576) (h0 : 0 ≤ a) (h1 : a ≤ 4611686018427387904) : Ev (fun k => laws_markIntS.f k l a) (a + (l.length : Int), marks l.length a) := by
  have key : ∀ i, i ≤ l.length → Ev (fun k => laws_markIntS.l0 k (marks i a ++ l.drop i) (a + (i : Int)) (i : Int)) (a + (l.length : Int), marks l.length a) := by
    refine down ?_ ?_
    · refine Ev.step (fun k => by rw [laws_markIntS.l0, if_neg (by rw [List.length_append, marks_len, List.length_drop]; omega)]) ?_
      rw [List.drop_length, List.append_nil]
      exact Ev.now _
    · intro i hi ih
      refine Ev.step (fun k => ?_) ih
      rw [laws_markIntS.l0, if_pos (by rw [List.length_append, marks_len, List.length_drop]; omega), if_pos (by omega), w64 (by omega) (by omega), w64 (by omega) (by omega), show ((i : Int)).toNat = i from rfl, marks_set l a i hi]
      congr 1
      omega
  have := key 0 (Nat.zero_le _)
  refine Ev.congr (fun k => ?_) this
  unfold laws_markIntS.f
  simp [marks]
theorem heldIntS_ev (n : Nat) (a : Int) (hn : n ≤ 1048576) (h0 : 0 ≤ a) (h1 : a ≤ 4611686018427387904) : Ev (fun k => laws_heldIntS.f k (marks n a) a) (a + (n : Int)) := by
  have key : ∀ i, i ≤ n → Ev (fun k => laws_heldIntS.l0 k (marks n a) (a + (i : Int)) (i : Int)) (a + (n : Int)) := by
    refine down ?_ ?_
    · exact Ev.step (fun k => by rw [laws_heldIntS.l0, if_neg (by rw [marks_len]; omega)]) (Ev.now _)
    · intro i hi ih
      refine Ev.step (fun k => ?_) ih
      rw [laws_heldIntS.l0, if_pos (by rw [marks_len]; omega), if_pos (by omega), rdI _ i (by rw [marks_len]; exact hi), w64 (by omega) (by omega), w64 (by omega) (by omega), if_pos (by simp [marks])]
      congr 1
      omega
  have := key 0 (Nat.zero_le _)
  refine Ev.congr (fun k => ?_) this
  unfold laws_heldIntS.f
  simp
/-- Two that come to an end come to it together. -/
theorem ev_and {P Q : Nat → Prop} (h : ∃ K, ∀ k, K ≤ k → P k) (g : ∃ K, ∀ k, K ≤ k → Q k) : ∃ K, ∀ k, K ≤ k → P k ∧ Q k := by
  obtain ⟨K, h⟩ := h
  obtain ⟨L, g⟩ := g
  exact ⟨max K L, fun k hk => ⟨h k (by omega), g k (by omega)⟩⟩
def toD (x : S60) : S41 := ⟨x.f0, x.f1, x.f2⟩
theorem rdL (l : List S60) (i : Nat) (hi : i < l.length) : rd_T60 l (i : Int) = l[i] := by
  simp [rd_T60, List.getD, hi]
theorem toDeedS_ev (l : List S60) (hl : l.length ≤ 1048576) : Ev (fun k => laws_toDeedS.f k l) (l.map toD) := by
  have key : ∀ i, i ≤ l.length → Ev (fun k => laws_toDeedS.l0 k l ((l.take i).map toD ++ List.replicate (l.length - i) z41) (i : Int)) (l.map toD) := by
    refine down ?_ ?_
    · refine Ev.step (fun k => by rw [laws_toDeedS.l0, if_neg (by omega)]) ?_
      rw [conv_end]
      exact Ev.now _
    · intro i hi ih
      refine Ev.step (fun k => ?_) ih
      rw [laws_toDeedS.l0, if_pos (by omega), if_pos (by omega)]
      simp only [laws_toDeed.f, Option.bind_some]
      rw [if_pos (by rw [conv_len _ _ _ _ (by omega)]; omega), w64 (by omega) (by omega), rdL l i hi]
      exact congrArg (fun q => laws_toDeedS.l0 k l q ((i : Int) + 1)) (set_conv toD z41 l i hi _ rfl)
  have := key 0 (Nat.zero_le _)
  rw [← conv_start] at this
  refine Ev.congr (fun k => ?_) this
  unfold laws_toDeedS.f
  rw [if_pos (by omega), if_pos (by omega)]
  rfl
theorem eqDeedS_refl (l : List S41) (hl : l.length ≤ 9223372036854775807) : Ev (fun k => laws_eqDeedS.f k l l) true := by
  have key : ∀ i, i ≤ l.length → Ev (fun k => laws_eqDeedS.l0 k l l (i : Int)) true := by
    refine down ?_ ?_
    · exact Ev.step (fun k => by rw [laws_eqDeedS.l0, if_neg (by omega)]) (Ev.now _)
    · intro i hi ih
      refine Ev.step (fun k => ?_) ih
      rw [laws_eqDeedS.l0, if_pos (by omega), if_pos (by omega), if_pos (by omega)]
      simp only [laws_eqDeed.f, if_true, Option.bind_some]
      rw [w64 (by omega) (by omega)]
      rfl
  refine Ev.congr (fun k => ?_) (key 0 (Nat.zero_le _))
  unfold laws_eqDeedS.f
  rw [if_pos rfl]
  rfl
def ok60 (x : S60) : Prop := (Lit.int .i64 x.f0).wf = true ∧ (Lit.int .i64 x.f1).wf = true ∧ (Lit.int .i64 x.f2).wf = true

def mark1 (m : List S41) (i : Nat) (x : Int) : List S41 := m.set i ⟨x, (rd_T41 m (i : Int)).f1, (rd_T41 m (i : Int)).f2⟩
def mark2 (m : List S41) (i : Nat) (x : Int) : List S41 := m.set i ⟨(rd_T41 m (i : Int)).f0, x, (rd_T41 m (i : Int)).f2⟩
def mark3 (m : List S41) (i : Nat) (x : Int) : List S41 := m.set i ⟨(rd_T41 m (i : Int)).f0, (rd_T41 m (i : Int)).f1, x⟩
theorem markDeedS_ev : ∀ (l : List S41) (a : Int), l.length ≤ 1048576 → 0 ≤ a → a ≤ 4611686018427387904 → ∃ l', Ev (fun k => laws_markDeedS.f k l a) (a + 3 * (l.length : Int), l') := by
  intro l a hl h0 h1
  have key : ∀ i, i ≤ l.length → ∀ m : List S41, m.length = l.length → ∃ l', Ev (fun k => laws_markDeedS.l0 k m (a + 3 * (i : Int)) (i : Int)) (a + 3 * (l.length : Int), l') := by
    refine down ?_ ?_
    · intro m hm
      exact ⟨m, Ev.step (fun k => by rw [laws_markDeedS.l0, if_neg (by omega)]) (Ev.now _)⟩
    · intro i hi ih m hm
      have e1 : wrap64 (a + 3 * (i : Int) + 1) = a + 3 * (i : Int) + 1 := w64 (by omega) (by omega)
      have e2 : wrap64 (a + 3 * (i : Int) + 1 + 1) = a + 3 * (i : Int) + 1 + 1 := w64 (by omega) (by omega)
      have e3 : wrap64 (a + 3 * (i : Int) + 1 + 1 + 1) = a + 3 * ((i + 1 : Nat) : Int) := by rw [w64 (by omega) (by omega)]; omega
      have e4 : wrap64 ((i : Int) + 1) = ((i + 1 : Nat) : Int) := by rw [w64 (by omega) (by omega)]; rfl
      obtain ⟨l', h⟩ := ih (mark3 (mark2 (mark1 m i (a + 3 * (i : Int))) i (a + 3 * (i : Int) + 1)) i (a + 3 * (i : Int) + 1 + 1)) (by unfold mark1 mark2 mark3; rw [List.length_set, List.length_set, List.length_set]; exact hm)
      exact ⟨l', Ev.step (fun k => by rw [laws_markDeedS.l0, if_pos (by omega), if_pos (by omega), e1, e2, e3, e4]) (by exact Ev.bind (Ev.now _) (Ev.bind (Ev.now _) h))⟩
  obtain ⟨l', h⟩ := key 0 (Nat.zero_le _) l rfl
  refine ⟨l', Ev.congr (fun k => ?_) h⟩
  unfold laws_markDeedS.f
  simp
theorem FnExactChangeDo (l0 l1 : List Int) (l2 : List S60) (_hok0 : l0.length ≤ 9223372036854775807 ∧ ∀ a ∈ l0, (Lit.int .i64 a).wf = true) (_hok1 : l1.length ≤ 9223372036854775807 ∧ ∀ a ∈ l1, (Lit.int .i64 a).wf = true) (hok2 : l2.length ≤ 9223372036854775807 ∧ ∀ x ∈ l2, ok60 x) : ∃ k, laws_FnExactChangeDo.f k l0 l1 l2 = some true := by
  refine Ev.rounds (g := fun k => laws_FnExactChangeDo.f k l0 l1 l2) ?_
  have h2 := hok2.1
  unfold laws_FnExactChangeDo.f laws_szDeedS.f
  by_cases c0 : (l0.length : Int) > 1048576
  · exact ev_pos c0 (Ev.now _)
  refine ev_neg c0 ?_
  by_cases c1 : (l1.length : Int) > 1048576
  · exact ev_pos c1 (Ev.now _)
  refine ev_neg c1 ?_
  have hw : wrap64 (1048576 - (l2.length : Int)) = 1048576 - (l2.length : Int) := w64 (by omega) (by omega)
  rw [hw]
  by_cases c2 : 1048576 - (l2.length : Int) < 0
  · rw [if_pos c2]
    exact Ev.bind (Ev.now _) (ev_pos (by omega) (Ev.now _))
  rw [if_neg c2]
  refine Ev.bind (Ev.now _) (ev_neg c2 ?_)
  have e0 := toIntS_ev l0 (by omega)
  have e1 := toIntS_ev l1 (by omega)
  have e2 := toDeedS_ev l2 (by omega)
  have hl2 : (l2.map toD).length ≤ 1048576 := by rw [List.length_map]; omega
  have s := specDo_ev l0 l1 (l2.map toD) (by omega) (by omega) (by omega)
  have g := implDo_ev l0 l1 (l2.map toD) (by omega) (by omega) (by omega)
  obtain ⟨n0, n1⟩ := chDo_short l0 l1 (l2.map toD) (by omega)
  generalize chDo l0 l1 (l2.map toD) = R at s g n0 n1
  have q0 := eqIntS_refl R.1 (by omega)
  have q1 := eqIntS_refl R.2.1 (by omega)
  refine Ev.bind e0 (Ev.bind e1 (Ev.bind e2 (Ev.bind s (Ev.bind e0 (Ev.bind e1 (Ev.bind e2 (Ev.bind g (Ev.bind q0 (ev_pos rfl (Ev.bind q1 (ev_pos rfl ?_)))))))))))
  have m0 := markIntS_ev l0 1 (by omega) (by omega) (by omega)
  have m1 := markIntS_ev l1 (1 + (l0.length : Int)) (by omega) (by omega) (by omega)
  obtain ⟨l', m2⟩ := markDeedS_ev (l2.map toD) (1 + (l0.length : Int) + (l1.length : Int)) hl2 (by omega) (by omega)
  refine Ev.step (fun k => by rw [bne_self_eq_false, laws_FnExactChangeDo.j0, if_neg Bool.false_ne_true]) ?_
  refine Ev.bind e0 (Ev.bind (eqIntS_refl l0 (by omega)) (ev_pos rfl (Ev.bind e1 (Ev.bind (eqIntS_refl l1 (by omega)) (ev_pos rfl (Ev.bind e2 (Ev.bind (eqDeedS_refl _ (by omega)) (ev_pos rfl ?_))))))))
  refine Ev.bind m0 (Ev.bind m1 (Ev.bind m2 (ev_neg (by dsimp only; omega) (Ev.bind q0 (ev_pos rfl (Ev.bind q1 (ev_pos rfl ?_)))))))
  have k0 := markIntS_ev R.1 1 (by omega) (by omega) (by omega)
  have k1 := markIntS_ev R.2.1 (1 + (R.1.length : Int)) (by omega) (by omega) (by omega)
  have t0 := heldIntS_ev R.1.length 1 (by omega) (by omega) (by omega)
  have t1 := heldIntS_ev R.2.1.length (1 + (R.1.length : Int)) (by omega) (by omega) (by omega)
  refine Ev.step (fun k => by rw [bne_self_eq_false, laws_FnExactChangeDo.j1, if_neg Bool.false_ne_true]) ?_
  refine Ev.bind k0 (Ev.bind k1 (Ev.bind t0 (ev_neg (by omega) (Ev.bind t1 (ev_neg (by omega) (ev_pos rfl ?_))))))
  refine Ev.bind e0 (Ev.bind e1 (Ev.bind e2 (Ev.bind g (Ev.bind q0 (ev_pos rfl (Ev.bind q1 (ev_pos rfl ?_)))))))
  refine Ev.step (fun k => by rw [bne_self_eq_false, laws_FnExactChangeDo.j2, if_neg Bool.false_ne_true]) ?_
  exact Ev.bind t0 (ev_neg (by omega) (Ev.bind t1 (ev_neg (by omega) (ev_pos rfl (Ev.now _)))))
end Go.Proofs.Ytedbgdnhkcllaaa.Pure
