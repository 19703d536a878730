/- FnChangeReads: on every drawn change program and reference do the same; and where cells that a change does not read have other numbers it does the same to registers and to what it stores. -/
import Derived.Test.YtedbgdnhkcllaaaPSets
import Derived.Test.YtedbgdnhkcllaaaQRBx27
namespace Go.Proofs.Ytedbgdnhkcllaaa.Pure
open Go.RowKit Go.Proofs.Ytedbgdnhkcllaaa.QRB Go.Proofs.YtedbgdnhkcllaaaW.PrintWords Go.Proofs.YtedbgdnhkcllaaaW.PrintLast Go.Proofs.Ytedbgdnhkcllaaa.PDeed Go.Proofs.Ytedbgdnhkcllaaa.PDraw Go.Proofs.Ytedbgdnhkcllaaa.PChange Go.Proofs.Ytedbgdnhkcllaaa.PSets

theorem set_get {l : List Int} {i j : Nat} {x : Int} (hi : i < l.length) : (l.set i x).getD j 0 = if i = j then x else l.getD j 0 := by
  rw [List.getD_eq_getElem?_getD, List.getD_eq_getElem?_getD, List.getElem?_set]
  by_cases h : i = j
  · subst h; simp [hi]
  · simp [h]
/-- Cells that have the same where it matters: so they have behind a deed. -/
theorem step_same {q : S41} {A : Int → Prop} {c r c' r' o : List Int} (e : deskStep q c r = some (c', r', true)) (hl : o.length = c.length) (hA : ∀ n : Nat, A (n : Int) → o.getD n 0 = c.getD n 0)
    (hq : q.f0 = 1 → A q.f2) :
    ∃ o', deskStep q o r = some (o', r', true) ∧ o'.length = c'.length ∧ (∀ n : Nat, (A (n : Int) ∨ (q.f0 = 2 ∧ q.f1 = (n : Int))) → o'.getD n 0 = c'.getD n 0) := by
  unfold deskStep at e ⊢
  by_cases h1 : q.f0 = 1
  · rw [if_pos h1] at e ⊢
    split at e
    · rename_i g
      obtain ⟨rfl, rfl⟩ : c = c' ∧ _ = r' := by simpa using e
      have := hA q.f2.toNat (by rw [show ((q.f2.toNat : Nat) : Int) = q.f2 by omega]; exact hq h1)
      rw [if_pos (by omega), this]
      exact ⟨o, rfl, hl, fun n h => hA n (h.resolve_right (fun e => by omega))⟩
    · cases e
  rw [if_neg h1] at e ⊢
  by_cases h2 : q.f0 = 2
  · rw [if_pos h2] at e ⊢
    split at e
    · rename_i g
      obtain ⟨rfl, rfl⟩ : _ = c' ∧ r = r' := by simpa using e
      rw [if_pos (by omega)]
      refine ⟨_, rfl, by rw [List.length_set, List.length_set]; exact hl, fun n h => ?_⟩
      rw [set_get (by omega), set_get (by omega)]
      by_cases hn : q.f1.toNat = n
      · rw [if_pos hn, if_pos hn, List.getD_eq_getElem?_getD]
      · rw [if_neg hn, if_neg hn]
        exact hA n (h.resolve_right (fun e => hn (by omega)))
    · cases e
  rw [if_neg h2] at e ⊢
  have hno : ∀ n : Nat, (A (n : Int) ∨ (q.f0 = 2 ∧ q.f1 = (n : Int))) → o.getD n 0 = c.getD n 0 := fun n h => hA n (h.resolve_right (fun e => h2 e.1))
  by_cases h3 : q.f0 = 3
  · rw [if_pos h3] at e ⊢
    split at e
    · rename_i g
      obtain ⟨rfl, rfl⟩ : c = c' ∧ _ = r' := by simpa using e
      rw [if_pos (by omega)]
      exact ⟨o, rfl, hl, hno⟩
    · cases e
  rw [if_neg h3] at e ⊢
  by_cases h4 : q.f0 = 4
  · rw [if_pos h4] at e ⊢
    split at e
    · rename_i g
      obtain ⟨rfl, rfl⟩ : c = c' ∧ _ = r' := by simpa using e
      rw [if_pos (by omega)]
      exact ⟨o, rfl, hl, hno⟩
    · cases e
  rw [if_neg h4] at e ⊢
  by_cases h5 : q.f0 = 5
  · rw [if_pos h5] at e ⊢
    split at e
    · rename_i g
      obtain ⟨rfl, rfl, h6⟩ : c = c' ∧ r = r' ∧ ¬ r[q.f1.toNat]?.getD 0 = 0 := by simpa using e
      rw [if_pos (by omega)]
      refine ⟨o, ?_, hl, hno⟩
      simpa using h6
    · cases e
  rw [if_neg h5] at e
  cases e
theorem run_same : ∀ {l : List S41} {W : Int → Prop} {c r c' r' o : List Int}, deskRun l c r = some (c', r', true) → o.length = c.length → (∀ n : Nat, (Reads W l (n : Int) ∨ W (n : Int)) → o.getD n 0 = c.getD n 0) → (∀ q ∈ l, q.f0 = 1 → 0 ≤ q.f2) →
    ∃ o', deskRun l o r = some (o', r', true) ∧ o'.length = c'.length ∧ ∀ n : Nat, (W (n : Int) ∨ Stores l (n : Int)) → o'.getD n 0 = c'.getD n 0
  | [], W, c, r, c', r', o, h, hl, hA, _ => by
    obtain ⟨rfl, rfl⟩ : c = c' ∧ r = r' := by simpa [deskRun] using h
    exact ⟨o, rfl, hl, fun n hn => hA n (.inr (hn.resolve_right (fun ⟨_, h, _⟩ => by cases h)))⟩
  | q :: l, W, c, r, c', r', o, h, hl, hA, h0 => by
    rw [deskRun] at h
    obtain ⟨⟨c2, r2, b2⟩, e1, e2⟩ := Option.bind_eq_some_iff.1 h
    cases b2 with
    | false => simp at e2
    | true =>
      obtain ⟨o2, f1, l2, f2⟩ := step_same (A := fun z => Reads W (q :: l) z ∨ W z) e1 hl hA (fun h1 => by
        by_cases hw : W q.f2
        · exact .inr hw
        · exact .inl (.inl ⟨h1, rfl, hw⟩))
      obtain ⟨o3, g1, l3, g2⟩ := run_same (W := fun z => W z ∨ (q.f0 = 2 ∧ q.f1 = z)) (by simpa using e2) l2 (fun n hn => f2 n (by
        rcases hn with hn | hn | hn
        · exact .inl (.inl (.inr hn))
        · exact .inl (.inr hn)
        · exact .inr hn)) (fun s hs => h0 s (List.mem_cons_of_mem _ hs))
      refine ⟨o3, by rw [deskRun, f1]; simpa using g1, l3, fun n hn => g2 n ?_⟩
      rcases hn with hn | hn
      · exact .inl (.inl hn)
      · rcases stores_cons.1 hn with hn | hn
        · exact .inl (.inr hn)
        · exact .inr hn
/-- The other cells. -/
def turn (v : List Int) : Nat → List Int → List Int
  | _, [] => []
  | i, x :: l => (if (i : Int) ∈ v then x else (x + 1) % 100) :: turn v (i + 1) l
theorem turn_len (v : List Int) : ∀ (i : Nat) (l : List Int), (turn v i l).length = l.length
  | _, [] => rfl
  | i, x :: l => by rw [turn, List.length_cons, turn_len v, List.length_cons]
theorem turn_numB (v : List Int) : ∀ (i : Nat) (l : List Int), numB l = true → numB (turn v i l) = true
  | _, [], _ => rfl
  | i, x :: l, h => by
    rw [numB_iff] at h ⊢
    have h1 := h x List.mem_cons_self
    have h2 := turn_numB v (i + 1) l (numB_iff.2 (fun y hy => h y (List.mem_cons_of_mem _ hy)))
    rw [numB_iff] at h2
    intro y hy
    rw [turn] at hy
    rcases List.mem_cons.1 hy with rfl | hy
    · split <;> omega
    · exact h2 y hy
theorem turn_get (v : List Int) : ∀ (i : Nat) (l : List Int) (n : Nat), (((i + n : Nat) : Int) ∈ v) → (turn v i l).getD n 0 = l.getD n 0
  | _, [], n, _ => rfl
  | i, x :: l, 0, h => by
    rw [turn, if_pos (by simpa using h)]
    rfl
  | i, x :: l, n + 1, h => by
    have := turn_get v (i + 1) l n (by rw [show i + 1 + n = i + (n + 1) by omega]; exact h)
    rw [turn]
    simpa using this
theorem other_ev (r x y : List Int) (d : List S41) (v s : List Int) (hv : v.length ≤ 10000) :
    ∀ (l pre : List Int), numB l = true → pre.length + l.length ≤ 10000 → Ev (fun k => laws_FnChangeReads.l0 k r d x y v s (pre ++ turn v pre.length l) ((pre.length + l.length : Nat) : Int)) true → Ev (fun k => laws_FnChangeReads.l0 k r d x y v s (pre ++ l) (pre.length : Int)) true
  | [], pre, _, _, h => by simpa [turn] using h
  | a :: l, pre, hn, hl, h => by
    have e := lqHas_ev v (pre.length : Int) (by omega)
    have hw : wrap64 ((pre.length : Int) + 1) = ((pre.length + 1 : Nat) : Int) := by rw [w64 (by omega) (by omega)]; rfl
    rw [List.length_cons] at hl h
    have ha : 0 ≤ a ∧ a ≤ 99 := numB_iff.1 hn a List.mem_cons_self
    have hn2 : numB l = true := numB_iff.2 (fun z hz => numB_iff.1 hn z (List.mem_cons_of_mem _ hz))
    have hlen : (pre.length : Int) < ((pre ++ a :: l).length : Int) := by rw [List.length_append, List.length_cons]; omega
    by_cases hm : (pre.length : Int) ∈ v
    · have ih := other_ev r x y d v s hv l (pre ++ [a]) hn2 (by rw [List.length_append, List.length_singleton]; omega) (by
        rw [List.length_append, List.length_singleton, List.append_assoc, show pre.length + 1 + l.length = pre.length + (l.length + 1) by omega]
        rw [turn, if_pos hm] at h
        exact h)
      rw [List.length_append, List.length_singleton, List.append_assoc] at ih
      rw [decide_eq_true hm] at e
      exact Ev.step (fun k => by rw [laws_FnChangeReads.l0, if_pos hlen, hw]) (by exact Ev.bind e (ev_pos rfl ih))
    · have ih := other_ev r x y d v s hv l (pre ++ [(a + 1) % 100]) hn2 (by rw [List.length_append, List.length_singleton]; omega) (by
        rw [List.length_append, List.length_singleton, List.append_assoc, show pre.length + 1 + l.length = pre.length + (l.length + 1) by omega]
        rw [turn, if_neg hm] at h
        exact h)
      rw [List.length_append, List.length_singleton, List.append_assoc] at ih
      rw [decide_eq_false hm] at e
      have hr : rd (pre ++ a :: l) (pre.length : Int) = a := by simp [rd, List.getD]
      have hs : (pre ++ a :: l).set (pre.length : Int).toNat (Int.tmod (wrap64 (a + 1)) 100) = pre ++ ([(a + 1) % 100] ++ l) := by
        rw [Int.toNat_natCast, List.set_append_right _ _ (Nat.le_refl _), Nat.sub_self, List.set_cons_zero, w64 (by omega) (by omega), Int.tmod_eq_emod_of_nonneg (by omega)]
        rfl
      exact Ev.step (fun k => by rw [laws_FnChangeReads.l0, if_pos hlen, hw, hr, hs]) (by exact Ev.bind e (ev_neg Bool.false_ne_true (ev_pos (by omega) ih)))
theorem puts_ev (x y a s : List Int) (hy : y.length ≤ 10000) (hs : s.length ≤ 10000) (h : ∀ z ∈ s, 0 ≤ z ∧ z < (a.length : Int) ∧ z < (x.length : Int) ∧ rd a z = rd x z) : ∀ i : Nat, i ≤ s.length → Ev (fun k => laws_FnChangeReads.l1 k x y s a y true (i : Int)) true := by
  refine down ?_ ?_
  · exact Ev.step (fun k => by rw [laws_FnChangeReads.l1, if_neg (by omega)]) (Ev.step (fun k => by rw [laws_FnChangeReads.j3, if_neg Bool.false_ne_true, if_pos rfl]) (by exact Ev.bind (lqInts_refl y (by omega)) (Ev.now _)))
  · intro i hi ih
    have hw : wrap64 ((i : Int) + 1) = ((i + 1 : Nat) : Int) := by rw [w64 (by omega) (by omega)]; rfl
    obtain ⟨h1, h2, h3, h4⟩ := h s[i] (List.getElem_mem hi)
    rw [← rdN s i hi] at h1 h2 h3 h4
    exact Ev.step (fun k => by rw [laws_FnChangeReads.l1, if_pos (by omega)]) (Ev.step (fun k => by rw [laws_FnChangeReads.j3, if_pos rfl, if_pos (by omega), if_pos (by omega), if_pos h1, if_pos h2, if_pos h3, if_pos h4, hw]) ih)
theorem FnChangeReads : laws_FnChangeReads.Pure := by
  intro l0 _ _ w0
  refine Ev.rounds (g := fun k => laws_FnChangeReads.f k l0) ?_
  unfold laws_FnChangeReads.f
  by_cases h : (l0.length : Int) > 1048576
  · exact ev_pos h (Ev.now _)
  obtain ⟨⟨c, r, d⟩, e, hc, hr, hd⟩ := DrawChangeDo_ev l0 w0
  dsimp only at hc hr hd
  refine ev_neg h (Ev.bind e (Ev.bind (specDo_ev c r d (by omega) (by omega) (by omega)) (Ev.bind (implDo_ev c r d (by omega) (by omega) (by omega)) ?_)))
  obtain ⟨lx, ly, hok⟩ := chDo_len c r d (by omega) (by omega)
  refine ev_neg (by simp) (Ev.bind (lqInts_refl _ (by omega)) (ev_pos rfl (Ev.bind (lqInts_refl _ (by omega)) (ev_pos rfl ?_))))
  dsimp only
  cases hb : (chDo c r d).2.2 with
  | false =>
    refine Ev.step (fun k => by rw [Bool.not_false, laws_FnChangeReads.j0, if_pos rfl]) ?_
    exact ev_pos rfl (Ev.bind (lqInts_refl _ (by omega)) (ev_pos rfl (Ev.bind (lqInts_refl _ (by omega)) (Ev.now _))))
  | true =>
    obtain ⟨hf, hrun, hst⟩ := hok hb
    obtain ⟨hk, hs⟩ := fits_iff.1 hf
    generalize (chDo c r d).1 = x at hrun hst
    generalize (chDo c r d).2.1 = y at hrun hst
    obtain ⟨v, ev, uv, mv, lv⟩ := reads_ev d (by omega)
    obtain ⟨s, es, us, ms, ls⟩ := writes_ev d (by omega)
    have hall := (okC_iff.1 hk).2.2
    obtain ⟨o', ho, hlo, hso⟩ := run_same (W := fun _ => False) (o := turn v 0 c) hrun (turn_len v 0 c) (fun n hn => turn_get v 0 c n (by rw [Nat.zero_add]; exact (mv _).2 (hn.resolve_right id))) (fun q hq h1 => by
      have := hall q hq
      unfold dB deedB at this
      rw [if_pos h1, Bool.and_eq_true, inB_true, inB_true] at this
      omega)
    have hfit : fits (turn v 0 c) r d = true := fits_iff.2 ⟨by rw [turn_len]; exact hk, ⟨rfl, turn_numB v 0 c hs.1.2⟩, hs.2⟩
    have hdo := implDo_ev (turn v 0 c) r d (by rw [turn_len]; omega) (by omega) (by omega)
    rw [chDo_of hfit ho] at hdo
    refine Ev.step (fun k => by rw [Bool.not_true, laws_FnChangeReads.j0, if_neg Bool.false_ne_true]) ?_
    refine Ev.bind ev (Ev.bind es (Ev.bind (Ev.now []) (ev_pos (by rw [List.length_nil]; omega) ?_)))
    have := other_ev r x y d v s (by omega) c [] hs.1.2 (by rw [List.length_nil]; omega) (by
      rw [List.nil_append, List.length_nil, Nat.zero_add]
      refine Ev.step (fun k => by rw [laws_FnChangeReads.l0, if_neg (by rw [turn_len]; omega)]) ?_
      refine Ev.bind hdo ?_
      exact puts_ev x y o' s (by have := hst.2.1; omega) (by omega) (fun z hz => by
        obtain ⟨q, hq, h2, rfl⟩ := (ms z).1 hz
        have := hall q hq
        unfold dB deedB at this
        rw [if_neg (by omega), if_pos h2, Bool.and_eq_true, inB_true, inB_true] at this
        have lc := hst.1.1
        refine ⟨by omega, by omega, by omega, ?_⟩
        have := hso q.f1.toNat (.inr ⟨q, hq, h2, by omega⟩)
        exact this) 0 (Nat.zero_le _))
    exact this
end Go.Proofs.Ytedbgdnhkcllaaa.Pure
