/- Plain lemmas: what the reference tells of reads and stores; drawn deeds. -/
import Derived.Test.YtedbgdnhkcllaaaPSets
import Derived.Test.YtedbgdnhkcllaaaU2
namespace Go.Proofs.Ytedbgdnhkcllaaa.PSets
open Go.RowKit Go.Proofs.Ytedbgdnhkcllaaa.QRB Go.Proofs.YtedbgdnhkcllaaaW.PrintWords Go.Proofs.YtedbgdnhkcllaaaW.PrintLast Go.Proofs.Ytedbgdnhkcllaaa.PDeed Go.Proofs.Ytedbgdnhkcllaaa.PDraw Go.Proofs.Ytedbgdnhkcllaaa.PChange

theorem lqWithin_ev (a b : List Int) (ha : a.length ≤ 9223372036854775806) (hb : b.length ≤ 9223372036854775806) (h : ∀ x ∈ a, x ∈ b) : Ev (fun k => laws_lqWithin.f k a b) true := by
  have key : ∀ i, i ≤ a.length → Ev (fun k => laws_lqWithin.l0 k a b (i : Int)) true := by
    refine down ?_ ?_
    · exact Ev.step (fun k => by rw [laws_lqWithin.l0, if_neg (by omega)]) (Ev.now _)
    · intro i hi ih
      have e := lqHas_ev b a[i] hb
      rw [decide_eq_true (h _ (List.getElem_mem hi)), ← rdN a i hi] at e
      refine Ev.step (fun k => by rw [laws_lqWithin.l0, if_pos (by omega), if_pos (by omega), w64 (by omega) (by omega)]) ?_
      exact Ev.bind e (ev_pos rfl ih)
  exact key 0 (Nat.zero_le _)
theorem lqUp_ev (l : List Int) (hl : l.length ≤ 9223372036854775806) (h : Up l) : Ev (fun k => laws_lqUp.f k l) true := by
  have key : ∀ m i : Nat, i + m = l.length → Ev (fun k => laws_lqUp.l0 k l ((i + 1 : Nat) : Int)) true := by
    intro m
    induction m with
    | zero => intro i hi; exact Ev.step (fun k => by rw [laws_lqUp.l0, if_neg (by omega)]) (Ev.now _)
    | succ m ih =>
      intro i hi
      by_cases h1 : i + 1 < l.length
      · refine Ev.step (fun k => ?_) (ih (i + 1) (by omega))
        have e : wrap64 (((i + 1 : Nat) : Int) - 1) = (i : Int) := by rw [w64 (by omega) (by omega)]; omega
        rw [laws_lqUp.l0, if_pos (by omega), e, if_pos (by omega), if_pos (by omega), if_pos (by omega), rdN l i (by omega), rdN l (i + 1) h1, if_neg (by have := up_get h (show i < i + 1 by omega) h1; omega), w64 (by omega) (by omega)]
        rfl
      · exact Ev.step (fun k => by rw [laws_lqUp.l0, if_neg (by omega)]) (Ev.now _)
  exact key l.length 0 (by omega)
/-! ### by the reference -/
theorem l2Sort_ev (l : List Int) (hl : l.length ≤ 9223372036854775806) : Ev (fun k => spec_l2Sort.f k l) ([0, 1, 2].filter fun x => decide (x ∈ l)) := by
  unfold spec_l2Sort.f
  have step : ∀ (out : List Int) (i : Nat), i < 3 → out.length ≤ i → ∀ r, Ev (fun k => spec_l2Sort.l0 k l (out ++ ([(i : Int)].filter fun x => decide (x ∈ l))) ((i + 1 : Nat) : Int)) r → Ev (fun k => spec_l2Sort.l0 k l out (i : Int)) r := by
    intro out i hi ho r h
    have e := l2Has_ev l (i : Int) hl
    have hw : wrap64 ((i : Int) + 1) = ((i + 1 : Nat) : Int) := by rw [w64 (by omega) (by omega)]; rfl
    refine Ev.step (fun k => by rw [spec_l2Sort.l0, if_pos (by omega), hw]) ?_
    by_cases hm : (i : Int) ∈ l
    · rw [decide_eq_true hm] at e
      have : ([(i : Int)].filter fun x => decide (x ∈ l)) = [(i : Int)] := by simp [hm]
      rw [this] at h
      exact Ev.bind e (ev_pos rfl (ev_pos (by omega) h))
    · rw [decide_eq_false hm] at e
      have : ([(i : Int)].filter fun x => decide (x ∈ l)) = [] := by simp [hm]
      rw [this, List.append_nil] at h
      exact Ev.bind e (ev_neg Bool.false_ne_true h)
  have hf : ∀ i : Int, ([i].filter fun x => decide (x ∈ l)).length ≤ 1 := fun i => List.length_filter_le _ _
  refine step [] 0 (by omega) (by simp) _ (step _ 1 (by omega) (by rw [List.nil_append]; exact hf _) _ (step _ 2 (by omega) (by rw [List.nil_append, List.length_append]; have h1 := hf ((0 : Nat) : Int); have h2 := hf ((1 : Nat) : Int); omega) _ ?_))
  refine Ev.step (fun k => by rw [spec_l2Sort.l0, if_neg (by omega)]) ?_
  rw [List.nil_append, ← List.filter_append, ← List.filter_append]
  exact Ev.now _
theorem sort_up (l : List Int) : Up ([0, 1, 2].filter fun x => decide (x ∈ l)) := List.Pairwise.sublist List.filter_sublist (by simp)
theorem sort_mem (l : List Int) (y : Int) : y ∈ ([0, 1, 2].filter fun x => decide (x ∈ l)) ↔ y ∈ l ∧ 0 ≤ y ∧ y ≤ 2 := by
  rw [List.mem_filter, decide_eq_true_iff]
  constructor
  · rintro ⟨h, h2⟩
    refine ⟨h2, ?_⟩
    simp at h
    omega
  · rintro ⟨h, h2, h3⟩
    refine ⟨?_, h⟩
    simp
    omega
theorem specWrites_ev (d : List S41) (hd : d.length ≤ 10000) : ∃ r : List Int, Ev (fun k => spec_ChangeWrites.f k d) r ∧ Up r ∧ ∀ y, y ∈ r ↔ Stores d y ∧ 0 ≤ y ∧ y ≤ 2 := by
  have key : ∀ i, i ≤ d.length → ∀ l : List Int, l.length ≤ i → ∃ r : List Int, Ev (fun k => spec_ChangeWrites.l0 k d l (i : Int)) r ∧ Up r ∧ ∀ y, y ∈ r ↔ (y ∈ l ∨ Stores (d.drop i) y) ∧ 0 ≤ y ∧ y ≤ 2 := by
    refine down ?_ ?_
    · intro l hl
      refine ⟨_, Ev.step (fun k => by rw [spec_ChangeWrites.l0, if_neg (by omega)]) (by exact Ev.bind (l2Sort_ev l (by omega)) (Ev.now _)), sort_up l, fun y => ?_⟩
      rw [sort_mem, List.drop_length]
      exact and_congr_left fun _ => ⟨.inl, fun h => h.elim id (fun ⟨_, h, _⟩ => by cases h)⟩
    · intro i hi ih l hl
      have hr := rdD d i hi
      have hw : wrap64 ((i : Int) + 1) = ((i + 1 : Nat) : Int) := by rw [w64 (by omega) (by omega)]; rfl
      rw [List.drop_eq_getElem_cons hi]
      generalize d[i] = q at hr
      by_cases h2 : q.f0 = 2
      · obtain ⟨r, er, ur, mr⟩ := ih (l ++ [q.f1]) (by rw [List.length_append, List.length_singleton]; omega)
        refine ⟨r, Ev.step (fun k => by rw [spec_ChangeWrites.l0, if_pos (by omega), if_pos (by omega), hr, if_pos h2, if_pos (by omega), hw]) er, ur, fun y => ?_⟩
        rw [mr, stores_cons, List.mem_append, List.mem_singleton, or_assoc]
        exact and_congr_left fun _ => or_congr_right (or_congr_left ⟨fun e => ⟨h2, e.symm⟩, fun e => e.2.symm⟩)
      · obtain ⟨r, er, ur, mr⟩ := ih l (by omega)
        refine ⟨r, Ev.step (fun k => by rw [spec_ChangeWrites.l0, if_pos (by omega), if_pos (by omega), hr, if_neg h2, hw]) er, ur, fun y => ?_⟩
        rw [mr, stores_cons]
        exact and_congr_left fun _ => or_congr_right ⟨.inr, fun h => h.resolve_left (not_both h2 y)⟩
  obtain ⟨r, er, ur, mr⟩ := key 0 (Nat.zero_le _) [] (Nat.zero_le _)
  exact ⟨r, er, ur, fun y => by rw [mr]; simp⟩
theorem specReads_ev (d : List S41) (hd : d.length ≤ 10000) : ∃ r : List Int, Ev (fun k => spec_ChangeReads.f k d) r ∧ Up r ∧ ∀ y, y ∈ r ↔ Reads (fun _ => False) d y ∧ 0 ≤ y ∧ y ≤ 2 := by
  have key : ∀ i, i ≤ d.length → ∀ a l : List Int, a.length ≤ i → l.length ≤ i → ∃ r : List Int, Ev (fun k => spec_ChangeReads.l0 k d a l (i : Int)) r ∧ Up r ∧ ∀ y, y ∈ r ↔ (y ∈ a ∨ Reads (fun z => z ∈ l) (d.drop i) y) ∧ 0 ≤ y ∧ y ≤ 2 := by
    refine down ?_ ?_
    · intro a l la hl
      refine ⟨_, Ev.step (fun k => by rw [spec_ChangeReads.l0, if_neg (by omega)]) (by exact Ev.bind (l2Sort_ev a (by omega)) (Ev.now _)), sort_up a, fun y => ?_⟩
      rw [sort_mem, List.drop_length]
      exact and_congr_left fun _ => ⟨.inl, fun h => h.elim id (fun h => h.elim)⟩
    · intro i hi ih a l la hl
      have hr := rdD d i hi
      have hw : wrap64 ((i : Int) + 1) = ((i + 1 : Nat) : Int) := by rw [w64 (by omega) (by omega)]; rfl
      rw [List.drop_eq_getElem_cons hi]
      generalize d[i] = q at hr
      by_cases h1 : q.f0 = 1
      · have eh := l2Has_ev l q.f2 (by omega)
        have hz : ∀ z, (z ∈ l ∨ q.f0 = 2 ∧ q.f1 = z) ↔ z ∈ l := fun z => ⟨fun h => h.elim id (fun e => absurd e.1 (by omega)), .inl⟩
        by_cases hm : q.f2 ∈ l
        · obtain ⟨r, er, ur, mr⟩ := ih a l (by omega) (by omega)
          rw [decide_eq_true hm] at eh
          refine ⟨r, Ev.step (fun k => by rw [spec_ChangeReads.l0, if_pos (by omega), if_pos (by omega), hr, if_pos h1, hw]) (by exact Ev.bind eh (ev_pos rfl er)), ur, fun y => ?_⟩
          rw [mr]
          exact and_congr_left fun _ => or_congr_right ⟨fun h => .inr ((reads_congr hz y).2 h), fun h => h.elim (fun ⟨_, e, n⟩ => absurd (e ▸ hm) n) (fun h => (reads_congr hz y).1 h)⟩
        · obtain ⟨r, er, ur, mr⟩ := ih (a ++ [q.f2]) l (by rw [List.length_append, List.length_singleton]; omega) (by omega)
          rw [decide_eq_false hm] at eh
          refine ⟨r, Ev.step (fun k => by rw [spec_ChangeReads.l0, if_pos (by omega), if_pos (by omega), hr, if_pos h1, hw]) (by exact Ev.bind eh (ev_neg Bool.false_ne_true (ev_pos (by omega) er))), ur, fun y => ?_⟩
          rw [mr, List.mem_append, List.mem_singleton, or_assoc]
          exact and_congr_left fun _ => or_congr_right (or_congr ⟨fun e => ⟨h1, e.symm, e ▸ hm⟩, fun e => e.2.1.symm⟩ (reads_congr hz y).symm)
      · by_cases h2 : q.f0 = 2
        · obtain ⟨r, er, ur, mr⟩ := ih a (l ++ [q.f1]) (by omega) (by rw [List.length_append, List.length_singleton]; omega)
          refine ⟨r, Ev.step (fun k => by rw [spec_ChangeReads.l0, if_pos (by omega), if_pos (by omega), hr, if_neg h1, if_pos h2, if_pos (by omega), hw]) er, ur, fun y => ?_⟩
          rw [mr]
          refine and_congr_left fun _ => or_congr_right (Iff.trans (reads_congr (fun z => ?_) y) ⟨.inr, fun h => h.resolve_left (fun e => h1 e.1)⟩)
          rw [List.mem_append, List.mem_singleton]
          exact or_congr_right ⟨fun e => ⟨h2, e.symm⟩, fun e => e.2.symm⟩
        · obtain ⟨r, er, ur, mr⟩ := ih a l (by omega) (by omega)
          refine ⟨r, Ev.step (fun k => by rw [spec_ChangeReads.l0, if_pos (by omega), if_pos (by omega), hr, if_neg h1, if_neg h2, hw]) er, ur, fun y => ?_⟩
          rw [mr]
          exact and_congr_left fun _ => or_congr_right (Iff.trans (reads_congr (fun z => ⟨.inl, fun h => h.resolve_right (not_both h2 z)⟩) y) ⟨.inr, fun h => h.resolve_left (fun e => h1 e.1)⟩)
  obtain ⟨r, er, ur, mr⟩ := key 0 (Nat.zero_le _) [] [] (Nat.zero_le _) (Nat.zero_le _)
  refine ⟨r, er, ur, fun y => ?_⟩
  rw [mr, List.drop_zero]
  exact and_congr_left fun _ => ⟨fun h => (reads_congr (fun z => by simp) y).1 (h.resolve_left (by simp)), fun h => .inr ((reads_congr (fun z => by simp) y).1 h)⟩
/-! ### drawn deeds -/
/-- What a deed loads, and what it stores to, are of so many cells. -/
def Near (n : Int) (q : S41) : Prop := (q.f0 = 1 → 0 ≤ q.f2 ∧ q.f2 < n) ∧ (q.f0 = 2 → 0 ≤ q.f1 ∧ q.f1 < n)
theorem near_no {n : Int} {q : S41} (h1 : q.f0 ≠ 1) (h2 : q.f0 ≠ 2) : Near n q := ⟨fun h => absurd h h1, fun h => absurd h h2⟩
theorem l71Deed_near (b : List Int) (hb : Bytes b) (hl : b.length ≤ 2000) (n p : Int) (hp : 0 ≤ p) (hp' : p ≤ 100000) (hn : n ≤ 1000000000) (h1 : 1 ≤ n) :
    ∃ r : Int × Int × Int × Int, Ev (fun k => spec_l71Deed.f k b p n) r ∧ p ≤ r.2.2.2 ∧ r.2.2.2 ≤ p + 3 ∧ Near n ⟨r.1, r.2.1, r.2.2.1⟩ := by
  unfold spec_l71Deed.f
  have h : ¬ n = 0 := by omega
  obtain ⟨a, ea, a0, a1, -⟩ := pick_ev b hb hl 10 p hp (by omega) (by omega)
  have J1 : ∀ v : Bool, ∃ r : Int × Int × Int × Int, Ev (fun k => spec_l71Deed.j1 k n a v b (p + 1)) r ∧ p ≤ r.2.2.2 ∧ r.2.2.2 ≤ p + 3 ∧ Near n ⟨r.1, r.2.1, r.2.2.1⟩ := by
    intro v
    cases v with
    | true =>
      obtain ⟨c, ec, c0, c1, -⟩ := pick_ev b hb hl n (p + 1) (by omega) (by omega) (by omega)
      obtain ⟨d, ed, -⟩ := pick_ev b hb hl 3 (p + 1 + 1) (by omega) (by omega) (by omega)
      exact ⟨(2, c, d, p + 1 + 1 + 1), Ev.step (fun k => by rw [spec_l71Deed.j1, if_pos rfl]) (by exact Ev.bind ec (Ev.bind ed (Ev.now _))), by dsimp only; omega, by dsimp only; omega, ⟨fun e => absurd e (by dsimp only; omega), fun _ => ⟨c0, c1 h1⟩⟩⟩
    | false =>
      obtain ⟨c, ec, -⟩ := pick_ev b hb hl 3 (p + 1) (by omega) (by omega) (by omega)
      obtain ⟨d, ed, -⟩ := pick_ev b hb hl 8 (p + 1 + 1) (by omega) (by omega) (by omega)
      obtain ⟨f, ef, -⟩ := pick_ev b hb hl 3 (p + 1 + 1) (by omega) (by omega) (by omega)
      by_cases h7 : a = 7
      · exact ⟨(3, c, d, p + 1 + 1 + 1), Ev.step (fun k => by rw [spec_l71Deed.j1, if_neg Bool.false_ne_true, if_pos h7]) (by exact Ev.bind ec (Ev.bind ed (Ev.now _))), by dsimp only; omega, by dsimp only; omega, near_no (by dsimp only; omega) (by dsimp only; omega)⟩
      · by_cases h8 : a = 8
        · exact ⟨(4, c, f, p + 1 + 1 + 1), Ev.step (fun k => by rw [spec_l71Deed.j1, if_neg Bool.false_ne_true, if_neg h7, if_pos h8]) (by exact Ev.bind ec (Ev.bind ef (Ev.now _))), by dsimp only; omega, by dsimp only; omega, near_no (by dsimp only; omega) (by dsimp only; omega)⟩
        · exact ⟨(5, c, 0, p + 1 + 1), Ev.step (fun k => by rw [spec_l71Deed.j1, if_neg Bool.false_ne_true, if_neg h7, if_neg h8]) (by exact Ev.bind ec (Ev.now _)), by dsimp only; omega, by dsimp only; omega, near_no (by dsimp only; omega) (by dsimp only; omega)⟩
  have J0 : ∀ v : Bool, ∃ r : Int × Int × Int × Int, Ev (fun k => spec_l71Deed.j0 k n a v b (p + 1)) r ∧ p ≤ r.2.2.2 ∧ r.2.2.2 ≤ p + 3 ∧ Near n ⟨r.1, r.2.1, r.2.2.1⟩ := by
    intro v
    cases v with
    | true =>
      obtain ⟨c, ec, -⟩ := pick_ev b hb hl 3 (p + 1) (by omega) (by omega) (by omega)
      obtain ⟨d, ed, d0, d1, -⟩ := pick_ev b hb hl n (p + 1 + 1) (by omega) (by omega) (by omega)
      exact ⟨(1, c, d, p + 1 + 1 + 1), Ev.step (fun k => by rw [spec_l71Deed.j0, if_pos rfl]) (by exact Ev.bind ec (Ev.bind ed (Ev.now _))), by dsimp only; omega, by dsimp only; omega, ⟨fun _ => ⟨d0, d1 h1⟩, fun e => absurd e (by dsimp only; omega)⟩⟩
    | false =>
      by_cases h4 : a = 4
      · obtain ⟨r, er, h⟩ := J1 (a == 4)
        exact ⟨r, Ev.step (fun k => by rw [spec_l71Deed.j0, if_neg Bool.false_ne_true, if_pos h4]) er, h⟩
      · by_cases h5 : a = 5
        · obtain ⟨r, er, h⟩ := J1 (a == 5)
          exact ⟨r, Ev.step (fun k => by rw [spec_l71Deed.j0, if_neg Bool.false_ne_true, if_neg h4, if_pos h5]) er, h⟩
        · obtain ⟨r, er, h⟩ := J1 (a == 6)
          exact ⟨r, Ev.step (fun k => by rw [spec_l71Deed.j0, if_neg Bool.false_ne_true, if_neg h4, if_neg h5]) er, h⟩
  by_cases h0 : a = 0
  · obtain ⟨r, er, hr⟩ := J0 (a == 0)
    exact ⟨r, ev_neg h (Ev.bind ea (ev_pos h0 er)), hr⟩
  · by_cases h1 : a = 1
    · obtain ⟨r, er, hr⟩ := J0 (a == 1)
      exact ⟨r, ev_neg h (Ev.bind ea (ev_neg h0 (ev_pos h1 er))), hr⟩
    · by_cases h2 : a = 2
      · obtain ⟨r, er, hr⟩ := J0 (a == 2)
        exact ⟨r, ev_neg h (Ev.bind ea (ev_neg h0 (ev_neg h1 (ev_pos h2 er)))), hr⟩
      · obtain ⟨r, er, hr⟩ := J0 (a == 3)
        exact ⟨r, ev_neg h (Ev.bind ea (ev_neg h0 (ev_neg h1 (ev_neg h2 er)))), hr⟩
theorem l71Deeds_near (b : List Int) (hb : Bytes b) (hl : b.length ≤ 2000) (n p : Int) (hp : 0 ≤ p) (hp' : p ≤ 10000) (hn : n ≤ 1000000000) (h1 : 1 ≤ n) :
    ∃ r : List S41 × Int, Ev (fun k => spec_l71Deeds.f k b p n) r ∧ r.1.length ≤ 5 ∧ p ≤ r.2 ∧ r.2 ≤ p + 22 ∧ ∀ q ∈ r.1, Near n q := by
  have L0 : ∀ (m : Nat) (d : List S41) (q : Int), p ≤ q → q + 3 * m ≤ 20000 → d.length + m ≤ 5 → m ≤ 5 → (∀ x ∈ d, Near n x) →
      ∃ r : List S41 × Int, Ev (fun k => spec_l71Deeds.l0 k n d (m : Int) b q) r ∧ r.1.length ≤ 5 ∧ p ≤ r.2 ∧ r.2 ≤ q + 3 * m ∧ ∀ x ∈ r.1, Near n x := by
    intro m
    induction m with
    | zero =>
      intro d q h1 h2 h3 h4 h5
      exact ⟨(d, q), Ev.step (fun k => by rw [spec_l71Deeds.l0, if_neg (by omega)]) (Ev.now _), by dsimp only; omega, by dsimp only; omega, by dsimp only; omega, h5⟩
    | succ m ih =>
      intro d q h1 h2 h3 h4 h5
      obtain ⟨t, et, t1, t2, t3⟩ := l71Deed_near b hb hl n q (by omega) (by omega) hn (by omega)
      obtain ⟨r, er, k1, k2, k3, k4⟩ := ih (d ++ [⟨t.1, t.2.1, t.2.2.1⟩]) t.2.2.2 (by omega) (by omega) (by rw [List.length_append]; simp; omega) (by omega) (fun x hx => (List.mem_append.1 hx).elim (h5 x) (fun hx => by rw [List.mem_singleton.1 hx]; exact t3))
      refine ⟨r, Ev.step (fun k => by rw [spec_l71Deeds.l0, if_pos (by omega)]) ?_, k1, k2, by omega, k4⟩
      refine Ev.bind et (ev_pos (by omega) ?_)
      rw [w64 (by omega) (by omega), show ((m + 1 : Nat) : Int) - 1 = (m : Int) by omega]
      exact er
  have J0 : ∀ (v : Bool) (q : Int), p ≤ q → q ≤ p + 1 → ∃ r : List S41 × Int, Ev (fun k => spec_l71Deeds.j0 k n v b q) r ∧ r.1.length ≤ 5 ∧ p ≤ r.2 ∧ r.2 ≤ p + 22 ∧ ∀ x ∈ r.1, Near n x := by
    intro v q h2 h3
    cases v with
    | true =>
      obtain ⟨c, ec, c0, c1, -⟩ := pick_ev b hb hl n q (by omega) (by omega) (by omega)
      obtain ⟨d, ed, -⟩ := pick_ev b hb hl 4 (q + 1) (by omega) (by omega) (by omega)
      refine ⟨_, Ev.step (fun k => by rw [spec_l71Deeds.j0, if_pos rfl]) (by exact Ev.bind ec (Ev.bind ed (Ev.now _))), by simp, by dsimp only; omega, by dsimp only; omega, fun x hx => ?_⟩
      have c1 := c1 h1
      simp only [List.mem_cons, List.not_mem_nil, or_false] at hx
      rcases hx with rfl | rfl | rfl | rfl
      · exact ⟨fun _ => ⟨c0, c1⟩, fun e => absurd e (by dsimp only; omega)⟩
      · exact near_no (by dsimp only; omega) (by dsimp only; omega)
      · exact near_no (by dsimp only; omega) (by dsimp only; omega)
      · exact ⟨fun e => absurd e (by dsimp only; omega), fun _ => ⟨c0, c1⟩⟩
    | false =>
      obtain ⟨c, ec, c0, c1, -⟩ := pick_ev b hb hl 5 q (by omega) (by omega) (by omega)
      have c1 := c1 (by omega)
      obtain ⟨r, er, r1, r2, r3, r4⟩ := L0 (1 + c).toNat [] (q + 1) (by omega) (by omega) (by simp; omega) (by omega) (fun x hx => by cases hx)
      rw [show (((1 + c).toNat : Nat) : Int) = 1 + c by omega] at er
      refine ⟨r, Ev.step (fun k => by rw [spec_l71Deeds.j0, if_neg Bool.false_ne_true]) ?_, r1, r2, by omega, r4⟩
      refine Ev.bind ec ?_
      rw [w64 (by omega) (by omega)]
      exact er
  unfold spec_l71Deeds.f
  obtain ⟨a, ea, -⟩ := pick_ev b hb hl 3 p hp (by omega) (by omega)
  obtain ⟨r, er, h2⟩ := J0 (a == 0) (p + 1) (by omega) (by omega)
  exact ⟨r, ev_pos (by omega) (Ev.bind ea er), h2⟩
theorem DrawChangeReads_ev (l : List Int) (hl : ∀ x ∈ l, (Lit.int .u8 x).wf = true) : ∃ r : List S41, Ev (fun k => spec_DrawChangeReads.f k l) r ∧ r.length ≤ 10 ∧ ∀ q ∈ r, Near 3 q := by
  obtain ⟨b, e0, hb, hl⟩ := open_ev l hl
  obtain ⟨⟨d, p⟩, ed, d1, d2, d3, d4⟩ := l71Deeds_near b hb hl 3 0 (by omega) (by omega) (by omega) (by omega)
  dsimp only at d1 d2 d3 d4
  obtain ⟨⟨e, p2⟩, ee, e1, e2, e3, e4⟩ := l71Deeds_near b hb hl 3 p (by omega) (by omega) (by omega) (by omega)
  dsimp only at e1 e2 e3 e4
  unfold spec_DrawChangeReads.f
  exact ⟨d ++ e, Ev.bind (Ev.congr (fun _ => e0) (Ev.now _)) (Ev.bind ed (Ev.bind ee (ev_pos (by dsimp only; omega) (Ev.now _)))), by rw [List.length_append]; omega, fun q hq => (List.mem_append.1 hq).elim (d4 q) (e4 q)⟩
theorem DrawChangeWrites_ev (l : List Int) (hl : ∀ x ∈ l, (Lit.int .u8 x).wf = true) : ∃ r : List S41, Ev (fun k => spec_DrawChangeWrites.f k l) r ∧ r.length ≤ 10 ∧ ∀ q ∈ r, Near 3 q := by
  obtain ⟨r, er, h⟩ := DrawChangeReads_ev l hl
  exact ⟨r, Ev.bind er (Ev.now _), h⟩
theorem near_stores {d : List S41} (h : ∀ q ∈ d, Near 3 q) {y : Int} (hy : Stores d y) : 0 ≤ y ∧ y ≤ 2 := by
  obtain ⟨q, hq, h2, rfl⟩ := hy
  have := (h q hq).2 h2
  omega
theorem near_reads {d : List S41} (h : ∀ q ∈ d, Near 3 q) {W : Int → Prop} {y : Int} (hy : Reads W d y) : 0 ≤ y ∧ y ≤ 2 := by
  obtain ⟨q, hq, h1, rfl⟩ := reads_from hy
  have := (h q hq).1 h1
  omega
end Go.Proofs.Ytedbgdnhkcllaaa.PSets
