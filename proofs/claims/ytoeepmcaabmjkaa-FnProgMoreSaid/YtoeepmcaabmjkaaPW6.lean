/- Part 6 of what FnProgMore leans on: contracts of Go functions, and plain lemmas, each under its own premises. Put together by wip/tools/pack.py. -/
import Derived.Laws.BitsAllLaws
import Derived.SizedLaws
import Derived.ChangeSlices
import Derived.Test.YtoeepmcaabmjkaaPW0
import Derived.Test.YtoeepmcaabmjkaaPW1
import Derived.Test.YtoeepmcaabmjkaaPW2
import Derived.Test.YtoeepmcaabmjkaaPW3
import Derived.Test.YtoeepmcaabmjkaaPW4
import Derived.Test.YtoeepmcaabmjkaaPW5
namespace Go.Proofs.Ytoeepmcaabmjkaa.PTree
open Go.RowKit Go.Proofs.Ytoeepmcaabmjkaa.QPM Go.Proofs.YtoeepmcaabmjkaaW.PrintWords Go.Proofs.YtoeepmcaabmjkaaW.PrintLast Go.Proofs.Ytoeepmcaabmjkaa.PProg
theorem rdD (l : List S122) (i : Nat) (hi : i < l.length) : rd_T122 l (i : Int) = l[i] := by
  simp [rd_T122, List.getD, hi]
def inB (x lo hi : Int) : Bool := decide (lo ≤ x) && decide (x ≤ hi)
theorem l6In_eq (x lo hi : Int) : spec_l6In.f x lo hi = some (inB x lo hi) := by
  unfold spec_l6In.f inB
  by_cases h : x ≥ lo
  · rw [if_pos h, decide_eq_true h, Bool.true_and]
  · rw [if_neg h, decide_eq_false h, Bool.false_and]
theorem isPlace_eq (x n : Int) : impl_isPlace.f x n = some (inB x 0 (n - 1)) := by
  unfold impl_isPlace.f inB
  by_cases h : 0 ≤ x
  · rw [if_pos h, decide_eq_true h, Bool.true_and]
    congr 1
    exact decide_eq_decide.2 (by omega)
  · rw [if_neg h, decide_eq_false h, Bool.false_and]
theorem isReg_eq (x : Int) : impl_isReg.f x = some (inB x 0 2) := by
  unfold impl_isReg.f
  rw [isPlace_eq]
  rfl
theorem isNum_eq (x : Int) : impl_isNum.f x = some (inB x 0 99) := by
  unfold impl_isNum.f
  rw [isPlace_eq]
  rfl
/-- Is a deed in form, if there are so many cells? -/
def deedB (k a b cells : Int) : Bool :=
  if k = 1 then inB a 0 2 && inB b 0 (cells - 1) else if k = 2 then inB a 0 (cells - 1) && inB b 0 2 else if k = 3 then inB a 0 2 && inB b 0 99
  else if k = 4 then inB a 0 2 && inB b 0 2 else if k = 5 then inB a 0 2 && (b == 0) else false
theorem some_and (p q : Bool) : (if p = true then some q else some false) = some (p && q) := by cases p <;> rfl
theorem l1Deed_eq (k a b c : Int) (h0 : 0 ≤ c) (h1 : c ≤ 3) : spec_l1Deed.f k a b c = some (deedB k a b c) := by
  unfold spec_l1Deed.f deedB
  simp only [l6In_eq, Option.bind_some, some_and, w64 (show -9223372036854775808 ≤ c - 1 by omega) (show c - 1 ≤ 9223372036854775807 by omega)]
  repeat' (first | rfl | split)
theorem deedOk_eq (k a b c : Int) : ((impl_partOfDeed.f k a b).bind fun t => impl_deedOk.f t c) = some (deedB k a b c) := by
  unfold impl_partOfDeed.f impl_deedOk.f deedB
  simp only [Option.bind_some, isReg_eq, isPlace_eq, isNum_eq, some_and]
  by_cases h1 : k = 1
  · subst h1; simp
  by_cases h2 : k = 2
  · subst h2; simp
  by_cases h3 : k = 3
  · subst h3; simp
  by_cases h4 : k = 4
  · subst h4; simp
  by_cases h5 : k = 5
  · subst h5
    by_cases h6 : b = 0
    · subst h6; simp
    · simp [h6]
  · simp [h1, h2, h3, h4, h5]
def dB (cells : Int) (d : S122) : Bool := deedB d.f0 d.f1 d.f2 cells
/-- Are deeds those of a change, if there are so many cells? -/
def okC (l : List S122) (cells : Int) : Bool := (inB cells 0 3 && decide (l.length ≤ 5)) && l.all (dB cells)
theorem implOk_ev (l : List S122) (cells : Int) (hl : l.length ≤ 9223372036854775806) : Ev (fun k => impl_ChangeOk.f k l cells) (okC l cells) := by
  have key : ∀ i, i ≤ l.length → Ev (fun k => impl_ChangeOk.l0 k cells l (l.length : Int) (i : Int)) ((l.drop i).all (dB cells)) := by
    refine down ?_ ?_
    · refine Ev.step (fun k => by rw [impl_ChangeOk.l0, if_neg (by omega)]) ?_
      rw [List.drop_length, List.all_nil]
      exact Ev.now _
    · intro i hi ih
      rw [List.drop_eq_getElem_cons hi, List.all_cons]
      have hd : ∀ (f : Bool → Option Bool), ((impl_partOfDeed.f l[i].f0 l[i].f1 l[i].f2).bind fun t => (impl_deedOk.f t cells).bind f) = f (dB cells l[i]) := by
        intro f
        have := deedOk_eq l[i].f0 l[i].f1 l[i].f2 cells
        unfold dB
        have e : ((impl_partOfDeed.f l[i].f0 l[i].f1 l[i].f2).bind fun t => (impl_deedOk.f t cells).bind f) = (((impl_partOfDeed.f l[i].f0 l[i].f1 l[i].f2).bind fun t => impl_deedOk.f t cells).bind f) := by rw [Option.bind_assoc]
        rw [e, this]
        rfl
      cases hb : dB cells l[i] with
      | true =>
        rw [Bool.true_and]
        refine Ev.step (fun k => ?_) ih
        rw [impl_ChangeOk.l0, if_pos (by omega), if_pos (by omega), if_pos (by omega), rdD l i hi, hd, hb, if_pos rfl, w64 (by omega) (by omega)]
        rfl
      | false =>
        rw [Bool.false_and]
        refine Ev.step (fun k => ?_) (Ev.now false)
        rw [impl_ChangeOk.l0, if_pos (by omega), if_pos (by omega), if_pos (by omega), rdD l i hi, hd, hb, if_neg Bool.false_ne_true]
  have k0 := key 0 (Nat.zero_le _)
  unfold impl_ChangeOk.f okC inB
  by_cases h0 : cells < 0
  · refine ev_pos h0 ?_
    rw [decide_eq_false (p := 0 ≤ cells) (by omega)]
    simp only [Bool.false_and]
    exact Ev.step (fun k => by rw [impl_ChangeOk.j0, if_pos rfl]) (Ev.now _)
  · refine ev_neg h0 ?_
    by_cases h1 : cells > 3
    · refine ev_pos h1 ?_
      rw [decide_eq_false (p := cells ≤ 3) (by omega)]
      simp only [Bool.and_false, Bool.false_and]
      exact Ev.step (fun k => by rw [impl_ChangeOk.j0, if_pos rfl]) (Ev.now _)
    · refine ev_neg h1 ?_
      rw [decide_eq_true (p := 0 ≤ cells) (by omega), decide_eq_true (p := cells ≤ 3) (by omega)]
      simp only [Bool.true_and]
      by_cases h2 : l.length ≤ 5
      · rw [decide_eq_true h2, Bool.true_and, decide_eq_false (p := (l.length : Int) > 5) (by omega)]
        exact Ev.step (fun k => by rw [impl_ChangeOk.j0, if_neg Bool.false_ne_true]; rfl) k0
      · rw [decide_eq_false h2, Bool.false_and, decide_eq_true (p := (l.length : Int) > 5) (by omega)]
        exact Ev.step (fun k => by rw [impl_ChangeOk.j0, if_pos rfl]) (Ev.now _)
theorem ev_eq {α : Type} {f : Nat → Option α} {r : α} (h : ∀ k, f k = some r) : Ev f r := Ev.congr (fun k => h k) (Ev.now r)
/-- Is an act of the body in form? -/
def actB (cells body bodies : Int) (a : S57) : Bool :=
  if a.f0 = 1 ∧ a.f2.length = 0 ∧ a.f3 = 0 then okC a.f1 cells
  else if a.f0 = 2 ∧ a.f1.length = 0 ∧ a.f3 = 0 then kidsOk a.f2 body bodies
  else if a.f0 = 3 ∧ a.f1.length = 0 ∧ a.f2.length = 0 ∧ a.f3 = 0 then true
  else if a.f0 = 4 ∧ a.f1.length = 0 ∧ a.f2.length = 0 then inB a.f3 0 2
  else false
theorem implAct_ev (cells body bodies : Int) (a : S57) (h1 : a.f1.length ≤ 1048576) : Ev (fun k => impl_actOk.f k a.f0 a.f1 a.f2 a.f3 cells body bodies) (actB cells body bodies a) := by
  unfold impl_actOk.f actB
  by_cases c1 : a.f0 = 1 ∧ a.f2.length = 0 ∧ a.f3 = 0
  · rw [if_pos c1]
    exact ev_pos c1 (implOk_ev _ _ (by omega))
  rw [if_neg c1]
  refine ev_neg c1 (ev_eq fun _ => ?_)
  by_cases c2 : a.f0 = 2 ∧ a.f1.length = 0 ∧ a.f3 = 0
  · rw [if_pos c2, if_pos c2]
  rw [if_neg c2, if_neg c2]
  by_cases c3 : a.f0 = 3 ∧ a.f1.length = 0 ∧ a.f2.length = 0 ∧ a.f3 = 0
  · rw [if_pos c3, if_pos c3]
  rw [if_neg c3, if_neg c3]
  by_cases c4 : a.f0 = 4 ∧ a.f1.length = 0 ∧ a.f2.length = 0
  · rw [if_pos c4, if_pos c4, isReg_eq]
  rw [if_neg c4, if_neg c4]
theorem specKids_ev (l : List Int) (body bodies : Int) (hl : l.length ≤ 1048576) (hb0 : 0 ≤ body) (hb1 : body ≤ 1048576) (hn0 : 0 ≤ bodies) (hn1 : bodies ≤ 1048576) : Ev (fun k => spec_l1Kids.f k l body bodies) (kidsOk l body bodies) := by
  have one : ∀ x : Int, inB x (body + 1) (bodies - 1) = kidOk body bodies x := by
    intro x
    unfold inB kidOk
    rw [Bool.eq_iff_iff]
    simp
    omega
  have key : ∀ i, i ≤ l.length → Ev (fun k => spec_l1Kids.l0 k l body bodies (i : Int)) ((l.drop i).all (kidOk body bodies) && (decide (1 ≤ l.length) && decide (l.length ≤ 2))) := by
    refine down ?_ ?_
    · rw [List.drop_length, List.all_nil, Bool.true_and]
      refine Ev.step (fun k => ?_) (Ev.now _)
      rw [spec_l1Kids.l0, if_neg (by omega), l6In_eq, Option.bind_some]
      unfold inB
      congr 1
      rw [Bool.eq_iff_iff]
      simp
      omega
    · intro i hi ih
      rw [List.drop_eq_getElem_cons hi, List.all_cons]
      cases hb : kidOk body bodies l[i] with
      | true =>
        rw [Bool.true_and]
        refine Ev.step (fun k => ?_) ih
        rw [spec_l1Kids.l0, if_pos (by omega), if_pos (by omega), rdI l i hi, w64 (i := body + 1) (by omega) (by omega), w64 (i := bodies - 1) (by omega) (by omega), l6In_eq, one, hb, Option.bind_some, if_pos rfl, w64 (by omega) (by omega)]
        rfl
      | false =>
        rw [Bool.false_and, Bool.false_and]
        refine Ev.step (fun k => ?_) (Ev.now false)
        rw [spec_l1Kids.l0, if_pos (by omega), if_pos (by omega), rdI l i hi, w64 (i := body + 1) (by omega) (by omega), w64 (i := bodies - 1) (by omega) (by omega), l6In_eq, one, hb, Option.bind_some, if_neg Bool.false_ne_true]
  have := key 0 (Nat.zero_le _)
  rw [List.drop_zero] at this
  exact this
theorem specDeeds_ev (l0 : List Int) (l1 : List (List S57)) (k0 : Int) (l : List S122) (l2 : List Int) (r : Int) (hl : l.length ≤ 1048576) (hc : l0.length ≤ 3) : Ev (fun k => spec_l1Act.l0 k 0 l0 l1 k0 l l2 r) (okC l (l0.length : Int)) := by
  have key : ∀ i, i ≤ l.length → Ev (fun k => spec_l1Act.l0 k (i : Int) l0 l1 k0 l l2 r) ((l.drop i).all (dB (l0.length : Int)) && decide (l.length ≤ 5)) := by
    refine down ?_ ?_
    · rw [List.drop_length, List.all_nil, Bool.true_and]
      refine Ev.step (fun k => ?_) (Ev.now _)
      rw [spec_l1Act.l0, if_neg (by omega)]
      congr 1
      exact decide_eq_decide.2 (by omega)
    · intro i hi ih
      rw [List.drop_eq_getElem_cons hi, List.all_cons]
      cases hb : dB (l0.length : Int) l[i] with
      | true =>
        rw [Bool.true_and]
        refine Ev.step (fun k => ?_) ih
        unfold dB at hb
        rw [spec_l1Act.l0, if_pos (by omega), if_pos (by omega), rdD l i hi, l1Deed_eq _ _ _ _ (by omega) (by omega), hb, Option.bind_some, if_pos rfl, w64 (by omega) (by omega)]
        rfl
      | false =>
        rw [Bool.false_and, Bool.false_and]
        refine Ev.step (fun k => ?_) (Ev.now false)
        unfold dB at hb
        rw [spec_l1Act.l0, if_pos (by omega), if_pos (by omega), rdD l i hi, l1Deed_eq _ _ _ _ (by omega) (by omega), hb, Option.bind_some, if_neg Bool.false_ne_true]
  have := key 0 (Nat.zero_le _)
  rw [List.drop_zero] at this
  have e : okC l (l0.length : Int) = (l.all (dB (l0.length : Int)) && decide (l.length ≤ 5)) := by
    unfold okC inB
    rw [decide_eq_true (p := 0 ≤ (l0.length : Int)) (by omega), decide_eq_true (p := (l0.length : Int) ≤ 3) (by omega), Bool.true_and, Bool.true_and, Bool.and_comm]
  rw [e]
  exact this
theorem specAct_ev (l0 : List Int) (l1 : List (List S57)) (body : Int) (a : S57) (hc : l0.length ≤ 3) (hn : l1.length ≤ 4) (hb0 : 0 ≤ body) (hb1 : body ≤ 4) (h1 : a.f1.length ≤ 1048576) (h2 : a.f2.length ≤ 1048576) :
    Ev (fun k => spec_l1Act.f k l0 l1 body a.f0 a.f1 a.f2 a.f3) (actB (l0.length : Int) body (l1.length : Int) a) := by
  obtain ⟨k0, d, m, r⟩ := a
  dsimp only at h1 h2 ⊢
  have bad : ∀ f : Nat → Option Bool, (∀ k, f k = spec_l1Act.j0 k body true l0 l1 k0 d m r) → Ev f false := fun f hf => Ev.congr hf (Ev.step (fun k => by rw [spec_l1Act.j0, if_pos rfl]) (Ev.now false))
  have good : ∀ (f : Nat → Option Bool) (z : Bool), (∀ k, f k = spec_l1Act.j0 k body false l0 l1 k0 d m r) → Ev (fun k => if k0 = 1 then (spec_l1Act.l0 k 0 l0 l1 k0 d m r) else (if k0 = 2 then ((spec_l1Kids.f k m body (l1.length : Int)).bind fun t125 => (some t125)) else (if k0 = 3 then (some true) else (if k0 = 4 then ((spec_l6In.f r 0 2).bind fun t126 => (some t126)) else (some false))))) z → Ev f z :=
    fun f z hf hz => Ev.congr hf (Ev.step (fun k => by rw [spec_l1Act.j0, if_neg Bool.false_ne_true]) hz)
  have e1 : ∀ l : List S122, ((l.length : Int) > 0) = (¬ l.length = 0) := fun l => propext (by omega)
  have e2 : ∀ l : List Int, ((l.length : Int) > 0) = (¬ l.length = 0) := fun l => propext (by omega)
  by_cases k1 : k0 = 1
  · subst k1
    by_cases c : m.length = 0
    · by_cases c' : r = 0
      · refine good _ _ (fun k => by unfold spec_l1Act.f; simp [c, c']) ?_
        have e : actB (l0.length : Int) body (l1.length : Int) ⟨1, d, m, r⟩ = okC d (l0.length : Int) := if_pos ⟨rfl, c, c'⟩
        rw [e]
        exact ev_pos rfl (specDeeds_ev _ _ _ _ _ _ h1 hc)
      · have : actB (l0.length : Int) body (l1.length : Int) ⟨1, d, m, r⟩ = false := by unfold actB; simp [c']
        rw [this]
        exact bad _ (fun k => by unfold spec_l1Act.f; simp [c, bne_iff_ne.2 c'])
    · have : actB (l0.length : Int) body (l1.length : Int) ⟨1, d, m, r⟩ = false := by unfold actB; simp; intro h; rw [h] at c; exact absurd rfl c
      rw [this]
      exact bad _ (fun k => by unfold spec_l1Act.f; simp only [e2, c]; simp)
  by_cases k2 : k0 = 2
  · subst k2
    by_cases c : d.length = 0
    · by_cases c' : r = 0
      · refine good _ _ (fun k => by unfold spec_l1Act.f; simp [c, c']) ?_
        have e : actB (l0.length : Int) body (l1.length : Int) ⟨2, d, m, r⟩ = kidsOk m body (l1.length : Int) := (if_neg (by dsimp only; omega)).trans (if_pos ⟨rfl, c, c'⟩)
        rw [e]
        exact ev_neg (by omega) (ev_pos rfl (Ev.bind (specKids_ev _ _ _ h2 hb0 (by omega) (by omega) (by omega)) (Ev.now _)))
      · have : actB (l0.length : Int) body (l1.length : Int) ⟨2, d, m, r⟩ = false := by unfold actB; simp [c']
        rw [this]
        exact bad _ (fun k => by unfold spec_l1Act.f; simp [c, bne_iff_ne.2 c'])
    · have : actB (l0.length : Int) body (l1.length : Int) ⟨2, d, m, r⟩ = false := by unfold actB; simp; intro h; rw [h] at c; exact absurd rfl c
      rw [this]
      exact bad _ (fun k => by unfold spec_l1Act.f; simp only [e1, c]; simp)
  by_cases cd : d.length = 0
  · by_cases cm : m.length = 0
    · by_cases k4 : k0 = 4
      · subst k4
        refine good _ _ (fun k => by unfold spec_l1Act.f; simp [cd, cm]) ?_
        have e : actB (l0.length : Int) body (l1.length : Int) ⟨4, d, m, r⟩ = inB r 0 2 := (if_neg (by dsimp only; omega)).trans ((if_neg (by dsimp only; omega)).trans ((if_neg (by dsimp only; omega)).trans (if_pos ⟨rfl, cd, cm⟩)))
        rw [e]
        exact ev_neg (by omega) (ev_neg (by omega) (ev_neg (by omega) (ev_pos rfl (ev_eq fun _ => by rw [l6In_eq]; rfl))))
      · by_cases c' : r = 0
        · refine good _ _ (fun k => by unfold spec_l1Act.f; simp [cd, cm, c', k1, k2, k4]) ?_
          refine ev_neg k1 (ev_neg k2 (ev_eq fun _ => ?_))
          by_cases k3 : k0 = 3
          · have e : actB (l0.length : Int) body (l1.length : Int) ⟨k0, d, m, r⟩ = true := (if_neg (by dsimp only; omega)).trans ((if_neg (by dsimp only; omega)).trans (if_pos ⟨k3, cd, cm, c'⟩))
            rw [e, if_pos k3]
          · have e : actB (l0.length : Int) body (l1.length : Int) ⟨k0, d, m, r⟩ = false := (if_neg (by dsimp only; omega)).trans ((if_neg (by dsimp only; omega)).trans ((if_neg (by dsimp only; omega)).trans (if_neg (by dsimp only; omega))))
            rw [e, if_neg k3, if_neg k4]
        · have : actB (l0.length : Int) body (l1.length : Int) ⟨k0, d, m, r⟩ = false := by
            unfold actB
            dsimp only
            rw [if_neg (by omega), if_neg (by omega), if_neg (by omega), if_neg (by omega)]
          rw [this]
          exact bad _ (fun k => by unfold spec_l1Act.f; simp [cd, cm, bne_iff_ne.2 c', k1, k2, k4])
    · have : actB (l0.length : Int) body (l1.length : Int) ⟨k0, d, m, r⟩ = false := by
        unfold actB
        dsimp only
        rw [if_neg (by omega), if_neg (by omega), if_neg (by omega), if_neg (by omega)]
      rw [this]
      exact bad _ (fun k => by unfold spec_l1Act.f; simp only [e2, cd, cm, k1, k2]; simp)
  · have : actB (l0.length : Int) body (l1.length : Int) ⟨k0, d, m, r⟩ = false := by
      unfold actB
      dsimp only
      rw [if_neg (by omega), if_neg (by omega), if_neg (by omega), if_neg (by omega)]
    rw [this]
    exact bad _ (fun k => by unfold spec_l1Act.f; simp only [e1, cd, k1]; simp)
/-- Are a body's acts in form? Are those of all bodies from the i-th on? -/
def bodyB (cells bodies : Int) (i : Nat) (l : List S57) : Bool := decide (l.length ≤ 4) && l.all (actB cells (i : Int) bodies)
def restB (cells bodies : Int) : Nat → List (List S57) → Bool
  | _, [] => true
  | i, l :: ls => bodyB cells bodies i l && restB cells bodies (i + 1) ls
def formB (l0 : List Int) (l1 : List (List S57)) : Bool :=
  (decide (l0.length ≤ 3) && decide (1 ≤ l1.length ∧ l1.length ≤ 4)) && (l0.all (fun x => inB x 0 99) && restB (l0.length : Int) (l1.length : Int) 0 l1)
def Small (l0 : List Int) (l1 : List (List S57)) : Prop := l0.length ≤ 1048576 ∧ l1.length ≤ 1048576 ∧ ∀ b ∈ l1, b.length ≤ 1048576 ∧ ∀ x ∈ b, x.f1.length ≤ 1048576 ∧ x.f2.length ≤ 1048576
theorem inner_ev (cells body bodies : Int) : ∀ l : List S57, (∀ x ∈ l, x.f1.length ≤ 1048576) → Ev (fun k => innerF k cells body bodies l) (l.all (actB cells body bodies))
  | [], _ => Ev.now true
  | a :: l, h => by
    simp only [innerF, List.all_cons]
    refine Ev.bind (implAct_ev cells body bodies a (h a List.mem_cons_self)) ?_
    cases actB cells body bodies a with
    | true =>
      rw [Bool.true_and]
      exact ev_pos rfl (inner_ev cells body bodies l (fun x hx => h x (List.mem_cons_of_mem _ hx)))
    | false => exact ev_neg Bool.false_ne_true (Ev.now _)
theorem outer_ev (cells bodies : Int) : ∀ (ls : List (List S57)) (i : Nat), (∀ b ∈ ls, ∀ x ∈ b, x.f1.length ≤ 1048576) → Ev (fun k => outerF k cells bodies i ls) (restB cells bodies i ls)
  | [], _, _ => Ev.now true
  | l :: ls, i, h => by
    simp only [outerF, restB, bodyB]
    by_cases c : l.length > 4
    · rw [decide_eq_false (by omega), Bool.false_and, Bool.false_and]
      exact ev_pos c (Ev.now _)
    · rw [decide_eq_true (by omega), Bool.true_and]
      refine ev_neg c (Ev.bind (inner_ev cells (i : Int) bodies l (h l List.mem_cons_self)) ?_)
      cases l.all (actB cells (i : Int) bodies) with
      | true =>
        rw [Bool.true_and]
        exact ev_pos rfl (outer_ev cells bodies ls (i + 1) (fun b hb => h b (List.mem_cons_of_mem _ hb)))
      | false => exact ev_neg Bool.false_ne_true (Ev.now _)
theorem allNums_ev (l : List Int) (hl : l.length ≤ 1048576) : Ev (fun k => impl_allNums.f k l) (l.all (fun x => inB x 0 99)) := by
  have key : ∀ i, i ≤ l.length → Ev (fun k => impl_allNums.l0 k l (l.length : Int) (i : Int)) ((l.drop i).all (fun x => inB x 0 99)) := by
    refine down ?_ ?_
    · rw [List.drop_length, List.all_nil]
      exact Ev.step (fun k => by rw [impl_allNums.l0, if_neg (by omega)]) (Ev.now _)
    · intro i hi ih
      rw [List.drop_eq_getElem_cons hi, List.all_cons]
      cases hb : inB l[i] 0 99 with
      | true =>
        rw [Bool.true_and]
        refine Ev.step (fun k => ?_) ih
        rw [impl_allNums.l0, if_pos (by omega), if_pos (by omega), if_pos (by omega), rdI l i hi, isNum_eq, hb, Option.bind_some, if_pos rfl, w64 (by omega) (by omega)]
        rfl
      | false =>
        rw [Bool.false_and]
        refine Ev.step (fun k => ?_) (Ev.now false)
        rw [impl_allNums.l0, if_pos (by omega), if_pos (by omega), if_pos (by omega), rdI l i hi, isNum_eq, hb, Option.bind_some, if_neg Bool.false_ne_true]
  have := key 0 (Nat.zero_le _)
  rw [List.drop_zero] at this
  exact this
theorem specForm_ev (l0 : List Int) (l1 : List (List S57)) (h : Small l0 l1) : Ev (fun k => spec_l1Form.f k l0 l1) (formB l0 l1) := by
  unfold spec_l1Form.f formB
  have bad : Ev (fun k => spec_l1Form.j0 k true l0 l1) false := Ev.step (fun k => by rw [spec_l1Form.j0, if_pos rfl]) (Ev.now false)
  by_cases c : l0.length ≤ 3
  · refine ev_neg (by omega) ?_
    rw [decide_eq_true c, Bool.true_and]
    simp only [l6In_eq, Option.bind_some]
    by_cases d : 1 ≤ l1.length ∧ l1.length ≤ 4
    · have e : inB (l1.length : Int) 1 4 = true := by unfold inB; rw [decide_eq_true (by omega), decide_eq_true (by omega)]; rfl
      rw [e, decide_eq_true d, Bool.true_and]
      refine Ev.step (fun k => by rw [Bool.not_true, spec_l1Form.j0, if_neg Bool.false_ne_true]) ?_
      have acts : ∀ i, (hi : i < l1.length) → l1[i].length ≤ 4 → ∀ R, Ev (fun k => spec_l1Form.l1 k ((i + 1 : Nat) : Int) l0 l1) R → ∀ j, j ≤ l1[i].length → Ev (fun k => spec_l1Form.l2 k (i : Int) (j : Int) l0 l1) ((l1[i].drop j).all (actB (l0.length : Int) (i : Int) (l1.length : Int)) && R) := by
        intro i hi hl R hR
        refine down ?_ ?_
        · rw [List.drop_length, List.all_nil, Bool.true_and]
          refine Ev.step (fun k => ?_) hR
          rw [spec_l1Form.l2, if_pos (by omega), if_pos (by omega), rdBi l1 i hi, if_neg (by omega), w64 (by omega) (by omega)]
          rfl
        · intro j hj ih
          rw [List.drop_eq_getElem_cons hj, List.all_cons]
          have sm := (h.2.2 l1[i] (List.getElem_mem hi)).2 l1[i][j] (List.getElem_mem hj)
          have ha := specAct_ev l0 l1 (i : Int) l1[i][j] c d.2 (by omega) (by omega) sm.1 sm.2
          refine Ev.step (fun k => by rw [spec_l1Form.l2, if_pos (by omega), if_pos (by omega), rdBi l1 i hi, if_pos (by omega), if_pos (by omega), rdAi _ j hj]) (Ev.bind ha ?_)
          cases actB (l0.length : Int) (i : Int) (l1.length : Int) l1[i][j] with
          | true =>
            rw [Bool.true_and]
            refine ev_pos rfl (Ev.congr (fun k => ?_) ih)
            rw [w64 (by omega) (by omega)]
            rfl
          | false =>
            rw [Bool.false_and, Bool.false_and]
            exact ev_neg Bool.false_ne_true (Ev.now _)
      have bods : ∀ i, i ≤ l1.length → Ev (fun k => spec_l1Form.l1 k (i : Int) l0 l1) (restB (l0.length : Int) (l1.length : Int) i (l1.drop i)) := by
        refine down ?_ ?_
        · have e : restB (l0.length : Int) (l1.length : Int) l1.length [] = true := by simp [restB]
          rw [List.drop_length, e]
          exact Ev.step (fun k => by rw [spec_l1Form.l1, if_neg (by omega)]) (Ev.now _)
        · intro i hi ih
          rw [List.drop_eq_getElem_cons hi]
          unfold restB bodyB
          by_cases q : l1[i].length ≤ 4
          · rw [decide_eq_true q, Bool.true_and]
            have := acts i hi q _ ih 0 (Nat.zero_le _)
            rw [List.drop_zero] at this
            refine Ev.step (fun k => ?_) this
            rw [spec_l1Form.l1, if_pos (by omega), if_pos (by omega), rdBi l1 i hi, if_neg (by omega)]
            rfl
          · rw [decide_eq_false q, Bool.false_and, Bool.false_and]
            refine Ev.step (fun k => ?_) (Ev.now false)
            rw [spec_l1Form.l1, if_pos (by omega), if_pos (by omega), rdBi l1 i hi, if_pos (by omega)]
      have key : ∀ i, i ≤ l0.length → Ev (fun k => spec_l1Form.l0 k (i : Int) l0 l1) ((l0.drop i).all (fun x => inB x 0 99) && restB (l0.length : Int) (l1.length : Int) 0 l1) := by
        refine down ?_ ?_
        · rw [List.drop_length, List.all_nil, Bool.true_and]
          have := bods 0 (Nat.zero_le _)
          rw [List.drop_zero] at this
          refine Ev.step (fun k => ?_) this
          rw [spec_l1Form.l0, if_neg (by omega)]
          rfl
        · intro i hi ih
          rw [List.drop_eq_getElem_cons hi, List.all_cons]
          cases hb : inB l0[i] 0 99 with
          | true =>
            rw [Bool.true_and]
            refine Ev.step (fun k => ?_) ih
            rw [spec_l1Form.l0, if_pos (by omega), if_pos (by omega), rdI l0 i hi, l6In_eq, hb, Option.bind_some, if_pos rfl, w64 (by omega) (by omega)]
            rfl
          | false =>
            rw [Bool.false_and, Bool.false_and]
            refine Ev.step (fun k => ?_) (Ev.now false)
            rw [spec_l1Form.l0, if_pos (by omega), if_pos (by omega), rdI l0 i hi, l6In_eq, hb, Option.bind_some, if_neg Bool.false_ne_true]
      have := key 0 (Nat.zero_le _)
      rw [List.drop_zero] at this
      exact this
    · have e : inB (l1.length : Int) 1 4 = false := by
        unfold inB
        rw [← Bool.not_eq_true, Bool.and_eq_true, decide_eq_true_iff, decide_eq_true_iff]
        omega
      rw [e, decide_eq_false d, Bool.false_and]
      exact bad
  · rw [decide_eq_false c, Bool.false_and, Bool.false_and]
    exact ev_pos (by omega) bad
/-- A body's kids, if all is in form: they stand behind it. -/
theorem rest_at {cells bodies : Int} : ∀ {ls : List (List S57)} {i : Nat}, restB cells bodies i ls = true → ∀ j (hj : j < ls.length), bodyB cells bodies (i + j) ls[j] = true
  | [], _, _, j, hj => absurd hj (by simp)
  | l :: ls, i, h, j, hj => by
    unfold restB at h
    rw [Bool.and_eq_true] at h
    match j, hj with
    | 0, _ => exact h.1
    | j + 1, hj =>
      have := rest_at h.2 j (by simp at hj; omega)
      rw [show i + 1 + j = i + (j + 1) by omega] at this
      exact this
theorem kids_behind {cells body bodies : Int} {a : S57} (h : actB cells body bodies a = true) : a.f2.length ≤ 2 ∧ ∀ x ∈ a.f2, body < x ∧ x < bodies := by
  unfold actB at h
  have z : a.f2.length = 0 → a.f2.length ≤ 2 ∧ ∀ x ∈ a.f2, body < x ∧ x < bodies := fun e => ⟨by omega, fun x hx => by rw [List.length_eq_zero_iff.1 e] at hx; cases hx⟩
  split at h
  · rename_i c; exact z c.2.1
  · split at h
    · unfold kidsOk at h
      rw [Bool.and_eq_true, List.all_eq_true, Bool.and_eq_true, decide_eq_true_iff, decide_eq_true_iff] at h
      refine ⟨h.2.2, fun x hx => ?_⟩
      have := h.1 x hx
      unfold kidOk at this
      simp at this
      omega
    · split at h
      · rename_i c; exact z c.2.2.1
      · split at h
        · rename_i c; exact z c.2.2
        · cases h
structure Form (l1 : List (List S57)) : Prop where
  few : 1 ≤ l1.length ∧ l1.length ≤ 4
  acts : ∀ b (hb : b < l1.length), l1[b].length ≤ 4
  kids : ∀ b (hb : b < l1.length), ∀ a ∈ l1[b], a.f2.length ≤ 2 ∧ ∀ x ∈ a.f2, (b : Int) < x ∧ x < (l1.length : Int)
theorem form_of {l0 : List Int} {l1 : List (List S57)} (h : formB l0 l1 = true) : Form l1 := by
  unfold formB at h
  rw [Bool.and_eq_true, Bool.and_eq_true, Bool.and_eq_true, decide_eq_true_iff, decide_eq_true_iff] at h
  have r := fun b hb => rest_at h.2.2 b hb
  refine ⟨h.1.2, fun b hb => ?_, fun b hb a ha => ?_⟩
  · have := r b hb
    unfold bodyB at this
    rw [Bool.and_eq_true, decide_eq_true_iff] at this
    exact this.1
  · have := r b hb
    unfold bodyB at this
    rw [Bool.and_eq_true, List.all_eq_true] at this
    have := kids_behind (this.2 a ha)
    rw [Nat.zero_add] at this
    exact this
/-- The tree of a body: both tell the same. -/
theorem tree_ev {l0 : List Int} {l1 : List (List S57)} (h : Form l1) : ∀ (d b : Nat), b < l1.length → l1.length ≤ b + d → ∃ T : Int, Ev (fun k => spec_l1Tree.f k l0 l1 (b : Int)) T ∧ Ev (fun k => impl_treeOf.f k l0 l1 (b : Int)) T
  | 0, b, hb, hd => absurd hb (by omega)
  | d + 1, b, hb, hd => by
    have hl := h.acts b hb
    have kid : ∀ x : Int, (b : Int) < x → x < (l1.length : Int) → ∃ T : Int, Ev (fun k => spec_l1Tree.f k l0 l1 x) T ∧ Ev (fun k => impl_treeOf.f k l0 l1 x) T := by
      intro x h0 h1
      have := tree_ev (l0 := l0) h d x.toNat (by omega) (by omega)
      rw [Int.toNat_of_nonneg (by omega)] at this
      exact this
    have acts : ∀ i, i ≤ l1[b].length → ∀ s : Int, ∃ T : Int, Ev (fun k => spec_l1Tree.l0 k (b : Int) s (i : Int) l0 l1) T ∧ Ev (fun k => impl_treeOf.l0 k s l1[b] (l1[b].length : Int) (i : Int) l0 l1) T := by
      refine down ?_ ?_
      · intro s
        refine ⟨s, Ev.step (fun k => ?_) (Ev.now _), Ev.step (fun k => ?_) (Ev.now _)⟩
        · rw [spec_l1Tree.l0, if_pos (by omega), if_pos (by omega), rdBi l1 b hb, if_neg (by omega)]
        · rw [impl_treeOf.l0, if_neg (by omega)]
      · intro i hi ih s
        obtain ⟨hk, hx⟩ := h.kids b hb l1[b][i] (List.getElem_mem hi)
        have inner : ∀ j, j ≤ l1[b][i].f2.length → ∀ s : Int, ∃ T : Int, Ev (fun k => spec_l1Tree.l1 k (b : Int) s (i : Int) l1[b][i].f2 (j : Int) l0 l1) T ∧ Ev (fun k => impl_treeOf.l1 k s l1[b] (l1[b].length : Int) (i : Int) l1[b][i].f2 (l1[b][i].f2.length : Int) (j : Int) l0 l1) T := by
          refine down ?_ ?_
          · intro s
            obtain ⟨T, t1, t2⟩ := ih s
            refine ⟨T, Ev.step (fun k => ?_) t1, Ev.step (fun k => ?_) t2⟩
            · rw [spec_l1Tree.l1, if_neg (by omega), w64 (by omega) (by omega)]
              rfl
            · rw [impl_treeOf.l1, if_neg (by omega), w64 (by omega) (by omega)]
              rfl
          · intro j hj ih2 s
            obtain ⟨q0, q1⟩ := hx _ (List.getElem_mem hj)
            obtain ⟨t, u1, u2⟩ := kid _ q0 q1
            obtain ⟨T, t1, t2⟩ := ih2 (wrap64 (s + t))
            refine ⟨T, Ev.step (fun k => by rw [spec_l1Tree.l1, if_pos (by omega), if_pos (by omega), rdI _ j hj]) (Ev.bind u1 (Ev.congr (fun k => ?_) t1)), Ev.step (fun k => by rw [impl_treeOf.l1, if_pos (by omega), if_pos (by omega), if_pos (by omega), rdI _ j hj]) (Ev.bind u2 (Ev.congr (fun k => ?_) t2))⟩
            · rw [w64 (i := (j : Int) + 1) (by omega) (by omega)]
              rfl
            · rw [w64 (i := (j : Int) + 1) (by omega) (by omega)]
              rfl
        obtain ⟨T, t1, t2⟩ := inner 0 (Nat.zero_le _) s
        refine ⟨T, Ev.step (fun k => ?_) t1, Ev.step (fun k => ?_) t2⟩
        · rw [spec_l1Tree.l0, if_pos (by omega), if_pos (by omega), rdBi l1 b hb, if_pos (by omega), if_pos (by omega), rdAi _ i hi]
          rfl
        · rw [impl_treeOf.l0, if_pos (by omega), if_pos (by omega), if_pos (by omega), rdAi _ i hi]
          rfl
    obtain ⟨T, t1, t2⟩ := acts 0 (Nat.zero_le _) 1
    refine ⟨T, Ev.step (fun k => ?_) t1, Ev.step (fun k => ?_) t2⟩
    · rw [spec_l1Tree.f]
      rfl
    · rw [impl_treeOf.f, if_pos (by omega), if_pos (by omega), rdBi l1 b hb]
      rfl
/-- Is a program one? Both tell the same; if it is one, it is in form. -/
theorem ok_ev (l0 : List Int) (l1 : List (List S57)) (h : Small l0 l1) : ∃ R : Bool, Ev (fun k => spec_ProgOk.f k l0 l1) R ∧ Ev (fun k => impl_ProgOk.f k l0 l1) R ∧ (R = true → formB l0 l1 = true) := by
  have sf := specForm_ev l0 l1 h
  cases hf : formB l0 l1 with
  | true =>
    rw [hf] at sf
    have fm := form_of hf
    obtain ⟨T, t1, t2⟩ := tree_ev (l0 := l0) fm 4 0 (by have := fm.few; omega) (by have := fm.few; omega)
    refine ⟨decide (T ≤ 7), ?_, ?_, fun _ => rfl⟩
    · unfold spec_ProgOk.f
      exact Ev.bind sf (ev_pos rfl (Ev.bind t1 (Ev.now _)))
    · unfold formB at hf
      rw [Bool.and_eq_true, Bool.and_eq_true, Bool.and_eq_true, decide_eq_true_iff, decide_eq_true_iff] at hf
      obtain ⟨⟨h3, h4⟩, h5, h6⟩ := hf
      have an := allNums_ev l0 h.1
      have ou := outer_ev (l0.length : Int) (l1.length : Int) l1 0 (fun b hb x hx => ((h.2.2 b hb).2 x hx).1)
      rw [h5] at an
      rw [h6] at ou
      unfold impl_ProgOk.f
      exact ev_neg (by omega) (Ev.bind an (ev_pos rfl (ev_neg (by omega) (Ev.bind ou (ev_pos rfl (Ev.bind t2 (Ev.now _)))))))
  | false =>
    rw [hf] at sf
    refine ⟨false, ?_, ?_, fun q => by cases q⟩
    · unfold spec_ProgOk.f
      exact Ev.bind sf (ev_neg Bool.false_ne_true (Ev.now _))
    · have an := allNums_ev l0 h.1
      have ou := outer_ev (l0.length : Int) (l1.length : Int) l1 0 (fun b hb x hx => ((h.2.2 b hb).2 x hx).1)
      unfold impl_ProgOk.f
      by_cases c : l0.length > 3
      · exact ev_pos c (Ev.now _)
      refine ev_neg c (Ev.bind an ?_)
      cases h5 : l0.all (fun x => inB x 0 99) with
      | false => exact ev_neg Bool.false_ne_true (Ev.now _)
      | true =>
        refine ev_pos rfl ?_
        by_cases c2 : l1.length < 1 ∨ 4 < l1.length
        · exact ev_pos c2 (Ev.now _)
        refine ev_neg c2 (Ev.bind ou ?_)
        cases h6 : restB (l0.length : Int) (l1.length : Int) 0 l1 with
        | false => exact ev_neg Bool.false_ne_true (Ev.now _)
        | true =>
          exfalso
          unfold formB at hf
          rw [h5, h6, decide_eq_true (show l0.length ≤ 3 by omega), decide_eq_true (show 1 ≤ l1.length ∧ l1.length ≤ 4 by omega)] at hf
          cases hf
end Go.Proofs.Ytoeepmcaabmjkaa.PTree
namespace Go.Proofs.Ytoeepmcaabmjkaa.PTau
open Go.RowKit Go.Proofs.Ytoeepmcaabmjkaa.QPM Go.Proofs.YtoeepmcaabmjkaaW.PrintWords Go.Proofs.YtoeepmcaabmjkaaW.PrintLast Go.Proofs.Ytoeepmcaabmjkaa.PProg Go.Proofs.Ytoeepmcaabmjkaa.PTree
theorem Ev_det {α : Type} {f : Nat → Option α} {a b : α} (h1 : Ev f a) (h2 : Ev f b) : a = b := by
  obtain ⟨n, h1⟩ := h1
  obtain ⟨m, h2⟩ := h2
  have e1 := h1 (max n m) (by omega)
  have e2 := h2 (max n m) (by omega)
  rw [e1] at e2
  injection e2
def tr (l1 : List (List S57)) : Nat → Int → Int
  | 0, _ => 0
  | d + 1, b => 1 + ((l1.getD b.toNat []).map (fun a => (a.f2.map (tr l1 d)).sum)).sum
theorem sum_nn {α : Type} {f : α → Int} : ∀ {l : List α}, (∀ x ∈ l, 0 ≤ f x) → 0 ≤ (l.map f).sum
  | [], _ => by simp
  | x :: l, h => by
    have h1 := h x (List.mem_cons_self)
    have h2 := sum_nn (l := l) (fun y hy => h y (List.mem_cons_of_mem _ hy))
    rw [List.map_cons, List.sum_cons]
    omega
theorem sum_le {α : Type} {f : α → Int} {c : Int} (hc : 0 ≤ c) : ∀ {l : List α}, (∀ x ∈ l, f x ≤ c) → (l.map f).sum ≤ l.length * c
  | [], _ => by simp
  | x :: l, h => by
    have h1 := h x (List.mem_cons_self)
    have h2 := sum_le hc (l := l) (fun y hy => h y (List.mem_cons_of_mem _ hy))
    rw [List.map_cons, List.sum_cons, List.length_cons]
    have : ((l.length + 1 : Nat) : Int) * c = l.length * c + c := by rw [Int.natCast_add, Int.add_mul]; simp
    omega
theorem tr_nn (l1 : List (List S57)) : ∀ d b, 0 ≤ tr l1 d b
  | 0, _ => by simp [tr]
  | d + 1, b => by
    have : 0 ≤ ((l1.getD b.toNat []).map (fun a => (a.f2.map (tr l1 d)).sum)).sum := sum_nn (fun a _ => sum_nn (fun x _ => tr_nn l1 d x))
    rw [tr]
    omega
theorem getD_at {α : Type} {l : List α} {z : α} {i : Nat} (h : i < l.length) : l.getD i z = l[i] := by
  rw [List.getD_eq_getElem?_getD, List.getElem?_eq_getElem h]
  rfl
/-- A body is few tasks. -/
theorem tr_le {l1 : List (List S57)} (h : PTree.Form l1) : ∀ (d : Nat) (b : Int), 0 ≤ b → b < l1.length → tr l1 d b ≤ 9 ^ d
  | 0, _, _, _ => by simp [tr]
  | d + 1, b, h0, h1 => by
    have hb : b.toNat < l1.length := by omega
    have hp : (0 : Int) ≤ 9 ^ d := Int.pow_nonneg (by decide)
    have hl := h.acts b.toNat hb
    have k1 : ((l1[b.toNat]).map (fun a => (a.f2.map (tr l1 d)).sum)).sum ≤ (l1[b.toNat]).length * (2 * 9 ^ d) := by
      refine sum_le (by omega) (fun a ha => ?_)
      obtain ⟨g1, g2⟩ := h.kids b.toNat hb a ha
      have := sum_le (f := tr l1 d) hp (l := a.f2) (fun x hx => tr_le h d x (by have := (g2 x hx).1; omega) (g2 x hx).2)
      have k2 : (a.f2.length : Int) * 9 ^ d ≤ 2 * 9 ^ d := Int.mul_le_mul_of_nonneg_right (by omega) hp
      omega
    have k3 : ((l1[b.toNat]).length : Int) * (2 * 9 ^ d) ≤ 4 * (2 * 9 ^ d) := Int.mul_le_mul_of_nonneg_right (by omega) (by omega)
    have hq : (0 : Int) < 9 ^ d := Int.pow_pos (by decide)
    rw [tr, getD_at hb, Int.pow_succ]
    omega
/-- The tree of a body, as a number: both tell it. -/
theorem tau_ev {l0 : List Int} {l1 : List (List S57)} (h : PTree.Form l1) : ∀ (d b : Nat), d ≤ 4 → b < l1.length → l1.length ≤ b + d → Ev (fun k => spec_l1Tree.f k l0 l1 (b : Int)) (tr l1 d b) ∧ Ev (fun k => impl_treeOf.f k l0 l1 (b : Int)) (tr l1 d b)
  | 0, b, _, hb, hd => absurd hb (by omega)
  | d + 1, b, h4, hb, hd => by
    have hl := h.acts b hb
    have kid : ∀ x : Int, (b : Int) < x → x < (l1.length : Int) → Ev (fun k => spec_l1Tree.f k l0 l1 x) (tr l1 d x) ∧ Ev (fun k => impl_treeOf.f k l0 l1 x) (tr l1 d x) := by
      intro x h0 h1
      have := tau_ev (l0 := l0) h d x.toNat (by omega) (by omega) (by omega)
      rw [Int.toNat_of_nonneg (by omega)] at this
      exact this
    have gnn : ∀ a : S57, 0 ≤ (a.f2.map (tr l1 d)).sum := fun a => sum_nn (fun x _ => tr_nn l1 d x)
    have acts : ∀ i, i ≤ l1[b].length → ∀ s : Int, 0 ≤ s → s + ((l1[b].drop i).map (fun a => (a.f2.map (tr l1 d)).sum)).sum ≤ 1000000 →
        Ev (fun k => spec_l1Tree.l0 k (b : Int) s (i : Int) l0 l1) (s + ((l1[b].drop i).map (fun a => (a.f2.map (tr l1 d)).sum)).sum) ∧ Ev (fun k => impl_treeOf.l0 k s l1[b] (l1[b].length : Int) (i : Int) l0 l1) (s + ((l1[b].drop i).map (fun a => (a.f2.map (tr l1 d)).sum)).sum) := by
      refine down ?_ ?_
      · intro s _ _
        rw [List.drop_length, List.map_nil, List.sum_nil, Int.add_zero]
        refine ⟨Ev.step (fun k => ?_) (Ev.now _), Ev.step (fun k => ?_) (Ev.now _)⟩
        · rw [spec_l1Tree.l0, if_pos (by omega), if_pos (by omega), rdBi l1 b hb, if_neg (by omega)]
        · rw [impl_treeOf.l0, if_neg (by omega)]
      · intro i hi ih s s0 s1
        obtain ⟨hk, hx⟩ := h.kids b hb l1[b][i] (List.getElem_mem hi)
        rw [List.drop_eq_getElem_cons hi, List.map_cons, List.sum_cons] at s1 ⊢
        have rn : 0 ≤ ((l1[b].drop (i + 1)).map (fun a => (a.f2.map (tr l1 d)).sum)).sum := sum_nn (fun a _ => gnn a)
        have inner : ∀ j, j ≤ l1[b][i].f2.length → ∀ s : Int, 0 ≤ s → s + ((l1[b][i].f2.drop j).map (tr l1 d)).sum + ((l1[b].drop (i + 1)).map (fun a => (a.f2.map (tr l1 d)).sum)).sum ≤ 1000000 →
            Ev (fun k => spec_l1Tree.l1 k (b : Int) s (i : Int) l1[b][i].f2 (j : Int) l0 l1) (s + ((l1[b][i].f2.drop j).map (tr l1 d)).sum + ((l1[b].drop (i + 1)).map (fun a => (a.f2.map (tr l1 d)).sum)).sum) ∧
            Ev (fun k => impl_treeOf.l1 k s l1[b] (l1[b].length : Int) (i : Int) l1[b][i].f2 (l1[b][i].f2.length : Int) (j : Int) l0 l1) (s + ((l1[b][i].f2.drop j).map (tr l1 d)).sum + ((l1[b].drop (i + 1)).map (fun a => (a.f2.map (tr l1 d)).sum)).sum) := by
          refine down ?_ ?_
          · intro s s0 s1
            rw [List.drop_length, List.map_nil, List.sum_nil, Int.add_zero] at s1 ⊢
            obtain ⟨t1, t2⟩ := ih s s0 s1
            refine ⟨Ev.step (fun k => ?_) t1, Ev.step (fun k => ?_) t2⟩
            · rw [spec_l1Tree.l1, if_neg (by omega), w64 (by omega) (by omega)]
              rfl
            · rw [impl_treeOf.l1, if_neg (by omega), w64 (by omega) (by omega)]
              rfl
          · intro j hj ih2 s s0 s1
            rw [List.drop_eq_getElem_cons hj, List.map_cons, List.sum_cons] at s1 ⊢
            have kn : 0 ≤ ((l1[b][i].f2.drop (j + 1)).map (tr l1 d)).sum := sum_nn (fun x _ => tr_nn l1 d x)
            have tn := tr_nn l1 d (l1[b][i].f2[j])
            obtain ⟨q0, q1⟩ := hx _ (List.getElem_mem hj)
            obtain ⟨u1, u2⟩ := kid _ q0 q1
            have ew : wrap64 (s + tr l1 d l1[b][i].f2[j]) = s + tr l1 d l1[b][i].f2[j] := w64 (by omega) (by omega)
            obtain ⟨t1, t2⟩ := ih2 (s + tr l1 d l1[b][i].f2[j]) (by omega) (by omega)
            rw [show s + (tr l1 d l1[b][i].f2[j] + ((l1[b][i].f2.drop (j + 1)).map (tr l1 d)).sum) = s + tr l1 d l1[b][i].f2[j] + ((l1[b][i].f2.drop (j + 1)).map (tr l1 d)).sum by omega]
            refine ⟨Ev.step (fun k => by rw [spec_l1Tree.l1, if_pos (by omega), if_pos (by omega), rdI _ j hj]) (Ev.bind u1 (Ev.congr (fun k => ?_) t1)), Ev.step (fun k => by rw [impl_treeOf.l1, if_pos (by omega), if_pos (by omega), if_pos (by omega), rdI _ j hj]) (Ev.bind u2 (Ev.congr (fun k => ?_) t2))⟩
            · rw [w64 (i := (j : Int) + 1) (by omega) (by omega), ew]
              rfl
            · rw [w64 (i := (j : Int) + 1) (by omega) (by omega), ew]
              rfl
        obtain ⟨t1, t2⟩ := inner 0 (Nat.zero_le _) s s0 (by rw [List.drop_zero]; omega)
        rw [List.drop_zero, Int.add_assoc] at t1 t2
        refine ⟨Ev.step (fun k => ?_) t1, Ev.step (fun k => ?_) t2⟩
        · rw [spec_l1Tree.l0, if_pos (by omega), if_pos (by omega), rdBi l1 b hb, if_pos (by omega), if_pos (by omega), rdAi _ i hi]
          rfl
        · rw [impl_treeOf.l0, if_pos (by omega), if_pos (by omega), if_pos (by omega), rdAi _ i hi]
          rfl
    have bd := tr_le h (d + 1) (b : Int) (by omega) (by omega)
    have p9 : (9 : Int) ^ (d + 1) ≤ 6561 := by
      have : d = 0 ∨ d = 1 ∨ d = 2 ∨ d = 3 := by omega
      rcases this with rfl | rfl | rfl | rfl <;> decide
    have et : tr l1 (d + 1) (b : Int) = 1 + ((l1[b].drop 0).map (fun a => (a.f2.map (tr l1 d)).sum)).sum := by
      rw [tr, Int.toNat_natCast, getD_at hb, List.drop_zero]
    rw [et] at bd ⊢
    obtain ⟨t1, t2⟩ := acts 0 (Nat.zero_le _) 1 (by decide) (by omega)
    refine ⟨Ev.step (fun k => ?_) t1, Ev.step (fun k => ?_) t2⟩
    · rw [spec_l1Tree.f]
      rfl
    · rw [impl_treeOf.f, if_pos (by omega), if_pos (by omega), rdBi l1 b hb]
      rfl
/-- How many tasks body b may be. -/
def tau (l1 : List (List S57)) (b : Int) : Int := tr l1 4 b
theorem tau_at {l0 : List Int} {l1 : List (List S57)} (h : PTree.Form l1) (b : Int) (h0 : 0 ≤ b) (h1 : b < l1.length) : Ev (fun k => spec_l1Tree.f k l0 l1 b) (tau l1 b) ∧ Ev (fun k => impl_treeOf.f k l0 l1 b) (tau l1 b) := by
  have := tau_ev (l0 := l0) h 4 b.toNat (Nat.le_refl _) (by omega) (by have := h.few; omega)
  rw [Int.toNat_of_nonneg h0] at this
  exact this
/-- Is a program one? Both tell the same; one is in form, and its first body is few tasks. -/
theorem ok_tau (l0 : List Int) (l1 : List (List S57)) (h : Small l0 l1) : ∃ R : Bool, Ev (fun k => spec_ProgOk.f k l0 l1) R ∧ Ev (fun k => impl_ProgOk.f k l0 l1) R ∧ (R = true → formB l0 l1 = true ∧ PTree.Form l1 ∧ tau l1 0 ≤ 7) := by
  obtain ⟨R, r1, r2, r3⟩ := ok_ev l0 l1 h
  refine ⟨R, r1, r2, fun hR => ⟨r3 hR, form_of (r3 hR), ?_⟩⟩
  have fm := form_of (r3 hR)
  have sf := specForm_ev l0 l1 h
  rw [r3 hR] at sf
  have t0 := (tau_at (l0 := l0) fm 0 (by decide) (by have := fm.few; omega)).1
  have r4 : Ev (fun k => spec_ProgOk.f k l0 l1) (decide (tau l1 0 ≤ 7)) := by
    unfold spec_ProgOk.f
    exact Ev.bind sf (ev_pos rfl (Ev.bind t0 (Ev.now _)))
  have := Ev_det r1 r4
  rw [hR] at this
  exact of_decide_eq_true this.symm
end Go.Proofs.Ytoeepmcaabmjkaa.PTau
namespace Go.Proofs.Ytoeepmcaabmjkaa.PDraw
open Go.RowKit Go.Proofs.Ytoeepmcaabmjkaa.QPM Go.Proofs.YtoeepmcaabmjkaaW.PrintWords Go.Proofs.YtoeepmcaabmjkaaW.PrintLast Go.Proofs.Ytoeepmcaabmjkaa.PProg
theorem i64_xor (a b : Int) (h1 : 0 ≤ a) (h2 : a < 9223372036854775808) (h3 : 0 ≤ b) (h4 : b < 9223372036854775808) : 0 ≤ Go.bits .xor .i64 a b := by
  obtain ⟨A, rfl⟩ := Int.eq_ofNat_of_zero_le h1
  obtain ⟨B, rfl⟩ := Int.eq_ofNat_of_zero_le h3
  have hx : A ^^^ B < 2 ^ 63 := Nat.xor_lt_two_pow (by omega) (by omega)
  show (0 : Int) ≤ IntKind.i64.wrap ((BitVec.ofInt 64 (A : Int) ^^^ BitVec.ofInt 64 (B : Int)).toNat : Int)
  rw [BitVec.toNat_xor, ofInt_u64 A (by omega), ofInt_u64 B (by omega)]
  simp [IntKind.wrap, IntKind.bits, IntKind.signed]
  omega
theorem tmod_in {a n : Int} (ha : 0 ≤ a) (hn : 1 ≤ n) : 0 ≤ Int.tmod a n ∧ Int.tmod a n < n :=
  ⟨Int.tmod_nonneg n ha, Int.tmod_lt_of_pos a (by omega)⟩
def Bytes (b : List Int) : Prop := ∀ x ∈ b, 0 ≤ x ∧ x ≤ 255
theorem rd_byte {b : List Int} (hb : Bytes b) (i : Int) : 0 ≤ rd b i ∧ rd b i ≤ 255 := by
  unfold rd
  rw [List.getD_eq_getElem?_getD]
  cases h : b[i.toNat]? with
  | none => simp
  | some x => exact hb x (List.mem_of_getElem? h)
theorem pick_ev (b : List Int) (hb : Bytes b) (hl : b.length ≤ 2000) (n p : Int) (hp : 0 ≤ p) (hp' : p ≤ 1000000) (hn : n ≤ 1000000000) :
    ∃ r, Ev (fun k => spec_l6Rd_pick.f k b p n) (r, p + 1) ∧ 0 ≤ r ∧ (1 ≤ n → r < n) ∧ (n < 1 → r = 0) := by
  have e1 : wrap64 (p + 1) = p + 1 := w64 (by omega) (by omega)
  have e0 : wrap64 (p + 1 - 1) = p := by rw [show p + 1 - 1 = p by omega]; exact w64 (by omega) (by omega)
  by_cases h1 : n < 1
  · refine ⟨0, ?_, by omega, by omega, fun _ => rfl⟩
    unfold spec_l6Rd_pick.f
    refine ev_pos h1 (Ev.step (fun k => ?_) (Ev.now _))
    rw [spec_l6Rd_pick.j0, if_pos rfl, e1]
  · by_cases h2 : b.length = 0
    · refine ⟨0, ?_, by omega, by omega, fun _ => rfl⟩
      unfold spec_l6Rd_pick.f
      refine ev_neg h1 (Ev.step (fun k => ?_) (Ev.now _))
      rw [spec_l6Rd_pick.j0, if_pos (by simp [h2]), e1]
    · have hne : ((b.length : Int) == 0) = false := by simp; intro h; exact h2 (by simp [h])
      by_cases h3 : p < (b.length : Int)
      · have hr := rd_byte hb p
        have hw : wrap64 (rd b p) = rd b p := w64 (by omega) (by omega)
        refine ⟨Int.tmod (rd b p) n, ?_, (tmod_in hr.1 (by omega)).1, fun _ => (tmod_in hr.1 (by omega)).2, by omega⟩
        unfold spec_l6Rd_pick.f
        refine ev_neg h1 (Ev.step (fun k => ?_) (Ev.now _))
        rw [spec_l6Rd_pick.j0, hne, if_neg Bool.false_ne_true, e1, e0, if_pos h3, if_pos hp, if_neg (by omega), hw]
      · have hL : 1 ≤ (b.length : Int) := by omega
        have m1 := tmod_in (a := p) hp hL
        have e7 : wrap64 (p * 7) = p * 7 := w64 (by omega) (by omega)
        have e73 : wrap64 (p * 7 + 3) = p * 7 + 3 := w64 (by omega) (by omega)
        have m2 := tmod_in (a := p * 7 + 3) (by omega) hL
        have r1 := rd_byte hb (Int.tmod p (b.length : Int))
        have r2 := rd_byte hb (Int.tmod (p * 7 + 3) (b.length : Int))
        generalize hA : rd b (Int.tmod p (b.length : Int)) = A at r1
        generalize hB : rd b (Int.tmod (p * 7 + 3) (b.length : Int)) = B at r2
        have q1 : 0 ≤ Int.tdiv p (b.length : Int) := Int.tdiv_nonneg hp (by omega)
        have q2 : Int.tdiv p (b.length : Int) ≤ p := by
          rw [Int.tdiv_eq_ediv_of_nonneg hp]
          exact Int.ediv_le_self _ hp
        generalize hQ : Int.tdiv p (b.length : Int) = Q at q1 q2
        have eX : wrap64 ((wrap64 ((wrap64 ((wrap64 ((wrap64 A) * 131)) + (wrap64 ((wrap64 B) * 1117)))) + (wrap64 (p * 29)))) + (wrap64 ((wrap64 Q) * 53))) = A * 131 + B * 1117 + p * 29 + Q * 53 := by
          rw [w64 (i := A) (by omega) (by omega), w64 (i := B) (by omega) (by omega), w64 (i := Q) (by omega) (by omega), w64 (i := A * 131) (by omega) (by omega),
            w64 (i := B * 1117) (by omega) (by omega), w64 (i := A * 131 + B * 1117) (by omega) (by omega), w64 (i := p * 29) (by omega) (by omega), w64 (i := A * 131 + B * 1117 + p * 29) (by omega) (by omega),
            w64 (i := Q * 53) (by omega) (by omega), w64 (by omega) (by omega)]
        have t1 : 0 ≤ Int.tdiv (A * 131 + B * 1117 + p * 29 + Q * 53) 64 := Int.tdiv_nonneg (by omega) (by omega)
        have t2 : Int.tdiv (A * 131 + B * 1117 + p * 29 + Q * 53) 64 ≤ A * 131 + B * 1117 + p * 29 + Q * 53 := by
          rw [Int.tdiv_eq_ediv_of_nonneg (by omega)]
          exact Int.ediv_le_self _ (by omega)
        generalize hT : Int.tdiv (A * 131 + B * 1117 + p * 29 + Q * 53) 64 = T at t1 t2
        have hx := i64_xor (A * 131 + B * 1117 + p * 29 + Q * 53) T (by omega) (by omega) t1 (by omega)
        generalize hX : Go.bits .xor .i64 (A * 131 + B * 1117 + p * 29 + Q * 53) T = X at hx
        refine ⟨Int.tmod X n, ?_, (tmod_in hx (by omega)).1, fun _ => (tmod_in hx (by omega)).2, by omega⟩
        unfold spec_l6Rd_pick.f
        refine ev_neg h1 (Ev.step (fun k => ?_) (Ev.now _))
        rw [spec_l6Rd_pick.j0, hne, if_neg Bool.false_ne_true, e1, e0, if_neg h3, if_neg (by omega), if_pos m1.1, if_pos m1.2, e7, e73, if_pos m2.1, if_pos m2.2, if_neg (by omega), hA, hB, hQ, eX, hT,
          w64 (i := T) (by omega) (by omega), hX]
theorem open_ev (l : List Int) (hl : ∀ x ∈ l, (Lit.int .u8 x).wf = true) : ∃ b, spec_l6Open.f l = some (b, 0) ∧ Bytes b ∧ b.length ≤ 2000 := by
  have hb : Bytes l := by
    intro x hx
    have := hl x hx
    simp [Lit.wf, IntKind.min, IntKind.max, IntKind.bits, IntKind.signed] at this
    omega
  unfold spec_l6Open.f
  by_cases h : (l.length : Int) > 2000
  · rw [if_pos h, if_pos (by omega)]
    exact ⟨_, rfl, fun x hx => hb x (List.mem_of_mem_take hx), by rw [List.length_take]; omega⟩
  · rw [if_neg h]
    exact ⟨l, rfl, hb, by omega⟩
/-- A drawn deed: whatever it is, drawing it takes at most three picks. -/
theorem l71Deed_ev (b : List Int) (hb : Bytes b) (hl : b.length ≤ 2000) (n p : Int) (hp : 0 ≤ p) (hp' : p ≤ 100000) (hn : n ≤ 1000000000) :
    ∃ r : Int × Int × Int × Int, Ev (fun k => spec_l71Deed.f k b p n) r ∧ p ≤ r.2.2.2 ∧ r.2.2.2 ≤ p + 3 := by
  unfold spec_l71Deed.f
  by_cases h : n = 0
  · obtain ⟨a, ea, -⟩ := pick_ev b hb hl 3 p hp (by omega) (by omega)
    obtain ⟨c, ec, -⟩ := pick_ev b hb hl 5 (p + 1) (by omega) (by omega) (by omega)
    exact ⟨(3, a, c, p + 1 + 1), ev_pos h (Ev.bind ea (Ev.bind ec (Ev.now _))), by dsimp only; omega, by dsimp only; omega⟩
  · obtain ⟨a, ea, a0, a1, -⟩ := pick_ev b hb hl 10 p hp (by omega) (by omega)
    have J1 : ∀ v : Bool, ∃ r : Int × Int × Int × Int, Ev (fun k => spec_l71Deed.j1 k n a v b (p + 1)) r ∧ p ≤ r.2.2.2 ∧ r.2.2.2 ≤ p + 3 := by
      intro v
      cases v with
      | true =>
        obtain ⟨c, ec, -⟩ := pick_ev b hb hl n (p + 1) (by omega) (by omega) (by omega)
        obtain ⟨d, ed, -⟩ := pick_ev b hb hl 3 (p + 1 + 1) (by omega) (by omega) (by omega)
        exact ⟨(2, c, d, p + 1 + 1 + 1), Ev.step (fun k => by rw [spec_l71Deed.j1, if_pos rfl]) (by exact Ev.bind ec (Ev.bind ed (Ev.now _))), by dsimp only; omega, by dsimp only; omega⟩
      | false =>
        obtain ⟨c, ec, -⟩ := pick_ev b hb hl 3 (p + 1) (by omega) (by omega) (by omega)
        obtain ⟨d, ed, -⟩ := pick_ev b hb hl 8 (p + 1 + 1) (by omega) (by omega) (by omega)
        obtain ⟨f, ef, -⟩ := pick_ev b hb hl 3 (p + 1 + 1) (by omega) (by omega) (by omega)
        by_cases h7 : a = 7
        · exact ⟨(3, c, d, p + 1 + 1 + 1), Ev.step (fun k => by rw [spec_l71Deed.j1, if_neg Bool.false_ne_true, if_pos h7]) (by exact Ev.bind ec (Ev.bind ed (Ev.now _))), by dsimp only; omega, by dsimp only; omega⟩
        · by_cases h8 : a = 8
          · exact ⟨(4, c, f, p + 1 + 1 + 1), Ev.step (fun k => by rw [spec_l71Deed.j1, if_neg Bool.false_ne_true, if_neg h7, if_pos h8]) (by exact Ev.bind ec (Ev.bind ef (Ev.now _))), by dsimp only; omega, by dsimp only; omega⟩
          · exact ⟨(5, c, 0, p + 1 + 1), Ev.step (fun k => by rw [spec_l71Deed.j1, if_neg Bool.false_ne_true, if_neg h7, if_neg h8]) (by exact Ev.bind ec (Ev.now _)), by dsimp only; omega, by dsimp only; omega⟩
    have J0 : ∀ v : Bool, ∃ r : Int × Int × Int × Int, Ev (fun k => spec_l71Deed.j0 k n a v b (p + 1)) r ∧ p ≤ r.2.2.2 ∧ r.2.2.2 ≤ p + 3 := by
      intro v
      cases v with
      | true =>
        obtain ⟨c, ec, -⟩ := pick_ev b hb hl 3 (p + 1) (by omega) (by omega) (by omega)
        obtain ⟨d, ed, -⟩ := pick_ev b hb hl n (p + 1 + 1) (by omega) (by omega) (by omega)
        exact ⟨(1, c, d, p + 1 + 1 + 1), Ev.step (fun k => by rw [spec_l71Deed.j0, if_pos rfl]) (by exact Ev.bind ec (Ev.bind ed (Ev.now _))), by dsimp only; omega, by dsimp only; omega⟩
      | false =>
        by_cases h4 : a = 4
        · obtain ⟨r, er, h⟩ := J1 (a == 4)
          exact ⟨r, Ev.step (fun k => by rw [spec_l71Deed.j0, if_neg Bool.false_ne_true, if_pos h4]) er, h⟩
        · by_cases h5 : a = 5
          · obtain ⟨r, er, h⟩ := J1 (a == 5)
            exact ⟨r, Ev.step (fun k => by rw [spec_l71Deed.j0, if_neg Bool.false_ne_true, if_neg h4, if_pos h5]) er, h⟩
          · obtain ⟨r, er, h⟩ := J1 (a == 6)
            exact ⟨r, Ev.step (fun k => by rw [spec_l71Deed.j0, if_neg Bool.false_ne_true, if_neg h4, if_neg h5]) er, h⟩
    by_cases h0 : a = 0
    · obtain ⟨r, er, hr⟩ := J0 (a == 0)
      exact ⟨r, ev_neg h (Ev.bind ea (ev_pos h0 er)), hr⟩
    · by_cases h1 : a = 1
      · obtain ⟨r, er, hr⟩ := J0 (a == 1)
        exact ⟨r, ev_neg h (Ev.bind ea (ev_neg h0 (ev_pos h1 er))), hr⟩
      · by_cases h2 : a = 2
        · obtain ⟨r, er, hr⟩ := J0 (a == 2)
          exact ⟨r, ev_neg h (Ev.bind ea (ev_neg h0 (ev_neg h1 (ev_pos h2 er)))), hr⟩
        · obtain ⟨r, er, hr⟩ := J0 (a == 3)
          exact ⟨r, ev_neg h (Ev.bind ea (ev_neg h0 (ev_neg h1 (ev_neg h2 er)))), hr⟩
/-- Drawn deeds: at most five, with at most 22 picks. -/
theorem l71Deeds_ev (b : List Int) (hb : Bytes b) (hl : b.length ≤ 2000) (n p : Int) (hp : 0 ≤ p) (hp' : p ≤ 10000) (hn : n ≤ 1000000000) :
    ∃ r : List S122 × Int, Ev (fun k => spec_l71Deeds.f k b p n) r ∧ r.1.length ≤ 5 ∧ p ≤ r.2 ∧ r.2 ≤ p + 22 := by
  have L0 : ∀ (m : Nat) (d : List S122) (q : Int), p ≤ q → q + 3 * m ≤ 20000 → d.length + m ≤ 5 → m ≤ 5 →
      ∃ r : List S122 × Int, Ev (fun k => spec_l71Deeds.l0 k n d (m : Int) b q) r ∧ r.1.length ≤ 5 ∧ p ≤ r.2 ∧ r.2 ≤ q + 3 * m := by
    intro m
    induction m with
    | zero =>
      intro d q h1 h2 h3 h4
      exact ⟨(d, q), Ev.step (fun k => by rw [spec_l71Deeds.l0, if_neg (by omega)]) (Ev.now _), by dsimp only; omega, by dsimp only; omega, by dsimp only; omega⟩
    | succ m ih =>
      intro d q h1 h2 h3 h4
      obtain ⟨t, et, t1, t2⟩ := l71Deed_ev b hb hl n q (by omega) (by omega) hn
      obtain ⟨r, er, k1, k2, k3⟩ := ih (d ++ [⟨t.1, t.2.1, t.2.2.1⟩]) t.2.2.2 (by omega) (by omega) (by rw [List.length_append]; simp; omega) (by omega)
      refine ⟨r, Ev.step (fun k => by rw [spec_l71Deeds.l0, if_pos (by omega)]) ?_, k1, k2, by omega⟩
      refine Ev.bind et (ev_pos (by omega) ?_)
      rw [w64 (by omega) (by omega), show ((m + 1 : Nat) : Int) - 1 = (m : Int) by omega]
      exact er
  have J0 : ∀ (v : Bool) (q : Int), p ≤ q → q ≤ p + 1 → ∃ r : List S122 × Int, Ev (fun k => spec_l71Deeds.j0 k n v b q) r ∧ r.1.length ≤ 5 ∧ p ≤ r.2 ∧ r.2 ≤ p + 22 := by
    intro v q h1 h2
    cases v with
    | true =>
      obtain ⟨c, ec, -⟩ := pick_ev b hb hl n q (by omega) (by omega) (by omega)
      obtain ⟨d, ed, -⟩ := pick_ev b hb hl 4 (q + 1) (by omega) (by omega) (by omega)
      exact ⟨_, Ev.step (fun k => by rw [spec_l71Deeds.j0, if_pos rfl]) (by exact Ev.bind ec (Ev.bind ed (Ev.now _))), by simp, by dsimp only; omega, by dsimp only; omega⟩
    | false =>
      obtain ⟨c, ec, c0, c1, -⟩ := pick_ev b hb hl 5 q (by omega) (by omega) (by omega)
      have c1 := c1 (by omega)
      obtain ⟨r, er, r1, r2, r3⟩ := L0 (1 + c).toNat [] (q + 1) (by omega) (by omega) (by simp; omega) (by omega)
      rw [show (((1 + c).toNat : Nat) : Int) = 1 + c by omega] at er
      refine ⟨r, Ev.step (fun k => by rw [spec_l71Deeds.j0, if_neg Bool.false_ne_true]) ?_, r1, r2, by omega⟩
      refine Ev.bind ec ?_
      rw [w64 (by omega) (by omega)]
      exact er
  unfold spec_l71Deeds.f
  by_cases h : n > 0
  · obtain ⟨a, ea, -⟩ := pick_ev b hb hl 3 p hp (by omega) (by omega)
    obtain ⟨r, er, h1⟩ := J0 (a == 0) (p + 1) (by omega) (by omega)
    exact ⟨r, ev_pos h (Ev.bind ea er), h1⟩
  · obtain ⟨r, er, h1⟩ := J0 false p (by omega) (by omega)
    exact ⟨r, ev_neg h er, h1⟩
end Go.Proofs.Ytoeepmcaabmjkaa.PDraw
namespace Go.Proofs.Ytoeepmcaabmjkaa.PProgD
open Go.RowKit Go.Proofs.Ytoeepmcaabmjkaa.QPM Go.Proofs.YtoeepmcaabmjkaaW.PrintWords Go.Proofs.YtoeepmcaabmjkaaW.PrintLast Go.Proofs.Ytoeepmcaabmjkaa.PProg Go.Proofs.Ytoeepmcaabmjkaa.PDraw Go.Proofs.Ytoeepmcaabmjkaa.PTree
def Few (x : S57) : Prop := x.f1.length ≤ 5 ∧ x.f2.length ≤ 2
/-- A drawn body: at most three acts. -/
theorem l71Body_ev (b : List Int) (hb : Bytes b) (hl : b.length ≤ 2000) (i n c p : Int) (hi : 0 ≤ i) (hi' : i ≤ 100) (hn : 0 ≤ n) (hn' : n ≤ 100) (hc : c ≤ 100) (hp : 0 ≤ p) (hp' : p ≤ 9000) :
    ∃ r : List S57 × Int, Ev (fun k => spec_l71Body.f k b p i n c) r ∧ r.1.length ≤ 3 ∧ (∀ x ∈ r.1, Few x) ∧ p ≤ r.2 ∧ r.2 ≤ p + 76 := by
  have ei : wrap64 (i + 1) = i + 1 := w64 (by omega) (by omega)
  have en : wrap64 (wrap64 (n - i) - 1) = n - i - 1 := by rw [w64 (show -9223372036854775808 ≤ n - i by omega) (by omega)]; exact w64 (by omega) (by omega)
  have L0 : ∀ (m : Nat) (d : List S57) (q : Int), p ≤ q → q + 25 * m ≤ p + 200 → d.length + m ≤ 3 → (∀ x ∈ d, Few x) →
      ∃ r : List S57 × Int, Ev (fun k => spec_l71Body.l0 k i n c d (m : Int) b q) r ∧ r.1.length ≤ 3 ∧ (∀ x ∈ r.1, Few x) ∧ p ≤ r.2 ∧ r.2 ≤ q + 25 * m := by
    intro m
    induction m with
    | zero =>
      intro d q h1 h2 h3 h4
      exact ⟨(d, q), Ev.step (fun k => by rw [spec_l71Body.l0, if_neg (by omega)]) (Ev.now _), by dsimp only; omega, h4, by dsimp only; omega, by dsimp only; omega⟩
    | succ m ih =>
      intro d q h1 h2 h3 h4
      have em : wrap64 (((m + 1 : Nat) : Int) - 1) = (m : Int) := by rw [w64 (by omega) (by omega)]; omega
      have ON : ∀ q', q ≤ q' → q' ≤ q + 25 → ∃ r : List S57 × Int, Ev (fun k => spec_l71Body.l0 k i n c d (wrap64 (((m + 1 : Nat) : Int) - 1)) b q') r ∧ r.1.length ≤ 3 ∧ (∀ x ∈ r.1, Few x) ∧ p ≤ r.2 ∧ r.2 ≤ q + 25 * ((m + 1 : Nat) : Int) := by
        intro q' g1 g2
        obtain ⟨r, er, k1, k2, k3, k4⟩ := ih d q' (by omega) (by omega) (by omega) h4
        rw [em]
        exact ⟨r, er, k1, k2, k3, by omega⟩
      have GO : ∀ (x : S57) (q' : Int), Few x → q ≤ q' → q' ≤ q + 25 → ∃ r : List S57 × Int, Ev (fun k => if d.length < 2199023255552 then spec_l71Body.l0 k i n c (d ++ [x]) (wrap64 (((m + 1 : Nat) : Int) - 1)) b q' else none) r ∧ r.1.length ≤ 3 ∧ (∀ x ∈ r.1, Few x) ∧ p ≤ r.2 ∧ r.2 ≤ q + 25 * ((m + 1 : Nat) : Int) := by
        intro x q' hx g1 g2
        obtain ⟨r, er, k1, k2, k3, k4⟩ := ih (d ++ [x]) q' (by omega) (by omega) (by rw [List.length_append]; simp; omega) (fun y hy => by
          rcases List.mem_append.1 hy with hy | hy
          · exact h4 y hy
          · rw [List.mem_singleton.1 hy]; exact hx)
        rw [em]
        exact ⟨r, ev_pos (by omega) er, k1, k2, k3, by omega⟩
      have J1 : ∀ v : Bool, ∃ r : List S57 × Int, Ev (fun k => spec_l71Body.j1 k i n c d ((m + 1 : Nat) : Int) v b (q + 1)) r ∧ r.1.length ≤ 3 ∧ (∀ x ∈ r.1, Few x) ∧ p ≤ r.2 ∧ r.2 ≤ q + 25 * ((m + 1 : Nat) : Int) := by
        intro v
        cases v with
        | true =>
          by_cases hlt : wrap64 (i + 1) < n
          · obtain ⟨x, ex, -⟩ := pick_ev b hb hl (wrap64 (wrap64 (n - i) - 1)) (q + 1) (by omega) (by omega) (by rw [en]; omega)
            obtain ⟨y, ey, -⟩ := pick_ev b hb hl 3 (q + 1 + 1) (by omega) (by omega) (by omega)
            by_cases hy : y > 0
            · obtain ⟨z, ez, -⟩ := pick_ev b hb hl (wrap64 (wrap64 (n - i) - 1)) (q + 1 + 1 + 1) (by omega) (by omega) (by rw [en]; omega)
              obtain ⟨r, er, hr⟩ := GO ⟨2, [], [wrap64 (wrap64 (i + 1) + x)] ++ [wrap64 (wrap64 (i + 1) + z)], 0⟩ (q + 1 + 1 + 1 + 1) ⟨by simp, by simp⟩ (by omega) (by omega)
              exact ⟨r, Ev.step (fun k => by rw [spec_l71Body.j1, if_pos rfl]) (by exact ev_pos hlt (Ev.bind ex (Ev.bind (Ev.now _) (Ev.bind ey (ev_pos hy (Ev.bind ez (ev_pos (by simp) er))))))), hr⟩
            · obtain ⟨r, er, hr⟩ := GO ⟨2, [], [wrap64 (wrap64 (i + 1) + x)], 0⟩ (q + 1 + 1 + 1) ⟨by simp, by simp⟩ (by omega) (by omega)
              exact ⟨r, Ev.step (fun k => by rw [spec_l71Body.j1, if_pos rfl]) (by exact ev_pos hlt (Ev.bind ex (Ev.bind (Ev.now _) (Ev.bind ey (ev_neg hy er))))), hr⟩
          · obtain ⟨r, er, hr⟩ := ON (q + 1) (by omega) (by omega)
            exact ⟨r, Ev.step (fun k => by rw [spec_l71Body.j1, if_pos rfl]) (by exact ev_neg hlt er), hr⟩
        | false =>
          obtain ⟨t, et, t1, t2, t3⟩ := l71Deeds_ev b hb hl c (q + 1) (by omega) (by omega) (by omega)
          obtain ⟨r, er, hr⟩ := GO ⟨1, t.1, [], 0⟩ t.2 ⟨t1, by simp⟩ (by omega) (by omega)
          exact ⟨r, Ev.step (fun k => by rw [spec_l71Body.j1, if_neg Bool.false_ne_true]) (by exact Ev.bind et er), hr⟩
      obtain ⟨a, ea, -⟩ := pick_ev b hb hl 12 q (by omega) (by omega) (by omega)
      have ST : ∀ {r : List S57 × Int} {g : Nat → Option (List S57 × Int)}, (∀ k, spec_l71Body.l0 (k + 1) i n c d ((m + 1 : Nat) : Int) b q = g k) → Ev g r → Ev (fun k => spec_l71Body.l0 k i n c d ((m + 1 : Nat) : Int) b q) r := fun h1 h2 => Ev.step h1 h2
      by_cases h0 : a = 0
      · obtain ⟨f, ef, -⟩ := pick_ev b hb hl 2 (q + 1) (by omega) (by omega) (by omega)
        by_cases hf : f = 0
        · obtain ⟨r, er, hr⟩ := GO ⟨3, [], [], 0⟩ (q + 1 + 1) ⟨by simp, by simp⟩ (by omega) (by omega)
          exact ⟨r, ST (fun k => by rw [spec_l71Body.l0, if_pos (by omega)]) (by exact Ev.bind ea (ev_pos h0 (Ev.bind ef (ev_pos hf er)))), hr⟩
        · obtain ⟨r, er, hr⟩ := ON (q + 1 + 1) (by omega) (by omega)
          exact ⟨r, ST (fun k => by rw [spec_l71Body.l0, if_pos (by omega)]) (by exact Ev.bind ea (ev_pos h0 (Ev.bind ef (ev_neg hf er)))), hr⟩
      · by_cases h1 : a = 1
        · obtain ⟨f, ef, -⟩ := pick_ev b hb hl 3 (q + 1) (by omega) (by omega) (by omega)
          obtain ⟨r, er, hr⟩ := GO ⟨4, [], [], f⟩ (q + 1 + 1) ⟨by simp, by simp⟩ (by omega) (by omega)
          exact ⟨r, ST (fun k => by rw [spec_l71Body.l0, if_pos (by omega)]) (by exact Ev.bind ea (ev_neg h0 (ev_pos h1 (Ev.bind ef er)))), hr⟩
        · by_cases h2 : a = 2
          · obtain ⟨r, er, hr⟩ := J1 (a == 2)
            exact ⟨r, ST (fun k => by rw [spec_l71Body.l0, if_pos (by omega)]) (by exact Ev.bind ea (ev_neg h0 (ev_neg h1 (ev_pos h2 er)))), hr⟩
          · by_cases h3 : a = 3
            · obtain ⟨r, er, hr⟩ := J1 (a == 3)
              exact ⟨r, ST (fun k => by rw [spec_l71Body.l0, if_pos (by omega)]) (by exact Ev.bind ea (ev_neg h0 (ev_neg h1 (ev_neg h2 (ev_pos h3 er))))), hr⟩
            · by_cases h5 : a = 4
              · obtain ⟨r, er, hr⟩ := J1 (a == 4)
                exact ⟨r, ST (fun k => by rw [spec_l71Body.l0, if_pos (by omega)]) (by exact Ev.bind ea (ev_neg h0 (ev_neg h1 (ev_neg h2 (ev_neg h3 (ev_pos h5 er)))))), hr⟩
              · obtain ⟨r, er, hr⟩ := J1 (a == 5)
                exact ⟨r, ST (fun k => by rw [spec_l71Body.l0, if_pos (by omega)]) (by exact Ev.bind ea (ev_neg h0 (ev_neg h1 (ev_neg h2 (ev_neg h3 (ev_neg h5 er)))))), hr⟩
  obtain ⟨a, ea, a0, a1, -⟩ := pick_ev b hb hl 3 p hp (by omega) (by omega)
  have a1 := a1 (by omega)
  obtain ⟨r, er, r1, r2, r3, r4⟩ := L0 (1 + a).toNat [] (p + 1) (by omega) (by omega) (by simp; omega) (by simp)
  rw [show (((1 + a).toNat : Nat) : Int) = 1 + a by omega] at er r4
  unfold spec_l71Body.f
  refine ⟨r, Ev.bind ea ?_, r1, r2, r3, by omega⟩
  rw [w64 (by omega) (by omega)]
  exact er
/-- Bodies of few acts each. -/
def Bnd (c : Nat) (l1 : List (List S57)) : Prop := ∀ y ∈ l1, y.length ≤ c ∧ ∀ x ∈ y, Few x
def Nice (l0 : List Int) (l1 : List (List S57)) : Prop := (1 ≤ l0.length ∧ l0.length ≤ 3) ∧ (1 ≤ l1.length ∧ l1.length ≤ 4) ∧ Bnd 3 l1
theorem small_of {c : Nat} {l0 : List Int} {l1 : List (List S57)} (h0 : l0.length ≤ 1000) (h1 : l1.length ≤ 1000) (hc : c ≤ 1000) (h : Bnd c l1) : Small l0 l1 :=
  ⟨by omega, by omega, fun y hy => ⟨by have := (h y hy).1; omega, fun x hx => by obtain ⟨a, b⟩ := (h y hy).2 x hx; exact ⟨by omega, by omega⟩⟩⟩
theorem cells_ev (b : List Int) (hb : Bytes b) (hl : b.length ≤ 2000) : ∀ (n : Nat) (l : List Int) (p : Int), 0 ≤ p → p + n ≤ 9000 → ∃ r, Ev (fun k => cellsF k b n l p) r ∧ r.1.length = l.length + n ∧ p ≤ r.2 ∧ r.2 ≤ p + n
  | 0, l, p, h0, h1 => ⟨(l, p), Ev.now _, by simp, by simp, by simp⟩
  | n + 1, l, p, h0, h1 => by
    obtain ⟨c, ec, c0, c1, -⟩ := pick_ev b hb hl 5 p h0 (by omega) (by omega)
    have c1 := c1 (by omega)
    obtain ⟨r, er, r1, r2, r3⟩ := cells_ev b hb hl n (l ++ [nums5.getD c.toNat 0]) (p + 1) (by omega) (by omega)
    refine ⟨r, ?_, ?_, by omega, by omega⟩
    · simp only [cellsF]
      exact Ev.bind ec (ev_pos ⟨c0, c1⟩ er)
    · rw [r1, List.length_append]
      simp
      omega
theorem bodies_ev (b : List Int) (hb : Bytes b) (hl : b.length ≤ 2000) (bodies cells : Int) (g0 : 0 ≤ bodies) (g1 : bodies ≤ 100) (g2 : cells ≤ 100) : ∀ (n : Nat) (i : Int) (l : List (List S57)) (p : Int), 0 ≤ i → i + n ≤ 100 → 0 ≤ p → p + 76 * n ≤ 9000 → Bnd 3 l →
    ∃ r, Ev (fun k => bodiesF k b bodies cells n i l p) r ∧ r.1.length = l.length + n ∧ Bnd 3 r.1 ∧ p ≤ r.2 ∧ r.2 ≤ p + 76 * n
  | 0, i, l, p, _, _, h0, h1, h2 => ⟨(l, p), Ev.now _, by simp, h2, by simp, by simp⟩
  | n + 1, i, l, p, i0, i1, h0, h1, h2 => by
    obtain ⟨t, et, t1, t2, t3, t4⟩ := l71Body_ev b hb hl i bodies cells p i0 (by omega) g0 g1 g2 h0 (by omega)
    obtain ⟨r, er, r1, r2, r3, r4⟩ := bodies_ev b hb hl bodies cells g0 g1 g2 n (i + 1) (l ++ [t.1]) t.2 (by omega) (by omega) (by omega) (by omega) (fun y hy => by
      rcases List.mem_append.1 hy with hy | hy
      · exact h2 y hy
      · rw [List.mem_singleton.1 hy]; exact ⟨t1, t2⟩)
    refine ⟨r, ?_, ?_, r2, by omega, by omega⟩
    · simp only [bodiesF]
      exact Ev.bind et er
    · rw [r1, List.length_append]
      simp
      omega
theorem bnd_set {c : Nat} {l : List (List S57)} (h : Bnd c l) {v : List S57} (hv : v.length ≤ c) (hf : ∀ x ∈ v, Few x) : Bnd c (l.set 0 v) := fun y hy => by
  rcases List.mem_or_eq_of_mem_set hy with hy | rfl
  · exact h y hy
  · exact ⟨hv, hf⟩
theorem fork_ev (b : List Int) (hb : Bytes b) (hl : b.length ≤ 2000) (bodies cells : Int) (g0 : 2 ≤ bodies) (g1 : bodies ≤ 4) (g2 : cells ≤ 100) (l0 : List Int) (l1 : List (List S57)) (p : Int) (h0 : 0 ≤ p) (h1 : p ≤ 8000) (hB : Bnd 3 l1) :
    ∃ r, Ev (fun k => forkF k b bodies cells l0 l1 p) r ∧ r.1 = l0 ∧ r.2.1.length = l1.length ∧ Bnd 3 r.2.1 ∧ p ≤ r.2.2 ∧ r.2.2 ≤ p + 24 := by
  unfold forkF
  obtain ⟨e, ee, -⟩ := pick_ev b hb hl 4 p h0 (by omega) (by omega)
  by_cases he : e > 0
  · obtain ⟨x, ex, x0, x1, -⟩ := pick_ev b hb hl (bodies - 1) (p + 1) (by omega) (by omega) (by omega)
    have x1 := x1 (by omega)
    obtain ⟨t, et, t1, t2, t3⟩ := l71Deeds_ev b hb hl cells (p + 1 + 1) (by omega) (by omega) (by omega)
    refine ⟨(l0, l1.set 0 [⟨2, [], [1, 1 + x], 0⟩, ⟨1, t.1, [], 0⟩], t.2), Ev.bind ee (ev_pos he (Ev.bind ex (ev_pos ⟨x0, by omega⟩ (Ev.bind et (Ev.now _))))), rfl, by simp, bnd_set hB (by simp) (fun y hy => ?_), by dsimp only; omega, by dsimp only; omega⟩
    rcases List.mem_cons.1 hy with rfl | hy
    · exact ⟨by simp, by simp⟩
    · rw [List.mem_singleton.1 hy]; exact ⟨t1, by simp⟩
  · exact ⟨(l0, l1, p + 1), Ev.bind ee (ev_neg he (Ev.now _)), rfl, rfl, hB, by dsimp only; omega, by dsimp only; omega⟩
theorem one_ev (b : List Int) (hb : Bytes b) (hl : b.length ≤ 2000) (p : Int) (h0 : 0 ≤ p) (h1 : p ≤ 7000) : ∃ r, Ev (fun k => oneF k b p) r ∧ Nice r.1 r.2.1 ∧ p ≤ r.2.2 ∧ r.2.2 ≤ p + 340 := by
  unfold oneF
  obtain ⟨c, ec, c0, c1, -⟩ := pick_ev b hb hl 3 p h0 (by omega) (by omega)
  have c1 := c1 (by omega)
  obtain ⟨l, el, k1, k2, k3⟩ := cells_ev b hb hl (1 + c).toNat [] (p + 1) (by omega) (by omega)
  obtain ⟨d, ed, d0, d1, -⟩ := pick_ev b hb hl 3 l.2 (by omega) (by omega) (by omega)
  have d1 := d1 (by omega)
  obtain ⟨m, em, m1, m2, m3, m4⟩ := bodies_ev b hb hl (2 + d) (1 + c) (by omega) (by omega) (by omega) (2 + d).toNat 0 [] (l.2 + 1) (by omega) (by omega) (by omega) (by omega) (by intro y hy; simp at hy)
  obtain ⟨f, ef, f1, f2, f3, f4, f5⟩ := fork_ev b hb hl (2 + d) (1 + c) (by omega) (by omega) (by omega) l.1 m.1 m.2 (by omega) (by omega) m2
  simp only [List.length_nil, Nat.zero_add] at k1 m1
  exact ⟨f, Ev.bind ec (ev_pos ⟨c0, c1⟩ (Ev.bind el (Ev.bind ed (ev_pos ⟨d0, d1⟩ (Ev.bind em ef))))), ⟨by rw [f1]; omega, by omega, f3⟩, by omega, by omega⟩
theorem prog_ev (b : List Int) (hb : Bytes b) (hl : b.length ≤ 2000) : ∀ (n : Nat) (p : Int), 0 ≤ p → p + 340 * n ≤ 7000 → ∃ r, Ev (fun k => progF k b n p) r ∧ Nice r.1 r.2.1 ∧ p ≤ r.2.2 ∧ r.2.2 ≤ p + 340 * n
  | 0, p, h0, h1 => ⟨_, Ev.now _, ⟨⟨by simp, by simp⟩, ⟨by simp, by simp⟩, fun y hy => by
      rcases List.mem_cons.1 hy with rfl | hy
      · exact ⟨by simp, fun x hx => by rw [List.mem_singleton.1 hx]; exact ⟨by simp, by simp⟩⟩
      · rw [List.mem_singleton.1 hy]; exact ⟨by simp, fun x hx => by rw [List.mem_singleton.1 hx]; exact ⟨by simp, by simp⟩⟩⟩, by simp, by simp⟩
  | n + 1, p, h0, h1 => by
    obtain ⟨r, er, r1, r2, r3⟩ := one_ev b hb hl p h0 (by omega)
    obtain ⟨R, o1, _, _⟩ := ok_ev r.1 r.2.1 (small_of (c := 3) (by have := r1.1; omega) (by have := r1.2.1; omega) (by omega) r1.2.2)
    obtain ⟨q, eq, q1, q2, q3⟩ := prog_ev b hb hl n r.2.2 (by omega) (by omega)
    cases R with
    | true => exact ⟨r, by simp only [progF]; exact Ev.bind er (Ev.bind o1 (ev_pos rfl (Ev.now _))), r1, by omega, by omega⟩
    | false => exact ⟨q, by simp only [progF]; exact Ev.bind er (Ev.bind o1 (ev_neg Bool.false_ne_true eq)), q1, by omega, by omega⟩
theorem l71Prog_ev (b : List Int) (hb : Bytes b) (hl : b.length ≤ 2000) (p : Int) (h0 : 0 ≤ p) (h1 : p ≤ 3000) : ∃ r, Ev (fun k => spec_l71Prog.f k b p) r ∧ Nice r.1 r.2.1 ∧ p ≤ r.2.2 ∧ r.2.2 ≤ p + 3400 := by
  obtain ⟨r, er, r1, r2, r3⟩ := prog_ev b hb hl 10 p h0 (by omega)
  exact ⟨r, er, r1, r2, by omega⟩
theorem bnd_app {c : Nat} {l : List (List S57)} (h : Bnd c l) (h0 : 0 < l.length) {x : S57} (hx : Few x) : Bnd (c + 1) (app0 l x) ∧ (app0 l x).length = l.length := by
  have hm : l.getD 0 [] ∈ l := by
    rw [List.getD_eq_getElem?_getD, List.getElem?_eq_getElem h0]
    exact List.getElem_mem h0
  obtain ⟨m1, m2⟩ := h _ hm
  refine ⟨bnd_set (fun y hy => ⟨Nat.le_succ_of_le (h y hy).1, (h y hy).2⟩) (by rw [List.length_append]; simp; exact m1) (fun y hy => ?_), app0_len l x⟩
  rcases List.mem_append.1 hy with hy | hy
  · exact m2 y hy
  · rw [List.mem_singleton.1 hy]; exact hx
theorem bend_ev (b : List Int) (hb : Bytes b) (hl : b.length ≤ 2000) (c : Int) (l0 : List Int) (l1 : List (List S57)) (p : Int) (h0 : 0 ≤ p) (h1 : p ≤ 9000) (hN : Nice l0 l1) :
    ∃ r, Ev (fun k => bendF k b c l0 l1 p) r ∧ Small r.1 r.2.1 ∧ p ≤ r.2.2 ∧ r.2.2 ≤ p + 3 := by
  obtain ⟨n0, n1, nB⟩ := hN
  have hp : 0 < l1.length := by omega
  have A : ∀ x : S57, Few x → Small l0 (app0 l1 x) := fun x hx => by
    obtain ⟨b1, b2⟩ := bnd_app nB hp hx
    exact small_of (by first | omega | (dsimp only; omega) | (simp; omega)) (by first | omega | (dsimp only; omega) | (simp; omega)) (by omega) b1
  unfold bendF
  by_cases c0 : c = 0
  · obtain ⟨d, ed, d0, d1, -⟩ := pick_ev b hb hl 2 p h0 (by omega) (by omega)
    have d1 := d1 (by omega)
    exact ⟨_, ev_pos c0 (Ev.bind ed (ev_pos ⟨d0, d1⟩ (Ev.now _))), small_of (by first | omega | (dsimp only; omega) | (simp; omega)) (by first | omega | (dsimp only; omega) | (simp; omega)) (by omega) nB, by dsimp only; omega, by dsimp only; omega⟩
  by_cases c1 : c = 1
  · exact ⟨_, ev_neg c0 (ev_pos c1 (Ev.now _)), small_of (by first | omega | (dsimp only; omega) | (simp; omega)) (by first | omega | (dsimp only; omega) | (simp; omega)) (by omega) nB, by dsimp only; omega, by dsimp only; omega⟩
  by_cases c2 : c = 2
  · obtain ⟨d, ed, -⟩ := pick_ev b hb hl 7 p h0 (by omega) (by omega)
    exact ⟨_, ev_neg c0 (ev_neg c1 (ev_pos c2 (Ev.bind ed (Ev.now _)))), A _ ⟨by simp, by simp⟩, by dsimp only; omega, by dsimp only; omega⟩
  by_cases c3 : c = 3
  · obtain ⟨d, ed, -⟩ := pick_ev b hb hl 6 p h0 (by omega) (by omega)
    exact ⟨_, ev_neg c0 (ev_neg c1 (ev_neg c2 (ev_pos c3 (Ev.bind ed (Ev.now _))))), A _ ⟨by simp, by simp⟩, by dsimp only; omega, by dsimp only; omega⟩
  by_cases c4 : c = 4
  · obtain ⟨d, ed, -⟩ := pick_ev b hb hl 7 p h0 (by omega) (by omega)
    obtain ⟨e, ee, -⟩ := pick_ev b hb hl 5 (p + 1) (by omega) (by omega) (by omega)
    obtain ⟨f, ef, -⟩ := pick_ev b hb hl 5 (p + 1 + 1) (by omega) (by omega) (by omega)
    exact ⟨_, ev_neg c0 (ev_neg c1 (ev_neg c2 (ev_neg c3 (ev_pos c4 (Ev.bind ed (Ev.bind ee (Ev.bind ef (Ev.now _)))))))), A _ ⟨by simp, by simp⟩, by dsimp only; omega, by dsimp only; omega⟩
  by_cases c5 : c = 5
  · refine ⟨_, ev_neg c0 (ev_neg c1 (ev_neg c2 (ev_neg c3 (ev_neg c4 (ev_pos c5 (Ev.now _)))))), small_of (c := 3) (by first | omega | (dsimp only; omega) | (simp; omega)) (by first | omega | (dsimp only; omega) | (simp; omega)) (by omega) (fun y hy => ?_), by dsimp only; omega, by dsimp only; omega⟩
    rcases List.mem_append.1 hy with hy | hy
    · exact nB y hy
    · have : y = [] := by simpa using hy
      subst this
      exact ⟨by simp, by simp⟩
  by_cases c6 : c = 6
  · obtain ⟨d, ed, -⟩ := pick_ev b hb hl 5 p h0 (by omega) (by omega)
    exact ⟨_, ev_neg c0 (ev_neg c1 (ev_neg c2 (ev_neg c3 (ev_neg c4 (ev_neg c5 (ev_pos c6 (Ev.bind ed (Ev.now _)))))))), A _ ⟨by simp, by simp⟩, by dsimp only; omega, by dsimp only; omega⟩
  have fx : Few (⟨3, [], [], 0⟩ : S57) := ⟨by simp, by simp⟩
  obtain ⟨b1, e1⟩ := bnd_app nB hp fx
  obtain ⟨b2, e2⟩ := bnd_app b1 (by omega) fx
  obtain ⟨b3, e3⟩ := bnd_app b2 (by omega) fx
  obtain ⟨b4, e4⟩ := bnd_app b3 (by omega) fx
  obtain ⟨b5, e5⟩ := bnd_app b4 (by omega) fx
  exact ⟨_, ev_neg c0 (ev_neg c1 (ev_neg c2 (ev_neg c3 (ev_neg c4 (ev_neg c5 (ev_neg c6 (Ev.now _))))))), small_of (by first | omega | (dsimp only; omega) | (simp; omega)) (by first | omega | (dsimp only; omega) | (simp; omega)) (by omega) b5, by dsimp only; omega, by dsimp only; omega⟩
theorem l71Bent_ev (b : List Int) (hb : Bytes b) (hl : b.length ≤ 2000) (l0 : List Int) (l1 : List (List S57)) (p : Int) (h0 : 0 ≤ p) (h1 : p ≤ 8000) (hN : Nice l0 l1) :
    ∃ r, Ev (fun k => spec_l71Bent.f k b p l0 l1) r ∧ Small r.1 r.2.1 ∧ p ≤ r.2.2 ∧ r.2.2 ≤ p + 4 := by
  obtain ⟨c, ec, -⟩ := pick_ev b hb hl 8 p h0 (by omega) (by omega)
  obtain ⟨r, er, r1, r2, r3⟩ := bend_ev b hb hl c l0 l1 (p + 1) (by omega) (by omega) hN
  have hok : bendOk l0 l1 := ⟨by have := hN.1; omega, by have := hN.2.1; omega, List.all_eq_true.2 (fun y hy => decide_eq_true (by have := (hN.2.2 y hy).1; omega))⟩
  unfold spec_l71Bent.f
  exact ⟨r, ev_pos hok (Ev.bind ec er), r1, by omega, by omega⟩
theorem nice_small {l0 : List Int} {l1 : List (List S57)} (h : Nice l0 l1) : Small l0 l1 := small_of (c := 3) (by have := h.1; omega) (by have := h.2.1; omega) (by omega) h.2.2
theorem drawOk_ev (l : List Int) (hl : ∀ x ∈ l, (Lit.int .u8 x).wf = true) : ∃ r, Ev (fun k => spec_DrawProgOk.f k l) r ∧ Small r.1 r.2 := by
  obtain ⟨b, eb, b1, b2⟩ := open_ev l hl
  obtain ⟨x, ex, x1, x2, x3⟩ := l71Prog_ev b b1 b2 0 (by omega) (by omega)
  obtain ⟨d, ed, -⟩ := pick_ev b b1 b2 2 x.2.2 (by omega) (by omega) (by omega)
  unfold spec_DrawProgOk.f
  rw [eb]
  by_cases c : d = 0
  · obtain ⟨r, er, r1, -⟩ := l71Bent_ev b b1 b2 x.1 x.2.1 (x.2.2 + 1) (by omega) (by omega) x1
    exact ⟨(r.1, r.2.1), Ev.bind (Ev.now _) (Ev.bind ex (Ev.bind ed (ev_pos c (Ev.bind er (Ev.now _))))), r1⟩
  · exact ⟨(x.1, x.2.1), Ev.bind (Ev.now _) (Ev.bind ex (Ev.bind ed (ev_neg c (Ev.now _)))), nice_small x1⟩
end Go.Proofs.Ytoeepmcaabmjkaa.PProgD
namespace Go.Proofs.Ytoeepmcaabmjkaa.Pure
open Go.RowKit Go.Proofs.Ytoeepmcaabmjkaa.QPM Go.Proofs.YtoeepmcaabmjkaaW.PrintWords Go.Proofs.YtoeepmcaabmjkaaW.PrintLast Go.Proofs.Ytoeepmcaabmjkaa.PProg Go.Proofs.Ytoeepmcaabmjkaa.PTree Go.Proofs.Ytoeepmcaabmjkaa.PTau Go.Proofs.Ytoeepmcaabmjkaa.PProgD
theorem kid_more {body n m x : Int} (hnm : n ≤ m) (h : kidOk body n x = true) : kidOk body m x = true := by
  unfold kidOk at h ⊢
  simp at h ⊢
  omega
theorem act_more {cells body n m : Int} (hnm : n ≤ m) {a : S57} (h : actB cells body n a = true) : actB cells body m a = true := by
  unfold actB at h ⊢
  split
  · rename_i c
    rw [if_pos c] at h
    exact h
  · rename_i c
    rw [if_neg c] at h
    split
    · rename_i c2
      rw [if_pos c2] at h
      unfold kidsOk at h ⊢
      rw [Bool.and_eq_true, List.all_eq_true] at h ⊢
      exact ⟨fun x hx => kid_more hnm (h.1 x hx), h.2⟩
    · rename_i c2
      rw [if_neg c2] at h
      exact h
theorem body_more {cells n m : Int} (hnm : n ≤ m) {i : Nat} {l : List S57} (h : bodyB cells n i l = true) : bodyB cells m i l = true := by
  unfold bodyB at h ⊢
  rw [Bool.and_eq_true, List.all_eq_true] at h ⊢
  exact ⟨h.1, fun a ha => act_more hnm (h.2 a ha)⟩
theorem rest_more {cells n m : Int} (hnm : n ≤ m) : ∀ (ls : List (List S57)) (i : Nat), restB cells n i ls = true → restB cells m i (ls ++ [[]]) = true
  | [], _, _ => rfl
  | l :: ls, i, h => by
    unfold restB at h
    rw [Bool.and_eq_true] at h
    show restB cells m i (l :: (ls ++ [[]])) = true
    unfold restB
    rw [Bool.and_eq_true]
    exact ⟨body_more hnm h.1, rest_more hnm ls (i + 1) h.2⟩
theorem form_more {l0 : List Int} {l1 : List (List S57)} (h : formB l0 l1 = true) (h3 : l1.length ≤ 3) : formB l0 (l1 ++ [[]]) = true := by
  unfold formB at h ⊢
  rw [Bool.and_eq_true, Bool.and_eq_true, Bool.and_eq_true, decide_eq_true_iff, decide_eq_true_iff] at h ⊢
  have e : ((l1 ++ [[]]).length : Int) = (l1.length : Int) + 1 := by rw [List.length_append]; simp
  rw [e]
  refine ⟨⟨h.1.1, ?_⟩, h.2.1, rest_more (by omega) l1 0 h.2.2⟩
  rw [List.length_append, List.length_singleton]
  omega
theorem tr_more {l1 : List (List S57)} (h : PTree.Form l1) : ∀ (d : Nat) (b : Int), 0 ≤ b → b < l1.length → tr (l1 ++ [[]]) d b = tr l1 d b
  | 0, _, _, _ => rfl
  | d + 1, b, h0, h1 => by
    have hb : b.toNat < l1.length := by omega
    have e1 : (l1 ++ [[]]).getD b.toNat [] = l1[b.toNat] := by
      rw [List.getD_eq_getElem?_getD, List.getElem?_append_left hb, List.getElem?_eq_getElem hb]
      rfl
    have e2 : l1.getD b.toNat [] = l1[b.toNat] := getD_at hb
    rw [tr, tr, e1, e2]
    have e3 : (l1[b.toNat]).map (fun a => (a.f2.map (tr (l1 ++ [[]]) d)).sum) = (l1[b.toNat]).map (fun a => (a.f2.map (tr l1 d)).sum) := by
      refine List.map_congr_left (fun a ha => ?_)
      obtain ⟨_, g2⟩ := h.kids b.toNat hb a ha
      rw [List.map_congr_left (fun x hx => tr_more h d x (by have := (g2 x hx).1; omega) (g2 x hx).2)]
    rw [e3]
theorem ok_more {l0 : List Int} {l1 : List (List S57)} (hs : Small l0 l1) (h : formB l0 l1 = true) (fm : PTree.Form l1) (h7 : tau l1 0 ≤ 7) : Ev (fun k => impl_ProgOk.f k l0 (l1 ++ [[]])) (decide ((l1.length : Int) < 4)) := by
  have few := fm.few
  have hs' : Small l0 (l1 ++ [[]]) := ⟨hs.1, by rw [List.length_append, List.length_singleton]; omega, fun y hy => by
    rcases List.mem_append.1 hy with hy | hy
    · exact hs.2.2 y hy
    · rw [List.mem_singleton.1 hy]; exact ⟨by simp, by simp⟩⟩
  obtain ⟨R, r1, r2, r3⟩ := ok_ev l0 (l1 ++ [[]]) hs'
  by_cases h3 : l1.length ≤ 3
  · have f2 := form_more h h3
    have fm2 := form_of f2
    have sf := specForm_ev l0 (l1 ++ [[]]) hs'
    rw [f2] at sf
    have t0 := (tau_at (l0 := l0) fm2 0 (by decide) (by have := fm2.few; omega)).1
    have e0 : tau (l1 ++ [[]]) 0 = tau l1 0 := tr_more fm 4 0 (by decide) (by omega)
    rw [e0] at t0
    have r4 : Ev (fun k => spec_ProgOk.f k l0 (l1 ++ [[]])) (decide (tau l1 0 ≤ 7)) := by
      unfold spec_ProgOk.f
      exact Ev.bind sf (ev_pos rfl (Ev.bind t0 (Ev.now _)))
    have := Ev_det r1 r4
    rw [decide_eq_true h7] at this
    rw [decide_eq_true (show (l1.length : Int) < 4 by omega), ← this]
    exact r2
  · cases R with
    | true =>
      exfalso
      have := (form_of (r3 rfl)).few
      rw [List.length_append, List.length_singleton] at this
      omega
    | false =>
      rw [decide_eq_false (show ¬ (l1.length : Int) < 4 by omega)]
      exact r2
theorem ok_none {l0 : List Int} {l1 : List (List S57)} (hs : Small l0 l1) : Ev (fun k => impl_ProgOk.f k l0 ([] : List (List S57))) false := by
  obtain ⟨R, r1, r2, r3⟩ := ok_ev l0 ([] : List (List S57)) ⟨hs.1, by simp, by simp⟩
  cases R with
  | true =>
    exfalso
    have := (form_of (r3 rfl)).few
    simp at this
  | false => exact r2
theorem FnProgMore : laws_FnProgMore.Pure := by
  intro l0 hl _ hb
  refine Ev.rounds (g := fun k => laws_FnProgMore.f k l0) ?_
  unfold laws_FnProgMore.f
  by_cases c : (l0.length : Int) > 1048576
  · exact ev_pos c (Ev.now _)
  refine ev_neg c ?_
  obtain ⟨r, er, rs⟩ := drawOk_ev l0 hb
  obtain ⟨R, o1, o2, o3⟩ := ok_tau r.1 r.2 rs
  refine Ev.bind er (Ev.bind o2 (Ev.bind o1 ?_))
  cases R with
  | false => exact ev_neg (by decide) (Ev.step (fun k => by rw [laws_FnProgMore.j0, if_pos (by decide)]) (by exact Ev.bind o1 (Ev.now _)))
  | true =>
    obtain ⟨f1, fm, h7⟩ := o3 rfl
    have few := fm.few
    have m := ok_more rs f1 fm h7
    refine ev_neg (by decide) (Ev.step (fun k => by rw [laws_FnProgMore.j0, if_neg (by decide)]) ?_)
    refine Ev.bind (Ev.now _) (ev_pos (by simp; omega) (Ev.bind (Ev.now _) (Ev.bind (Ev.now _) (ev_pos (by simp; omega) (Ev.bind (by exact m) (ev_pos (by simp) (Ev.bind (ok_none rs) (Ev.now _))))))))
end Go.Proofs.Ytoeepmcaabmjkaa.Pure
-- PRINTED WORDS (module Derived/Print/Sized.lean): go-gate-2's, for the rows of laws over slices: an AI agent of Go's test side, Tue Nov 17 2026; no person has read it. Lean checks it.
namespace Go.Proofs.YtoeepmcaabmjkaaW.PrintWords
open Go.ChangeShapes Go.WideShapes
/-- A row's slice of whole numbers is no longer than its weight allows. -/
theorem sized_ints {H : Type} {enc : TypeId × Value → H} {P : Program} {W : World} {base : Nat} {spare : Nat → Bool} {held : Bool} {t e : TypeId} {k : IntKind} {a : Option Addr} {len cap : Nat} {d : DataW H} {ps : List MemPlace} {ts : List TypeId} {ds : List (DataW H)} {j : Nat}
    (hsz : (DataW.weightsEach P ts ds).all (· ≤ reachBytes) = true) (ht : ts[j]? = some t) (hd : ds[j]? = some d) (hu : P.underlying t = some (.slice e)) (he : P.underlying e = some (.int k)) (hc : P.cellsOf e = 1) {B : Nat} (hB : P.bytesOf e = B)
    (h : DataW.Trod enc P W base spare held t (.slice a len cap) d ps) : len * B ≤ 140737488351232 := by
  obtain ⟨fuel, hf⟩ := h
  rcases open_ints hu he hc hf with ⟨hcs, _⟩ | ⟨x, l, c, zs, hcs, _, hl, _, hz, hx, _, _⟩
  · simp [Value.cells] at hcs
    obtain ⟨rfl, rfl, rfl⟩ := hcs
    simp
  · simp [Value.cells] at hcs
    obtain ⟨rfl, rfl, rfl⟩ := hcs
    obtain ⟨hx, _⟩ := Prod.mk.inj hx
    subst hx
    have z := sized_slice hsz ht hd hu
    rw [hB] at z
    have hl2 : len ≤ zs.length := by
      rw [hz]
      split
      · exact hl
      · exact Nat.le_refl _
    have h1 : (lits (H := H) k (zs.take len)).length + (lits (H := H) k (zs.drop len)).length = zs.length := by
      simp [lits]
      omega
    rw [h1] at z
    exact Nat.le_trans (Nat.mul_le_mul_right _ hl2) z
end Go.Proofs.YtoeepmcaabmjkaaW.PrintWords
