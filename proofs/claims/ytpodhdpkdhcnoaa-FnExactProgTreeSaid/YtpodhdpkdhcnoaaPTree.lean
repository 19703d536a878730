/- Plain lemmas: when a program is in form, and what its tree is: the program's tests and the reference's tell the same (no condition but lengths that fit into an int). -/
import Derived.Test.YtpodhdpkdhcnoaaPProg
import Derived.Test.YtpodhdpkdhcnoaaQSBx13
import Derived.Test.YtpodhdpkdhcnoaaQSBx21
namespace Go.Proofs.Ytpodhdpkdhcnoaa.PTree
open Go.RowKit Go.Proofs.Ytpodhdpkdhcnoaa.QSB Go.Proofs.YtpodhdpkdhcnoaaW.PrintWords Go.Proofs.YtpodhdpkdhcnoaaW.PrintLast Go.Proofs.Ytpodhdpkdhcnoaa.PProg

theorem rdD (l : List S138) (i : Nat) (hi : i < l.length) : rd_T138 l (i : Int) = l[i] := by
  simp [rd_T138, List.getD, hi]

def inB (x lo hi : Int) : Bool := decide (lo ≤ x) && decide (x ≤ hi)
theorem l6In_eq (x lo hi : Int) : spec_l6In.f x lo hi = some (inB x lo hi) := by
  unfold spec_l6In.f inB
  by_cases h : x ≥ lo
  · rw [if_pos h, decide_eq_true h, Bool.true_and]
  · rw [if_neg h, decide_eq_false h, Bool.false_and]
theorem isPlace_eq (x n : Int) : impl_isPlace.f x n = some (inB x 0 (n - 1)) := by
  unfold impl_isPlace.f inB
  by_cases h : 0 ≤ x
  · rw [if_pos h, decide_eq_true h, Bool.true_and]
    congr 1
    exact decide_eq_decide.2 (by omega)
  · rw [if_neg h, decide_eq_false h, Bool.false_and]
theorem isReg_eq (x : Int) : impl_isReg.f x = some (inB x 0 2) := by
  unfold impl_isReg.f
  rw [isPlace_eq]
  rfl
theorem isNum_eq (x : Int) : impl_isNum.f x = some (inB x 0 99) := by
  unfold impl_isNum.f
  rw [isPlace_eq]
  rfl

/-- Is a deed in form, if there are so many cells? -/
def deedB (k a b cells : Int) : Bool :=
  if k = 1 then inB a 0 2 && inB b 0 (cells - 1) else if k = 2 then inB a 0 (cells - 1) && inB b 0 2 else if k = 3 then inB a 0 2 && inB b 0 99
  else if k = 4 then inB a 0 2 && inB b 0 2 else if k = 5 then inB a 0 2 && (b == 0) else false
theorem some_and (p q : Bool) : (if p = true then some q else some false) = some (p && q) := by cases p <;> rfl
theorem l1Deed_some (k a b c : Int) : ∃ r, spec_l1Deed.f k a b c = some r := by
  unfold spec_l1Deed.f
  simp only [l6In_eq, Option.bind_some, some_and]
  repeat' (first | exact ⟨_, rfl⟩ | split)
theorem l1Deed_eq (k a b c : Int) (h0 : 0 ≤ c) (h1 : c ≤ 3) : spec_l1Deed.f k a b c = some (deedB k a b c) := by
  unfold spec_l1Deed.f deedB
  simp only [l6In_eq, Option.bind_some, some_and, w64 (show -9223372036854775808 ≤ c - 1 by omega) (show c - 1 ≤ 9223372036854775807 by omega)]
  repeat' (first | rfl | split)
theorem deedOk_eq (k a b c : Int) : ((impl_partOfDeed.f k a b).bind fun t => impl_deedOk.f t c) = some (deedB k a b c) := by
  unfold impl_partOfDeed.f impl_deedOk.f deedB
  simp only [Option.bind_some, isReg_eq, isPlace_eq, isNum_eq, some_and]
  by_cases h1 : k = 1
  · subst h1; simp
  by_cases h2 : k = 2
  · subst h2; simp
  by_cases h3 : k = 3
  · subst h3; simp
  by_cases h4 : k = 4
  · subst h4; simp
  by_cases h5 : k = 5
  · subst h5
    by_cases h6 : b = 0
    · subst h6; simp
    · simp [h6]
  · simp [h1, h2, h3, h4, h5]

def dB (cells : Int) (d : S138) : Bool := deedB d.f0 d.f1 d.f2 cells
/-- Are deeds those of a change, if there are so many cells? -/
def okC (l : List S138) (cells : Int) : Bool := (inB cells 0 3 && decide (l.length ≤ 5)) && l.all (dB cells)

theorem implOk_ev (l : List S138) (cells : Int) (hl : l.length ≤ 9223372036854775806) : Ev (fun k => impl_ChangeOk.f k l cells) (okC l cells) := by
  have key : ∀ i, i ≤ l.length → Ev (fun k => impl_ChangeOk.l0 k cells l (l.length : Int) (i : Int)) ((l.drop i).all (dB cells)) := by
    refine down ?_ ?_
    · refine Ev.step (fun k => by rw [impl_ChangeOk.l0, if_neg (by omega)]) ?_
      rw [List.drop_length, List.all_nil]
      exact Ev.now _
    · intro i hi ih
      rw [List.drop_eq_getElem_cons hi, List.all_cons]
      have hd : ∀ (f : Bool → Option Bool), ((impl_partOfDeed.f l[i].f0 l[i].f1 l[i].f2).bind fun t => (impl_deedOk.f t cells).bind f) = f (dB cells l[i]) := by
        intro f
        have := deedOk_eq l[i].f0 l[i].f1 l[i].f2 cells
        unfold dB
        have e : ((impl_partOfDeed.f l[i].f0 l[i].f1 l[i].f2).bind fun t => (impl_deedOk.f t cells).bind f) = (((impl_partOfDeed.f l[i].f0 l[i].f1 l[i].f2).bind fun t => impl_deedOk.f t cells).bind f) := by rw [Option.bind_assoc]
        rw [e, this]
        rfl
      cases hb : dB cells l[i] with
      | true =>
        rw [Bool.true_and]
        refine Ev.step (fun k => ?_) ih
        rw [impl_ChangeOk.l0, if_pos (by omega), if_pos (by omega), if_pos (by omega), rdD l i hi, hd, hb, if_pos rfl, w64 (by omega) (by omega)]
        rfl
      | false =>
        rw [Bool.false_and]
        refine Ev.step (fun k => ?_) (Ev.now false)
        rw [impl_ChangeOk.l0, if_pos (by omega), if_pos (by omega), if_pos (by omega), rdD l i hi, hd, hb, if_neg Bool.false_ne_true]
  have k0 := key 0 (Nat.zero_le _)
  unfold impl_ChangeOk.f okC inB
  by_cases h0 : cells < 0
  · refine ev_pos h0 ?_
    rw [decide_eq_false (p := 0 ≤ cells) (by omega)]
    simp only [Bool.false_and]
    exact Ev.step (fun k => by rw [impl_ChangeOk.j0, if_pos rfl]) (Ev.now _)
  · refine ev_neg h0 ?_
    by_cases h1 : cells > 3
    · refine ev_pos h1 ?_
      rw [decide_eq_false (p := cells ≤ 3) (by omega)]
      simp only [Bool.and_false, Bool.false_and]
      exact Ev.step (fun k => by rw [impl_ChangeOk.j0, if_pos rfl]) (Ev.now _)
    · refine ev_neg h1 ?_
      rw [decide_eq_true (p := 0 ≤ cells) (by omega), decide_eq_true (p := cells ≤ 3) (by omega)]
      simp only [Bool.true_and]
      by_cases h2 : l.length ≤ 5
      · rw [decide_eq_true h2, Bool.true_and, decide_eq_false (p := (l.length : Int) > 5) (by omega)]
        exact Ev.step (fun k => by rw [impl_ChangeOk.j0, if_neg Bool.false_ne_true]; rfl) k0
      · rw [decide_eq_false h2, Bool.false_and, decide_eq_true (p := (l.length : Int) > 5) (by omega)]
        exact Ev.step (fun k => by rw [impl_ChangeOk.j0, if_pos rfl]) (Ev.now _)

theorem ev_eq {α : Type} {f : Nat → Option α} {r : α} (h : ∀ k, f k = some r) : Ev f r := Ev.congr (fun k => h k) (Ev.now r)
/-- Is an act of the body in form? -/
def actB (cells body bodies : Int) (a : S90) : Bool :=
  if a.f0 = 1 ∧ a.f2.length = 0 ∧ a.f3 = 0 then okC a.f1 cells
  else if a.f0 = 2 ∧ a.f1.length = 0 ∧ a.f3 = 0 then kidsOk a.f2 body bodies
  else if a.f0 = 3 ∧ a.f1.length = 0 ∧ a.f2.length = 0 ∧ a.f3 = 0 then true
  else if a.f0 = 4 ∧ a.f1.length = 0 ∧ a.f2.length = 0 then inB a.f3 0 2
  else false
theorem implAct_ev (cells body bodies : Int) (a : S90) (h1 : a.f1.length ≤ 1048576) : Ev (fun k => impl_actOk.f k a.f0 a.f1 a.f2 a.f3 cells body bodies) (actB cells body bodies a) := by
  unfold impl_actOk.f actB
  by_cases c1 : a.f0 = 1 ∧ a.f2.length = 0 ∧ a.f3 = 0
  · rw [if_pos c1]
    exact ev_pos c1 (implOk_ev _ _ (by omega))
  rw [if_neg c1]
  refine ev_neg c1 (ev_eq fun _ => ?_)
  by_cases c2 : a.f0 = 2 ∧ a.f1.length = 0 ∧ a.f3 = 0
  · rw [if_pos c2, if_pos c2]
  rw [if_neg c2, if_neg c2]
  by_cases c3 : a.f0 = 3 ∧ a.f1.length = 0 ∧ a.f2.length = 0 ∧ a.f3 = 0
  · rw [if_pos c3, if_pos c3]
  rw [if_neg c3, if_neg c3]
  by_cases c4 : a.f0 = 4 ∧ a.f1.length = 0 ∧ a.f2.length = 0
  · rw [if_pos c4, if_pos c4, isReg_eq]
  rw [if_neg c4, if_neg c4]
theorem specKids_ev (l : List Int) (body bodies : Int) (hl : l.length ≤ 1048576) (hb0 : 0 ≤ body) (hb1 : body ≤ 1048576) (hn0 : 0 ≤ bodies) (hn1 : bodies ≤ 1048576) : Ev (fun k => spec_l1Kids.f k l body bodies) (kidsOk l body bodies) := by
  have one : ∀ x : Int, inB x (body + 1) (bodies - 1) = kidOk body bodies x := by
    intro x
    unfold inB kidOk
    rw [Bool.eq_iff_iff]
    simp
    omega
  have key : ∀ i, i ≤ l.length → Ev (fun k => spec_l1Kids.l0 k l body bodies (i : Int)) ((l.drop i).all (kidOk body bodies) && (decide (1 ≤ l.length) && decide (l.length ≤ 2))) := by
    refine down ?_ ?_
    · rw [List.drop_length, List.all_nil, Bool.true_and]
      refine Ev.step (fun k => ?_) (Ev.now _)
      rw [spec_l1Kids.l0, if_neg (by omega), l6In_eq, Option.bind_some]
      unfold inB
      congr 1
      rw [Bool.eq_iff_iff]
      simp
      omega
    · intro i hi ih
      rw [List.drop_eq_getElem_cons hi, List.all_cons]
      cases hb : kidOk body bodies l[i] with
      | true =>
        rw [Bool.true_and]
        refine Ev.step (fun k => ?_) ih
        rw [spec_l1Kids.l0, if_pos (by omega), if_pos (by omega), rdI l i hi, w64 (i := body + 1) (by omega) (by omega), w64 (i := bodies - 1) (by omega) (by omega), l6In_eq, one, hb, Option.bind_some, if_pos rfl, w64 (by omega) (by omega)]
        rfl
      | false =>
        rw [Bool.false_and, Bool.false_and]
        refine Ev.step (fun k => ?_) (Ev.now false)
        rw [spec_l1Kids.l0, if_pos (by omega), if_pos (by omega), rdI l i hi, w64 (i := body + 1) (by omega) (by omega), w64 (i := bodies - 1) (by omega) (by omega), l6In_eq, one, hb, Option.bind_some, if_neg Bool.false_ne_true]
  have := key 0 (Nat.zero_le _)
  rw [List.drop_zero] at this
  exact this
theorem specDeeds_ev (l0 : List Int) (l1 : List (List S90)) (k0 : Int) (l : List S138) (l2 : List Int) (r : Int) (hl : l.length ≤ 1048576) (hc : l0.length ≤ 3) : Ev (fun k => spec_l1Act.l0 k 0 l0 l1 k0 l l2 r) (okC l (l0.length : Int)) := by
  have key : ∀ i, i ≤ l.length → Ev (fun k => spec_l1Act.l0 k (i : Int) l0 l1 k0 l l2 r) ((l.drop i).all (dB (l0.length : Int)) && decide (l.length ≤ 5)) := by
    refine down ?_ ?_
    · rw [List.drop_length, List.all_nil, Bool.true_and]
      refine Ev.step (fun k => ?_) (Ev.now _)
      rw [spec_l1Act.l0, if_neg (by omega)]
      congr 1
      exact decide_eq_decide.2 (by omega)
    · intro i hi ih
      rw [List.drop_eq_getElem_cons hi, List.all_cons]
      cases hb : dB (l0.length : Int) l[i] with
      | true =>
        rw [Bool.true_and]
        refine Ev.step (fun k => ?_) ih
        unfold dB at hb
        rw [spec_l1Act.l0, if_pos (by omega), if_pos (by omega), rdD l i hi, l1Deed_eq _ _ _ _ (by omega) (by omega), hb, Option.bind_some, if_pos rfl, w64 (by omega) (by omega)]
        rfl
      | false =>
        rw [Bool.false_and, Bool.false_and]
        refine Ev.step (fun k => ?_) (Ev.now false)
        unfold dB at hb
        rw [spec_l1Act.l0, if_pos (by omega), if_pos (by omega), rdD l i hi, l1Deed_eq _ _ _ _ (by omega) (by omega), hb, Option.bind_some, if_neg Bool.false_ne_true]
  have := key 0 (Nat.zero_le _)
  rw [List.drop_zero] at this
  have e : okC l (l0.length : Int) = (l.all (dB (l0.length : Int)) && decide (l.length ≤ 5)) := by
    unfold okC inB
    rw [decide_eq_true (p := 0 ≤ (l0.length : Int)) (by omega), decide_eq_true (p := (l0.length : Int) ≤ 3) (by omega), Bool.true_and, Bool.true_and, Bool.and_comm]
  rw [e]
  exact this
theorem specAct_ev (l0 : List Int) (l1 : List (List S90)) (body : Int) (a : S90) (hc : l0.length ≤ 3) (hn : l1.length ≤ 4) (hb0 : 0 ≤ body) (hb1 : body ≤ 4) (h1 : a.f1.length ≤ 1048576) (h2 : a.f2.length ≤ 1048576) :
    Ev (fun k => spec_l1Act.f k l0 l1 body a.f0 a.f1 a.f2 a.f3) (actB (l0.length : Int) body (l1.length : Int) a) := by
  obtain ⟨k0, d, m, r⟩ := a
  dsimp only at h1 h2 ⊢
  have bad : ∀ f : Nat → Option Bool, (∀ k, f k = spec_l1Act.j0 k body true l0 l1 k0 d m r) → Ev f false := fun f hf => Ev.congr hf (Ev.step (fun k => by rw [spec_l1Act.j0, if_pos rfl]) (Ev.now false))
  have good : ∀ (f : Nat → Option Bool) (z : Bool), (∀ k, f k = spec_l1Act.j0 k body false l0 l1 k0 d m r) → Ev (fun k => if k0 = 1 then (spec_l1Act.l0 k 0 l0 l1 k0 d m r) else (if k0 = 2 then ((spec_l1Kids.f k m body (l1.length : Int)).bind fun t125 => (some t125)) else (if k0 = 3 then (some true) else (if k0 = 4 then ((spec_l6In.f r 0 2).bind fun t126 => (some t126)) else (some false))))) z → Ev f z :=
    fun f z hf hz => Ev.congr hf (Ev.step (fun k => by rw [spec_l1Act.j0, if_neg Bool.false_ne_true]) hz)
  have e1 : ∀ l : List S138, ((l.length : Int) > 0) = (¬ l.length = 0) := fun l => propext (by omega)
  have e2 : ∀ l : List Int, ((l.length : Int) > 0) = (¬ l.length = 0) := fun l => propext (by omega)
  by_cases k1 : k0 = 1
  · subst k1
    by_cases c : m.length = 0
    · by_cases c' : r = 0
      · refine good _ _ (fun k => by unfold spec_l1Act.f; simp [c, c']) ?_
        have e : actB (l0.length : Int) body (l1.length : Int) ⟨1, d, m, r⟩ = okC d (l0.length : Int) := if_pos ⟨rfl, c, c'⟩
        rw [e]
        exact ev_pos rfl (specDeeds_ev _ _ _ _ _ _ h1 hc)
      · have : actB (l0.length : Int) body (l1.length : Int) ⟨1, d, m, r⟩ = false := by unfold actB; simp [c']
        rw [this]
        exact bad _ (fun k => by unfold spec_l1Act.f; simp [c, bne_iff_ne.2 c'])
    · have : actB (l0.length : Int) body (l1.length : Int) ⟨1, d, m, r⟩ = false := by unfold actB; simp; intro h; rw [h] at c; exact absurd rfl c
      rw [this]
      exact bad _ (fun k => by unfold spec_l1Act.f; simp only [e2, c]; simp)
  by_cases k2 : k0 = 2
  · subst k2
    by_cases c : d.length = 0
    · by_cases c' : r = 0
      · refine good _ _ (fun k => by unfold spec_l1Act.f; simp [c, c']) ?_
        have e : actB (l0.length : Int) body (l1.length : Int) ⟨2, d, m, r⟩ = kidsOk m body (l1.length : Int) := (if_neg (by dsimp only; omega)).trans (if_pos ⟨rfl, c, c'⟩)
        rw [e]
        exact ev_neg (by omega) (ev_pos rfl (Ev.bind (specKids_ev _ _ _ h2 hb0 (by omega) (by omega) (by omega)) (Ev.now _)))
      · have : actB (l0.length : Int) body (l1.length : Int) ⟨2, d, m, r⟩ = false := by unfold actB; simp [c']
        rw [this]
        exact bad _ (fun k => by unfold spec_l1Act.f; simp [c, bne_iff_ne.2 c'])
    · have : actB (l0.length : Int) body (l1.length : Int) ⟨2, d, m, r⟩ = false := by unfold actB; simp; intro h; rw [h] at c; exact absurd rfl c
      rw [this]
      exact bad _ (fun k => by unfold spec_l1Act.f; simp only [e1, c]; simp)
  by_cases cd : d.length = 0
  · by_cases cm : m.length = 0
    · by_cases k4 : k0 = 4
      · subst k4
        refine good _ _ (fun k => by unfold spec_l1Act.f; simp [cd, cm]) ?_
        have e : actB (l0.length : Int) body (l1.length : Int) ⟨4, d, m, r⟩ = inB r 0 2 := (if_neg (by dsimp only; omega)).trans ((if_neg (by dsimp only; omega)).trans ((if_neg (by dsimp only; omega)).trans (if_pos ⟨rfl, cd, cm⟩)))
        rw [e]
        exact ev_neg (by omega) (ev_neg (by omega) (ev_neg (by omega) (ev_pos rfl (ev_eq fun _ => by rw [l6In_eq]; rfl))))
      · by_cases c' : r = 0
        · refine good _ _ (fun k => by unfold spec_l1Act.f; simp [cd, cm, c', k1, k2, k4]) ?_
          refine ev_neg k1 (ev_neg k2 (ev_eq fun _ => ?_))
          by_cases k3 : k0 = 3
          · have e : actB (l0.length : Int) body (l1.length : Int) ⟨k0, d, m, r⟩ = true := (if_neg (by dsimp only; omega)).trans ((if_neg (by dsimp only; omega)).trans (if_pos ⟨k3, cd, cm, c'⟩))
            rw [e, if_pos k3]
          · have e : actB (l0.length : Int) body (l1.length : Int) ⟨k0, d, m, r⟩ = false := (if_neg (by dsimp only; omega)).trans ((if_neg (by dsimp only; omega)).trans ((if_neg (by dsimp only; omega)).trans (if_neg (by dsimp only; omega))))
            rw [e, if_neg k3, if_neg k4]
        · have : actB (l0.length : Int) body (l1.length : Int) ⟨k0, d, m, r⟩ = false := by
            unfold actB
            dsimp only
            rw [if_neg (by omega), if_neg (by omega), if_neg (by omega), if_neg (by omega)]
          rw [this]
          exact bad _ (fun k => by unfold spec_l1Act.f; simp [cd, cm, bne_iff_ne.2 c', k1, k2, k4])
    · have : actB (l0.length : Int) body (l1.length : Int) ⟨k0, d, m, r⟩ = false := by
        unfold actB
        dsimp only
        rw [if_neg (by omega), if_neg (by omega), if_neg (by omega), if_neg (by omega)]
      rw [this]
      exact bad _ (fun k => by unfold spec_l1Act.f; simp only [e2, cd, cm, k1, k2]; simp)
  · have : actB (l0.length : Int) body (l1.length : Int) ⟨k0, d, m, r⟩ = false := by
      unfold actB
      dsimp only
      rw [if_neg (by omega), if_neg (by omega), if_neg (by omega), if_neg (by omega)]
    rw [this]
    exact bad _ (fun k => by unfold spec_l1Act.f; simp only [e1, cd, k1]; simp)

/-- Are a body's acts in form? Are those of all bodies from the i-th on? -/
def bodyB (cells bodies : Int) (i : Nat) (l : List S90) : Bool := decide (l.length ≤ 4) && l.all (actB cells (i : Int) bodies)
def restB (cells bodies : Int) : Nat → List (List S90) → Bool
  | _, [] => true
  | i, l :: ls => bodyB cells bodies i l && restB cells bodies (i + 1) ls
def formB (l0 : List Int) (l1 : List (List S90)) : Bool :=
  (decide (l0.length ≤ 3) && decide (1 ≤ l1.length ∧ l1.length ≤ 4)) && (l0.all (fun x => inB x 0 99) && restB (l0.length : Int) (l1.length : Int) 0 l1)
def Small (l0 : List Int) (l1 : List (List S90)) : Prop := l0.length ≤ 1048576 ∧ l1.length ≤ 1048576 ∧ ∀ b ∈ l1, b.length ≤ 1048576 ∧ ∀ x ∈ b, x.f1.length ≤ 1048576 ∧ x.f2.length ≤ 1048576
theorem inner_ev (cells body bodies : Int) : ∀ l : List S90, (∀ x ∈ l, x.f1.length ≤ 1048576) → Ev (fun k => innerF k cells body bodies l) (l.all (actB cells body bodies))
  | [], _ => Ev.now true
  | a :: l, h => by
    simp only [innerF, List.all_cons]
    refine Ev.bind (implAct_ev cells body bodies a (h a List.mem_cons_self)) ?_
    cases actB cells body bodies a with
    | true =>
      rw [Bool.true_and]
      exact ev_pos rfl (inner_ev cells body bodies l (fun x hx => h x (List.mem_cons_of_mem _ hx)))
    | false => exact ev_neg Bool.false_ne_true (Ev.now _)
theorem outer_ev (cells bodies : Int) : ∀ (ls : List (List S90)) (i : Nat), (∀ b ∈ ls, ∀ x ∈ b, x.f1.length ≤ 1048576) → Ev (fun k => outerF k cells bodies i ls) (restB cells bodies i ls)
  | [], _, _ => Ev.now true
  | l :: ls, i, h => by
    simp only [outerF, restB, bodyB]
    by_cases c : l.length > 4
    · rw [decide_eq_false (by omega), Bool.false_and, Bool.false_and]
      exact ev_pos c (Ev.now _)
    · rw [decide_eq_true (by omega), Bool.true_and]
      refine ev_neg c (Ev.bind (inner_ev cells (i : Int) bodies l (h l List.mem_cons_self)) ?_)
      cases l.all (actB cells (i : Int) bodies) with
      | true =>
        rw [Bool.true_and]
        exact ev_pos rfl (outer_ev cells bodies ls (i + 1) (fun b hb => h b (List.mem_cons_of_mem _ hb)))
      | false => exact ev_neg Bool.false_ne_true (Ev.now _)
theorem allNums_ev (l : List Int) (hl : l.length ≤ 1048576) : Ev (fun k => impl_allNums.f k l) (l.all (fun x => inB x 0 99)) := by
  have key : ∀ i, i ≤ l.length → Ev (fun k => impl_allNums.l0 k l (l.length : Int) (i : Int)) ((l.drop i).all (fun x => inB x 0 99)) := by
    refine down ?_ ?_
    · rw [List.drop_length, List.all_nil]
      exact Ev.step (fun k => by rw [impl_allNums.l0, if_neg (by omega)]) (Ev.now _)
    · intro i hi ih
      rw [List.drop_eq_getElem_cons hi, List.all_cons]
      cases hb : inB l[i] 0 99 with
      | true =>
        rw [Bool.true_and]
        refine Ev.step (fun k => ?_) ih
        rw [impl_allNums.l0, if_pos (by omega), if_pos (by omega), if_pos (by omega), rdI l i hi, isNum_eq, hb, Option.bind_some, if_pos rfl, w64 (by omega) (by omega)]
        rfl
      | false =>
        rw [Bool.false_and]
        refine Ev.step (fun k => ?_) (Ev.now false)
        rw [impl_allNums.l0, if_pos (by omega), if_pos (by omega), if_pos (by omega), rdI l i hi, isNum_eq, hb, Option.bind_some, if_neg Bool.false_ne_true]
  have := key 0 (Nat.zero_le _)
  rw [List.drop_zero] at this
  exact this
theorem specForm_ev (l0 : List Int) (l1 : List (List S90)) (h : Small l0 l1) : Ev (fun k => spec_l1Form.f k l0 l1) (formB l0 l1) := by
  unfold spec_l1Form.f formB
  have bad : Ev (fun k => spec_l1Form.j0 k true l0 l1) false := Ev.step (fun k => by rw [spec_l1Form.j0, if_pos rfl]) (Ev.now false)
  by_cases c : l0.length ≤ 3
  · refine ev_neg (by omega) ?_
    rw [decide_eq_true c, Bool.true_and]
    simp only [l6In_eq, Option.bind_some]
    by_cases d : 1 ≤ l1.length ∧ l1.length ≤ 4
    · have e : inB (l1.length : Int) 1 4 = true := by unfold inB; rw [decide_eq_true (by omega), decide_eq_true (by omega)]; rfl
      rw [e, decide_eq_true d, Bool.true_and]
      refine Ev.step (fun k => by rw [Bool.not_true, spec_l1Form.j0, if_neg Bool.false_ne_true]) ?_
      have acts : ∀ i, (hi : i < l1.length) → l1[i].length ≤ 4 → ∀ R, Ev (fun k => spec_l1Form.l1 k ((i + 1 : Nat) : Int) l0 l1) R → ∀ j, j ≤ l1[i].length → Ev (fun k => spec_l1Form.l2 k (i : Int) (j : Int) l0 l1) ((l1[i].drop j).all (actB (l0.length : Int) (i : Int) (l1.length : Int)) && R) := by
        intro i hi hl R hR
        refine down ?_ ?_
        · rw [List.drop_length, List.all_nil, Bool.true_and]
          refine Ev.step (fun k => ?_) hR
          rw [spec_l1Form.l2, if_pos (by omega), if_pos (by omega), rdBi l1 i hi, if_neg (by omega), w64 (by omega) (by omega)]
          rfl
        · intro j hj ih
          rw [List.drop_eq_getElem_cons hj, List.all_cons]
          have sm := (h.2.2 l1[i] (List.getElem_mem hi)).2 l1[i][j] (List.getElem_mem hj)
          have ha := specAct_ev l0 l1 (i : Int) l1[i][j] c d.2 (by omega) (by omega) sm.1 sm.2
          refine Ev.step (fun k => by rw [spec_l1Form.l2, if_pos (by omega), if_pos (by omega), rdBi l1 i hi, if_pos (by omega), if_pos (by omega), rdAi _ j hj]) (Ev.bind ha ?_)
          cases actB (l0.length : Int) (i : Int) (l1.length : Int) l1[i][j] with
          | true =>
            rw [Bool.true_and]
            refine ev_pos rfl (Ev.congr (fun k => ?_) ih)
            rw [w64 (by omega) (by omega)]
            rfl
          | false =>
            rw [Bool.false_and, Bool.false_and]
            exact ev_neg Bool.false_ne_true (Ev.now _)
      have bods : ∀ i, i ≤ l1.length → Ev (fun k => spec_l1Form.l1 k (i : Int) l0 l1) (restB (l0.length : Int) (l1.length : Int) i (l1.drop i)) := by
        refine down ?_ ?_
        · have e : restB (l0.length : Int) (l1.length : Int) l1.length [] = true := by simp [restB]
          rw [List.drop_length, e]
          exact Ev.step (fun k => by rw [spec_l1Form.l1, if_neg (by omega)]) (Ev.now _)
        · intro i hi ih
          rw [List.drop_eq_getElem_cons hi]
          unfold restB bodyB
          by_cases q : l1[i].length ≤ 4
          · rw [decide_eq_true q, Bool.true_and]
            have := acts i hi q _ ih 0 (Nat.zero_le _)
            rw [List.drop_zero] at this
            refine Ev.step (fun k => ?_) this
            rw [spec_l1Form.l1, if_pos (by omega), if_pos (by omega), rdBi l1 i hi, if_neg (by omega)]
            rfl
          · rw [decide_eq_false q, Bool.false_and, Bool.false_and]
            refine Ev.step (fun k => ?_) (Ev.now false)
            rw [spec_l1Form.l1, if_pos (by omega), if_pos (by omega), rdBi l1 i hi, if_pos (by omega)]
      have key : ∀ i, i ≤ l0.length → Ev (fun k => spec_l1Form.l0 k (i : Int) l0 l1) ((l0.drop i).all (fun x => inB x 0 99) && restB (l0.length : Int) (l1.length : Int) 0 l1) := by
        refine down ?_ ?_
        · rw [List.drop_length, List.all_nil, Bool.true_and]
          have := bods 0 (Nat.zero_le _)
          rw [List.drop_zero] at this
          refine Ev.step (fun k => ?_) this
          rw [spec_l1Form.l0, if_neg (by omega)]
          rfl
        · intro i hi ih
          rw [List.drop_eq_getElem_cons hi, List.all_cons]
          cases hb : inB l0[i] 0 99 with
          | true =>
            rw [Bool.true_and]
            refine Ev.step (fun k => ?_) ih
            rw [spec_l1Form.l0, if_pos (by omega), if_pos (by omega), rdI l0 i hi, l6In_eq, hb, Option.bind_some, if_pos rfl, w64 (by omega) (by omega)]
            rfl
          | false =>
            rw [Bool.false_and, Bool.false_and]
            refine Ev.step (fun k => ?_) (Ev.now false)
            rw [spec_l1Form.l0, if_pos (by omega), if_pos (by omega), rdI l0 i hi, l6In_eq, hb, Option.bind_some, if_neg Bool.false_ne_true]
      have := key 0 (Nat.zero_le _)
      rw [List.drop_zero] at this
      exact this
    · have e : inB (l1.length : Int) 1 4 = false := by
        unfold inB
        rw [← Bool.not_eq_true, Bool.and_eq_true, decide_eq_true_iff, decide_eq_true_iff]
        omega
      rw [e, decide_eq_false d, Bool.false_and]
      exact bad
  · rw [decide_eq_false c, Bool.false_and, Bool.false_and]
    exact ev_pos (by omega) bad

/-- A body's kids, if all is in form: they stand behind it. -/
theorem rest_at {cells bodies : Int} : ∀ {ls : List (List S90)} {i : Nat}, restB cells bodies i ls = true → ∀ j (hj : j < ls.length), bodyB cells bodies (i + j) ls[j] = true
  | [], _, _, j, hj => absurd hj (by simp)
  | l :: ls, i, h, j, hj => by
    unfold restB at h
    rw [Bool.and_eq_true] at h
    match j, hj with
    | 0, _ => exact h.1
    | j + 1, hj =>
      have := rest_at h.2 j (by simp at hj; omega)
      rw [show i + 1 + j = i + (j + 1) by omega] at this
      exact this
theorem kids_behind {cells body bodies : Int} {a : S90} (h : actB cells body bodies a = true) : a.f2.length ≤ 2 ∧ ∀ x ∈ a.f2, body < x ∧ x < bodies := by
  unfold actB at h
  have z : a.f2.length = 0 → a.f2.length ≤ 2 ∧ ∀ x ∈ a.f2, body < x ∧ x < bodies := fun e => ⟨by omega, fun x hx => by rw [List.length_eq_zero_iff.1 e] at hx; cases hx⟩
  split at h
  · rename_i c; exact z c.2.1
  · split at h
    · unfold kidsOk at h
      rw [Bool.and_eq_true, List.all_eq_true, Bool.and_eq_true, decide_eq_true_iff, decide_eq_true_iff] at h
      refine ⟨h.2.2, fun x hx => ?_⟩
      have := h.1 x hx
      unfold kidOk at this
      simp at this
      omega
    · split at h
      · rename_i c; exact z c.2.2.1
      · split at h
        · rename_i c; exact z c.2.2
        · cases h
structure Form (l1 : List (List S90)) : Prop where
  few : 1 ≤ l1.length ∧ l1.length ≤ 4
  acts : ∀ b (hb : b < l1.length), l1[b].length ≤ 4
  kids : ∀ b (hb : b < l1.length), ∀ a ∈ l1[b], a.f2.length ≤ 2 ∧ ∀ x ∈ a.f2, (b : Int) < x ∧ x < (l1.length : Int)
theorem form_of {l0 : List Int} {l1 : List (List S90)} (h : formB l0 l1 = true) : Form l1 := by
  unfold formB at h
  rw [Bool.and_eq_true, Bool.and_eq_true, Bool.and_eq_true, decide_eq_true_iff, decide_eq_true_iff] at h
  have r := fun b hb => rest_at h.2.2 b hb
  refine ⟨h.1.2, fun b hb => ?_, fun b hb a ha => ?_⟩
  · have := r b hb
    unfold bodyB at this
    rw [Bool.and_eq_true, decide_eq_true_iff] at this
    exact this.1
  · have := r b hb
    unfold bodyB at this
    rw [Bool.and_eq_true, List.all_eq_true] at this
    have := kids_behind (this.2 a ha)
    rw [Nat.zero_add] at this
    exact this
/-- The tree of a body: both tell the same. -/
theorem tree_ev {l0 : List Int} {l1 : List (List S90)} (h : Form l1) : ∀ (d b : Nat), b < l1.length → l1.length ≤ b + d → ∃ T : Int, Ev (fun k => spec_l1Tree.f k l0 l1 (b : Int)) T ∧ Ev (fun k => impl_treeOf.f k l0 l1 (b : Int)) T
  | 0, b, hb, hd => absurd hb (by omega)
  | d + 1, b, hb, hd => by
    have hl := h.acts b hb
    have kid : ∀ x : Int, (b : Int) < x → x < (l1.length : Int) → ∃ T : Int, Ev (fun k => spec_l1Tree.f k l0 l1 x) T ∧ Ev (fun k => impl_treeOf.f k l0 l1 x) T := by
      intro x h0 h1
      have := tree_ev (l0 := l0) h d x.toNat (by omega) (by omega)
      rw [Int.toNat_of_nonneg (by omega)] at this
      exact this
    have acts : ∀ i, i ≤ l1[b].length → ∀ s : Int, ∃ T : Int, Ev (fun k => spec_l1Tree.l0 k (b : Int) s (i : Int) l0 l1) T ∧ Ev (fun k => impl_treeOf.l0 k s l1[b] (l1[b].length : Int) (i : Int) l0 l1) T := by
      refine down ?_ ?_
      · intro s
        refine ⟨s, Ev.step (fun k => ?_) (Ev.now _), Ev.step (fun k => ?_) (Ev.now _)⟩
        · rw [spec_l1Tree.l0, if_pos (by omega), if_pos (by omega), rdBi l1 b hb, if_neg (by omega)]
        · rw [impl_treeOf.l0, if_neg (by omega)]
      · intro i hi ih s
        obtain ⟨hk, hx⟩ := h.kids b hb l1[b][i] (List.getElem_mem hi)
        have inner : ∀ j, j ≤ l1[b][i].f2.length → ∀ s : Int, ∃ T : Int, Ev (fun k => spec_l1Tree.l1 k (b : Int) s (i : Int) l1[b][i].f2 (j : Int) l0 l1) T ∧ Ev (fun k => impl_treeOf.l1 k s l1[b] (l1[b].length : Int) (i : Int) l1[b][i].f2 (l1[b][i].f2.length : Int) (j : Int) l0 l1) T := by
          refine down ?_ ?_
          · intro s
            obtain ⟨T, t1, t2⟩ := ih s
            refine ⟨T, Ev.step (fun k => ?_) t1, Ev.step (fun k => ?_) t2⟩
            · rw [spec_l1Tree.l1, if_neg (by omega), w64 (by omega) (by omega)]
              rfl
            · rw [impl_treeOf.l1, if_neg (by omega), w64 (by omega) (by omega)]
              rfl
          · intro j hj ih2 s
            obtain ⟨q0, q1⟩ := hx _ (List.getElem_mem hj)
            obtain ⟨t, u1, u2⟩ := kid _ q0 q1
            obtain ⟨T, t1, t2⟩ := ih2 (wrap64 (s + t))
            refine ⟨T, Ev.step (fun k => by rw [spec_l1Tree.l1, if_pos (by omega), if_pos (by omega), rdI _ j hj]) (Ev.bind u1 (Ev.congr (fun k => ?_) t1)), Ev.step (fun k => by rw [impl_treeOf.l1, if_pos (by omega), if_pos (by omega), if_pos (by omega), rdI _ j hj]) (Ev.bind u2 (Ev.congr (fun k => ?_) t2))⟩
            · rw [w64 (i := (j : Int) + 1) (by omega) (by omega)]
              rfl
            · rw [w64 (i := (j : Int) + 1) (by omega) (by omega)]
              rfl
        obtain ⟨T, t1, t2⟩ := inner 0 (Nat.zero_le _) s
        refine ⟨T, Ev.step (fun k => ?_) t1, Ev.step (fun k => ?_) t2⟩
        · rw [spec_l1Tree.l0, if_pos (by omega), if_pos (by omega), rdBi l1 b hb, if_pos (by omega), if_pos (by omega), rdAi _ i hi]
          rfl
        · rw [impl_treeOf.l0, if_pos (by omega), if_pos (by omega), if_pos (by omega), rdAi _ i hi]
          rfl
    obtain ⟨T, t1, t2⟩ := acts 0 (Nat.zero_le _) 1
    refine ⟨T, Ev.step (fun k => ?_) t1, Ev.step (fun k => ?_) t2⟩
    · rw [spec_l1Tree.f]
      rfl
    · rw [impl_treeOf.f, if_pos (by omega), if_pos (by omega), rdBi l1 b hb]
      rfl
/-- Is a program one? Both tell the same; if it is one, it is in form. -/
theorem ok_ev (l0 : List Int) (l1 : List (List S90)) (h : Small l0 l1) : ∃ R : Bool, Ev (fun k => spec_ProgOk.f k l0 l1) R ∧ Ev (fun k => impl_ProgOk.f k l0 l1) R ∧ (R = true → formB l0 l1 = true) := by
  have sf := specForm_ev l0 l1 h
  cases hf : formB l0 l1 with
  | true =>
    rw [hf] at sf
    have fm := form_of hf
    obtain ⟨T, t1, t2⟩ := tree_ev (l0 := l0) fm 4 0 (by have := fm.few; omega) (by have := fm.few; omega)
    refine ⟨decide (T ≤ 7), ?_, ?_, fun _ => rfl⟩
    · unfold spec_ProgOk.f
      exact Ev.bind sf (ev_pos rfl (Ev.bind t1 (Ev.now _)))
    · unfold formB at hf
      rw [Bool.and_eq_true, Bool.and_eq_true, Bool.and_eq_true, decide_eq_true_iff, decide_eq_true_iff] at hf
      obtain ⟨⟨h3, h4⟩, h5, h6⟩ := hf
      have an := allNums_ev l0 h.1
      have ou := outer_ev (l0.length : Int) (l1.length : Int) l1 0 (fun b hb x hx => ((h.2.2 b hb).2 x hx).1)
      rw [h5] at an
      rw [h6] at ou
      unfold impl_ProgOk.f
      exact ev_neg (by omega) (Ev.bind an (ev_pos rfl (ev_neg (by omega) (Ev.bind ou (ev_pos rfl (Ev.bind t2 (Ev.now _)))))))
  | false =>
    rw [hf] at sf
    refine ⟨false, ?_, ?_, fun q => by cases q⟩
    · unfold spec_ProgOk.f
      exact Ev.bind sf (ev_neg Bool.false_ne_true (Ev.now _))
    · have an := allNums_ev l0 h.1
      have ou := outer_ev (l0.length : Int) (l1.length : Int) l1 0 (fun b hb x hx => ((h.2.2 b hb).2 x hx).1)
      unfold impl_ProgOk.f
      by_cases c : l0.length > 3
      · exact ev_pos c (Ev.now _)
      refine ev_neg c (Ev.bind an ?_)
      cases h5 : l0.all (fun x => inB x 0 99) with
      | false => exact ev_neg Bool.false_ne_true (Ev.now _)
      | true =>
        refine ev_pos rfl ?_
        by_cases c2 : l1.length < 1 ∨ 4 < l1.length
        · exact ev_pos c2 (Ev.now _)
        refine ev_neg c2 (Ev.bind ou ?_)
        cases h6 : restB (l0.length : Int) (l1.length : Int) 0 l1 with
        | false => exact ev_neg Bool.false_ne_true (Ev.now _)
        | true =>
          exfalso
          unfold formB at hf
          rw [h5, h6, decide_eq_true (show l0.length ≤ 3 by omega), decide_eq_true (show 1 ≤ l1.length ∧ l1.length ≤ 4 by omega)] at hf
          cases hf
/-- The trees of a program's bodies: both tell the same. -/
theorem progTree_ev (l0 : List Int) (l1 : List (List S90)) (a : Int) (h : Small l0 l1) : ∃ R : Int, Ev (fun k => spec_ProgTree.f k l0 l1 a) R ∧ Ev (fun k => impl_ProgTree.f k l0 l1 a) R := by
  obtain ⟨R, r1, r2, r3⟩ := ok_ev l0 l1 h
  unfold spec_ProgTree.f impl_ProgTree.f
  cases R with
  | false => exact ⟨-1, Ev.bind r1 (ev_neg Bool.false_ne_true (Ev.now _)), Ev.bind r2 (ev_neg Bool.false_ne_true (Ev.now _))⟩
  | true =>
    have fm := form_of (r3 rfl)
    have := fm.few
    have e : wrap64 ((l1.length : Int) - 1) = (l1.length : Int) - 1 := w64 (by omega) (by omega)
    simp only [isPlace_eq, l6In_eq, e, Option.bind_some]
    cases hi : inB a 0 ((l1.length : Int) - 1) with
    | false => exact ⟨-1, Ev.bind r1 (ev_pos rfl (ev_neg Bool.false_ne_true (Ev.now _))), Ev.bind r2 (ev_pos rfl (ev_neg Bool.false_ne_true (Ev.now _)))⟩
    | true =>
      unfold inB at hi
      rw [Bool.and_eq_true, decide_eq_true_iff, decide_eq_true_iff] at hi
      obtain ⟨T, t1, t2⟩ := tree_ev (l0 := l0) fm 4 a.toNat (by omega) (by omega)
      rw [Int.toNat_of_nonneg hi.1] at t1 t2
      exact ⟨T, Ev.bind r1 (ev_pos rfl (ev_pos rfl (Ev.bind t1 (Ev.now _)))), Ev.bind r2 (ev_pos rfl (ev_pos rfl (Ev.bind t2 (Ev.now _))))⟩
end Go.Proofs.Ytpodhdpkdhcnoaa.PTree
