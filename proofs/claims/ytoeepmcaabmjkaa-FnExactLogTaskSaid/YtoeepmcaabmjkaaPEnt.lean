/- Plain lemmas on the laws' copies, sizes and comparisons of changes (no condition but lengths that fit into an int). -/
import Derived.Test.YtoeepmcaabmjkaaV0
namespace Go.Proofs.Ytoeepmcaabmjkaa.PEnt
open Go.RowKit Go.Proofs.Ytoeepmcaabmjkaa.QLT Go.Proofs.YtoeepmcaabmjkaaW.PrintWords Go.Proofs.YtoeepmcaabmjkaaW.PrintLast

theorem w64 {i : Int} (h0 : -9223372036854775808 ≤ i) (h1 : i ≤ 9223372036854775807) : wrap64 i = i := by
  unfold wrap64
  omega

theorem down {P : Nat → Prop} {n : Nat} (he : P n) (hs : ∀ i, i < n → P (i + 1) → P i) : ∀ i, i ≤ n → P i := by
  intro i hi
  obtain ⟨d, hd⟩ : ∃ d, n = i + d := ⟨n - i, by omega⟩
  induction d generalizing i with
  | zero =>
    have : i = n := by omega
    rw [this]
    exact he
  | succ d ih => exact hs i (by omega) (ih (i + 1) (by omega) (by omega))

theorem ev_pos {α : Type} {c : Prop} [Decidable c] {f g : Nat → Option α} {r : α} (hc : c) (h : Ev f r) : Ev (fun n => if c then f n else g n) r := by
  simp only [if_pos hc]
  exact h
theorem ev_neg {α : Type} {c : Prop} [Decidable c] {f g : Nat → Option α} {r : α} (hc : ¬ c) (h : Ev g r) : Ev (fun n => if c then f n else g n) r := by
  simp only [if_neg hc]
  exact h

/-- One more element of a copy is there. -/
theorem set_conv {α β : Type} (c : α → β) (z : β) (l : List α) (i : Nat) (hi : i < l.length) (y : β) (hy : y = c l[i]) :
    ((l.take i).map c ++ List.replicate (l.length - i) z).set i y = (l.take (i + 1)).map c ++ List.replicate (l.length - (i + 1)) z := by
  subst hy
  have e : l.length - i = (l.length - (i + 1)) + 1 := by omega
  have hm : ((l.take i).map c).length = i := by rw [List.length_map, List.length_take]; omega
  rw [e, List.replicate_succ, List.set_append_right _ _ (by omega), hm, Nat.sub_self, List.set_cons_zero, List.take_succ_eq_append_getElem hi, List.map_append, List.append_assoc]
  rfl

theorem conv_start {α β : Type} (c : α → β) (z : β) (l : List α) : List.replicate l.length z = (l.take 0).map c ++ List.replicate (l.length - 0) z := by simp
theorem conv_len {α β : Type} (c : α → β) (z : β) (l : List α) (i : Nat) (hi : i ≤ l.length) : ((l.take i).map c ++ List.replicate (l.length - i) z).length = l.length := by
  rw [List.length_append, List.length_map, List.length_take, List.length_replicate]
  omega
theorem conv_end {α β : Type} (c : α → β) (z : β) (l : List α) : (l.take l.length).map c ++ List.replicate (l.length - l.length) z = l.map c := by simp

def toP (x : S146) : S115 := ⟨x.f0, x.f1⟩
def toE (x : S82) : S84 := ⟨x.f0, x.f1, x.f2, x.f3.map toP, x.f4.map toP, x.f5⟩

theorem rdP (l : List S146) (i : Nat) (hi : i < l.length) : rd_T146 l (i : Int) = l[i] := by
  simp [rd_T146, List.getD, hi]
theorem rdQ (l : List S115) (i : Nat) (hi : i < l.length) : rd_T115 l (i : Int) = l[i] := by
  simp [rd_T115, List.getD, hi]
theorem rdE (l : List S82) (i : Nat) (hi : i < l.length) : rd_T82 l (i : Int) = l[i] := by
  simp [rd_T82, List.getD, hi]
theorem rdF (l : List S84) (i : Nat) (hi : i < l.length) : rd_T84 l (i : Int) = l[i] := by
  simp [rd_T84, List.getD, hi]

theorem toPutS_ev (l : List S146) (hl : l.length ≤ 1048576) : Ev (fun k => laws_toPutS.f k l) (l.map toP) := by
  have key : ∀ i, i ≤ l.length → Ev (fun k => laws_toPutS.l0 k l ((l.take i).map toP ++ List.replicate (l.length - i) z115) (i : Int)) (l.map toP) := by
    refine down ?_ ?_
    · refine Ev.step (fun k => by rw [laws_toPutS.l0, if_neg (by omega)]) ?_
      rw [conv_end]
      exact Ev.now _
    · intro i hi ih
      refine Ev.step (fun k => ?_) ih
      rw [laws_toPutS.l0, if_pos (by omega), if_pos (by omega)]
      simp only [laws_toPut.f, Option.bind_some]
      rw [if_pos (by rw [conv_len _ _ _ _ (by omega)]; omega), w64 (by omega) (by omega), rdP l i hi]
      exact congrArg (fun q => laws_toPutS.l0 k l q ((i : Int) + 1)) (set_conv toP z115 l i hi _ rfl)
  have := key 0 (Nat.zero_le _)
  rw [← conv_start] at this
  refine Ev.congr (fun k => ?_) this
  unfold laws_toPutS.f
  rw [if_pos (by omega), if_pos (by omega)]
  rfl

theorem toEntry_ev (x : S82) (h3 : x.f3.length ≤ 1048576) (h4 : x.f4.length ≤ 1048576) : Ev (fun k => laws_toEntry.f k x.f0 x.f1 x.f2 x.f3 x.f4 x.f5) (x.f0, x.f1, x.f2, x.f3.map toP, x.f4.map toP, x.f5) := by
  unfold laws_toEntry.f
  exact Ev.bind (toPutS_ev _ h3) (Ev.bind (toPutS_ev _ h4) (Ev.now _))

theorem toEntryS_ev (l : List S82) (hl : l.length ≤ 1048576) (h3 : ∀ x ∈ l, x.f3.length ≤ 1048576 ∧ x.f4.length ≤ 1048576) : Ev (fun k => laws_toEntryS.f k l) (l.map toE) := by
  have key : ∀ i, i ≤ l.length → Ev (fun k => laws_toEntryS.l0 k l ((l.take i).map toE ++ List.replicate (l.length - i) z84) (i : Int)) (l.map toE) := by
    refine down ?_ ?_
    · refine Ev.step (fun k => by rw [laws_toEntryS.l0, if_neg (by omega)]) ?_
      rw [conv_end]
      exact Ev.now _
    · intro i hi ih
      have hm := h3 l[i] (List.getElem_mem hi)
      refine Ev.step (fun k => by rw [laws_toEntryS.l0, if_pos (by omega), if_pos (by omega), rdE l i hi]) ?_
      refine Ev.bind (toEntry_ev l[i] hm.1 hm.2) ?_
      refine Ev.congr (fun k => ?_) ih
      rw [if_pos (by rw [conv_len _ _ _ _ (by omega)]; omega), w64 (by omega) (by omega)]
      exact congrArg (fun q => laws_toEntryS.l0 k l q ((i : Int) + 1)) (set_conv toE z84 l i hi _ rfl)
  have := key 0 (Nat.zero_le _)
  rw [← conv_start] at this
  refine Ev.congr (fun k => ?_) this
  unfold laws_toEntryS.f
  rw [if_pos (by omega), if_pos (by omega)]
  rfl

theorem eqPutS_refl (l : List S115) (hl : l.length ≤ 9223372036854775807) : Ev (fun k => laws_eqPutS.f k l l) true := by
  have key : ∀ i, i ≤ l.length → Ev (fun k => laws_eqPutS.l0 k l l (i : Int)) true := by
    refine down ?_ ?_
    · exact Ev.step (fun k => by rw [laws_eqPutS.l0, if_neg (by omega)]) (Ev.now _)
    · intro i hi ih
      refine Ev.step (fun k => ?_) ih
      rw [laws_eqPutS.l0, if_pos (by omega), if_pos (by omega), if_pos (by omega)]
      simp only [laws_eqPut.f, if_true, Option.bind_some]
      rw [w64 (by omega) (by omega)]
      rfl
  refine Ev.congr (fun k => ?_) (key 0 (Nat.zero_le _))
  unfold laws_eqPutS.f
  rw [if_pos rfl]
  rfl

theorem eqEntry_refl (x : S84) (h3 : x.f3.length ≤ 9223372036854775807) (h4 : x.f4.length ≤ 9223372036854775807) :
    Ev (fun k => laws_eqEntry.f k x.f0 x.f1 x.f2 x.f3 x.f4 x.f5 x.f0 x.f1 x.f2 x.f3 x.f4 x.f5) true := by
  unfold laws_eqEntry.f
  exact ev_pos ⟨rfl, rfl, rfl, rfl, rfl, rfl⟩ (Ev.bind (eqPutS_refl _ h3) (ev_pos rfl (Ev.bind (eqPutS_refl _ h4) (ev_pos rfl (Ev.now _)))))

theorem eqEntryS_refl (l : List S84) (hl : l.length ≤ 9223372036854775807) (h : ∀ x ∈ l, x.f3.length ≤ 9223372036854775807 ∧ x.f4.length ≤ 9223372036854775807) : Ev (fun k => laws_eqEntryS.f k l l) true := by
  have key : ∀ i, i ≤ l.length → Ev (fun k => laws_eqEntryS.l0 k l l (i : Int)) true := by
    refine down ?_ ?_
    · exact Ev.step (fun k => by rw [laws_eqEntryS.l0, if_neg (by omega)]) (Ev.now _)
    · intro i hi ih
      have hm := h l[i] (List.getElem_mem hi)
      refine Ev.step (fun k => by rw [laws_eqEntryS.l0, if_pos (by omega), if_pos (by omega), if_pos (by omega), rdF l i hi]) ?_
      refine Ev.bind (eqEntry_refl l[i] hm.1 hm.2) ?_
      refine Ev.congr (fun k => ?_) ih
      rw [if_pos rfl, w64 (by omega) (by omega)]
      rfl
  refine Ev.congr (fun k => ?_) (key 0 (Nat.zero_le _))
  unfold laws_eqEntryS.f
  rw [if_pos rfl]
  rfl

/-- How much a change holds beside itself. -/
def szE (x : S82) : Nat := x.f3.length + x.f4.length
def szL (l : List S82) : Nat := (l.map szE).sum

theorem szPutS_eq (l : List S146) (hl : l.length ≤ 9223372036854775807) (a : Int) (h0 : 0 ≤ a) (h1 : a ≤ 1048576) :
    laws_szPutS.f l a = some (if a - (l.length : Int) < 0 then -1 else a - (l.length : Int)) := by
  unfold laws_szPutS.f
  rw [w64 (by omega) (by omega)]
  split <;> rfl

theorem szEntry_eq (x : S82) (h3 : x.f3.length ≤ 9223372036854775807) (h4 : x.f4.length ≤ 9223372036854775807) (a : Int) (h0 : 0 ≤ a) (h1 : a ≤ 1048576) :
    laws_szEntry.f x.f0 x.f1 x.f2 x.f3 x.f4 x.f5 a = some (if a - (szE x : Int) < 0 then -1 else a - (szE x : Int)) := by
  unfold laws_szEntry.f szE
  rw [szPutS_eq _ h3 a h0 h1]
  simp only [Option.bind_some]
  by_cases c : a - (x.f3.length : Int) < 0
  · rw [if_pos c, if_pos (by omega), if_pos (by omega)]
  · rw [if_neg c, if_neg c, szPutS_eq _ h4 _ (by omega) (by omega)]
    simp only [Option.bind_some]
    by_cases c2 : a - (x.f3.length : Int) - (x.f4.length : Int) < 0
    · rw [if_pos c2, if_pos (by omega), if_pos (by omega)]
    · rw [if_neg c2, if_neg c2, if_neg (by omega)]
      congr 1
      omega

theorem szEntryS_l0 (l : List S82) (hl : l.length ≤ 9223372036854775807) (h : ∀ x ∈ l, x.f3.length ≤ 9223372036854775807 ∧ x.f4.length ≤ 9223372036854775807) :
    ∀ i, i ≤ l.length → ∀ a : Int, 0 ≤ a → a ≤ 1048576 → Ev (fun k => laws_szEntryS.l0 k l a (i : Int)) (if a - (szL (l.drop i) : Int) < 0 then -1 else a - (szL (l.drop i) : Int)) := by
  refine down ?_ ?_
  · intro a h0 h1
    refine Ev.step (fun k => by rw [laws_szEntryS.l0, if_neg (by omega)]) ?_
    have e : szL (l.drop l.length) = 0 := by simp [szL]
    rw [e, if_neg (by omega)]
    have e2 : a - ((0 : Nat) : Int) = a := by omega
    rw [e2]
    exact Ev.now _
  · intro i hi ih a h0 h1
    have hm := h l[i] (List.getElem_mem hi)
    refine Ev.step (fun k => by rw [laws_szEntryS.l0, if_pos (by omega), if_pos (by omega), rdE l i hi, szEntry_eq l[i] hm.1 hm.2 a h0 h1]) ?_
    have e : szL (l.drop i) = szE l[i] + szL (l.drop (i + 1)) := by
      rw [List.drop_eq_getElem_cons hi]
      unfold szL
      rw [List.map_cons, List.sum_cons]
    rw [e]
    by_cases c : a - (szE l[i] : Int) < 0
    · simp only [if_pos c, Option.bind_some]
      rw [if_pos (by omega)]
      exact Ev.congr (fun k => by rw [if_pos (by omega)]) (Ev.now _)
    · simp only [if_neg c, Option.bind_some]
      have := ih (a - (szE l[i] : Int)) (by omega) (by omega)
      have e3 : (a - (szE l[i] : Int) - (szL (l.drop (i + 1)) : Int)) = (a - ((szE l[i] + szL (l.drop (i + 1)) : Nat) : Int)) := by omega
      rw [e3] at this
      refine Ev.congr (fun k => ?_) this
      rw [w64 (by omega) (by omega)]
      rfl

/-- What the size tells: too much, or all lengths are small. -/
theorem szEntryS_ev (l : List S82) (hl : l.length ≤ 9223372036854775807) (h : ∀ x ∈ l, x.f3.length ≤ 9223372036854775807 ∧ x.f4.length ≤ 9223372036854775807) :
    ∃ r : Int, Ev (fun k => laws_szEntryS.f k l 1048576) r ∧ (r < 0 ∨ (0 ≤ r ∧ l.length + szL l ≤ 1048576)) := by
  by_cases c : 1048576 - (l.length : Int) < 0
  · refine ⟨-1, ?_, .inl (by omega)⟩
    refine Ev.congr (fun k => ?_) (Ev.now _)
    unfold laws_szEntryS.f
    rw [w64 (by omega) (by omega), if_pos c]
  · have := szEntryS_l0 l hl h 0 (Nat.zero_le _) (1048576 - (l.length : Int)) (by omega) (by omega)
    rw [List.drop_zero] at this
    refine ⟨_, Ev.congr (fun k => ?_) this, ?_⟩
    · unfold laws_szEntryS.f
      rw [w64 (by omega) (by omega), if_neg c]
      rfl
    · by_cases c2 : 1048576 - (l.length : Int) - (szL l : Int) < 0
      · rw [if_pos c2]
        exact .inl (by omega)
      · rw [if_neg c2]
        exact .inr ⟨by omega, by omega⟩

theorem szL_mem {l : List S82} {x : S82} (h : x ∈ l) : szE x ≤ szL l := by
  induction l with
  | nil => cases h
  | cons y l ih =>
    have e : szL (y :: l) = szE y + szL l := by simp [szL]
    rw [e]
    rcases List.mem_cons.1 h with h | h
    · subst h; omega
    · have := ih h; omega

def ok146 (x : S146) : Prop := (Lit.int .i64 x.f0).wf = true ∧ (Lit.int .i64 x.f1).wf = true
def ok82 (x : S82) : Prop := (Lit.int .i64 x.f0).wf = true ∧ (Lit.int .i64 x.f1).wf = true ∧ (Lit.int .i64 x.f2).wf = true ∧ (x.f3.length ≤ 9223372036854775807 ∧ ∀ a ∈ x.f3, ok146 a) ∧ (x.f4.length ≤ 9223372036854775807 ∧ ∀ a ∈ x.f4, ok146 a) ∧ (Lit.int .i64 x.f5).wf = true
theorem ok_lens {l : List S82} (h : ∀ a ∈ l, ok82 a) : ∀ x ∈ l, x.f3.length ≤ 9223372036854775807 ∧ x.f4.length ≤ 9223372036854775807 := fun x hx => ⟨(h x hx).2.2.2.1.1, (h x hx).2.2.2.2.1.1⟩
/-- Behind the size's test: the copies and the comparisons come to an end. -/
theorem small {l : List S82} (h : l.length + szL l ≤ 1048576) : l.length ≤ 1048576 ∧ ∀ x ∈ l, x.f3.length ≤ 1048576 ∧ x.f4.length ≤ 1048576 := by
  refine ⟨by omega, fun x hx => ?_⟩
  have := szL_mem hx
  unfold szE at this
  omega
theorem toE_lens {l : List S82} (h : ∀ x ∈ l, x.f3.length ≤ 1048576 ∧ x.f4.length ≤ 1048576) : ∀ x ∈ l.map toE, x.f3.length ≤ 1048576 ∧ x.f4.length ≤ 1048576 := by
  intro x hx
  obtain ⟨y, hy, rfl⟩ := List.mem_map.1 hx
  have := h y hy
  simp only [toE, List.length_map]
  exact this
end Go.Proofs.Ytoeepmcaabmjkaa.PEnt
