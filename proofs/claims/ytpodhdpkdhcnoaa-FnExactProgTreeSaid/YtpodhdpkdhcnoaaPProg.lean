/- Plain lemmas on the laws' copies, sizes and comparisons of programs (no condition but lengths that fit into an int). -/
import Derived.Test.YtpodhdpkdhcnoaaQSBx2
import Derived.Test.YtpodhdpkdhcnoaaQSBx8
import Derived.Test.YtpodhdpkdhcnoaaQSBx19
import Derived.Test.YtpodhdpkdhcnoaaStP
namespace Go.Proofs.Ytpodhdpkdhcnoaa.PProg
open Go.RowKit Go.Proofs.Ytpodhdpkdhcnoaa.QSB Go.Proofs.YtpodhdpkdhcnoaaW.PrintWords Go.Proofs.YtpodhdpkdhcnoaaW.PrintLast

theorem w64 {i : Int} (h0 : -9223372036854775808 ≤ i) (h1 : i ≤ 9223372036854775807) : wrap64 i = i := by
  unfold wrap64
  omega
theorem down {P : Nat → Prop} {n : Nat} (he : P n) (hs : ∀ i, i < n → P (i + 1) → P i) : ∀ i, i ≤ n → P i := by
  intro i hi
  obtain ⟨d, hd⟩ : ∃ d, n = i + d := ⟨n - i, by omega⟩
  induction d generalizing i with
  | zero =>
    have : i = n := by omega
    rw [this]
    exact he
  | succ d ih => exact hs i (by omega) (ih (i + 1) (by omega) (by omega))
theorem ev_pos {α : Type} {c : Prop} [Decidable c] {f g : Nat → Option α} {r : α} (hc : c) (h : Ev f r) : Ev (fun n => if c then f n else g n) r := by
  simp only [if_pos hc]
  exact h
theorem ev_neg {α : Type} {c : Prop} [Decidable c] {f g : Nat → Option α} {r : α} (hc : ¬ c) (h : Ev g r) : Ev (fun n => if c then f n else g n) r := by
  simp only [if_neg hc]
  exact h
theorem set_conv {α β : Type} (c : α → β) (z : β) (l : List α) (i : Nat) (hi : i < l.length) (y : β) (hy : y = c l[i]) :
    ((l.take i).map c ++ List.replicate (l.length - i) z).set i y = (l.take (i + 1)).map c ++ List.replicate (l.length - (i + 1)) z := by
  subst hy
  have e : l.length - i = (l.length - (i + 1)) + 1 := by omega
  have hm : ((l.take i).map c).length = i := by rw [List.length_map, List.length_take]; omega
  rw [e, List.replicate_succ, List.set_append_right _ _ (by omega), hm, Nat.sub_self, List.set_cons_zero, List.take_succ_eq_append_getElem hi, List.map_append, List.append_assoc]
  rfl
theorem conv_start {α β : Type} (c : α → β) (z : β) (l : List α) : List.replicate l.length z = (l.take 0).map c ++ List.replicate (l.length - 0) z := by simp
theorem conv_len {α β : Type} (c : α → β) (z : β) (l : List α) (i : Nat) (hi : i ≤ l.length) : ((l.take i).map c ++ List.replicate (l.length - i) z).length = l.length := by
  rw [List.length_append, List.length_map, List.length_take, List.length_replicate]
  omega
theorem conv_end {α β : Type} (c : α → β) (z : β) (l : List α) : (l.take l.length).map c ++ List.replicate (l.length - l.length) z = l.map c := by simp
/-- A loop that copies a row, element by element. -/
theorem conv_loop {α β : Type} (c : α → β) (z : β) (l : List α) (L : Nat → List β → Int → Option (List β)) (he : ∀ k m, L (k + 1) m (l.length : Int) = some m)
    (hs : ∀ i (hi : i < l.length) m, m.length = l.length → ∀ r, Ev (fun k => L k (m.set i (c l[i])) ((i + 1 : Nat) : Int)) r → Ev (fun k => L k m (i : Int)) r) :
    Ev (fun k => L k (List.replicate l.length z) 0) (l.map c) := by
  have key : ∀ i, i ≤ l.length → Ev (fun k => L k ((l.take i).map c ++ List.replicate (l.length - i) z) (i : Int)) (l.map c) := by
    refine down ?_ ?_
    · refine Ev.step (fun k => he k _) ?_
      rw [conv_end]
      exact Ev.now _
    · intro i hi ih
      refine hs i hi _ (conv_len c z l i (by omega)) _ ?_
      rw [set_conv c z l i hi _ rfl]
      exact ih
  have := key 0 (Nat.zero_le _)
  rw [← conv_start] at this
  exact this
/-- What is left of a, if n are taken; -1, if there are not so many. -/
def cut (a : Int) (n : Nat) : Int := if a - (n : Int) < 0 then -1 else a - (n : Int)
/-- A loop that takes the sizes of a row's elements. -/
theorem size_loop {α : Type} (sz : α → Nat) (l : List α) (L : Nat → Int → Int → Option Int) (he : ∀ k a, L (k + 1) a (l.length : Int) = some a)
    (hs : ∀ i (hi : i < l.length) a, 0 ≤ a → a ≤ 1048576 → (cut a (sz l[i]) < 0 → Ev (fun k => L k a (i : Int)) (-1)) ∧ (0 ≤ cut a (sz l[i]) → ∀ r, Ev (fun k => L k (a - (sz l[i] : Int)) ((i + 1 : Nat) : Int)) r → Ev (fun k => L k a (i : Int)) r)) :
    ∀ i, i ≤ l.length → ∀ a, 0 ≤ a → a ≤ 1048576 → Ev (fun k => L k a (i : Int)) (cut a ((l.drop i).map sz).sum) := by
  refine down ?_ ?_
  · intro a h0 h1
    refine Ev.step (fun k => he k _) ?_
    rw [List.drop_length]
    have : cut a ((([] : List α).map sz).sum) = a := by
      show (if a - ((0 : Nat) : Int) < 0 then (-1 : Int) else a - ((0 : Nat) : Int)) = a
      rw [if_neg (by omega)]
      omega
    rw [this]
    exact Ev.now _
  · intro i hi ih a h0 h1
    obtain ⟨x, y⟩ := hs i hi a h0 h1
    have e : ((l.drop i).map sz).sum = sz l[i] + ((l.drop (i + 1)).map sz).sum := by rw [List.drop_eq_getElem_cons hi, List.map_cons, List.sum_cons]
    rw [e]
    unfold cut at x y ⊢
    by_cases c : a - (sz l[i] : Int) < 0
    · rw [if_pos c] at x
      rw [if_pos (by omega)]
      exact x (by omega)
    · rw [if_neg c] at y
      have := y (by omega) _ (ih (a - (sz l[i] : Int)) (by omega) (by omega))
      unfold cut at this
      have e3 : (a - (sz l[i] : Int) - (((l.drop (i + 1)).map sz).sum : Int)) = (a - ((sz l[i] + ((l.drop (i + 1)).map sz).sum : Nat) : Int)) := by omega
      rw [e3] at this
      exact this

def toD (x : S157) : S138 := ⟨x.f0, x.f1, x.f2⟩
def toA (x : S135) : S90 := ⟨x.f0, x.f1.map toD, x.f2, x.f3⟩
theorem rdI (l : List Int) (i : Nat) (hi : i < l.length) : rd l (i : Int) = l[i] := by
  simp [rd, List.getD, hi]
theorem rdL (l : List S157) (i : Nat) (hi : i < l.length) : rd_T157 l (i : Int) = l[i] := by
  simp [rd_T157, List.getD, hi]
theorem rdA (l : List S135) (i : Nat) (hi : i < l.length) : rd_T135 l (i : Int) = l[i] := by
  simp [rd_T135, List.getD, hi]
theorem rdB (l : List (List S135)) (i : Nat) (hi : i < l.length) : rd_L5 l (i : Int) = l[i] := by
  simp [rd_L5, List.getD, hi]
theorem rdAi (l : List S90) (i : Nat) (hi : i < l.length) : rd_T90 l (i : Int) = l[i] := by
  simp [rd_T90, List.getD, hi]
theorem rdBi (l : List (List S90)) (i : Nat) (hi : i < l.length) : rd_L9 l (i : Int) = l[i] := by
  simp [rd_L9, List.getD, hi]

theorem toIntS_ev (l : List Int) (hl : l.length ≤ 1048576) : Ev (fun k => laws_toIntS.f k l) l := by
  have := conv_loop id 0 l (fun k m i => laws_toIntS.l0 k l m i) (fun k m => by rw [laws_toIntS.l0, if_neg (by omega)]) (fun i hi m hm r h => ?_)
  · rw [List.map_id] at this
    refine Ev.congr (fun k => ?_) this
    unfold laws_toIntS.f
    rw [if_pos (by omega), if_pos (by omega)]
    rfl
  · refine Ev.step (fun k => ?_) h
    rw [laws_toIntS.l0, if_pos (by omega), if_pos (by omega), if_pos (by omega), w64 (by omega) (by omega), rdI l i hi]
    rfl
theorem toDeedS_ev (l : List S157) (hl : l.length ≤ 1048576) : Ev (fun k => laws_toDeedS.f k l) (l.map toD) := by
  have := conv_loop toD z138 l (fun k m i => laws_toDeedS.l0 k l m i) (fun k m => by rw [laws_toDeedS.l0, if_neg (by omega)]) (fun i hi m hm r h => ?_)
  · refine Ev.congr (fun k => ?_) this
    unfold laws_toDeedS.f
    rw [if_pos (by omega), if_pos (by omega)]
    rfl
  · refine Ev.step (fun k => ?_) h
    rw [laws_toDeedS.l0, if_pos (by omega), if_pos (by omega)]
    simp only [laws_toDeed.f, Option.bind_some]
    rw [if_pos (by omega), w64 (by omega) (by omega), rdL l i hi]
    rfl
theorem toActS_ev (l : List S135) (hl : l.length ≤ 1048576) (h : ∀ x ∈ l, x.f1.length ≤ 1048576 ∧ x.f2.length ≤ 1048576) : Ev (fun k => laws_toActS.f k l) (l.map toA) := by
  have := conv_loop toA z90 l (fun k m i => laws_toActS.l0 k l m i) (fun k m => by rw [laws_toActS.l0, if_neg (by omega)]) (fun i hi m hm r hr => ?_)
  · refine Ev.congr (fun k => ?_) this
    unfold laws_toActS.f
    rw [if_pos (by omega), if_pos (by omega)]
    rfl
  · have hx := h l[i] (List.getElem_mem hi)
    refine Ev.step (fun k => by rw [laws_toActS.l0, if_pos (by omega), if_pos (by omega), rdA l i hi]) ?_
    unfold laws_toAct.f
    refine Ev.bind (Ev.bind (toDeedS_ev _ hx.1) (Ev.bind (toIntS_ev _ hx.2) (Ev.now _))) ?_
    refine Ev.congr (fun k => ?_) hr
    rw [if_pos (by omega), w64 (by omega) (by omega)]
    rfl
theorem toActSS_ev (l : List (List S135)) (hl : l.length ≤ 1048576) (h : ∀ b ∈ l, b.length ≤ 1048576 ∧ ∀ x ∈ b, x.f1.length ≤ 1048576 ∧ x.f2.length ≤ 1048576) : Ev (fun k => laws_toActSS.f k l) (l.map (List.map toA)) := by
  have := conv_loop (List.map toA) [] l (fun k m i => laws_toActSS.l0 k l m i) (fun k m => by rw [laws_toActSS.l0, if_neg (by omega)]) (fun i hi m hm r hr => ?_)
  · refine Ev.congr (fun k => ?_) this
    unfold laws_toActSS.f
    rw [if_pos (by omega), if_pos (by omega)]
    rfl
  · have hx := h l[i] (List.getElem_mem hi)
    refine Ev.step (fun k => by rw [laws_toActSS.l0, if_pos (by omega), if_pos (by omega), rdB l i hi]) ?_
    refine Ev.bind (toActS_ev _ hx.1 hx.2) ?_
    refine Ev.congr (fun k => ?_) hr
    rw [if_pos (by omega), w64 (by omega) (by omega)]
    rfl
def toB (l : List (List S135)) : List (List S90) := l.map (List.map toA)
theorem toProg_ev (l0 : List Int) (l : List (List S135)) (h0 : l0.length ≤ 1048576) (hl : l.length ≤ 1048576) (h : ∀ b ∈ l, b.length ≤ 1048576 ∧ ∀ x ∈ b, x.f1.length ≤ 1048576 ∧ x.f2.length ≤ 1048576) :
    Ev (fun k => laws_toProg.f k l0 l) (l0, toB l) := by
  unfold laws_toProg.f
  exact Ev.bind (toIntS_ev _ h0) (Ev.bind (toActSS_ev _ hl h) (Ev.now _))

def szA (x : S135) : Nat := x.f1.length + x.f2.length
def szB (l : List S135) : Nat := l.length + (l.map szA).sum
def szP (l0 : List Int) (l : List (List S135)) : Nat := l0.length + (l.length + (l.map szB).sum)
theorem szIntS_eq (l : List Int) (hl : l.length ≤ 9223372036854775807) (a : Int) (h0 : 0 ≤ a) (h1 : a ≤ 1048576) : laws_szIntS.f l a = some (cut a l.length) := by
  unfold laws_szIntS.f cut
  rw [w64 (by omega) (by omega)]
  split <;> rfl
theorem szDeedS_eq (l : List S157) (hl : l.length ≤ 9223372036854775807) (a : Int) (h0 : 0 ≤ a) (h1 : a ≤ 1048576) : laws_szDeedS.f l a = some (cut a l.length) := by
  unfold laws_szDeedS.f cut
  rw [w64 (by omega) (by omega)]
  split <;> rfl
theorem cut_lt {a : Int} {n : Nat} (h : a - (n : Int) < 0) : cut a n = -1 := if_pos h
theorem cut_ge {a : Int} {n : Nat} (h : ¬ a - (n : Int) < 0) : cut a n = a - (n : Int) := if_neg h
theorem cut_add (a : Int) (m n : Nat) : cut a (m + n) = if a - (m : Int) < 0 then -1 else cut (a - (m : Int)) n := by
  by_cases c : a - (m : Int) < 0
  · rw [if_pos c, cut_lt (by omega)]
  · rw [if_neg c]
    by_cases d : a - (m : Int) - (n : Int) < 0
    · rw [cut_lt d, cut_lt (by omega)]
    · rw [cut_ge d, cut_ge (by omega)]
      omega
theorem szAct_eq (x : S135) (h1 : x.f1.length ≤ 9223372036854775807) (h2 : x.f2.length ≤ 9223372036854775807) (a : Int) (h0 : 0 ≤ a) (ha : a ≤ 1048576) : laws_szAct.f x.f0 x.f1 x.f2 x.f3 a = some (cut a (szA x)) := by
  unfold laws_szAct.f szA
  rw [szDeedS_eq _ h1 a h0 ha, cut_add]
  simp only [Option.bind_some]
  by_cases c : a - (x.f1.length : Int) < 0
  · rw [cut_lt c, if_pos c, if_pos (by omega)]
  · rw [cut_ge c, if_neg c, if_neg c, szIntS_eq _ h2 _ (by omega) (by omega)]
    simp only [Option.bind_some]
    by_cases d : a - (x.f1.length : Int) - (x.f2.length : Int) < 0
    · rw [cut_lt d, if_pos (by omega)]
    · rw [cut_ge d, if_neg d]
theorem szActS_ev (l : List S135) (hl : l.length ≤ 9223372036854775807) (h : ∀ x ∈ l, x.f1.length ≤ 9223372036854775807 ∧ x.f2.length ≤ 9223372036854775807) (a : Int) (h0 : 0 ≤ a) (ha : a ≤ 1048576) : Ev (fun k => laws_szActS.f k l a) (cut a (szB l)) := by
  unfold szB
  rw [cut_add]
  unfold laws_szActS.f
  rw [w64 (by omega) (by omega)]
  by_cases c : a - (l.length : Int) < 0
  · rw [if_pos c]
    exact ev_pos c (Ev.now _)
  · rw [if_neg c]
    refine ev_neg c ?_
    have := size_loop szA l (fun k a i => laws_szActS.l0 k l a i) (fun k a => by rw [laws_szActS.l0, if_neg (by omega)]) (fun i hi a h0 ha => ?_) 0 (Nat.zero_le _) (a - (l.length : Int)) (by omega) (by omega)
    · rw [List.drop_zero] at this
      exact this
    · have hx := h l[i] (List.getElem_mem hi)
      refine ⟨fun q => ?_, fun q r hr => ?_⟩
      · refine Ev.step (fun k => by rw [laws_szActS.l0, if_pos (by omega), if_pos (by omega), rdA l i hi, szAct_eq _ hx.1 hx.2 a h0 ha, Option.bind_some, if_pos q]) (Ev.now _)
      · refine Ev.step (fun k => ?_) hr
        have qq : ¬ (a - (szA l[i] : Int) < 0) := by intro y; rw [cut_lt y] at q; omega
        rw [laws_szActS.l0, if_pos (by omega), if_pos (by omega), rdA l i hi, szAct_eq _ hx.1 hx.2 a h0 ha, Option.bind_some, if_neg (by omega), cut_ge qq, w64 (by omega) (by omega)]
        rfl
theorem szActSS_ev (l : List (List S135)) (hl : l.length ≤ 9223372036854775807) (h : ∀ b ∈ l, b.length ≤ 9223372036854775807 ∧ ∀ x ∈ b, x.f1.length ≤ 9223372036854775807 ∧ x.f2.length ≤ 9223372036854775807) (a : Int) (h0 : 0 ≤ a) (ha : a ≤ 1048576) :
    Ev (fun k => laws_szActSS.f k l a) (cut a (l.length + (l.map szB).sum)) := by
  rw [cut_add]
  unfold laws_szActSS.f
  rw [w64 (by omega) (by omega)]
  by_cases c : a - (l.length : Int) < 0
  · rw [if_pos c]
    exact ev_pos c (Ev.now _)
  · rw [if_neg c]
    refine ev_neg c ?_
    have := size_loop szB l (fun k a i => laws_szActSS.l0 k l a i) (fun k a => by rw [laws_szActSS.l0, if_neg (by omega)]) (fun i hi a h0 ha => ?_) 0 (Nat.zero_le _) (a - (l.length : Int)) (by omega) (by omega)
    · rw [List.drop_zero] at this
      exact this
    · have hx := h l[i] (List.getElem_mem hi)
      refine ⟨fun q => ?_, fun q r hr => ?_⟩
      · refine Ev.step (fun k => by rw [laws_szActSS.l0, if_pos (by omega), if_pos (by omega), rdB l i hi]) (Ev.bind (szActS_ev _ hx.1 hx.2 a h0 ha) ?_)
        exact ev_pos q (Ev.now _)
      · have qq : ¬ (a - (szB l[i] : Int) < 0) := by intro y; rw [cut_lt y] at q; omega
        refine Ev.step (fun k => by rw [laws_szActSS.l0, if_pos (by omega), if_pos (by omega), rdB l i hi]) (Ev.bind (szActS_ev _ hx.1 hx.2 a h0 ha) ?_)
        have q' : ¬ cut a (szB l[i]) < 0 := by omega
        refine ev_neg q' (Ev.congr (fun k => ?_) hr)
        rw [cut_ge qq, w64 (by omega) (by omega)]
        rfl
theorem szProg_ev (l0 : List Int) (l : List (List S135)) (h0 : l0.length ≤ 9223372036854775807) (hl : l.length ≤ 9223372036854775807) (h : ∀ b ∈ l, b.length ≤ 9223372036854775807 ∧ ∀ x ∈ b, x.f1.length ≤ 9223372036854775807 ∧ x.f2.length ≤ 9223372036854775807) :
    Ev (fun k => laws_szProg.f k l0 l 1048576) (cut 1048576 (szP l0 l)) := by
  unfold laws_szProg.f szP
  rw [szIntS_eq _ h0 _ (by omega) (by omega), cut_add]
  simp only [Option.bind_some]
  by_cases c : (1048576 : Int) - (l0.length : Int) < 0
  · rw [cut_lt c, if_pos c]
    exact ev_pos (by omega) (Ev.now _)
  · rw [cut_ge c, if_neg c]
    refine ev_neg c (Ev.bind (szActSS_ev l hl h _ (by omega) (by omega)) ?_)
    by_cases d : cut (1048576 - (l0.length : Int)) (l.length + (l.map szB).sum) < 0
    · have : cut (1048576 - (l0.length : Int)) (l.length + (l.map szB).sum) = -1 := by
        unfold cut at d ⊢
        split
        · rfl
        · rw [if_neg (by assumption)] at d
          omega
      rw [this]
      exact ev_pos (by omega) (Ev.now _)
    · exact ev_neg d (Ev.now _)
theorem sum_mem {α : Type} (f : α → Nat) {l : List α} {x : α} (h : x ∈ l) : f x ≤ (l.map f).sum := by
  induction l with
  | nil => cases h
  | cons y l ih =>
    rw [List.map_cons, List.sum_cons]
    rcases List.mem_cons.1 h with h | h
    · subst h; omega
    · have := ih h; omega
theorem small {l0 : List Int} {l : List (List S135)} (h : 0 ≤ cut 1048576 (szP l0 l)) :
    l0.length ≤ 1048576 ∧ l.length ≤ 1048576 ∧ ∀ b ∈ l, b.length ≤ 1048576 ∧ ∀ x ∈ b, x.f1.length ≤ 1048576 ∧ x.f2.length ≤ 1048576 := by
  have hh : szP l0 l ≤ 1048576 := by
    unfold cut at h
    split at h <;> omega
  unfold szP at hh
  refine ⟨by omega, by omega, fun b hb => ?_⟩
  have h1 := sum_mem szB hb
  have h2 : szB b = b.length + (b.map szA).sum := rfl
  refine ⟨by omega, fun x hx => ?_⟩
  have h3 := sum_mem szA hx
  have h4 : szA x = x.f1.length + x.f2.length := rfl
  omega

theorem eqIntS_refl (l : List Int) (hl : l.length ≤ 1048576) : Ev (fun k => laws_eqIntS.f k l l) true := by
  have key : ∀ i, i ≤ l.length → Ev (fun k => laws_eqIntS.l0 k l l (i : Int)) true := by
    refine down ?_ ?_
    · exact Ev.step (fun k => by rw [laws_eqIntS.l0, if_neg (by omega)]) (Ev.now _)
    · intro i hi ih
      refine Ev.step (fun k => ?_) ih
      rw [laws_eqIntS.l0, if_pos (by omega), if_pos (by omega), if_pos (by omega), if_pos rfl, w64 (by omega) (by omega)]
      rfl
  refine Ev.congr (fun k => ?_) (key 0 (Nat.zero_le _))
  unfold laws_eqIntS.f
  rw [if_pos rfl]
  rfl
theorem eqDeedS_refl (l : List S138) (hl : l.length ≤ 1048576) : Ev (fun k => laws_eqDeedS.f k l l) true := by
  have key : ∀ i, i ≤ l.length → Ev (fun k => laws_eqDeedS.l0 k l l (i : Int)) true := by
    refine down ?_ ?_
    · exact Ev.step (fun k => by rw [laws_eqDeedS.l0, if_neg (by omega)]) (Ev.now _)
    · intro i hi ih
      refine Ev.step (fun k => ?_) ih
      rw [laws_eqDeedS.l0, if_pos (by omega), if_pos (by omega), if_pos (by omega)]
      simp only [laws_eqDeed.f, if_true, Option.bind_some]
      rw [w64 (by omega) (by omega)]
      rfl
  refine Ev.congr (fun k => ?_) (key 0 (Nat.zero_le _))
  unfold laws_eqDeedS.f
  rw [if_pos rfl]
  rfl
theorem eqActS_refl (l : List S90) (hl : l.length ≤ 1048576) (h : ∀ x ∈ l, x.f1.length ≤ 1048576 ∧ x.f2.length ≤ 1048576) : Ev (fun k => laws_eqActS.f k l l) true := by
  have key : ∀ i, i ≤ l.length → Ev (fun k => laws_eqActS.l0 k l l (i : Int)) true := by
    refine down ?_ ?_
    · exact Ev.step (fun k => by rw [laws_eqActS.l0, if_neg (by omega)]) (Ev.now _)
    · intro i hi ih
      have hx := h l[i] (List.getElem_mem hi)
      refine Ev.step (fun k => by rw [laws_eqActS.l0, if_pos (by omega), if_pos (by omega), if_pos (by omega), rdAi l i hi, laws_eqAct.f, if_pos ⟨rfl, rfl, rfl, rfl⟩]) ?_
      refine Ev.bind (Ev.bind (eqDeedS_refl _ hx.1) (ev_pos rfl (Ev.bind (eqIntS_refl _ hx.2) (ev_pos rfl (Ev.now _))))) (ev_pos rfl ?_)
      refine Ev.congr (fun k => ?_) ih
      rw [w64 (by omega) (by omega)]
      rfl
  refine Ev.congr (fun k => ?_) (key 0 (Nat.zero_le _))
  unfold laws_eqActS.f
  rw [if_pos rfl]
  rfl
theorem eqActSS_refl (l : List (List S90)) (hl : l.length ≤ 1048576) (h : ∀ b ∈ l, b.length ≤ 1048576 ∧ ∀ x ∈ b, x.f1.length ≤ 1048576 ∧ x.f2.length ≤ 1048576) : Ev (fun k => laws_eqActSS.f k l l) true := by
  have key : ∀ i, i ≤ l.length → Ev (fun k => laws_eqActSS.l0 k l l (i : Int)) true := by
    refine down ?_ ?_
    · exact Ev.step (fun k => by rw [laws_eqActSS.l0, if_neg (by omega)]) (Ev.now _)
    · intro i hi ih
      have hx := h l[i] (List.getElem_mem hi)
      refine Ev.step (fun k => by rw [laws_eqActSS.l0, if_pos (by omega), if_pos (by omega), if_pos (by omega), rdBi l i hi]) ?_
      refine Ev.bind (eqActS_refl _ hx.1 hx.2) (ev_pos rfl ?_)
      refine Ev.congr (fun k => ?_) ih
      rw [w64 (by omega) (by omega)]
      rfl
  refine Ev.congr (fun k => ?_) (key 0 (Nat.zero_le _))
  unfold laws_eqActSS.f
  rw [if_pos rfl]
  rfl
theorem eqProg_refl (l0 : List Int) (l : List (List S90)) (h0 : l0.length ≤ 1048576) (hl : l.length ≤ 1048576) (h : ∀ b ∈ l, b.length ≤ 1048576 ∧ ∀ x ∈ b, x.f1.length ≤ 1048576 ∧ x.f2.length ≤ 1048576) : Ev (fun k => laws_eqProg.f k l0 l l0 l) true := by
  unfold laws_eqProg.f
  exact ev_pos ⟨rfl, rfl⟩ (Ev.bind (eqIntS_refl _ h0) (ev_pos rfl (Ev.bind (eqActSS_refl _ hl h) (ev_pos rfl (Ev.now _)))))
theorem toB_small {l : List (List S135)} (hl : l.length ≤ 1048576) (h : ∀ b ∈ l, b.length ≤ 1048576 ∧ ∀ x ∈ b, x.f1.length ≤ 1048576 ∧ x.f2.length ≤ 1048576) :
    (toB l).length ≤ 1048576 ∧ ∀ b ∈ toB l, b.length ≤ 1048576 ∧ ∀ x ∈ b, x.f1.length ≤ 1048576 ∧ x.f2.length ≤ 1048576 := by
  refine ⟨by unfold toB; rw [List.length_map]; exact hl, fun b hb => ?_⟩
  obtain ⟨c, hc, rfl⟩ := List.mem_map.1 hb
  refine ⟨by rw [List.length_map]; exact (h c hc).1, fun x hx => ?_⟩
  obtain ⟨y, hy, rfl⟩ := List.mem_map.1 hx
  have := (h c hc).2 y hy
  simp only [toA, List.length_map]
  exact this

def ok157 (x : S157) : Prop := (Lit.int .i64 x.f0).wf = true ∧ (Lit.int .i64 x.f1).wf = true ∧ (Lit.int .i64 x.f2).wf = true
def ok135 (x : S135) : Prop := (Lit.int .i64 x.f0).wf = true ∧ (x.f1.length ≤ 9223372036854775807 ∧ ∀ a ∈ x.f1, ok157 a) ∧ (x.f2.length ≤ 9223372036854775807 ∧ ∀ a ∈ x.f2, (Lit.int .i64 a).wf = true) ∧ (Lit.int .i64 x.f3).wf = true
def ok49 (x : S49) : Prop := (x.f0.length ≤ 9223372036854775807 ∧ ∀ a ∈ x.f0, (Lit.int .i64 a).wf = true) ∧ (x.f1.length ≤ 9223372036854775807 ∧ ∀ a ∈ x.f1, (a.length ≤ 9223372036854775807 ∧ ∀ a_1 ∈ a, ok135 a_1))
theorem ok_lens {x : S49} (h : ok49 x) : x.f0.length ≤ 9223372036854775807 ∧ x.f1.length ≤ 9223372036854775807 ∧ ∀ b ∈ x.f1, b.length ≤ 9223372036854775807 ∧ ∀ y ∈ b, y.f1.length ≤ 9223372036854775807 ∧ y.f2.length ≤ 9223372036854775807 :=
  ⟨h.1.1, h.2.1, fun b hb => ⟨(h.2.2 b hb).1, fun y hy => ⟨((h.2.2 b hb).2 y hy).2.1.1, ((h.2.2 b hb).2 y hy).2.2.1.1⟩⟩⟩
end Go.Proofs.Ytpodhdpkdhcnoaa.PProg
