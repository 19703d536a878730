/- Plain lemmas on the laws' copies, sizes and comparisons of systems (no condition but lengths that fit into an int). -/
import Derived.Test.YtpodhdpkdhcnoaaPInt
import Derived.Test.YtpodhdpkdhcnoaaVC
import Derived.Test.YtpodhdpkdhcnoaaStC
namespace Go.Proofs.Ytpodhdpkdhcnoaa.PEnt
open Go.RowKit Go.Proofs.Ytpodhdpkdhcnoaa.QSC Go.Proofs.YtpodhdpkdhcnoaaW.PrintWords Go.Proofs.YtpodhdpkdhcnoaaW.PrintLast

def toC (x : S102) : S63 := ⟨x.f0, x.f1, x.f2⟩
def toT (x : S100) : S72 := ⟨x.f0, x.f1, x.f2, x.f3, x.f4, x.f5, x.f6, x.f7, x.f8, x.f9.map toP, x.f10.map toP, x.f11, x.f12⟩
theorem rdC (l : List S102) (i : Nat) (hi : i < l.length) : rd_T102 l (i : Int) = l[i] := by
  simp [rd_T102, List.getD, hi]
theorem rdCi (l : List S63) (i : Nat) (hi : i < l.length) : rd_T63 l (i : Int) = l[i] := by
  simp [rd_T63, List.getD, hi]
theorem rdT (l : List S100) (i : Nat) (hi : i < l.length) : rd_T100 l (i : Int) = l[i] := by
  simp [rd_T100, List.getD, hi]
theorem rdTi (l : List S72) (i : Nat) (hi : i < l.length) : rd_T72 l (i : Int) = l[i] := by
  simp [rd_T72, List.getD, hi]
theorem toCellS_ev (l : List S102) (hl : l.length ≤ 1048576) : Ev (fun k => laws_toCellS.f k l) (l.map toC) := by
  have key : ∀ i, i ≤ l.length → Ev (fun k => laws_toCellS.l0 k l ((l.take i).map toC ++ List.replicate (l.length - i) z63) (i : Int)) (l.map toC) := by
    refine down ?_ ?_
    · refine Ev.step (fun k => by rw [laws_toCellS.l0, if_neg (by omega)]) ?_
      rw [conv_end]
      exact Ev.now _
    · intro i hi ih
      refine Ev.step (fun k => ?_) ih
      rw [laws_toCellS.l0, if_pos (by omega), if_pos (by omega)]
      simp only [laws_toCell.f, Option.bind_some]
      rw [if_pos (by rw [conv_len _ _ _ _ (by omega)]; omega), w64 (by omega) (by omega), rdC l i hi]
      exact congrArg (fun q => laws_toCellS.l0 k l q ((i : Int) + 1)) (set_conv toC z63 l i hi _ rfl)
  have := key 0 (Nat.zero_le _)
  rw [← conv_start] at this
  refine Ev.congr (fun k => ?_) this
  unfold laws_toCellS.f
  rw [if_pos (by omega), if_pos (by omega)]
  rfl
theorem eqCellS_refl (l : List S63) (hl : l.length ≤ 9223372036854775807) : Ev (fun k => laws_eqCellS.f k l l) true := by
  have key : ∀ i, i ≤ l.length → Ev (fun k => laws_eqCellS.l0 k l l (i : Int)) true := by
    refine down ?_ ?_
    · exact Ev.step (fun k => by rw [laws_eqCellS.l0, if_neg (by omega)]) (Ev.now _)
    · intro i hi ih
      refine Ev.step (fun k => ?_) ih
      rw [laws_eqCellS.l0, if_pos (by omega), if_pos (by omega), if_pos (by omega)]
      simp only [laws_eqCell.f, if_true, Option.bind_some]
      rw [w64 (by omega) (by omega)]
      rfl
  refine Ev.congr (fun k => ?_) (key 0 (Nat.zero_le _))
  unfold laws_eqCellS.f
  rw [if_pos rfl]
  rfl
/-- A task's rows are at most so long. -/
def LT (N : Nat) (x : S100) : Prop := x.f3.length ≤ N ∧ x.f8.length ≤ N ∧ x.f9.length ≤ N ∧ x.f10.length ≤ N
def IT (N : Nat) (x : S72) : Prop := x.f3.length ≤ N ∧ x.f8.length ≤ N ∧ x.f9.length ≤ N ∧ x.f10.length ≤ N
theorem toTask_ev (x : S100) (h : LT 1048576 x) : Ev (fun k => laws_toTask.f k x.f0 x.f1 x.f2 x.f3 x.f4 x.f5 x.f6 x.f7 x.f8 x.f9 x.f10 x.f11 x.f12) (x.f0, x.f1, x.f2, x.f3, x.f4, x.f5, x.f6, x.f7, x.f8, x.f9.map toP, x.f10.map toP, x.f11, x.f12) := by
  unfold laws_toTask.f
  exact Ev.bind (toIntS_ev _ h.1) (Ev.bind (toIntS_ev _ h.2.1) (Ev.bind (toPutS_ev _ h.2.2.1) (Ev.bind (toPutS_ev _ h.2.2.2) (Ev.now _))))
theorem toTaskS_ev (l : List S100) (hl : l.length ≤ 1048576) (h : ∀ x ∈ l, LT 1048576 x) : Ev (fun k => laws_toTaskS.f k l) (l.map toT) := by
  have key : ∀ i, i ≤ l.length → Ev (fun k => laws_toTaskS.l0 k l ((l.take i).map toT ++ List.replicate (l.length - i) z72) (i : Int)) (l.map toT) := by
    refine down ?_ ?_
    · refine Ev.step (fun k => by rw [laws_toTaskS.l0, if_neg (by omega)]) ?_
      rw [conv_end]
      exact Ev.now _
    · intro i hi ih
      refine Ev.step (fun k => by rw [laws_toTaskS.l0, if_pos (by omega), if_pos (by omega), rdT l i hi]) ?_
      refine Ev.bind (toTask_ev l[i] (h l[i] (List.getElem_mem hi))) ?_
      refine Ev.congr (fun k => ?_) ih
      rw [if_pos (by rw [conv_len _ _ _ _ (by omega)]; omega), w64 (by omega) (by omega)]
      exact congrArg (fun q => laws_toTaskS.l0 k l q ((i : Int) + 1)) (set_conv toT z72 l i hi _ rfl)
  have := key 0 (Nat.zero_le _)
  rw [← conv_start] at this
  refine Ev.congr (fun k => ?_) this
  unfold laws_toTaskS.f
  rw [if_pos (by omega), if_pos (by omega)]
  rfl
theorem eqTask_refl (x : S72) (h : IT 9223372036854775807 x) :
    Ev (fun k => laws_eqTask.f k x.f0 x.f1 x.f2 x.f3 x.f4 x.f5 x.f6 x.f7 x.f8 x.f9 x.f10 x.f11 x.f12 x.f0 x.f1 x.f2 x.f3 x.f4 x.f5 x.f6 x.f7 x.f8 x.f9 x.f10 x.f11 x.f12) true := by
  unfold laws_eqTask.f
  exact ev_pos ⟨rfl, rfl, rfl, rfl, rfl, rfl, rfl, rfl, rfl, rfl, rfl, rfl, rfl⟩ (Ev.bind (eqIntS_refl _ h.1) (ev_pos rfl (Ev.bind (eqIntS_refl _ h.2.1) (ev_pos rfl (Ev.bind (eqPutS_refl _ h.2.2.1) (ev_pos rfl (Ev.bind (eqPutS_refl _ h.2.2.2) (ev_pos rfl (Ev.now _)))))))))
theorem eqTaskS_refl (l : List S72) (hl : l.length ≤ 9223372036854775807) (h : ∀ x ∈ l, IT 9223372036854775807 x) : Ev (fun k => laws_eqTaskS.f k l l) true := by
  have key : ∀ i, i ≤ l.length → Ev (fun k => laws_eqTaskS.l0 k l l (i : Int)) true := by
    refine down ?_ ?_
    · exact Ev.step (fun k => by rw [laws_eqTaskS.l0, if_neg (by omega)]) (Ev.now _)
    · intro i hi ih
      refine Ev.step (fun k => by rw [laws_eqTaskS.l0, if_pos (by omega), if_pos (by omega), if_pos (by omega), rdTi l i hi]) ?_
      refine Ev.bind (eqTask_refl l[i] (h l[i] (List.getElem_mem hi))) ?_
      refine Ev.congr (fun k => ?_) ih
      rw [if_pos rfl, w64 (by omega) (by omega)]
      rfl
  refine Ev.congr (fun k => ?_) (key 0 (Nat.zero_le _))
  unfold laws_eqTaskS.f
  rw [if_pos rfl]
  rfl
/-! ### sizes -/
def cut (a : Int) (n : Nat) : Int := if a - (n : Int) < 0 then -1 else a - (n : Int)
theorem cut_pos {a : Int} {n : Nat} (h : cut a n < 0) : a - (n : Int) < 0 := by
  unfold cut at h
  split at h
  · assumption
  · omega
theorem cut_neg {a : Int} {n : Nat} (h : ¬ cut a n < 0) : 0 ≤ a - (n : Int) ∧ cut a n = a - (n : Int) := by
  unfold cut at h ⊢
  split at h
  · omega
  · rename_i c
    exact ⟨by omega, if_neg c⟩
theorem cut_add {a : Int} {n : Nat} (m : Nat) (_h : 0 ≤ a - (n : Int)) : cut (a - (n : Int)) m = cut a (n + m) := by
  unfold cut
  have e : a - (n : Int) - (m : Int) = a - ((n + m : Nat) : Int) := by omega
  rw [e]
theorem cut_zero {a : Int} (h : 0 ≤ a) : cut a 0 = a := by
  unfold cut
  rw [if_neg (by omega)]
  omega
theorem cut_over {a : Int} {n : Nat} (m : Nat) (h : a - (n : Int) < 0) : cut a (n + m) = -1 := by
  unfold cut
  rw [if_pos (by omega)]
theorem cut_bind {a : Int} {n m : Nat} (g : Int → Option Int) (h1 : a ≤ 1048576) (hg : ∀ t : Int, 0 ≤ t → t ≤ 1048576 → g t = some (cut t m)) : ((some (cut a n)).bind fun t => if t < 0 then some (-1) else g t) = some (cut a (n + m)) := by
  rw [Option.bind_some]
  by_cases c : cut a n < 0
  · rw [if_pos c, cut_over m (cut_pos c)]
  · obtain ⟨c1, c2⟩ := cut_neg c
    rw [if_neg c, c2, hg _ c1 (by omega), cut_add m c1]
theorem ev_cut {a : Int} {n m : Nat} {f : Nat → Option Int} {g : Nat → Int → Option Int} (h1 : a ≤ 1048576) (hf : Ev f (cut a n)) (hg : ∀ t : Int, 0 ≤ t → t ≤ 1048576 → Ev (fun k => g k t) (cut t m)) : Ev (fun k => (f k).bind fun t => if t < 0 then some (-1) else g k t) (cut a (n + m)) := by
  refine Ev.bind hf ?_
  by_cases c : cut a n < 0
  · rw [cut_over m (cut_pos c)]
    exact ev_pos c (Ev.now _)
  · obtain ⟨c1, c2⟩ := cut_neg c
    refine ev_neg c ?_
    rw [c2, ← cut_add m c1]
    exact hg _ c1 (by omega)
theorem szIntS_cut (l : List Int) (hl : l.length ≤ 9223372036854775807) (a : Int) (h0 : 0 ≤ a) (h1 : a ≤ 1048576) : laws_szIntS.f l a = some (cut a l.length) := by
  unfold laws_szIntS.f cut
  rw [w64 (by omega) (by omega)]
  split <;> rfl
theorem szPutS_cut (l : List S130) (hl : l.length ≤ 9223372036854775807) (a : Int) (h0 : 0 ≤ a) (h1 : a ≤ 1048576) : laws_szPutS.f l a = some (cut a l.length) := by
  unfold laws_szPutS.f cut
  rw [w64 (by omega) (by omega)]
  split <;> rfl
theorem szCellS_cut (l : List S102) (hl : l.length ≤ 9223372036854775807) (a : Int) (h0 : 0 ≤ a) (h1 : a ≤ 1048576) : laws_szCellS.f l a = some (cut a l.length) := by
  unfold laws_szCellS.f cut
  rw [w64 (by omega) (by omega)]
  split <;> rfl
def szT (x : S100) : Nat := x.f3.length + (x.f8.length + (x.f9.length + (x.f10.length + 0)))
def szTL (l : List S100) : Nat := (l.map szT).sum
theorem szTask_cut (x : S100) (h : LT 9223372036854775807 x) (a : Int) (h0 : 0 ≤ a) (h1 : a ≤ 1048576) : laws_szTask.f x.f0 x.f1 x.f2 x.f3 x.f4 x.f5 x.f6 x.f7 x.f8 x.f9 x.f10 x.f11 x.f12 a = some (cut a (szT x)) := by
  unfold laws_szTask.f szT
  rw [szIntS_cut _ h.1 a h0 h1]
  refine cut_bind _ h1 (fun t t0 t1 => ?_)
  rw [szIntS_cut _ h.2.1 t t0 t1]
  refine cut_bind _ t1 (fun t t0 t1 => ?_)
  rw [szPutS_cut _ h.2.2.1 t t0 t1]
  refine cut_bind _ t1 (fun t t0 t1 => ?_)
  rw [szPutS_cut _ h.2.2.2 t t0 t1]
  refine cut_bind _ t1 (fun t t0 t1 => ?_)
  rw [cut_zero t0]
theorem szTaskS_l0 (l : List S100) (hl : l.length ≤ 9223372036854775807) (h : ∀ x ∈ l, LT 9223372036854775807 x) :
    ∀ i, i ≤ l.length → ∀ a : Int, 0 ≤ a → a ≤ 1048576 → Ev (fun k => laws_szTaskS.l0 k l a (i : Int)) (cut a (szTL (l.drop i))) := by
  refine down ?_ ?_
  · intro a h0 h1
    refine Ev.step (fun k => by rw [laws_szTaskS.l0, if_neg (by omega)]) ?_
    have e : szTL (l.drop l.length) = 0 := by simp [szTL]
    rw [e, cut_zero h0]
    exact Ev.now _
  · intro i hi ih a h0 h1
    have e : szTL (l.drop i) = szT l[i] + szTL (l.drop (i + 1)) := by
      rw [List.drop_eq_getElem_cons hi]
      unfold szTL
      rw [List.map_cons, List.sum_cons]
    rw [e]
    refine Ev.step (fun k => by rw [laws_szTaskS.l0, if_pos (by omega), if_pos (by omega), rdT l i hi, szTask_cut l[i] (h _ (List.getElem_mem hi)) a h0 h1, w64 (by omega) (by omega)]) ?_
    exact ev_cut h1 (Ev.now _) (fun t t0 t1 => ih t t0 t1)
theorem szTaskS_cut (l : List S100) (hl : l.length ≤ 9223372036854775807) (h : ∀ x ∈ l, LT 9223372036854775807 x) (a : Int) (h0 : 0 ≤ a) (h1 : a ≤ 1048576) : Ev (fun k => laws_szTaskS.f k l a) (cut a (l.length + szTL l)) := by
  unfold laws_szTaskS.f
  rw [w64 (by omega) (by omega)]
  by_cases c : a - (l.length : Int) < 0
  · rw [cut_over _ c]
    exact ev_pos c (Ev.now _)
  · refine ev_neg c ?_
    rw [← cut_add _ (by omega)]
    have := szTaskS_l0 l hl h 0 (Nat.zero_le _) (a - (l.length : Int)) (by omega) (by omega)
    rw [List.drop_zero] at this
    exact this
theorem szEntryS_cut (l : List S76) (hl : l.length ≤ 9223372036854775807) (h : ∀ x ∈ l, x.f3.length ≤ 9223372036854775807 ∧ x.f4.length ≤ 9223372036854775807) (a : Int) (h0 : 0 ≤ a) (h1 : a ≤ 1048576) : Ev (fun k => laws_szEntryS.f k l a) (cut a (l.length + szL l)) := by
  unfold laws_szEntryS.f
  rw [w64 (by omega) (by omega)]
  by_cases c : a - (l.length : Int) < 0
  · rw [cut_over _ c]
    exact ev_pos c (Ev.now _)
  · refine ev_neg c ?_
    rw [← cut_add _ (by omega)]
    have := szEntryS_l0 l hl h 0 (Nat.zero_le _) (a - (l.length : Int)) (by omega) (by omega)
    rw [List.drop_zero] at this
    exact this
def ok102 (x : S102) : Prop := (Lit.int .i64 x.f0).wf = true ∧ (Lit.int .i64 x.f1).wf = true ∧ (Lit.int .i64 x.f2).wf = true
def ok100 (x : S100) : Prop := (Lit.int .i64 x.f0).wf = true ∧ (Lit.int .i64 x.f1).wf = true ∧ (Lit.int .i64 x.f2).wf = true ∧ (x.f3.length ≤ 9223372036854775807 ∧ ∀ a ∈ x.f3, (Lit.int .i64 a).wf = true) ∧ (Lit.int .i64 x.f4).wf = true ∧ (Lit.int .i64 x.f5).wf = true ∧ (Lit.int .i64 x.f6).wf = true ∧ (Lit.int .i64 x.f7).wf = true ∧ (x.f8.length ≤ 9223372036854775807 ∧ ∀ a ∈ x.f8, (Lit.int .i64 a).wf = true) ∧ (x.f9.length ≤ 9223372036854775807 ∧ ∀ a ∈ x.f9, ok130 a) ∧ (x.f10.length ≤ 9223372036854775807 ∧ ∀ a ∈ x.f10, ok130 a) ∧ (Lit.int .i64 x.f11).wf = true ∧ (Lit.int .i64 x.f12).wf = true
theorem okT_lens {l : List S100} (h : ∀ a ∈ l, ok100 a) : ∀ x ∈ l, LT 9223372036854775807 x := fun x hx => ⟨(h x hx).2.2.2.1.1, (h x hx).2.2.2.2.2.2.2.2.1.1, (h x hx).2.2.2.2.2.2.2.2.2.1.1, (h x hx).2.2.2.2.2.2.2.2.2.2.1.1⟩
theorem szTL_mem {l : List S100} {x : S100} (h : x ∈ l) : szT x ≤ szTL l := by
  induction l with
  | nil => cases h
  | cons y l ih =>
    have e : szTL (y :: l) = szT y + szTL l := by simp [szTL]
    rw [e]
    rcases List.mem_cons.1 h with h | h
    · subst h; omega
    · have := ih h; omega
theorem smallT {l : List S100} (h : l.length + szTL l ≤ 1048576) : l.length ≤ 1048576 ∧ ∀ x ∈ l, LT 1048576 x := by
  refine ⟨by omega, fun x hx => ?_⟩
  have := szTL_mem hx
  unfold szT at this
  exact ⟨by omega, by omega, by omega, by omega⟩
theorem toT_lens {l : List S100} (h : ∀ x ∈ l, LT 1048576 x) : ∀ x ∈ l.map toT, IT 1048576 x := by
  intro x hx
  obtain ⟨y, hy, rfl⟩ := List.mem_map.1 hx
  have := h y hy
  unfold LT at this
  unfold IT toT
  simp only [List.length_map]
  exact this
def ok26 (x : S26) : Prop := (x.f0.length ≤ 9223372036854775807 ∧ ∀ a ∈ x.f0, ok102 a) ∧ (x.f1.length ≤ 9223372036854775807 ∧ ∀ a ∈ x.f1, ok100 a) ∧ (Lit.int .i64 x.f2).wf = true ∧ (x.f3.length ≤ 9223372036854775807 ∧ ∀ a ∈ x.f3, ok76 a)
def szSys (x : S26) : Nat := x.f0.length + ((x.f1.length + szTL x.f1) + ((x.f3.length + szL x.f3) + 0))
theorem szSys_cut (x : S26) (h : ok26 x) : Ev (fun k => laws_szSys.f k x.f0 x.f1 x.f2 x.f3 1048576) (cut 1048576 (szSys x)) := by
  unfold laws_szSys.f szSys
  rw [szCellS_cut _ h.1.1 _ (by omega) (by omega)]
  refine ev_cut (by omega) (Ev.now _) (fun t t0 t1 => ?_)
  refine ev_cut t1 (szTaskS_cut _ h.2.1.1 (okT_lens h.2.1.2) t t0 t1) (fun t t0 t1 => ?_)
  refine ev_cut t1 (szEntryS_cut _ h.2.2.2.1 (ok_lens h.2.2.2.2) t t0 t1) (fun t t0 t1 => ?_)
  rw [cut_zero t0]
  exact Ev.now _
theorem toSys_ev (x : S26) (h : szSys x ≤ 1048576) : Ev (fun k => laws_toSys.f k x.f0 x.f1 x.f2 x.f3) (x.f0.map toC, x.f1.map toT, x.f2, x.f3.map toE) := by
  unfold szSys at h
  obtain ⟨h1, h2⟩ := smallT (l := x.f1) (by omega)
  obtain ⟨h3, h4⟩ := small (l := x.f3) (by omega)
  unfold laws_toSys.f
  exact Ev.bind (toCellS_ev _ (by omega)) (Ev.bind (toTaskS_ev _ h1 h2) (Ev.bind (toEntryS_ev _ h3 h4) (Ev.now _)))
theorem it_more {N M : Nat} (h : N ≤ M) {x : S72} (hx : IT N x) : IT M x := ⟨Nat.le_trans hx.1 h, Nat.le_trans hx.2.1 h, Nat.le_trans hx.2.2.1 h, Nat.le_trans hx.2.2.2 h⟩
theorem eqSys_refl (X : List S63) (Y : List S72) (n : Int) (Z : List S78) (hX : X.length ≤ 1048576) (hY : Y.length ≤ 1048576) (hZ : Z.length ≤ 1048576) (h1 : ∀ x ∈ Y, IT 1048576 x) (h2 : ∀ x ∈ Z, x.f3.length ≤ 1048576 ∧ x.f4.length ≤ 1048576) : Ev (fun k => laws_eqSys.f k X Y n Z X Y n Z) true := by
  unfold laws_eqSys.f
  exact ev_pos ⟨rfl, rfl, rfl, rfl⟩ (Ev.bind (eqCellS_refl _ (by omega)) (ev_pos rfl (Ev.bind (eqTaskS_refl _ (by omega) (fun x hx => it_more (by omega) (h1 x hx))) (ev_pos rfl (Ev.bind (eqEntryS_refl _ (by omega) (fun x hx => by have := h2 x hx; omega)) (ev_pos rfl (Ev.now _)))))))
theorem cntE_le (X : List S78) (N : Nat) (hm : ∀ x ∈ X, x.f3.length ≤ N ∧ x.f4.length ≤ N) : cnt78 (X.map lens78) ≤ X.length * (4 + 4 * N) := by
  induction X with
  | nil => simp [cnt78]
  | cons x X ih =>
    have h1 := hm x List.mem_cons_self
    have h2 := ih (fun y hy => hm y (List.mem_cons_of_mem _ hy))
    have e : cnt78 ((x :: X).map lens78) = one78 (lens78 x) + cnt78 (X.map lens78) := by simp [cnt78]
    rw [e, List.length_cons, Nat.add_mul, Nat.one_mul]
    have e2 : one78 (lens78 x) = 1 + 1 + 1 + x.f3.length * 2 + x.f4.length * 2 + 1 := rfl
    omega
theorem cntT_le (X : List S72) (N : Nat) (hm : ∀ x ∈ X, IT N x) : cnt72 (X.map lens72) ≤ X.length * (9 + 6 * N) := by
  induction X with
  | nil => simp [cnt72]
  | cons x X ih =>
    have h1 := hm x List.mem_cons_self
    unfold IT at h1
    have h2 := ih (fun y hy => hm y (List.mem_cons_of_mem _ hy))
    have e : cnt72 ((x :: X).map lens72) = one72 (lens72 x) + cnt72 (X.map lens72) := by simp [cnt72]
    rw [e, List.length_cons, Nat.add_mul, Nat.one_mul]
    have e2 : one72 (lens72 x) = 1 + 1 + 1 + x.f3.length * 1 + 1 + 1 + 1 + 1 + x.f8.length * 1 + x.f9.length * 2 + x.f10.length * 2 + 1 + 1 := rfl
    omega
theorem markSys_ev (X : List S63) (Y : List S72) (n : Int) (Z : List S78) (hX : X.length ≤ 1048576) (hY : Y.length ≤ 1048576) (hZ : Z.length ≤ 1048576) (h1 : ∀ x ∈ Y, IT 1048576 x) (h2 : ∀ x ∈ Z, x.f3.length ≤ 1048576 ∧ x.f4.length ≤ 1048576) : ∃ k : Int, 0 ≤ k ∧ laws_markSys.f X Y n Z 1 = some k := by
  have c1 := Nat.le_trans (cntT_le Y 1048576 h1) (Nat.mul_le_mul_right _ hY)
  have c2 := Nat.le_trans (cntE_le Z 1048576 h2) (Nat.mul_le_mul_right _ hZ)
  generalize hA : cnt72 (Y.map lens72) = A at c1
  generalize hB : cnt78 (Z.map lens78) = B at c2
  refine ⟨1 + ((X.length * 3 : Nat) : Int) + (A : Int) + (B : Int), by omega, ?_⟩
  unfold laws_markSys.f
  rw [hA, hB, mkI_small (X.length * 3) 1 (by omega) (by omega), mkI_small A _ (by omega) (by omega), mkI_small B _ (by omega) (by omega)]
end Go.Proofs.Ytpodhdpkdhcnoaa.PEnt
