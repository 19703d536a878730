/- slices.Insert of one number into a row of the call's own: a row of the call's own comes back. Its program is the library's own; the four ways are the shelf's contracts. -/
import Derived.Test.YtedbgdnhkcllaaaProg
import Derived.Test.YtedbgdnhkcllaaaWMore
import Derived.Shelf.Spec.SlicesInsert
import Derived.Shelf.Spec.SlicesInsertGrow
namespace Go.Proofs.YtedbgdnhkcllaaaW.PrintWords
open Go.RowKit Go.Shelf

def insRen : Go.Shelf.Ren := ⟨fun | 21 => 81 | 27 => 87 | 28 => 88 | 35 => 91 | 39 => 92 | n => n, fun | 0 => 0 | 3 => 3 | 4 => 4 | 22 => 22 | n => n, fun n => n⟩
theorem insLays : Lays2.n21 Try.prog insRen := {
  mixed := by kernel_rfl
  f21 := by kernel_rfl
  f27 := by kernel_rfl
  f28 := by kernel_rfl
  f35 := by kernel_rfl
  f39 := by kernel_rfl
  t0 := Try.underlying0
  a0 := Try.isAgg0
  z0 := Try.sizeOf0
  v0 := Try.zeroValue0
  t3 := Try.underlying3
  a3 := Try.isAgg3
  z3 := Try.sizeOf3
  v3 := Try.zeroValue3
  t4 := Try.underlying4
  a4 := Try.isAgg4
  z4 := Try.sizeOf4
  v4 := Try.zeroValue4
  t22 := Try.underlying22
  a22 := Try.isAgg22
  z22 := Try.sizeOf22
  v22 := Try.zeroValue22
  i3 := by kernel_rfl }
def setA (cur : Array Value) : Nat → List Value → Array Value
  | _, [] => cur
  | o, v :: r => setA (cur.setIfInBounds o v) (o + 1) r
theorem setA_size : ∀ (vs : List Value) (cur : Array Value) (o : Nat), (setA cur o vs).size = cur.size
  | [], _, _ => rfl
  | v :: r, cur, o => by rw [setA, setA_size r]; simp
theorem setA_list : ∀ (vs : List Value) (cur : Array Value) (o : Nat), o + vs.length ≤ cur.size → (setA cur o vs).toList = cur.toList.take o ++ vs ++ cur.toList.drop (o + vs.length)
  | [], cur, o, _ => by simp [setA]
  | v :: r, cur, o, h => by
    rw [List.length_cons] at h
    rw [setA, setA_list r _ _ (by simp; omega), Array.toList_setIfInBounds]
    have ho : o < cur.toList.length := by simp; omega
    rw [List.set_eq_take_append_cons_drop, if_pos ho]
    have hl : (cur.toList.take o).length = o := by rw [List.length_take]; omega
    rw [List.length_cons, List.take_append, hl, show o + 1 - o = 1 by omega, List.take_of_length_le (by omega), List.take_succ_cons, List.take_zero]
    rw [List.drop_append, hl, List.drop_of_length_le (by omega), show o + 1 + r.length - o = r.length + 1 by omega, List.drop_succ_cons, List.drop_drop, List.nil_append, show o + 1 + r.length = o + (r.length + 1) by omega]
    simp
theorem insCells_row (g : Nat) (t : TypeId) : ∀ (vs : List Value) (o : Nat) (w : World) (cur : Array Value), w.heap[g]? = some (.cells cur t (0, 0)) → (w.setCells g o vs).heap[g]? = some (.cells (setA cur o vs) t (0, 0))
  | [], _, _, _, h => h
  | v :: r, o, w, cur, h => by rw [World.setCells, setA]; exact insCells_row g t r (o + 1) _ _ (heap_setCell_same w g o cur t v h)
theorem insCells_rest (g k : Nat) (hk : k ≠ g) : ∀ (vs : List Value) (o : Nat) (w : World), (w.setCells g o vs).heap[k]? = w.heap[k]?
  | [], _, _ => rfl
  | v :: r, o, w => by rw [World.setCells, insCells_rest g k hk r]; exact heap_setCell_other w _ _ _ hk
theorem insCells_len (g : Nat) : ∀ (vs : List Value) (o : Nat) (w : World), (w.setCells g o vs).heap.size = w.heap.size
  | [], _, _ => rfl
  | v :: r, o, w => by rw [World.setCells, insCells_len g r]; simp [World.setCell]
theorem insCells_below {B : Nat} {a : World} (g : Nat) (hg : B ≤ g) : ∀ (vs : List Value) (o : Nat) {w : World}, Below B a w → Below B a (w.setCells g o vs)
  | [], _, _, h => h
  | v :: r, o, w, h => insCells_below g hg r (o + 1) (h.trans ⟨rfl, rfl, rfl, by simp [World.setCell], fun k hk => Below.heap_setCell _ _ _ _ (by dsimp only; omega)⟩)
theorem drew_at {w : World} {g : Nat} {o : Option Obj} (h : w.heap[g]? = o) : w.drew.heap[g]? = o := h
def insL (l : List Int) (i : Nat) (a : Int) : List Int := l.take i ++ a :: l.drop i
theorem insL_len (l : List Int) (i : Nat) (a : Int) : (insL l i a).length = l.length + 1 := by
  unfold insL
  simp
  omega
theorem insL_encs (l : List Int) (i : Nat) (a : Int) : encs (Value.int .i64) (insL l i a) = (encs (Value.int .i64) l).take i ++ [Value.int .i64 a] ++ (encs (Value.int .i64) l).drop i := by
  unfold insL encs
  simp [List.map_append, List.map_take, List.map_drop]
theorem take_exact {α : Type} (A B : List α) (n : Nat) (h : A.length = n) : (A ++ B).take n = A := by
  rw [List.take_append_of_le_length (by omega), List.take_of_length_le (by omega)]
theorem drop_exact {α : Type} (A B : List α) (n : Nat) (h : A.length = n) : (A ++ B).drop n = B := by
  rw [List.drop_append, List.drop_of_length_le (by omega), List.nil_append, show n - A.length = 0 by omega, List.drop_zero]
theorem shift_list {α : Type} (C : List α) (n i : Nat) (x : α) (hi : i < n) (hn : n + 1 ≤ C.length) :
    (((C.take (i + 1) ++ (C.take n).drop i ++ C.drop (i + 1 + (n - i))).take i ++ [x] ++ (C.take (i + 1) ++ (C.take n).drop i ++ C.drop (i + 1 + (n - i))).drop (i + 1))).take (n + 1) = (C.take n).take i ++ [x] ++ (C.take n).drop i := by
  have e1 : ∀ R : List α, (C.take (i + 1) ++ R).take i = (C.take n).take i := fun R => by
    rw [List.take_append_of_le_length (by rw [List.length_take]; omega), List.take_take, List.take_take, show min i (i + 1) = min i n by omega]
  rw [List.append_assoc (C.take (i + 1)), drop_exact _ _ (i + 1) (by rw [List.length_take]; omega), e1, ← List.append_assoc]
  exact take_exact _ _ _ (by simp; omega)
theorem grow_list {α : Type} (C L : List α) (n i : Nat) (x : α) (hi : i < n) (hL : L.length = n) (hn : n + 1 ≤ C.length) (hC : C.take i = L.take i) :
    (((C.take i ++ [x] ++ C.drop (i + 1)).take (i + 1) ++ L.drop i ++ (C.take i ++ [x] ++ C.drop (i + 1)).drop (i + 1 + (n - i)))).take (n + 1) = L.take i ++ [x] ++ L.drop i := by
  rw [take_exact (C.take i ++ [x]) _ (i + 1) (by simp; omega), hC]
  exact take_exact _ _ _ (by simp; omega)
theorem end_list {α : Type} (C : List α) (n : Nat) (x : α) (hn : n + 1 ≤ C.length) : (C.take n ++ [x] ++ C.drop (n + 1)).take (n + 1) = (C.take n).take n ++ [x] ++ (C.take n).drop n := by
  rw [take_exact (C.take n ++ [x]) _ (n + 1) (by simp; omega), List.take_take, Nat.min_self, List.drop_of_length_le (by rw [List.length_take]; omega), List.append_nil]
theorem cell_of_row {w : World} {g : Nat} {cur : Array Value} {t : TypeId} (h : w.heap[g]? = some (.cells cur t (0, 0))) (j : Nat) : w.cell? ⟨g, j, none⟩ = cur[j]? := by
  simp [World.cell?, h]
set_option maxHeartbeats 2000000 in
theorem ins_calls (P0_ : Nat → Prop) (v : Value) (l : List Int) (i : Nat) (a : Int) (vb : Nat) (w0 w : World) (hi : i ≤ l.length) (hl : l.length ≤ 1000000) (hB : Below w0.heap.size w0 w) (ho : Kd.R (Kd.int .i64) 3 w w0.heap.size P0_ v l)
    (hv : w.heap[vb]? = some (.cells #[.int .i64 a] 3 (0, 0))) (hne : ∀ k, P0_ k → k ≠ vb) :
    Calls Try.prog 81 #[v, .int .i64 (i : Int), .slice (some ⟨vb, 0, none⟩) 1 1] w fun e w' => ∃ v0_ : Value, e = .returned v0_ ∧ Kd.R (Kd.int .i64) 3 w' w0.heap.size (fun k_ => (P0_ k_ ∨ w.heap.size ≤ k_)) v0_ (insL l i a) ∧ Below w0.heap.size w0 w' ∧ Kept w w' (fun k_ => P0_ k_) := by
  have HO := Kd.own_of_R ho
  have hbs := hB.size
  have hvs : ∀ j u, [Value.int .i64 a][j]? = some u → w.cell? ⟨vb, 0 + j, none⟩ = some u := fun j u h => by
    obtain ⟨hj, rfl⟩ := List.getElem?_eq_some_iff.1 h
    have : j = 0 := by simpa using hj
    subst this
    rw [cell_of_row hv]
    rfl
  have h1v : ∀ u ∈ [Value.int .i64 a], u.oneCell' = true := fun u hu => by
    rw [List.mem_singleton] at hu
    subst hu
    rfl
  have hlen : (encs (Value.int .i64) l).length = l.length := by simp [encs]
  have h1c : ∀ u ∈ encs (Value.int .i64) l, u.oneCell' = true := fun u hu => by
    unfold encs at hu
    obtain ⟨x, _, rfl⟩ := List.mem_map.1 hu
    rfl
  -- a row that was made
  have made : ∀ (W : World) (cur : Array Value) (cap : Nat), W.heap[w.heap.size]? = some (.cells cur 3 (0, 0)) → l.length + 1 ≤ cap → cap ≤ maxLen → cur.size = cap → cur.toList.take (l.length + 1) = encs (Value.int .i64) (insL l i a) → Kd.R (Kd.int .i64) 3 W w0.heap.size (fun k_ => (P0_ k_ ∨ w.heap.size ≤ k_)) (.slice (some ⟨w.heap.size, 0, none⟩) (l.length + 1) cap) (insL l i a) := fun W cur cap h1 h2 h3 h4 h5 => by
    refine Kd.R_of_own ?_ (fun k hk => .inr ?_)
    · rw [← insL_len l i a] at h2 h5 ⊢
      exact ⟨by simp [encs], .inr ⟨w.heap.size, cap, cur, rfl, hbs, h1, h2, h3, by omega, by rw [Nat.mul_one]; exact h5⟩⟩
    · have : w.heap.size = k := by simpa [Value.ownBlock] using hk
      omega
  have zs : ∀ k, (Builtin.zeroCells (Value.int .i64 0).cells k).size = k := fun k => by rw [size_zeroCells]; exact Nat.mul_one k
  have hgc : ∀ c, l.length + 1 ≤ grownCap w (l.length + 1) c 3 ∧ grownCap w (l.length + 1) c 3 ≤ maxLen := fun c => ⟨grownCap_ge _ _ _ _, grownCap_le_maxLen _ _ _ _ (by unfold maxLen; omega)⟩
  -- at the end, no room: what came of it
  have endg : ∀ (base : Option Addr) (c : Nat), l.length ≤ c → c < l.length + 1 → (base = none → l.length = 0) → (∀ ad, base = some ad → ∀ j u, (encs (Value.int .i64) l)[j]? = some u → w.cell? (ad.add j) = some u) → i = l.length →
      Calls Try.prog 81 #[.slice base l.length c, .int .i64 (i : Int), .slice (some ⟨vb, 0, none⟩) 1 1] w fun e w' => ∃ v0_ : Value, e = .returned v0_ ∧ Kd.R (Kd.int .i64) 3 w' w0.heap.size (fun k_ => (P0_ k_ ∨ w.heap.size ≤ k_)) v0_ (insL l i a) ∧ Below w0.heap.size w0 w' ∧ Kept w w' (fun k_ => P0_ k_) := fun base c h1 h2 h3 h4 h5 => by
    subst h5
    have := Any2.slices_Insert_int_end_grow insLays base l.length c vb 0 1 1 (encs (Value.int .i64) l) [.int .i64 a] w (by omega) h1 h2 (by omega) hlen rfl h3 h4 hvs h1v
    simp only [show insRen.t 3 = 3 from rfl] at this
    refine this.mono ?_
    rintro e w' ⟨rfl, rfl⟩
    refine ⟨_, rfl, made _ _ _ (heap_alloc_new _ _) (hgc c).1 (hgc c).2 ?_ ?_, below_drew (hB) |>.alloc ?_ _, (Kept.drew (Kept.refl w _)).alloc _⟩
    · have := (hgc c).1
      rw [Array.size_append, zs, List.size_toArray, List.length_append, hlen, List.length_singleton]
      omega
    · rw [insL_encs, List.take_of_length_le (l := encs (Value.int .i64) l) (by omega), List.drop_of_length_le (l := encs (Value.int .i64) l) (by omega), List.append_nil, Array.toList_append, List.take_append_of_le_length (by simp [hlen])]
      exact List.take_of_length_le (by simp [hlen])
    · exact hbs
  obtain ⟨hol, hcase⟩ := HO
  rcases hcase with ⟨rfl, h0⟩ | ⟨g, cap, cur, rfl, hg, hh, hnc, hcm, hcs, htk⟩
  · have e := endg none 0 (by omega) (by omega) (fun _ => h0) (fun ad h => by cases h) (by omega)
    rw [h0] at e
    exact e
  have hPg : P0_ g := ho.1 g rfl
  have hgv : vb ≠ g := fun h => hne g hPg h.symm
  have hglt : g < w.heap.size := blk_lt hh
  rw [Nat.mul_one] at hcs htk
  have hcs' : ∀ j u, (encs (Value.int .i64) l)[j]? = some u → w.cell? ⟨g, 0 + j, none⟩ = some u := fun j u h => by
    rw [Nat.zero_add, cell_of_row hh, ← h, ← htk, List.getElem?_take]
    rw [← htk, List.getElem?_take] at h
    split at h
    · rename_i hj
      rw [if_pos hj, Array.getElem?_toList]
    · cases h
  have fz : ∀ j, w.frozen? ⟨g, j, none⟩ = false := fun j => frozen_of_row _ _ _ _ _ hh
  -- in place: what came of it
  have inplace : ∀ (W : World) (cur' : Array Value), W.heap[g]? = some (.cells cur' 3 (0, 0)) → l.length + 1 ≤ cap → cur'.size = cap → cur'.toList.take (l.length + 1) = encs (Value.int .i64) (insL l i a) → Kd.R (Kd.int .i64) 3 W w0.heap.size (fun k_ => (P0_ k_ ∨ w.heap.size ≤ k_)) (.slice (some ⟨g, 0, none⟩) (l.length + 1) cap) (insL l i a) := fun W cur' h1 h2 h4 h5 => by
    refine Kd.R_of_own ?_ (fun k hk => .inl ?_)
    · rw [← insL_len l i a] at h2 h5 ⊢
      exact ⟨by simp [encs], .inr ⟨g, cap, cur', rfl, hg, h1, h2, hcm, by omega, by rw [Nat.mul_one]; exact h5⟩⟩
    · have : g = k := by simpa [Value.ownBlock] using hk
      exact this ▸ hPg
  have kept : ∀ W : World, W.heap.size = w.heap.size → (∀ k, k ≠ g → W.heap[k]? = w.heap[k]?) → Kept w W (fun k_ => P0_ k_) := fun W h1 h2 => ⟨by omega, fun k _ hk => h2 k (fun e => hk (e ▸ hPg))⟩
  by_cases hroom : l.length + 1 ≤ cap
  · by_cases hin : i < l.length
    · have := Any2.slices_Insert_int_shift insLays g 0 l.length cap i vb 0 1 1 (encs (Value.int .i64) l) [.int .i64 a] w hin (by omega) hroom (by unfold maxLen at hcm; omega) hgv hlen rfl hcs'
        (fun j hj => by rw [Nat.zero_add, cell_of_row hh, Array.getElem?_eq_getElem (show j < cur.size by omega)]; rfl) (fun j _ => fz _) hvs h1c h1v 3 3 1 cap (by simp [World.shape?, hv]) (by simp [World.shape?, hh, hcs]) (by omega) (frozen_of_row _ _ _ _ _ hv) (frozen_of_row _ _ _ _ _ hv)
      refine this.mono ?_
      rintro e w' ⟨rfl, rfl⟩
      have r1 := insCells_row g 3 ((encs (Value.int .i64) l).drop i) (0 + (i + 1)) w.drew cur hh
      have r2 := insCells_row g 3 [.int .i64 a] (0 + i) _ _ r1
      refine ⟨_, rfl, inplace _ _ r2 hroom ?_ ?_, insCells_below g hg _ _ (insCells_below g hg _ _ (below_drew hB)), kept _ ?_ ?_⟩
      · rw [setA_size, setA_size]; exact hcs
      · have hd : ((encs (Value.int .i64) l).drop i).length = l.length - i := by rw [List.length_drop, hlen]
        have hc : cur.toList.length = cap := by simpa using hcs
        rw [setA_list _ _ _ (by rw [setA_size]; simp; omega), setA_list _ _ _ (by rw [hd]; omega), insL_encs, ← htk, List.length_drop, List.length_take, hc, List.length_singleton, Nat.zero_add, Nat.zero_add, show min l.length cap = l.length by omega]
        exact shift_list _ _ _ _ hin (by omega)
      · rw [insCells_len, insCells_len]; rfl
      · intro k hk
        rw [insCells_rest _ _ hk, insCells_rest _ _ hk]; rfl
    · have hie : i = l.length := by omega
      have := Any2.slices_Insert_int_end_room insLays g 0 l.length cap vb 0 1 1 [.int .i64 a] w (by omega) hroom (by unfold maxLen at hcm; omega) rfl
        (fun j hj => by rw [cell_of_row hh, Array.getElem?_eq_getElem (show 0 + l.length + j < cur.size by omega)]; rfl) (fun j _ => fz _) hvs h1v
      subst hie
      refine this.mono ?_
      rintro e w' ⟨rfl, rfl⟩
      have r1 := insCells_row g 3 [.int .i64 a] (0 + l.length) w cur hh
      refine ⟨_, rfl, inplace _ _ r1 hroom ?_ ?_, insCells_below g hg _ _ hB, kept _ ?_ ?_⟩
      · rw [setA_size]; exact hcs
      · have hc : cur.toList.length = cap := by simpa using hcs
        rw [setA_list _ _ _ (by simp; omega), insL_encs, ← htk, List.length_singleton, Nat.zero_add]
        exact end_list _ _ _ (by omega)
      · rw [insCells_len]
      · intro k hk
        rw [insCells_rest _ _ hk]
  · by_cases hin : i < l.length
    · have := Any2.slices_Insert_int_grow insLays g 0 l.length cap i vb 0 1 1 (encs (Value.int .i64) l) [.int .i64 a] w hin (by omega) hnc (by omega) (by omega) hlen rfl hcs' hvs h1c h1v
      simp only [show insRen.t 3 = 3 from rfl] at this
      refine this.mono ?_
      rintro e w' ⟨rfl, rfl⟩
      have r0 := heap_alloc_new w (.cells ((List.take i (encs (Value.int .i64) l)).toArray ++ Builtin.zeroCells (Value.int .i64 0).cells (l.length + 1 - i) ++ Builtin.zeroCells (Value.int .i64 0).cells (grownCap w (l.length + 1) cap 3 - (l.length + 1))) 3)
      have r1 := insCells_row w.heap.size 3 [.int .i64 a] i _ _ (drew_at r0)
      have r2 := insCells_row w.heap.size 3 ((encs (Value.int .i64) l).drop i) (i + 1) _ _ (drew_at r1)
      have hg1 := (hgc cap).1
      have hsz : ((List.take i (encs (Value.int .i64) l)).toArray ++ Builtin.zeroCells (Value.int .i64 0).cells (l.length + 1 - i) ++ Builtin.zeroCells (Value.int .i64 0).cells (grownCap w (l.length + 1) cap 3 - (l.length + 1))).size = grownCap w (l.length + 1) cap 3 := by
        rw [Array.size_append, Array.size_append, zs, zs, List.size_toArray, List.length_take, hlen]
        omega
      have hpre : ((List.take i (encs (Value.int .i64) l)).toArray ++ Builtin.zeroCells (Value.int .i64 0).cells (l.length + 1 - i) ++ Builtin.zeroCells (Value.int .i64 0).cells (grownCap w (l.length + 1) cap 3 - (l.length + 1))).toList.take i = (encs (Value.int .i64) l).take i := by
        rw [Array.toList_append, Array.toList_append, List.append_assoc]
        exact take_exact _ _ _ (by rw [List.length_take, hlen]; omega)
      have hd : ((encs (Value.int .i64) l).drop i).length = l.length - i := by rw [List.length_drop, hlen]
      refine ⟨_, rfl, made _ _ _ r2 (hgc cap).1 (hgc cap).2 ?_ ?_, ?_, ?_⟩
      · rw [setA_size, setA_size]; exact hsz
      · rw [setA_list _ _ _ (by rw [setA_size, hsz, hd]; omega), setA_list _ _ _ (by rw [hsz, List.length_singleton]; omega), insL_encs, hd, List.length_singleton]
        exact grow_list _ _ _ _ _ hin hlen (Nat.le_trans hg1 (Nat.le_of_eq (Eq.trans hsz.symm Array.length_toList.symm))) hpre
      · exact insCells_below _ hbs _ _ (below_drew (insCells_below _ hbs _ _ (below_drew (hB.alloc hbs _))))
      · refine ⟨?_, fun k hk _ => ?_⟩
        · rw [insCells_len]
          show _ ≤ ((World.setCells _ _ _ _).heap.size)
          rw [insCells_len]
          show _ ≤ (w.alloc _).heap.size
          simp
        · rw [insCells_rest _ _ (by omega)]
          show (World.setCells _ _ _ _).heap[k]? = _
          rw [insCells_rest _ _ (by omega)]
          exact Below.heap_alloc w _ k hk
    · obtain hie : i = l.length := by omega
      exact endg (some ⟨g, 0, none⟩) cap hnc (by omega) (fun h => by cases h) (fun ad he j u h => by cases he; rw [Addr.add_lit]; exact hcs' j u h) hie
end Go.Proofs.YtedbgdnhkcllaaaW.PrintWords
