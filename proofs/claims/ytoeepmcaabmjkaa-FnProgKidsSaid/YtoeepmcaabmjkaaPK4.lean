/- Part 4 of what FnProgKids leans on: contracts of Go functions, and plain lemmas, each under its own premises. Put together by wip/tools/pack.py. -/
import Derived.Test.YtoeepmcaabmjkaaPK0
import Derived.Test.YtoeepmcaabmjkaaPK1
import Derived.Test.YtoeepmcaabmjkaaPK2
import Derived.Test.YtoeepmcaabmjkaaPK3
namespace Go.Proofs.Ytoeepmcaabmjkaa.QPM
open Go.RowKit Go.Proofs.YtoeepmcaabmjkaaW.PrintWords Go.Proofs.YtoeepmcaabmjkaaW.PrintLast Go.Proofs.YtoeepmcaabmjkaaW.PrintMore
attribute [local go_sem] max2_int min2_int max_two min_two max_three min_three max_four min_four   -- for this text's walks alone
set_option linter.unusedVariables false
set_option linter.unusedSimpArgs false
/-- An element by its cells alone; what they lead to is P's. -/
def kz (P : S57 → List Value → Prop) : Kd S57 where
  sz := 4
  E := []
  K := fun _ x cs => P x cs ∧ cs.length = 4 ∧ ∀ u ∈ cs, u.oneCell' = true
  M := fun _ _ _ x cs => P x cs ∧ cs.length = 4 ∧ ∀ u ∈ cs, u.oneCell' = true
  K_len := fun h => h.2.1
  K_one := fun h => h.2.2
  K_below := fun _ h => h
  K_of_M := fun h => h
  M_mono := fun _ h => h
  M_bound := fun h => h
  M_move := fun _ h => h
  M_lower := fun _ h => h
theorem kz_mk {P : S57 → List Value → Prop} {w w' : World} {base base' : Nat} {ok ok' : Nat → Prop} {x : S57} {cs : List Value} (h : k57.M w base ok x cs) (hp : P x cs) : (kz P).M w' base' ok' x cs := ⟨hp, k57.K_len (k57.K_of_M h), k57.K_one (k57.K_of_M h)⟩
theorem kz_R {P P' : S57 → List Value → Prop} (hp : ∀ x cs, P x cs → P' x cs) {e : Nat} {w : World} {b : Nat} {ok : Nat → Prop} {v : Value} {l : List S57} (h : Kd.R (kz P) e w b ok v l) : Kd.R (kz P') e w b ok v l := Kd.R_imp (d := kz P) (d' := kz P') rfl (fun _ _ _ _ _ h => ⟨hp _ _ h.1, h.2⟩) h
theorem kz_S {P P' : S57 → List Value → Prop} (hp : ∀ x cs, P x cs → P' x cs) {e : Nat} {w : World} {b : Nat} {ok : Nat → Prop} {v : Value} {l : List (List S57)} (h : Kd.S (Kd.slice 57 (kz P)) e w b ok v l) : Kd.S (Kd.slice 57 (kz P')) e w b ok v l := by
  obtain ⟨f, h⟩ := h
  refine ⟨f, Kd.R_imp (d := Kd.tag f (Kd.slice 57 (kz P))) (d' := Kd.tag f (Kd.slice 57 (kz P'))) rfl (fun w base ok x cs hM => ?_) h⟩
  obtain ⟨u, he, hr⟩ := hM
  exact ⟨u, he, kz_R hp hr⟩
theorem kzE {P : S57 → List Value → Prop} {t : Nat} (h1 : 54 ≠ t) (h2 : 57 ≠ t) : ∀ q, q ∈ 54 :: (Kd.slice 57 (kz P)).E → q ≠ t := by
  intro q hq
  rcases List.mem_cons.1 hq with rfl | hq
  · exact h1
  · have hq' : q ∈ [57] := hq
    rw [List.mem_singleton.1 hq']
    exact h2
/-- What the cells lead to stays. -/
theorem kz_step {w w1 : World} {base : Nat} {ok : Nat → Prop} (hm : ∀ k q cells, ok k → q ≠ 57 → q ≠ 54 → q ≠ 36 → q ≠ 118 → w.heap[k]? = some (.cells cells q (0, 0)) → w1.heap[k]? = w.heap[k]?) (x : S57) (cs : List Value) (h : k57.M w base ok x cs) : k57.M w1 base ok x cs := by
  have hE : ∀ q, q ∈ k57.E → q ≠ 57 ∧ q ≠ 54 ∧ q ≠ 36 ∧ q ≠ 118 := by decide
  refine k57.M_mono (fun _ hk => hk.1) (k57.M_move (fun k hk => ?_) (k57.M_bound h))
  obtain ⟨h1, _, _, q, hq, cells, hc⟩ := hk
  obtain ⟨a, b, c, d⟩ := hE q hq
  exact hm k q cells h1 a b c d hc
/-- A row of such, as a row of its own. -/
theorem kz_out {w : World} {base b : Nat} {ok okr : Nat → Prop} {u : Value} {l : List S57} (hb : base ≤ b) (h : Kd.R (kz (k57.M w base ok)) 57 w b okr u l) : Kd.R k57 57 w base (fun k => ok k ∨ okr k) u l := by
  have hE : ∀ q, q ∈ k57.E → q ≠ 57 := by decide
  have hty := Kd.R_typed h
  obtain ⟨h0, inner, ho, hr⟩ := h
  refine ⟨fun k hk => .inr (h0 k hk), inner, own_weaken ho hb, hr.imp_ (fun x cs hM => k57.M_mono (fun k hk => ⟨.inl hk.1, fun e => ?_⟩) (k57.M_bound hM.1))⟩
  obtain ⟨_, _, _, q, hq, cells, hc⟩ := hk
  obtain ⟨cells', hc'⟩ := hty k e.symm
  rw [hc] at hc'
  injection hc' with hc'
  injection hc' with _ hc'
  exact hE q hq hc'
theorem kz_outs {w : World} {base b : Nat} {ok : Nat → Prop} {v : Value} {l : List (List S57)} (hb : base ≤ b) (h : Kd.R (Kd.slice 57 (kz (k57.M w base ok))) 54 w b ok v l) : Kd.R (Kd.slice 57 k57) 54 w base ok v l := by
  have hE : ∀ q, q ∈ 57 :: k57.E → q ≠ 54 := by decide
  have hty := Kd.R_typed h
  obtain ⟨h0, inner, ho, hr⟩ := h
  refine ⟨h0, inner, own_weaken ho hb, hr.imp_ (fun x cs hM => ?_)⟩
  obtain ⟨u, he, hr⟩ := hM
  refine ⟨u, he, Kd.R_mono (Kd.R_bound (kz_out hb hr)) (fun k hk => ⟨hk.1.elim id (fun h => h.1), fun e => ?_⟩)⟩
  obtain ⟨_, _, _, q, hq, cells, hc⟩ := hk
  obtain ⟨cells', hc'⟩ := hty k e.symm
  rw [hc] at hc'
  injection hc' with hc'
  injection hc' with _ hc'
  exact hE q hq hc'
/-- The bent program under way: its bodies are rows anew, no two of them one; the deeds and the kids may be another program's. -/
structure BG (w0 V w : World) (g D base : Nat) (b : List Int) (p : Int) (v0 v1 : Value) (l0 : List Int) (l1 : List (List S57)) : Prop where
  I : IsS118 w0 w g b p
  B : Below w0.heap.size w0 w
  K : KeepBut V w g none
  hV : w0.heap.size ≤ V.heap.size
  hbV : base ≤ V.heap.size
  blk : w.heap[D]? = some (.cells #[v0, v1] 36 (0, 0))
  nD : V.heap.size ≤ D
  r0 : Kd.R (Kd.int .i64) 3 w V.heap.size (fun _ => True) v0 l0
  r1 : Kd.S (Kd.slice 57 (kz (k57.M w base (fun k => some k ≠ v0.ownBlock)))) 54 w V.heap.size (fun k => some k ≠ v0.ownBlock) v1 l1
section
variable {w0 V w w1 : World} {g D base : Nat} {b : List Int} {p p' : Int} {v0 v1 v' : Value} {l0 l0' : List Int} {l1 l1' : List (List S57)}
theorem BG.keep (h : BG w0 V w g D base b p v0 v1 l0 l1) (hi : IsS118 w0 w1 g b p') (hb : Below w0.heap.size w0 w1) (hk : KeepBut w w1 g none) : BG w0 V w1 g D base b p' v0 v1 l0 l1 :=
  ⟨hi, hb, h.K.trans hk (.inl rfl), h.hV, h.hbV, hk.blk h.blk (fun e => IsS118.ne_blk h.I h.blk (by decide) e.symm) (by simp), h.nD,
    Kd.R_mono (Kd.R_keep (IsS118.apart h.I h.r0 (by decide)) hk (fun _ hk => hk.2)) (fun _ _ => trivial),
    kz_S (kz_step fun k q cells _ _ _ _ h118 hc => hk.2 k (blk_lt hc) (fun e => IsS118.ne_blk h.I hc h118 e.symm) (by simp)) (Kd.S_mono (Kd.S_keep (IsS118.apartS h.I h.r1 (kzE (by decide) (by decide))) hk (fun _ hk => hk.2)) (fun _ hk => hk.1))⟩
theorem BG.below (h : BG w0 V w g D base b p v0 v1 l0 l1) (hb : Below w.heap.size w w1) : BG w0 V w1 g D base b p v0 v1 l0 l1 :=
  h.keep (h.I.below hb) (below_then h.B h.B.size hb) (KeepBut.of_below hb g none)
theorem BG.alloc (h : BG w0 V w g D base b p v0 v1 l0 l1) (o : Obj) : BG w0 V (w.alloc o) g D base b p v0 v1 l0 l1 := h.below (below_alloc (Below.refl _ _) o)
theorem BG.drew (h : BG w0 V w g D base b p v0 v1 l0 l1) : BG w0 V w.drew g D base b p v0 v1 l0 l1 := h.below (below_drew (Below.refl _ _))
theorem BG.cell0 (h : BG w0 V w g D base b p v0 v1 l0 l1) : w.cell? ⟨D, 0, none⟩ = some v0 := (blk_cell h.blk 0).trans rfl
theorem BG.cell1 (h : BG w0 V w g D base b p v0 v1 l0 l1) : w.cell? ⟨D, 1, none⟩ = some v1 := (blk_cell h.blk 1).trans rfl
theorem BG.grow1 (h : BG w0 V w g D base b p v0 v1 l0 l1) (hg : w.grownBy w1 v1.ownBlock) : w1.heap[D]? = some (.cells #[v0, v1] 36 (0, 0)) := blk_grown h.blk hg (Kd.S_away (Kd.S_types h.r1 h.blk (kzE (by decide) (by decide))) (fun _ hk => hk.2))
theorem BG.push1 (h : BG w0 V w g D base b p v0 v1 l0 l1) (hr : Kd.S (Kd.slice 57 (kz (k57.M w base (fun k => some k ≠ v0.ownBlock)))) 54 w1 V.heap.size (fun k => some k ≠ v0.ownBlock) v' l1') (hb : Below V.heap.size w w1) (hg : w.grownBy w1 v1.ownBlock) :
    BG w0 V (w1.setCell ⟨D, 1, none⟩ v') g D base b p v0 v' l0 l1' := by
  have hne := IsS118.own_neS h.I h.r1 (by decide)
  have hD := Kd.S_away (Kd.S_types h.r1 h.blk (kzE (by decide) (by decide))) (fun _ hk => hk.2)
  have hblk := blk_grown h.blk hg hD
  have hty := Kd.S_typed h.r1
  refine ⟨(h.I.grown hg hne).far (p := ⟨D, 1, none⟩) (IsS118.ne_blk h.I h.blk (by decide)) _, below_set (below_weaken h.B h.hV hb) (Nat.le_trans h.hV h.nD), keep_setD (h.K.trans (KeepBut.of_grown hg g) (Kd.S_base2 h.r1 |>.imp (fun e => e) (fun e => e))) h.nD _ _, h.hV, h.hbV, (blk_set hblk 1 v'), h.nD, Kd.R_set (Kd.R_mono (Kd.R_grown (Kd.R_apartR h.r0 (Kd.S_R h.r1) (by decide)) hg (fun _ hk => hk.2)) (fun _ _ => trivial)) hblk (by decide) _ _, kz_S (kz_step fun k q cells _ _ h54 h36 _ hc => ?_) (Kd.S_set hr hblk (kzE (by decide) (by decide)) _ _)⟩
  have h1 : some k ≠ v1.ownBlock := fun e => by
    obtain ⟨cells', hc'⟩ := hty k e.symm
    rw [hc] at hc'
    injection hc' with hc'
    injection hc' with _ hc'
    exact h54 hc'
  have h2 : k ≠ D := fun e => by
    subst e
    have hc' := h.blk
    rw [hc] at hc'
    injection hc' with hc'
    injection hc' with _ hc'
    exact h36 hc'
  exact (Below.heap_setCell w1 ⟨D, 1, none⟩ v' k h2).trans (hg.block k (blk_lt hc) h1)
end
section
variable {w0 V w wa : World} {g D base B n c : Nat} {b : List Int} {p p' : Int} {v0 u va : Value} {l0 l0' : List Int} {l1 l1' : List (List S57)} {oki : Nat → Prop} {row row' : List S57}
theorem BG.start (hI : IsS118 w0 V g b p) (hB : Below w0.heap.size w0 V) (hV : w0.heap.size ≤ V.heap.size) (hbV : base ≤ V.heap.size) (hr : Kd.R (Kd.int .i64) 3 wa V.heap.size (fun _ => True) v0 l0) (hb : Below V.heap.size V wa) :
    BG w0 V (wa.alloc (.cells #[v0, .slice none 0 0] 36)) g wa.heap.size base b p v0 (.slice none 0 0) l0 [] :=
  ⟨(hI.below hb).alloc _, below_alloc (below_then hB hV hb) _, KeepBut.of_below (below_alloc hb _) g none, hV, hbV, heap_alloc_new _ _, hb.size, Kd.R_alloc hr _, Kd.S_nil _ _ _ _ _⟩
theorem BG.lend (h : BG w0 V w g D base b p v0 (.slice (some ⟨B, 0, none⟩) n c) l0 l1) (hn : 0 < n) :
    ∃ (oki : Nat → Prop) (u : Value), w.cell? ⟨B, 0, none⟩ = some u ∧ w.frozen? ⟨B, 0, none⟩ = false ∧ (∀ k, oki k → some k ≠ v0.ownBlock ∧ k ≠ B) ∧ Kd.R (kz (k57.M w base (fun k => some k ≠ v0.ownBlock))) 57 w V.heap.size oki u (l1.getD 0 []) ∧
      Kd.H (Kd.slice 57 (kz (k57.M w base (fun k => some k ≠ v0.ownBlock)))) 54 w V.heap.size (fun k => some k ≠ v0.ownBlock) (.slice (some ⟨B, 0, none⟩) n c) l1 0 oki [u] := by
  obtain ⟨oki, cc, hcl, hM, hcc, hfr, hoki, hH⟩ := Kd.S_elem h.r1 ([] : List S57) 0 (by decide) (by omega)
  obtain ⟨u, rfl, hr⟩ := hM
  exact ⟨oki, u, hcc 0 u rfl, hfr 0, hoki, hr, hH⟩
theorem BG.app0 (h : BG w0 V w g D base b p v0 (.slice (some ⟨B, 0, none⟩) n c) l0 l1) (hn : 0 < n) (hoki : ∀ k, oki k → some k ≠ v0.ownBlock ∧ k ≠ B)
    (hu : Kd.R (kz (k57.M w base (fun k => some k ≠ v0.ownBlock))) 57 w V.heap.size oki u row)
    (hH : Kd.H (Kd.slice 57 (kz (k57.M w base (fun k => some k ≠ v0.ownBlock)))) 54 w V.heap.size (fun k => some k ≠ v0.ownBlock) (.slice (some ⟨B, 0, none⟩) n c) l1 0 oki [u])
    (hra : Kd.R (kz (k57.M w base (fun k => some k ≠ v0.ownBlock))) 57 wa V.heap.size (fun k => oki k ∨ some k ≠ v0.ownBlock ∧ w.heap.size ≤ k) va row') (hba : Below V.heap.size w wa) (hga : w.grownBy wa u.ownBlock) :
    BG w0 V (wa.setCell ⟨B, 0, none⟩ va) g D base b p v0 (.slice (some ⟨B, 0, none⟩) n c) l0 (l1.set 0 row') := by
  have hBlt : B < w.heap.size := Kd.S_lt h.r1 B (by simp [Value.ownBlock])
  have hVB : V.heap.size ≤ B := Kd.S_base h.r1 B (by simp [Value.ownBlock])
  have hBty : ∃ cells, w.heap[B]? = some (.cells cells 54 (0, 0)) := Kd.S_typed h.r1 B (by simp [Value.ownBlock])
  have huty := Kd.R_typed hu
  have hub : ∀ k, u.ownBlock = some k → oki k := hu.1
  -- the type of a block tells it from u's and from B
  have ne57 : ∀ k q cells, q ≠ 57 → w.heap[k]? = some (.cells cells q (0, 0)) → some k ≠ u.ownBlock := fun k q cells hq hc e => by
    obtain ⟨cells', hc'⟩ := huty k e.symm
    rw [hc] at hc'
    injection hc' with hc'
    injection hc' with _ hc'
    exact hq hc'
  have neB : ∀ k q cells, q ≠ 54 → w.heap[k]? = some (.cells cells q (0, 0)) → k ≠ B := fun k q cells hq hc e => by
    subst e
    obtain ⟨cells', hc'⟩ := hBty
    rw [hc] at hc'
    injection hc' with hc'
    injection hc' with _ hc'
    exact hq hc'
  have hBu : some B ≠ u.ownBlock := fun e => (hoki B (hub B e.symm)).2 rfl
  have hgu : some g ≠ u.ownBlock := IsS118.own_ne h.I hu (by decide)
  have hgB : g ≠ B := by obtain ⟨cells, hc⟩ := hBty; exact IsS118.ne_blk h.I hc (by decide)
  have hDu : some D ≠ u.ownBlock := ne57 D 36 _ (by decide) h.blk
  have hDB : D ≠ B := neB D 36 _ (by decide) h.blk
  have hblk : wa.heap[D]? = some (.cells #[v0, .slice (some ⟨B, 0, none⟩) n c] 36 (0, 0)) := blk_grown h.blk hga hDu
  have h1 := Kd.H_widen hH
  have h2 := Kd.H_grown h1 hga (fun k hk => .inl (hub k hk))
  have h3 := (Kd.H_seg h2 (by decide) (by omega) (seg := [va]) (j := 0) (by exact Nat.le_refl 1) (fun q hq => by
    rw [List.mem_singleton.1 hq]
    exact (Kd.R_val hra).2)).1
  have e1 : wa.setCells B ((0 : Int).toNat * (Kd.slice 57 (kz (k57.M w base (fun k => some k ≠ v0.ownBlock)))).sz + 0) [va] = wa.setCell ⟨B, 0, none⟩ va := rfl
  rw [e1] at h3
  have h4 : Kd.R (kz (k57.M w base (fun k => some k ≠ v0.ownBlock))) 57 (wa.setCell ⟨B, 0, none⟩ va) V.heap.size (fun k => oki k ∨ some k ≠ v0.ownBlock ∧ w.heap.size ≤ k) va row' :=
    Kd.R_far (p := ⟨B, 0, none⟩) hra (fun k hk e => hk.elim (fun hk => (hoki k hk).2 e) (fun hk => by have h5 := hk.2; have e' : k = B := e; omega)) va
  have h5 := Kd.H_back h3 (x' := row') (okp := fun k => oki k ∨ some k ≠ v0.ownBlock ∧ w.heap.size ≤ k) ⟨va, rfl, h4⟩ (fun _ hk => hk)
  have h6 := kz_S (P' := k57.M (wa.setCell ⟨B, 0, none⟩ va) base (fun k => some k ≠ v0.ownBlock)) (fun x cs hx => kz_step (fun k q cells _ h57 h54 _ _ hc => (Below.heap_setCell wa ⟨B, 0, none⟩ va k (neB k q cells h54 hc)).trans (hga.block k (blk_lt hc) (ne57 k q cells h57 hc))) x cs hx) h5
  have hgr : ∀ k, v0.ownBlock = some k → oki k → False := fun k e hk => (hoki k hk).1 e.symm
  refine ⟨(h.I.grown hga hgu).far (p := ⟨B, 0, none⟩) hgB va, below_set (below_weaken h.B h.hV hba) (Nat.le_trans h.hV hVB), keep_setD (h.K.trans (KeepBut.of_grown hga g) (Kd.R_base2 hu |>.imp (fun e => e) (fun e => e))) hVB _ _, h.hV, h.hbV, (blk_far (p := ⟨B, 0, none⟩) hblk (fun e => hDB e) va), h.nD, ?_, h6⟩
  obtain ⟨cellsB, hcB⟩ := hBty
  exact Kd.R_set (Kd.R_mono (Kd.R_grown (Kd.R_apartR h.r0 hu (by decide)) hga (fun _ hk => hk.2)) (fun _ _ => trivial)) (blk_grown hcB hga hBu) (by decide) _ _
/-- What it is at the end. -/
structure FG (w0 V w : World) (g D base : Nat) (b : List Int) (p : Int) (v0 v1 : Value) (l0 : List Int) (l1 : List (List S57)) : Prop where
  I : IsS118 w0 w g b p
  B : Below w0.heap.size w0 w
  K : KeepBut V w g none
  hV : w0.heap.size ≤ V.heap.size
  hbV : base ≤ V.heap.size
  blk : w.heap[D]? = some (.cells #[v0, v1] 36 (0, 0))
  nD : V.heap.size ≤ D
  r0 : Kd.R (Kd.int .i64) 3 w V.heap.size (fun _ => True) v0 l0
  r1 : Kd.R (Kd.slice 57 k57) 54 w base (fun k => some k ≠ v0.ownBlock) v1 l1
  nv : ∀ k, v1.ownBlock = some k → V.heap.size ≤ k
theorem BG.fin {v1 : Value} (h : BG w0 V w g D base b p v0 v1 l0 l1) : FG w0 V w g D base b p v0 v1 l0 l1 :=
  ⟨h.I, h.B, h.K, h.hV, h.hbV, h.blk, h.nD, h.r0, kz_outs h.hbV (Kd.S_R h.r1), Kd.S_base h.r1⟩
end
theorem take_snoc {α : Type} {L l1 : List (List α)} {x : List α} {j : Int} (hL : L = l1.take j.toNat) (hx : x = l1.getD j.toNat []) (h0 : 0 ≤ j) (h1 : j < (l1.length : Int)) : L ++ [x] = l1.take (j + 1).toNat := by
  have e : (j + 1).toNat = j.toNat + 1 := by omega
  have hl : j.toNat < l1.length := by omega
  rw [e, List.take_add_one, hL, hx, List.getD_eq_getElem?_getD, List.getElem?_eq_getElem hl]
  rfl
theorem cell_g {w w1 : World} {row : Option Nat} (hg : w.grownBy w1 row) {a : Addr} {v : Value} (hc : w.cell? a = some v) (hne : some a.block ≠ row) : w1.cell? a = some v := by
  have h := hg.block a.block (World.block_lt_of_cell? w a hc) hne
  unfold World.cell? at hc ⊢
  rw [h]
  exact hc
/-- What is handed back. -/
structure GG (w0 V w : World) (g D base : Nat) (b : List Int) (p : Int) (v0 v1 : Value) (l0 : List Int) (l1 : List (List S57)) : Prop where
  I : IsS118 w0 w g b p
  B : Below w0.heap.size w0 w
  K : KeepBut V w g none
  blk : w.heap[D]? = some (.cells #[v0, v1] 36 (0, 0))
  r0 : Kd.R (Kd.int .i64) 3 w base (fun _ => True) v0 l0
  r1 : Kd.R (Kd.slice 57 k57) 54 w base (fun k => some k ≠ v0.ownBlock) v1 l1
section
variable {w0 V w wa w1 : World} {g D base C n c : Nat} {b : List Int} {p p' : Int} {v0 v1 v' : Value} {l0 l0' : List Int} {l1 l1' : List (List S57)}
theorem FG.done (h : FG w0 V w g D base b p v0 v1 l0 l1) : GG w0 V w g D base b p v0 v1 l0 l1 := ⟨h.I, h.B, h.K, h.blk, Kd.R_lower h.r0 h.hbV, h.r1⟩
theorem FG.keep (h : FG w0 V w g D base b p v0 v1 l0 l1) (hi : IsS118 w0 w1 g b p') (hb : Below w0.heap.size w0 w1) (hk : KeepBut w w1 g none) : FG w0 V w1 g D base b p' v0 v1 l0 l1 :=
  ⟨hi, hb, h.K.trans hk (.inl rfl), h.hV, h.hbV, hk.blk h.blk (fun e => IsS118.ne_blk h.I h.blk (by decide) e.symm) (by simp), h.nD,
    Kd.R_mono (Kd.R_keep (IsS118.apart h.I h.r0 (by decide)) hk (fun _ hk => hk.2)) (fun _ _ => trivial), Kd.R_mono (Kd.R_keep (IsS118.apart h.I h.r1 (by decide)) hk (fun _ hk => hk.2)) (fun _ hk => hk.1), h.nv⟩
theorem FG.below (h : FG w0 V w g D base b p v0 v1 l0 l1) (hb : Below w.heap.size w w1) : FG w0 V w1 g D base b p v0 v1 l0 l1 :=
  h.keep (h.I.below hb) (below_then h.B h.B.size hb) (KeepBut.of_below hb g none)
theorem FG.alloc (h : FG w0 V w g D base b p v0 v1 l0 l1) (o : Obj) : FG w0 V (w.alloc o) g D base b p v0 v1 l0 l1 := h.below (below_alloc (Below.refl _ _) o)
theorem FG.drew (h : FG w0 V w g D base b p v0 v1 l0 l1) : FG w0 V w.drew g D base b p v0 v1 l0 l1 := h.below (below_drew (Below.refl _ _))
theorem FG.cell0 (h : FG w0 V w g D base b p v0 v1 l0 l1) : w.cell? ⟨D, 0, none⟩ = some v0 := (blk_cell h.blk 0).trans rfl
theorem FG.cell1 (h : FG w0 V w g D base b p v0 v1 l0 l1) : w.cell? ⟨D, 1, none⟩ = some v1 := (blk_cell h.blk 1).trans rfl
theorem FG.grow0 (h : FG w0 V w g D base b p v0 v1 l0 l1) (hg : w.grownBy w1 v0.ownBlock) : w1.heap[D]? = some (.cells #[v0, v1] 36 (0, 0)) := blk_grown h.blk hg (Kd.R_away (Kd.R_types h.r0 h.blk (by decide)) (fun _ hk => hk.2))
theorem FG.grow1 (h : FG w0 V w g D base b p v0 v1 l0 l1) (hg : w.grownBy w1 v1.ownBlock) : w1.heap[D]? = some (.cells #[v0, v1] 36 (0, 0)) := blk_grown h.blk hg (Kd.R_away (Kd.R_types h.r1 h.blk (by decide)) (fun _ hk => hk.2))
theorem FG.put0 (h : FG w0 V w g D base b p (.slice (some ⟨C, 0, none⟩) n c) v1 l0 l1) (x : Int) : GG w0 V (w.setCell ⟨C, 0, none⟩ (.int .i64 x)) g D base b p (.slice (some ⟨C, 0, none⟩) n c) v1 (l0.set 0 x) l1 := by
  have hC : (Value.slice (some ⟨C, 0, none⟩) n c).ownBlock = some C := by simp [Value.ownBlock]
  have hVC : V.heap.size ≤ C := Kd.R_base h.r0 C hC
  have hgC : some g ≠ some C := hC ▸ IsS118.own_ne h.I h.r0 (by decide)
  have hDC : some D ≠ some C := hC ▸ Kd.R_away (Kd.R_types h.r0 h.blk (by decide)) (fun _ hk => hk.2)
  refine ⟨h.I.far (p := ⟨C, 0, none⟩) (fun e => hgC (by rw [e])) _, below_set h.B (Nat.le_trans h.hV hVC), keep_setD h.K hVC _ _, blk_far (p := ⟨C, 0, none⟩) h.blk (fun e => hDC (by rw [show D = C from e])) _, Kd.R_lower (Kd.R_putn h.r0 0 x) h.hbV, ?_⟩
  exact Kd.R_far (p := ⟨C, 0, none⟩) h.r1 (fun k hk e => hk (by rw [hC, show k = C from e])) _
theorem FG.push0 (h : FG w0 V w g D base b p v0 v1 l0 l1) (hr : Kd.R (Kd.int .i64) 3 w1 V.heap.size (fun _ => True) v' l0') (hb : Below V.heap.size w w1) (hg : w.grownBy w1 v0.ownBlock) (hat : v'.ownBlock = v0.ownBlock ∨ ∃ b, v'.ownBlock = some b ∧ w.heap.size ≤ b) :
    GG w0 V (w1.setCell ⟨D, 0, none⟩ v') g D base b p v' v1 l0' l1 := by
  have hne := IsS118.own_ne h.I h.r0 (by decide)
  have hblk := FG.grow0 h hg
  exact ⟨(h.I.grown hg hne).far (p := ⟨D, 0, none⟩) (IsS118.ne_blk h.I h.blk (by decide)) _, below_set (below_weaken h.B h.hV hb) (Nat.le_trans h.hV h.nD), keep_setD (h.K.trans (KeepBut.of_grown hg g) (Kd.R_base2 h.r0 |>.imp (fun e => e) (fun e => e))) h.nD _ _, (blk_set hblk 0 v'), Kd.R_lower (Kd.R_set hr hblk (by decide) _ _) h.hbV, Kd.R_mono (Kd.R_set (Kd.R_after (v := v0) (v1 := v') (Kd.R_mono (ok' := fun k => True ∧ some k ≠ v0.ownBlock) h.r1 (fun k hk => ⟨trivial, hk⟩)) hg hat) hblk (by decide) _ _) (fun _ hk => hk.2)⟩
theorem FG.push1 (h : FG w0 V w g D base b p v0 v1 l0 l1) (hr : Kd.R (Kd.slice 57 k57) 54 w1 base (fun k => some k ≠ v0.ownBlock) v' l1') (hb : Below V.heap.size w w1) (hg : w.grownBy w1 v1.ownBlock) :
    GG w0 V (w1.setCell ⟨D, 1, none⟩ v') g D base b p v0 v' l0 l1' := by
  have hne := IsS118.own_ne h.I h.r1 (by decide)
  have hblk := FG.grow1 h hg
  have hbb : v1.ownBlock = none ∨ ∃ k, v1.ownBlock = some k ∧ V.heap.size ≤ k := by
    cases e : v1.ownBlock with
    | none => exact .inl rfl
    | some k => exact .inr ⟨k, rfl, h.nv k e⟩
  exact ⟨(h.I.grown hg hne).far (p := ⟨D, 1, none⟩) (IsS118.ne_blk h.I h.blk (by decide)) _, below_set (below_weaken h.B h.hV hb) (Nat.le_trans h.hV h.nD), keep_setD (h.K.trans (KeepBut.of_grown hg g) hbb) h.nD _ _, (blk_set hblk 1 v'), Kd.R_lower (Kd.R_set (Kd.R_mono (Kd.R_grown (Kd.R_apartR h.r0 h.r1 (by decide)) hg (fun _ hk => hk.2)) (fun _ _ => trivial)) hblk (by decide) _ _) h.hbV, Kd.R_set hr hblk (by decide) _ _⟩
theorem GG.cell0 (h : GG w0 V w g D base b p v0 v1 l0 l1) : w.cell? ⟨D, 0, none⟩ = some v0 := (blk_cell h.blk 0).trans rfl
theorem GG.cell1 (h : GG w0 V w g D base b p v0 v1 l0 l1) : w.cell? ⟨D, 1, none⟩ = some v1 := (blk_cell h.blk 1).trans rfl
/-- The result's box. -/
theorem bdone (h : GG w0 V w g D base b p v0 v1 l0 l1) {we : World} {R : Nat} {x0 x1 : Value} (hS : R < V.heap.size) (hB : V.heap[R]? = some (.cells #[x0, x1] 36 (0, 0))) (hK : KeepBut we V g none) (hw : we.heap.size ≤ R) (hg : g ≠ R) (hR : w0.heap.size ≤ R) :
    ((w.setCell ⟨R, 0, none⟩ v0).setCell ⟨R, 1, none⟩ v1).heap[R]? = some (.cells #[v0, v1] 36 (0, 0)) ∧ Kd.R (Kd.int .i64) 3 ((w.setCell ⟨R, 0, none⟩ v0).setCell ⟨R, 1, none⟩ v1) base (fun _ => True) v0 l0 ∧ Kd.R (Kd.slice 57 k57) 54 ((w.setCell ⟨R, 0, none⟩ v0).setCell ⟨R, 1, none⟩ v1) base (fun k => some k ≠ v0.ownBlock) v1 l1 ∧ IsS118 w0 ((w.setCell ⟨R, 0, none⟩ v0).setCell ⟨R, 1, none⟩ v1) g b p ∧ Below w0.heap.size w0 ((w.setCell ⟨R, 0, none⟩ v0).setCell ⟨R, 1, none⟩ v1) ∧ KeepBut we ((w.setCell ⟨R, 0, none⟩ v0).setCell ⟨R, 1, none⟩ v1) g none := by
  have hb : w.heap[R]? = some (.cells #[x0, x1] 36 (0, 0)) := h.K.blk hB (fun e => hg e.symm) (by simp)
  have hb1 := blk_set hb 0 v0
  have hb2 := blk_set hb1 1 v1
  exact ⟨hb2, Kd.R_set (Kd.R_set h.r0 hb (by decide) 0 v0) hb1 (by decide) 1 v1, Kd.R_set (Kd.R_set h.r1 hb (by decide) 0 v0) hb1 (by decide) 1 v1, (h.I.far (p := ⟨R, 0, none⟩) (fun e => hg e) _).far (p := ⟨R, 1, none⟩) (fun e => hg e) _, below_set (below_set h.B hR) hR,
    keep_setD (keep_setD (hK.trans h.K (.inl rfl)) hw 0 v0) hw 1 v1⟩
end
def app0 (l : List (List S57)) (x : S57) : List (List S57) := l.set 0 (l.getD 0 [] ++ [x])
def bendF (k : Nat) (b : List Int) (c : Int) (l0 : List Int) (l1 : List (List S57)) (p : Int) : Option (List Int × List (List S57) × Int) :=
  if c = 0 then (spec_l6Rd_pick.f k b p 2).bind fun d => if 0 ≤ d.1 ∧ d.1 < 2 then some (l0.set 0 (if d.1 = 0 then -1 else 100), l1, d.2) else none
  else if c = 1 then some (l0 ++ [0, 0, 0], l1, p)
  else if c = 2 then (spec_l6Rd_pick.f k b p 7).bind fun d => some (l0, app0 l1 ⟨wrap64 (d.1 - 1), [], [], 0⟩, d.2)
  else if c = 3 then (spec_l6Rd_pick.f k b p 6).bind fun d => some (l0, app0 l1 ⟨2, [], [wrap64 (d.1 - 1)], 0⟩, d.2)
  else if c = 4 then (spec_l6Rd_pick.f k b p 7).bind fun d => (spec_l6Rd_pick.f k b d.2 5).bind fun e => (spec_l6Rd_pick.f k b e.2 5).bind fun f => some (l0, app0 l1 ⟨1, [⟨d.1, wrap64 (e.1 - 1), wrap64 (f.1 - 1)⟩], [], 0⟩, f.2)
  else if c = 5 then some (l0, l1 ++ [[], [], []], p)
  else if c = 6 then (spec_l6Rd_pick.f k b p 5).bind fun d => some (l0, app0 l1 ⟨4, [], [], wrap64 (d.1 - 1)⟩, d.2)
  else some (l0, app0 (app0 (app0 (app0 (app0 l1 ⟨3, [], [], 0⟩) ⟨3, [], [], 0⟩) ⟨3, [], [], 0⟩) ⟨3, [], [], 0⟩) ⟨3, [], [], 0⟩, p)
def bendOk (l0 : List Int) (l1 : List (List S57)) : Prop := (0 < l0.length ∧ l0.length < 1000) ∧ (0 < l1.length ∧ l1.length < 1000) ∧ (l1.all fun x => decide (x.length < 1000)) = true
instance (l0 : List Int) (l1 : List (List S57)) : Decidable (bendOk l0 l1) := by unfold bendOk; infer_instance
def spec_l71Bent.f (k : Nat) (s0_0 : List Int) (s0_1 : Int) (l0 : List Int) (l1 : List (List S57)) : Option (List Int × List (List S57) × Int) :=
  if bendOk l0 l1 then (spec_l6Rd_pick.f k s0_0 s0_1 8).bind fun c => bendF k s0_0 c.1 l0 l1 c.2 else none
theorem cell_k {w w1 : World} {g : Nat} (hk : KeepBut w w1 g none) {a : Addr} {v : Value} (hc : w.cell? a = some v) (hne : a.block ≠ g) : w1.cell? a = some v := by
  have h := hk.2 a.block (World.block_lt_of_cell? w a hc) hne (by simp)
  unfold World.cell? at hc ⊢
  rw [h]
  exact hc
section
variable {w0 V w : World} {g D base B n c : Nat} {b : List Int} {p : Int} {v0 u : Value} {l0 : List Int} {l1 : List (List S57)}
theorem BG.gB (h : BG w0 V w g D base b p v0 (.slice (some ⟨B, 0, none⟩) n c) l0 l1) : B ≠ g := by
  obtain ⟨cells, hc⟩ := Kd.S_typed h.r1 B (by simp [Value.ownBlock])
  exact fun e => IsS118.ne_blk h.I hc (by decide) e.symm
theorem BG.lendU (h : BG w0 V w g D base b p v0 (.slice (some ⟨B, 0, none⟩) n c) l0 l1) (hn : 0 < n) (hc : w.cell? ⟨B, 0, none⟩ = some u) :
    ∃ (oki : Nat → Prop), (∀ k, oki k → some k ≠ v0.ownBlock ∧ k ≠ B) ∧ Kd.R (kz (k57.M w base (fun k => some k ≠ v0.ownBlock))) 57 w V.heap.size oki u (l1.getD 0 []) ∧
      Kd.H (Kd.slice 57 (kz (k57.M w base (fun k => some k ≠ v0.ownBlock)))) 54 w V.heap.size (fun k => some k ≠ v0.ownBlock) (.slice (some ⟨B, 0, none⟩) n c) l1 0 oki [u] ∧ some D ≠ u.ownBlock ∧ some B ≠ u.ownBlock ∧
      (∀ w1 : World, w.grownBy w1 u.ownBlock → w1.frozen? ⟨B, 0, none⟩ = false) := by
  obtain ⟨oki, u', h1, h2, h3, h4, h5⟩ := h.lend hn
  rw [hc] at h1
  injection h1 with h1
  subst h1
  have huty := Kd.R_typed h4
  have hBu : some B ≠ u.ownBlock := fun e => (h3 B (h4.1 B e.symm)).2 rfl
  refine ⟨oki, h3, h4, h5, fun e => ?_, hBu, fun w1 hg => ?_⟩
  · obtain ⟨cells', hc'⟩ := huty D e.symm
    have hd := h.blk
    rw [hc'] at hd
    injection hd with hd
    injection hd with _ hd
    exact absurd hd (by decide)
  · obtain ⟨cells, hb⟩ := Kd.S_typed h.r1 B (by simp [Value.ownBlock])
    exact blk_frozen (blk_grown hb hg hBu) 0
end
theorem below_of_grown {w w1 : World} {row : Option Nat} {b : Nat} (hg : w.grownBy w1 row) (h : ∀ k, row = some k → b ≤ k) (hb : b ≤ w.heap.size) : Below b w w1 :=
  ⟨hg.os, hg.tape, hg.output, hg.size, fun k hk => hg.block k (by omega) (fun e => by have := h k e.symm; omega)⟩
def apps : Nat → List (List S57) → List (List S57)
  | 0, l => l
  | n + 1, l => apps n (app0 l ⟨3, [], [], 0⟩)
theorem app0_len (l : List (List S57)) (x : S57) : (app0 l x).length = l.length := by simp [app0]
theorem app0_head (l : List (List S57)) (x : S57) (h : 0 < l.length) : (app0 l x).getD 0 [] = l.getD 0 [] ++ [x] := by
  unfold app0
  rw [List.getD_eq_getElem?_getD, List.getElem?_set_self h]
  rfl
theorem three_r1 (wr : World) (base : Nat) (hb : base ≤ wr.heap.size) : Kd.R (Kd.slice 57 k57) 54 ((((wr.alloc (.cells #[] 57)).alloc (.cells #[] 57)).alloc (.cells #[] 57)).alloc (.cells #[.slice (some ⟨wr.heap.size, 0, none⟩) 0 0, .slice (some ⟨wr.heap.size + 1, 0, none⟩) 0 0, .slice (some ⟨wr.heap.size + 1 + 1, 0, none⟩) 0 0] 54)) base (fun k => wr.heap.size ≤ k) (.slice (some ⟨wr.heap.size + 1 + 1 + 1, 0, none⟩) 3 3) [[], [], []] := by
  have h0 : ∀ o1 o2 o3 o4 : Obj, ((((wr.alloc o1).alloc o2).alloc o3).alloc o4).heap[wr.heap.size]? = some o1 := fun _ _ _ _ => blk_alloc (blk_alloc (blk_alloc (alloc_at rfl) _) _) _
  have h1 : ∀ o1 o2 o3 o4 : Obj, ((((wr.alloc o1).alloc o2).alloc o3).alloc o4).heap[wr.heap.size + 1]? = some o2 := fun _ _ _ _ => blk_alloc (blk_alloc (alloc_at (by simp)) _) _
  have h2 : ∀ o1 o2 o3 o4 : Obj, ((((wr.alloc o1).alloc o2).alloc o3).alloc o4).heap[wr.heap.size + 1 + 1]? = some o3 := fun _ _ _ _ => blk_alloc (alloc_at (by simp)) _
  have h3 : ∀ o1 o2 o3 o4 : Obj, ((((wr.alloc o1).alloc o2).alloc o3).alloc o4).heap[wr.heap.size + 1 + 1 + 1]? = some o4 := fun _ _ _ _ => alloc_at (by simp)
  exact R_fresh (xs := ([[], [], []] : List (List S57))) (cs := [.slice (some ⟨wr.heap.size, 0, none⟩) 0 0, .slice (some ⟨wr.heap.size + 1, 0, none⟩) 0 0, .slice (some ⟨wr.heap.size + 1 + 1, 0, none⟩) 0 0]) (h3 _ _ _ _) (by omega) (by omega) (by simp [maxLen])
    ((((Reps.none _ _).snoc (Kd.M_row (R_nought (h0 _ _ _ _) hb ⟨Nat.le_refl _, by omega⟩)) rfl).snoc (Kd.M_row (R_nought (h1 _ _ _ _) (by omega) ⟨by omega, by omega⟩)) rfl).snoc (Kd.M_row (R_nought (h2 _ _ _ _) (by omega) ⟨by omega, by omega⟩)) rfl)
set_option maxHeartbeats 16000000 in
set_option maxRecDepth 100000 in
theorem spec_l71Bent.calls (k : Nat) (g : Nat) (s0_0 : List Int) (s0_1 : Int) (A0 : Option Addr) (c0 : Nat) (l0 : List Int) (A1 : Option Addr) (c1 : Nat) (l1 : List (List S57)) (r1 : List Int) (r2 : List (List S57)) (r3 : Int) (base : Nat) (w0 w : World) (hI : IsS118 w0 w g s0_0 s0_1) (hB : Below w0.heap.size w0 w) (hbase : base ≤ w.heap.size)
    (hr0 : Kd.R (Kd.int .i64) 3 w base (fun _ => True) (.slice A0 l0.length c0) l0) (hr1 : Kd.R (Kd.slice 57 k57) 54 w base (fun _ => True) (.slice A1 l1.length c1) l1) (h : spec_l71Bent.f k s0_0 s0_1 l0 l1 = some (r1, r2, r3)) :
    Calls Try.prog 59 #[.pointer (some ⟨g, 0, none⟩), .agg #[.slice A0 l0.length c0, .slice A1 l1.length c1]] w fun e w' => ∃ v0_ v1_ : Value, e = .returned (.agg #[v0_, v1_]) ∧ Kd.R (Kd.int .i64) 3 w' base (fun _ => True) v0_ r1 ∧ Kd.R (Kd.slice 57 k57) 54 w' base (fun k_ => some k_ ≠ (v0_ : Value).ownBlock) v1_ r2 ∧ IsS118 w0 w' g s0_0 r3 ∧ Below w0.heap.size w0 w' ∧ KeepBut w w' g none := by
  have hu36 := Try.underlying36
  have h := (show (if bendOk l0 l1 then (spec_l6Rd_pick.f k s0_0 s0_1 8).bind fun c => bendF k s0_0 c.1 l0 l1 c.2 else none) = some (r1, r2, r3) from h)
  have hok : bendOk l0 l1 := Classical.byContradiction fun c => by rw [if_neg c] at h; exact absurd h (by simp)
  rw [if_pos hok] at h
  replace h := Option.bind_eq_some_iff.mp h
  obtain ⟨⟨c, q⟩, PC, h⟩ := h
  have PC := Aside0.mk PC
  have h := Aside0.mk (show bendF k s0_0 c l0 l1 q = some (r1, r2, r3) from h)
  replace hok := Aside0.mk hok
  have HR0 := Aside0.mk hr0
  have HR1 := Aside0.mk hr1
  have HI := Aside0.mk hI
  have HB := Aside0.mk hB
  have Hb := Aside0.mk hbase
  clear hr0 hr1 hI hB hbase
  go_enter Try.func59, Try.ntmps59
  obtain ⟨V, hV⟩ : ∃ V, V = (w.alloc (.cells #[.slice A0 l0.length c0, .slice A1 l1.length c1] 36)).alloc (.cells #[.slice none 0 0, .slice none 0 0] 36) := ⟨_, rfl⟩
  have hVs := Aside0.mk (show V.heap.size = w.heap.size + 1 + 1 by rw [hV]; simp)
  have hbV : Below w.heap.size w V := by rw [hV]; exact below_alloc (below_alloc (Below.refl _ _) _) _
  have hbp : V.heap[w.heap.size]? = some (.cells #[.slice A0 l0.length c0, .slice A1 l1.length c1] 36 (0, 0)) := by rw [hV]; exact blk_alloc (heap_alloc_new _ _) _
  have hbr : V.heap[w.heap.size + 1]? = some (.cells #[.slice none 0 0, .slice none 0 0] 36 (0, 0)) := by rw [hV]; have := heap_alloc_new (w.alloc (.cells #[.slice A0 l0.length c0, .slice A1 l1.length c1] 36)) (.cells #[.slice none 0 0, .slice none 0 0] 36); simpa using this
  have hIV := IsS118.below HI.out hbV
  have hBV := below_then HB.out HB.out.size hbV
  have hR0V := Kd.R_below HR0.out hbV
  have hR1V := Kd.R_below HR1.out hbV
  replace hbV := Aside0.mk hbV
  replace hbp := Aside0.mk hbp
  replace hbr := Aside0.mk hbr
  replace hIV := Aside0.mk hIV
  replace hBV := Aside0.mk hBV
  replace hV := Aside0.mk hV
  have hC0 := (Kd.R_reads' hR0V).2.2
  replace hC0 := Aside0.mk hC0
  replace hR1V := Aside0.mk hR1V
  clear hR0V
  go_wp2_with (at_builtin; refine Kd.R_append_rows (Rr := Kd.K (Kd.int .i64) V) (w0 := V) (Kd.int .i64) V.heap.size rfl _ _ 22 3 (.int .i64 0) 8 rfl Try.underlying22 (by kernel_rfl) rfl (by decide) (by decide) _ [] l0 A0 l0.length c0 (fun _ => True) (fun _ => False) rfl rfl ?q1 ?q2 ?q3 ?q4 ?q5 ?q6 ?q7 ?q8 ?_)
  case q1 => rw [← hV.out]; exact R_nought (alloc_at hVs.out) (by have := hVs.out; omega) trivial
  case q2 => rw [← hV.out]; exact ReadsRow.imp_ hC0.out (below_alloc (Below.refl _ _) _) (fun _ _ h => h)
  case q3 => exact fun _ _ h => h
  case q6 => rw [← hV.out]; exact below_alloc (Below.refl _ _) _
  case q7 => have := hVs.out; omega
  case q8 => have := hok.out.1; simp; omega
  rw [← hV.out]
  intro va wa hra hba hga hata
  obtain ⟨Aa, ca, rfl⟩ := Kd.R_slice hra
  replace hra := Aside0.mk hra
  replace hba := Aside0.mk hba
  clear hga hata
  have HG := Aside0.mk (BG.start hIV.out hBV.out (show w0.heap.size ≤ V.heap.size by have := HB.out.size; have := hVs.out; omega) (show base ≤ V.heap.size by have := Hb.out; have := hVs.out; omega) hra.out hba.out)
  clear hra hba hBV
  go_wp2_with (fail)
  obtain ⟨D, hD⟩ : ∃ D, D = wa.heap.size := ⟨_, rfl⟩
  rw [← hD] at HG ⊢
  clear hD
  go_loopg [6] l1.length (fun m v6 w' => ∃ (j : Int) (L : List (List S57)) (v1 : Value), v6 = .int .i64 j ∧ Aside0 (j + m = l1.length ∧ 0 ≤ j ∧ L = l1.take j.toNat) ∧ Aside0 (BG w0 V w' g D base s0_0 s0_1 (.slice Aa l0.length ca) v1 l0 L))
  case atStart => exact ⟨0, [], .slice none 0 0, rfl, ⟨by simp⟩, HG⟩
  case round =>
    clear HG
    obtain ⟨j, L, v1, rfl, hj, HG⟩ := hrel
    have hpb : wr.heap[w.heap.size]? = some (.cells #[.slice A0 l0.length c0, .slice A1 l1.length c1] 36 (0, 0)) := HG.out.K.blk hbp.out (by have := IsS118.lt HI.out; omega) (by simp)
    have hp1 : wr.cell? ⟨w.heap.size, 1, none⟩ = some (.slice A1 l1.length c1) := (blk_cell hpb 1).trans rfl
    clear hpb
    cases gk with
    | zero =>
      have cb : decide (j < l1.length) = false := by have := hj.out; exact decide_eq_false (by omega)
      have hL : l1 = L := by have h1 := hj.out; rw [h1.2.2]; exact (List.take_of_length_le (by omega)).symm
      subst hL
      go_wp2_with (fail)
      refine (spec_l6Rd_pick.calls k g s0_0 s0_1 8 c q w0 _ HG.out.I HG.out.B PC.out).mono ?_
      rintro e wp ⟨rfl, hi1, hb1, hk1⟩
      have HP := Aside0.mk (HG.out.keep hi1 hb1 hk1)
      clear HG hi1 hb1 hk1 PC hj cb hp1
      replace h := h.out
      unfold bendF at h
      obtain ⟨C, cC, hv0, _, _, _⟩ := Kd.R_form HP.out.r0 hok.out.1.1
      injection hv0 with hv0 _ hcc
      subst hv0
      clear hcc cC
      obtain ⟨B, cB, hv1, _, _, _⟩ := Kd.S_form HP.out.r1 hok.out.2.1.1
      subst hv1
      have hlN : 0 < l1.length := hok.out.2.1.1
      have hlM : 0 < l0.length := hok.out.1.1
      obtain ⟨oki0, u0, hB0, -, -, hu0, -⟩ := BG.lend HP.out hlN
      obtain ⟨x0, hx0e⟩ : ∃ x0, x0 = l1.getD 0 [] := ⟨_, rfl⟩
      rw [← hx0e] at hu0
      obtain ⟨Au, cu, hu0e⟩ := Kd.R_slice hu0
      subst hu0e
      have hx0 : x0.length < 1000 := by
        have h1 := List.all_eq_true.mp hok.out.2.2 (l1[0]) (List.getElem_mem _)
        rw [hx0e, List.getD_eq_getElem?_getD, List.getElem?_eq_getElem hlN]
        exact of_decide_eq_true h1
      replace hx0 := Aside0.mk hx0
      replace hx0e := Aside0.mk hx0e
      have Hb2 : base ≤ V.heap.size := HP.out.hbV
      replace Hb2 := Aside0.mk Hb2
      clear hu0
      by_cases k0 : c = 0
      · rw [if_pos k0] at h
        replace k0 : (c == 0) = true := beq_iff_eq.mpr k0
        replace h := Option.bind_eq_some_iff.mp h
        obtain ⟨⟨d, q2⟩, P5, h⟩ := h
        have P5 := Aside0.mk (show spec_l6Rd_pick.f k s0_0 q 2 = some (d, q2) from P5)
        have cd : 0 ≤ d ∧ d < 2 := Classical.byContradiction fun c1 => by rw [if_neg c1] at h; exact absurd h (by simp)
        rw [if_pos cd] at h
        have HF0 := Aside0.mk (BG.fin HP.out)
        clear HP
        go_upto_region 12 with (fail)
        have hd : d = 0 ∨ d = 1 := by omega
        clear cd
        rcases hd with rfl | rfl
        · skip
          have h := (show some (l0.set 0 (-1), l1, q2) = some (r1, r2, r3) from h)
          simp only [Option.some.injEq, Prod.mk.injEq] at h
          obtain ⟨hr1, hr2, hr3⟩ := h
          subst hr1 hr2 hr3
          refine start_ (n := 9) (S := fun w' => w'.cell? ⟨D, 0, none⟩ = some (.slice (some ⟨C, 0, none⟩) l0.length ca)) (ds := [8]) #[false, false, false, false, false, false, false, false, false] (by kernel_rfl) rfl rfl ((FG.cell0 (FG.drew HF0.out))) (fun hHeld => ?_)
          refine pure_ (i := 0) (N := some 50) (v := ?_) (a' := ?_) #[true, false, false, false, false, false, false, false, false] rfl rfl (by kernel_rfl) (fun _ _ _ h => h) (Or.inl ⟨by rfl, ?_⟩) ?_ ?_
          rotate_left
          · intro w'
            go_simp
            with_reducible rfl
          rotate_left
          · simp only [Act.put, List.setIfInBounds_toArray, List.set_cons_zero, List.set_cons_succ, i64_w, i32_w]
            rfl
          refine pure_ (i := 3) (N := some 53) (v := ?_) (a' := ?_) #[true, false, false, true, false, false, false, false, false] rfl rfl (by kernel_rfl) (fun _ _ _ h => h) (Or.inl ⟨by rfl, ?_⟩) ?_ ?_
          rotate_left
          · intro w'
            go_simp
            with_reducible rfl
          rotate_left
          · simp only [Act.put, List.setIfInBounds_toArray, List.set_cons_zero, List.set_cons_succ, i64_w, i32_w]
            rfl
          refine take_ (i := 1) (N := some 51) (v := ?_) (a' := ?_) #[true, true, false, true, false, false, false, false, false] rfl rfl (by kernel_rfl) (fun _ _ _ h => h) (Or.inl ⟨by rfl, ?_⟩) hHeld ?_ ?_
          rotate_left
          · intro w' s0
            go_simp
            with_reducible rfl
          rotate_left
          · simp only [Act.put, List.setIfInBounds_toArray, List.set_cons_zero, List.set_cons_succ, i64_w, i32_w]
            rfl
          refine join_ (σ := Nat) 4 #[true, true, true, true, true, false, false, false, false] (fun s => [(52, .slice (some ⟨s, 0, none⟩) 2 2), (54, .int .i64 0)]) (fun s w' => w'.cell? ⟨D, 0, none⟩ = some (.slice (some ⟨C, 0, none⟩) l0.length ca) ∧ Aside0 (FG w0 V w' g D base s0_0 q2 (.slice (some ⟨C, 0, none⟩) l0.length ca) (.slice (some ⟨B, 0, none⟩) l1.length cB) l0 l1) ∧ w'.cell? ⟨s, 0, none⟩ = some (.int .i64 (-1))) ?_ ?_
          rotate_left
          · intro hCont
            refine two_ (i := 2) (j := 4) (Ni := some 52) (Nj := some 54) #[true, true, true, true, false, false, false, false, false] #[true, true, false, true, true, false, false, false, false] rfl rfl rfl rfl (by kernel_rfl) (by decide) (by decide) (fun K hK => ?_) (fun K hK => ?_)
            · skip
              refine value_ (w1 := ?_) (v := ?_) (by rfl) rfl ?_ ?_
              rotate_left 2
              · go_simp
                constructor
                · rfl
                · rfl
              refine hK.out _ _ ((FG.cell0 (show FG w0 V _ g D base s0_0 q (.slice (some ⟨C, 0, none⟩) l0.length ca) (.slice (some ⟨B, 0, none⟩) l1.length cB) l0 l1 from by repeat (first | exact HF0.out | apply FG.alloc | apply FG.drew)))) (fun hHeld => ?_)
              clear hK K
              refine norm_ (a' := ?_) ?_ ?_
              rotate_left
              · show Act.put _ (some 52) _ = _
                simp only [Act.put, List.setIfInBounds_toArray, List.set_cons_zero, List.set_cons_succ, i64_w, i32_w]
                rfl
              refine one_ (i := 4) (N := some 54) #[true, true, true, true, true, false, false, false, false] rfl rfl (by kernel_rfl) (by decide) (fun K hK => ?_)
              refine goes_ Try.func58 (by kernel_rfl) rfl #[.pointer (some ⟨g, 0, none⟩), .int .i64 2] (by rfl) rfl rfl (by simp only [List.map_toArray, List.map_cons, List.map_nil]; rfl) ?_
              with_reducible refine (spec_l6Rd_pick.calls k g s0_0 q 2 0 q2 w0 _ (by repeat (first | exact HF0.out.I | apply IsS118.alloc | apply IsS118.drew)) (by repeat (first | exact HF0.out.B | apply below_alloc | apply below_drew1)) P5.out).mono ?_
              rintro e wc ⟨rfl, hi2, hb2, hk2⟩
              refine ⟨_, rfl, ?_⟩
              have HG2 := Aside0.mk (FG.keep (by repeat (first | exact HF0.out | apply FG.alloc | apply FG.drew)) hi2 hb2 hk2)
              refine hK.out _ _ ((FG.cell0 (show FG w0 V _ g D base s0_0 q2 (.slice (some ⟨C, 0, none⟩) l0.length ca) (.slice (some ⟨B, 0, none⟩) l1.length cB) l0 l1 from by repeat (first | exact HG2.out | apply FG.alloc | apply FG.drew)))) (fun hHeld => ?_)
              clear hK K
              refine norm_ (a' := ?_) ?_ ?_
              rotate_left
              · show Act.put _ (some 54) _ = _
                simp only [Act.put, List.setIfInBounds_toArray, List.set_cons_zero, List.set_cons_succ, i64_w, i32_w]
                rfl
              exact norm_ (by simp only [putAll, Act.put, List.setIfInBounds_toArray, List.set_cons_zero, List.set_cons_succ]) (hCont _ _ ⟨(FG.cell0 (show FG w0 V _ g D base s0_0 q2 (.slice (some ⟨C, 0, none⟩) l0.length ca) (.slice (some ⟨B, 0, none⟩) l1.length cB) l0 l1 from by repeat (first | exact HG2.out | apply FG.alloc | apply FG.drew))), ⟨(show FG w0 V _ g D base s0_0 q2 (.slice (some ⟨C, 0, none⟩) l0.length ca) (.slice (some ⟨B, 0, none⟩) l1.length cB) l0 l1 from by repeat (first | exact HG2.out | apply FG.alloc | apply FG.drew))⟩, (blk_cell (hk2.blk (heap_alloc_new _ _) (Nat.ne_of_gt (IsS118.lt HF0.out.I)) (by simp)) 0).trans rfl⟩)
            · skip
              refine goes_ Try.func58 (by kernel_rfl) rfl #[.pointer (some ⟨g, 0, none⟩), .int .i64 2] (by rfl) rfl rfl (by simp only [List.map_toArray, List.map_cons, List.map_nil]; rfl) ?_
              with_reducible refine (spec_l6Rd_pick.calls k g s0_0 q 2 0 q2 w0 _ (by repeat (first | exact HF0.out.I | apply IsS118.alloc | apply IsS118.drew)) (by repeat (first | exact HF0.out.B | apply below_alloc | apply below_drew1)) P5.out).mono ?_
              rintro e wc ⟨rfl, hi2, hb2, hk2⟩
              refine ⟨_, rfl, ?_⟩
              have HG2 := Aside0.mk (FG.keep (by repeat (first | exact HF0.out | apply FG.alloc | apply FG.drew)) hi2 hb2 hk2)
              refine hK.out _ _ ((FG.cell0 (show FG w0 V _ g D base s0_0 q2 (.slice (some ⟨C, 0, none⟩) l0.length ca) (.slice (some ⟨B, 0, none⟩) l1.length cB) l0 l1 from by repeat (first | exact HG2.out | apply FG.alloc | apply FG.drew)))) (fun hHeld => ?_)
              clear hK K
              refine norm_ (a' := ?_) ?_ ?_
              rotate_left
              · show Act.put _ (some 54) _ = _
                simp only [Act.put, List.setIfInBounds_toArray, List.set_cons_zero, List.set_cons_succ, i64_w, i32_w]
                rfl
              refine one_ (i := 2) (N := some 52) #[true, true, true, true, true, false, false, false, false] rfl rfl (by kernel_rfl) (by decide) (fun K hK => ?_)
              refine value_ (w1 := ?_) (v := ?_) (by rfl) rfl ?_ ?_
              rotate_left 2
              · go_simp
                constructor
                · rfl
                · rfl
              refine hK.out _ _ ((FG.cell0 (show FG w0 V _ g D base s0_0 q2 (.slice (some ⟨C, 0, none⟩) l0.length ca) (.slice (some ⟨B, 0, none⟩) l1.length cB) l0 l1 from by repeat (first | exact HG2.out | apply FG.alloc | apply FG.drew)))) (fun hHeld => ?_)
              clear hK K
              refine norm_ (a' := ?_) ?_ ?_
              rotate_left
              · show Act.put _ (some 52) _ = _
                simp only [Act.put, List.setIfInBounds_toArray, List.set_cons_zero, List.set_cons_succ, i64_w, i32_w]
                rfl
              exact norm_ (by simp only [putAll, Act.put, List.setIfInBounds_toArray, List.set_cons_zero, List.set_cons_succ]) (hCont _ _ ⟨(FG.cell0 (show FG w0 V _ g D base s0_0 q2 (.slice (some ⟨C, 0, none⟩) l0.length ca) (.slice (some ⟨B, 0, none⟩) l1.length cB) l0 l1 from by repeat (first | exact HG2.out | apply FG.alloc | apply FG.drew))), ⟨(show FG w0 V _ g D base s0_0 q2 (.slice (some ⟨C, 0, none⟩) l0.length ca) (.slice (some ⟨B, 0, none⟩) l1.length cB) l0 l1 from by repeat (first | exact HG2.out | apply FG.alloc | apply FG.drew))⟩, (blk_cell (heap_alloc_new _ _) 0).trans rfl⟩)
          rintro sL wj ⟨hHeld, HGj, hcj⟩
          have hCe := Kd.R_celln (0 : Int) HGj.out.r0 0 (Int.le_refl _) (by omega)
          obtain ⟨hcC, hfC⟩ := hCe
          have hcC : wj.cell? ⟨C, 0, none⟩ = some _ := hcC
          have hfC : wj.frozen? ⟨C, 0, none⟩ = false := hfC
          refine norm_ (a' := ?_) ?_ ?_
          rotate_left
          · simp only [putAll, Act.put, List.setIfInBounds_toArray, List.set_cons_zero, List.set_cons_succ]
            rfl
          refine pure_ (i := 5) (N := some 55) (v := ?_) (a' := ?_) #[true, true, true, true, true, true, false, false, false] rfl rfl (by kernel_rfl) (fun _ _ _ h => h) (Or.inl ⟨by rfl, ?_⟩) ?_ ?_
          rotate_left
          · intro w'
            go_simp
            with_reducible rfl
          rotate_left
          · simp only [Act.put, List.setIfInBounds_toArray, List.set_cons_zero, List.set_cons_succ, i64_w, i32_w]
            rfl
          refine one_ (i := 6) (N := some 56) #[true, true, true, true, true, true, true, false, false] rfl rfl (by kernel_rfl) (by decide) (fun K hK => ?_)
          refine value_ (w1 := ?_) (v := ?_) (by rfl) rfl ?_ ?_
          rotate_left 2
          · go_simp
            constructor
            · rfl
            · rfl
          refine hK.out _ _ (hHeld) (fun hHeld => ?_)
          clear hK K
          refine norm_ (a' := ?_) ?_ ?_
          rotate_left
          · show Act.put _ (some 56) _ = _
            simp only [Act.put, List.setIfInBounds_toArray, List.set_cons_zero, List.set_cons_succ, i64_w, i32_w]
            rfl
          refine pure_ (i := 7) (N := some 57) (v := ?_) (a' := ?_) #[true, true, true, true, true, true, true, true, false] rfl rfl (by kernel_rfl) (fun _ _ _ h => h) (Or.inl ⟨by rfl, ?_⟩) ?_ ?_
          rotate_left
          · intro w'
            go_simp
            with_reducible rfl
          rotate_left
          · simp only [Act.put, List.setIfInBounds_toArray, List.set_cons_zero, List.set_cons_succ, i64_w, i32_w]
            rfl
          refine last_ (i := 8) (N := none) #[true, true, true, true, true, true, true, true, true] rfl rfl (by kernel_rfl) (by decide) (fun K hK => ?_)
          refine skip_ (w1 := ?_) (by rfl) rfl ?_ ?_
          rotate_left
          · go_simp
            rfl
          refine hK.out _ _ ?_
          clear hK K
          refine done_ (by kernel_rfl) ?_
          have HF := Aside0.mk (FG.put0 HGj.out (-1))
          clear hcj hcC hfC HGj HF0
          generalize hwE : wj.setCell ⟨C, 0, none⟩ (.int .i64 (-1)) = wE at HF ⊢
          clear hwE
          have hbR : wE.heap[w.heap.size + 1]? = some (.cells #[.slice none 0 0, .slice none 0 0] 36 (0, 0)) := HF.out.K.blk hbr.out (by have := IsS118.lt HI.out; omega) (by simp)
          have hc0 := HF.out.cell0
          have hc1 := HF.out.cell1
          have hbS := blk_set hbR 0 (.slice (some ⟨C, 0, none⟩) l0.length ca)
          have hd0 : wE.cell? ⟨w.heap.size + 1, 0, none⟩ = some (.slice none 0 0) := (blk_cell hbR 0).trans rfl
          have hf0 : wE.frozen? ⟨w.heap.size + 1, 0, none⟩ = false := blk_frozen hbR 0
          have hd1 : (wE.setCell ⟨w.heap.size + 1, 0, none⟩ (.slice (some ⟨C, 0, none⟩) l0.length ca)).cell? ⟨w.heap.size + 1, 1, none⟩ = some (.slice none 0 0) := (blk_cell hbS 1).trans rfl
          have hf1 : (wE.setCell ⟨w.heap.size + 1, 0, none⟩ (.slice (some ⟨C, 0, none⟩) l0.length ca)).frozen? ⟨w.heap.size + 1, 1, none⟩ = false := blk_frozen hbS 1
          have hDn := Aside0.mk (bdone HF.out (we := w) (R := w.heap.size + 1) (by have := hVs.out; omega) hbr.out (KeepBut.of_below hbV.out g none) (Nat.le_succ _) (by have := IsS118.lt HI.out; omega) (by have := HB.out.size; omega))
          clear hbR hbS
          go_wp2_with (fail)
          exact bodyPost_ret (results_cell_row rfl _ _ (w.heap.size + 1) 36 _ (0, 0) _ rfl hDn.out.1 Try.underlying36 rfl (show (Try.prog.info? 36).map (·.size) = some 2 by kernel_rfl)) rfl ⟨_, _, rfl, hDn.out.2⟩
        · skip
          have h := (show some (l0.set 0 (100), l1, q2) = some (r1, r2, r3) from h)
          simp only [Option.some.injEq, Prod.mk.injEq] at h
          obtain ⟨hr1, hr2, hr3⟩ := h
          subst hr1 hr2 hr3
          refine start_ (n := 9) (S := fun w' => w'.cell? ⟨D, 0, none⟩ = some (.slice (some ⟨C, 0, none⟩) l0.length ca)) (ds := [8]) #[false, false, false, false, false, false, false, false, false] (by kernel_rfl) rfl rfl ((FG.cell0 (FG.drew HF0.out))) (fun hHeld => ?_)
          refine pure_ (i := 0) (N := some 50) (v := ?_) (a' := ?_) #[true, false, false, false, false, false, false, false, false] rfl rfl (by kernel_rfl) (fun _ _ _ h => h) (Or.inl ⟨by rfl, ?_⟩) ?_ ?_
          rotate_left
          · intro w'
            go_simp
            with_reducible rfl
          rotate_left
          · simp only [Act.put, List.setIfInBounds_toArray, List.set_cons_zero, List.set_cons_succ, i64_w, i32_w]
            rfl
          refine pure_ (i := 3) (N := some 53) (v := ?_) (a' := ?_) #[true, false, false, true, false, false, false, false, false] rfl rfl (by kernel_rfl) (fun _ _ _ h => h) (Or.inl ⟨by rfl, ?_⟩) ?_ ?_
          rotate_left
          · intro w'
            go_simp
            with_reducible rfl
          rotate_left
          · simp only [Act.put, List.setIfInBounds_toArray, List.set_cons_zero, List.set_cons_succ, i64_w, i32_w]
            rfl
          refine take_ (i := 1) (N := some 51) (v := ?_) (a' := ?_) #[true, true, false, true, false, false, false, false, false] rfl rfl (by kernel_rfl) (fun _ _ _ h => h) (Or.inl ⟨by rfl, ?_⟩) hHeld ?_ ?_
          rotate_left
          · intro w' s0
            go_simp
            with_reducible rfl
          rotate_left
          · simp only [Act.put, List.setIfInBounds_toArray, List.set_cons_zero, List.set_cons_succ, i64_w, i32_w]
            rfl
          refine join_ (σ := Nat) 4 #[true, true, true, true, true, false, false, false, false] (fun s => [(52, .slice (some ⟨s, 0, none⟩) 2 2), (54, .int .i64 1)]) (fun s w' => w'.cell? ⟨D, 0, none⟩ = some (.slice (some ⟨C, 0, none⟩) l0.length ca) ∧ Aside0 (FG w0 V w' g D base s0_0 q2 (.slice (some ⟨C, 0, none⟩) l0.length ca) (.slice (some ⟨B, 0, none⟩) l1.length cB) l0 l1) ∧ w'.cell? ⟨s, 1, none⟩ = some (.int .i64 (100))) ?_ ?_
          rotate_left
          · intro hCont
            refine two_ (i := 2) (j := 4) (Ni := some 52) (Nj := some 54) #[true, true, true, true, false, false, false, false, false] #[true, true, false, true, true, false, false, false, false] rfl rfl rfl rfl (by kernel_rfl) (by decide) (by decide) (fun K hK => ?_) (fun K hK => ?_)
            · skip
              refine value_ (w1 := ?_) (v := ?_) (by rfl) rfl ?_ ?_
              rotate_left 2
              · go_simp
                constructor
                · rfl
                · rfl
              refine hK.out _ _ ((FG.cell0 (show FG w0 V _ g D base s0_0 q (.slice (some ⟨C, 0, none⟩) l0.length ca) (.slice (some ⟨B, 0, none⟩) l1.length cB) l0 l1 from by repeat (first | exact HF0.out | apply FG.alloc | apply FG.drew)))) (fun hHeld => ?_)
              clear hK K
              refine norm_ (a' := ?_) ?_ ?_
              rotate_left
              · show Act.put _ (some 52) _ = _
                simp only [Act.put, List.setIfInBounds_toArray, List.set_cons_zero, List.set_cons_succ, i64_w, i32_w]
                rfl
              refine one_ (i := 4) (N := some 54) #[true, true, true, true, true, false, false, false, false] rfl rfl (by kernel_rfl) (by decide) (fun K hK => ?_)
              refine goes_ Try.func58 (by kernel_rfl) rfl #[.pointer (some ⟨g, 0, none⟩), .int .i64 2] (by rfl) rfl rfl (by simp only [List.map_toArray, List.map_cons, List.map_nil]; rfl) ?_
              with_reducible refine (spec_l6Rd_pick.calls k g s0_0 q 2 1 q2 w0 _ (by repeat (first | exact HF0.out.I | apply IsS118.alloc | apply IsS118.drew)) (by repeat (first | exact HF0.out.B | apply below_alloc | apply below_drew1)) P5.out).mono ?_
              rintro e wc ⟨rfl, hi2, hb2, hk2⟩
              refine ⟨_, rfl, ?_⟩
              have HG2 := Aside0.mk (FG.keep (by repeat (first | exact HF0.out | apply FG.alloc | apply FG.drew)) hi2 hb2 hk2)
              refine hK.out _ _ ((FG.cell0 (show FG w0 V _ g D base s0_0 q2 (.slice (some ⟨C, 0, none⟩) l0.length ca) (.slice (some ⟨B, 0, none⟩) l1.length cB) l0 l1 from by repeat (first | exact HG2.out | apply FG.alloc | apply FG.drew)))) (fun hHeld => ?_)
              clear hK K
              refine norm_ (a' := ?_) ?_ ?_
              rotate_left
              · show Act.put _ (some 54) _ = _
                simp only [Act.put, List.setIfInBounds_toArray, List.set_cons_zero, List.set_cons_succ, i64_w, i32_w]
                rfl
              exact norm_ (by simp only [putAll, Act.put, List.setIfInBounds_toArray, List.set_cons_zero, List.set_cons_succ]) (hCont _ _ ⟨(FG.cell0 (show FG w0 V _ g D base s0_0 q2 (.slice (some ⟨C, 0, none⟩) l0.length ca) (.slice (some ⟨B, 0, none⟩) l1.length cB) l0 l1 from by repeat (first | exact HG2.out | apply FG.alloc | apply FG.drew))), ⟨(show FG w0 V _ g D base s0_0 q2 (.slice (some ⟨C, 0, none⟩) l0.length ca) (.slice (some ⟨B, 0, none⟩) l1.length cB) l0 l1 from by repeat (first | exact HG2.out | apply FG.alloc | apply FG.drew))⟩, (blk_cell (hk2.blk (heap_alloc_new _ _) (Nat.ne_of_gt (IsS118.lt HF0.out.I)) (by simp)) 1).trans rfl⟩)
            · skip
              refine goes_ Try.func58 (by kernel_rfl) rfl #[.pointer (some ⟨g, 0, none⟩), .int .i64 2] (by rfl) rfl rfl (by simp only [List.map_toArray, List.map_cons, List.map_nil]; rfl) ?_
              with_reducible refine (spec_l6Rd_pick.calls k g s0_0 q 2 1 q2 w0 _ (by repeat (first | exact HF0.out.I | apply IsS118.alloc | apply IsS118.drew)) (by repeat (first | exact HF0.out.B | apply below_alloc | apply below_drew1)) P5.out).mono ?_
              rintro e wc ⟨rfl, hi2, hb2, hk2⟩
              refine ⟨_, rfl, ?_⟩
              have HG2 := Aside0.mk (FG.keep (by repeat (first | exact HF0.out | apply FG.alloc | apply FG.drew)) hi2 hb2 hk2)
              refine hK.out _ _ ((FG.cell0 (show FG w0 V _ g D base s0_0 q2 (.slice (some ⟨C, 0, none⟩) l0.length ca) (.slice (some ⟨B, 0, none⟩) l1.length cB) l0 l1 from by repeat (first | exact HG2.out | apply FG.alloc | apply FG.drew)))) (fun hHeld => ?_)
              clear hK K
              refine norm_ (a' := ?_) ?_ ?_
              rotate_left
              · show Act.put _ (some 54) _ = _
                simp only [Act.put, List.setIfInBounds_toArray, List.set_cons_zero, List.set_cons_succ, i64_w, i32_w]
                rfl
              refine one_ (i := 2) (N := some 52) #[true, true, true, true, true, false, false, false, false] rfl rfl (by kernel_rfl) (by decide) (fun K hK => ?_)
              refine value_ (w1 := ?_) (v := ?_) (by rfl) rfl ?_ ?_
              rotate_left 2
              · go_simp
                constructor
                · rfl
                · rfl
              refine hK.out _ _ ((FG.cell0 (show FG w0 V _ g D base s0_0 q2 (.slice (some ⟨C, 0, none⟩) l0.length ca) (.slice (some ⟨B, 0, none⟩) l1.length cB) l0 l1 from by repeat (first | exact HG2.out | apply FG.alloc | apply FG.drew)))) (fun hHeld => ?_)
              clear hK K
              refine norm_ (a' := ?_) ?_ ?_
              rotate_left
              · show Act.put _ (some 52) _ = _
                simp only [Act.put, List.setIfInBounds_toArray, List.set_cons_zero, List.set_cons_succ, i64_w, i32_w]
                rfl
              exact norm_ (by simp only [putAll, Act.put, List.setIfInBounds_toArray, List.set_cons_zero, List.set_cons_succ]) (hCont _ _ ⟨(FG.cell0 (show FG w0 V _ g D base s0_0 q2 (.slice (some ⟨C, 0, none⟩) l0.length ca) (.slice (some ⟨B, 0, none⟩) l1.length cB) l0 l1 from by repeat (first | exact HG2.out | apply FG.alloc | apply FG.drew))), ⟨(show FG w0 V _ g D base s0_0 q2 (.slice (some ⟨C, 0, none⟩) l0.length ca) (.slice (some ⟨B, 0, none⟩) l1.length cB) l0 l1 from by repeat (first | exact HG2.out | apply FG.alloc | apply FG.drew))⟩, (blk_cell (heap_alloc_new _ _) 1).trans rfl⟩)
          rintro sL wj ⟨hHeld, HGj, hcj⟩
          have hCe := Kd.R_celln (0 : Int) HGj.out.r0 0 (Int.le_refl _) (by omega)
          obtain ⟨hcC, hfC⟩ := hCe
          have hcC : wj.cell? ⟨C, 0, none⟩ = some _ := hcC
          have hfC : wj.frozen? ⟨C, 0, none⟩ = false := hfC
          refine norm_ (a' := ?_) ?_ ?_
          rotate_left
          · simp only [putAll, Act.put, List.setIfInBounds_toArray, List.set_cons_zero, List.set_cons_succ]
            rfl
          refine pure_ (i := 5) (N := some 55) (v := ?_) (a' := ?_) #[true, true, true, true, true, true, false, false, false] rfl rfl (by kernel_rfl) (fun _ _ _ h => h) (Or.inl ⟨by rfl, ?_⟩) ?_ ?_
          rotate_left
          · intro w'
            go_simp
            with_reducible rfl
          rotate_left
          · simp only [Act.put, List.setIfInBounds_toArray, List.set_cons_zero, List.set_cons_succ, i64_w, i32_w]
            rfl
          refine one_ (i := 6) (N := some 56) #[true, true, true, true, true, true, true, false, false] rfl rfl (by kernel_rfl) (by decide) (fun K hK => ?_)
          refine value_ (w1 := ?_) (v := ?_) (by rfl) rfl ?_ ?_
          rotate_left 2
          · go_simp
            constructor
            · rfl
            · rfl
          refine hK.out _ _ (hHeld) (fun hHeld => ?_)
          clear hK K
          refine norm_ (a' := ?_) ?_ ?_
          rotate_left
          · show Act.put _ (some 56) _ = _
            simp only [Act.put, List.setIfInBounds_toArray, List.set_cons_zero, List.set_cons_succ, i64_w, i32_w]
            rfl
          refine pure_ (i := 7) (N := some 57) (v := ?_) (a' := ?_) #[true, true, true, true, true, true, true, true, false] rfl rfl (by kernel_rfl) (fun _ _ _ h => h) (Or.inl ⟨by rfl, ?_⟩) ?_ ?_
          rotate_left
          · intro w'
            go_simp
            with_reducible rfl
          rotate_left
          · simp only [Act.put, List.setIfInBounds_toArray, List.set_cons_zero, List.set_cons_succ, i64_w, i32_w]
            rfl
          refine last_ (i := 8) (N := none) #[true, true, true, true, true, true, true, true, true] rfl rfl (by kernel_rfl) (by decide) (fun K hK => ?_)
          refine skip_ (w1 := ?_) (by rfl) rfl ?_ ?_
          rotate_left
          · go_simp
            rfl
          refine hK.out _ _ ?_
          clear hK K
          refine done_ (by kernel_rfl) ?_
          have HF := Aside0.mk (FG.put0 HGj.out (100))
          clear hcj hcC hfC HGj HF0
          generalize hwE : wj.setCell ⟨C, 0, none⟩ (.int .i64 (100)) = wE at HF ⊢
          clear hwE
          have hbR : wE.heap[w.heap.size + 1]? = some (.cells #[.slice none 0 0, .slice none 0 0] 36 (0, 0)) := HF.out.K.blk hbr.out (by have := IsS118.lt HI.out; omega) (by simp)
          have hc0 := HF.out.cell0
          have hc1 := HF.out.cell1
          have hbS := blk_set hbR 0 (.slice (some ⟨C, 0, none⟩) l0.length ca)
          have hd0 : wE.cell? ⟨w.heap.size + 1, 0, none⟩ = some (.slice none 0 0) := (blk_cell hbR 0).trans rfl
          have hf0 : wE.frozen? ⟨w.heap.size + 1, 0, none⟩ = false := blk_frozen hbR 0
          have hd1 : (wE.setCell ⟨w.heap.size + 1, 0, none⟩ (.slice (some ⟨C, 0, none⟩) l0.length ca)).cell? ⟨w.heap.size + 1, 1, none⟩ = some (.slice none 0 0) := (blk_cell hbS 1).trans rfl
          have hf1 : (wE.setCell ⟨w.heap.size + 1, 0, none⟩ (.slice (some ⟨C, 0, none⟩) l0.length ca)).frozen? ⟨w.heap.size + 1, 1, none⟩ = false := blk_frozen hbS 1
          have hDn := Aside0.mk (bdone HF.out (we := w) (R := w.heap.size + 1) (by have := hVs.out; omega) hbr.out (KeepBut.of_below hbV.out g none) (Nat.le_succ _) (by have := IsS118.lt HI.out; omega) (by have := HB.out.size; omega))
          clear hbR hbS
          go_wp2_with (fail)
          exact bodyPost_ret (results_cell_row rfl _ _ (w.heap.size + 1) 36 _ (0, 0) _ rfl hDn.out.1 Try.underlying36 rfl (show (Try.prog.info? 36).map (·.size) = some 2 by kernel_rfl)) rfl ⟨_, _, rfl, hDn.out.2⟩
      · rw [if_neg k0] at h
        replace k0 : (c == 0) = false := beq_eq_false_iff_ne.mpr k0
        by_cases k1 : c = 1
        · rw [if_pos k1] at h
          replace k1 : (c == 1) = true := beq_iff_eq.mpr k1
          simp only [Option.some.injEq, Prod.mk.injEq] at h
          obtain ⟨hr1, hr2, hr3⟩ := h
          subst hr1 hr2 hr3
          have HF0 := Aside0.mk (FG.alloc (BG.fin HP.out) (.cells #[.int .i64 0, .int .i64 0, .int .i64 0] 3))
          have hl3 : Kd.R (Kd.int .i64) 3 (wp.alloc (.cells #[.int .i64 0, .int .i64 0, .int .i64 0] 3)) 0 (fun _ => True) (.slice (some ⟨wp.heap.size, 0, none⟩) 3 3) [0, 0, 0] := R_fresh (xs := [(0 : Int), 0, 0]) (cs := [.int .i64 0, .int .i64 0, .int .i64 0]) (heap_alloc_new _ _) (Nat.zero_le _) trivial (by simp [maxLen]) ((((Reps.none _ _).snoc (p := (0 : Int)) (c := [.int .i64 0]) rfl rfl).snoc (p := (0 : Int)) (c := [.int .i64 0]) rfl rfl).snoc (p := (0 : Int)) (c := [.int .i64 0]) rfl rfl)
          have hl3 := Aside0.mk (Kd.R_reads' hl3).2.2
          have hcp0 := BG.cell0 HP.out
          clear HP
          go_wp2_with (at_builtin; refine Kd.R_append_rows (Rr := Kd.K (Kd.int .i64) (wp.alloc (.cells #[.int .i64 0, .int .i64 0, .int .i64 0] 3))) (w0 := (wp.alloc (.cells #[.int .i64 0, .int .i64 0, .int .i64 0] 3))) (Kd.int .i64) V.heap.size rfl _ _ 22 3 (.int .i64 0) 8 rfl Try.underlying22 (by kernel_rfl) rfl (by decide) (by decide) (.slice (some ⟨C, 0, none⟩) l0.length ca) l0 [0, 0, 0] (some ⟨wp.heap.size, 0, none⟩) 3 3 (fun _ => True) (fun _ => False) rfl rfl HF0.out.r0 hl3.out (fun _ _ h => h) (fun _ hk => hk.elim) (fun _ _ => trivial) (Below.refl _ _) (keep_size HF0.out.K) (by have := hok.out.1; omega) ?_)
          intro va wa hra hba hga hata
          obtain ⟨Ac, cc2, hva⟩ := Kd.R_slice hra
          subst hva
          have hcA : wa.cell? ⟨D, 0, none⟩ = some (.slice (some ⟨C, 0, none⟩) l0.length ca) := (blk_cell (FG.grow0 HF0.out hga) 0).trans rfl
          have hfA : wa.frozen? ⟨D, 0, none⟩ = false := blk_frozen (FG.grow0 HF0.out hga) 0
          have HF := Aside0.mk (FG.push0 HF0.out hra hba hga (hata.imp id (fun ⟨b, h1, h2⟩ => ⟨b, h1, by simpa using h2⟩)))
          have e3 : (l0 ++ [0, 0, 0] : List Int).length = l0.length + 3 := by simp
          rw [e3] at HF
          clear e3
          clear hra hba hga hata HF0 hl3 hcp0
          have hbR : (wa.setCell ⟨D, 0, none⟩ (.slice Ac (l0.length + 3) cc2)).heap[w.heap.size + 1]? = some (.cells #[.slice none 0 0, .slice none 0 0] 36 (0, 0)) := HF.out.K.blk hbr.out (by have := IsS118.lt HI.out; omega) (by simp)
          have hc0 := HF.out.cell0
          have hc1 := HF.out.cell1
          have hbS := blk_set hbR 0 (.slice Ac (l0.length + 3) cc2)
          have hd0 : (wa.setCell ⟨D, 0, none⟩ (.slice Ac (l0.length + 3) cc2)).cell? ⟨w.heap.size + 1, 0, none⟩ = some (.slice none 0 0) := (blk_cell hbR 0).trans rfl
          have hf0 : (wa.setCell ⟨D, 0, none⟩ (.slice Ac (l0.length + 3) cc2)).frozen? ⟨w.heap.size + 1, 0, none⟩ = false := blk_frozen hbR 0
          have hd1 : ((wa.setCell ⟨D, 0, none⟩ (.slice Ac (l0.length + 3) cc2)).setCell ⟨w.heap.size + 1, 0, none⟩ (.slice Ac (l0.length + 3) cc2)).cell? ⟨w.heap.size + 1, 1, none⟩ = some (.slice none 0 0) := (blk_cell hbS 1).trans rfl
          have hf1 : ((wa.setCell ⟨D, 0, none⟩ (.slice Ac (l0.length + 3) cc2)).setCell ⟨w.heap.size + 1, 0, none⟩ (.slice Ac (l0.length + 3) cc2)).frozen? ⟨w.heap.size + 1, 1, none⟩ = false := blk_frozen hbS 1
          have hDn := Aside0.mk (bdone HF.out (we := w) (R := w.heap.size + 1) (by have := hVs.out; omega) hbr.out (KeepBut.of_below hbV.out g none) (Nat.le_succ _) (by have := IsS118.lt HI.out; omega) (by have := HB.out.size; omega))
          clear hbR hbS
          go_wp2_with (fail)
          exact bodyPost_ret (results_cell_row rfl _ _ (w.heap.size + 1) 36 _ (0, 0) _ rfl hDn.out.1 Try.underlying36 rfl (show (Try.prog.info? 36).map (·.size) = some 2 by kernel_rfl)) rfl ⟨_, _, rfl, hDn.out.2⟩
        · rw [if_neg k1] at h
          replace k1 : (c == 1) = false := beq_eq_false_iff_ne.mpr k1
          by_cases k2 : c = 2
          · rw [if_pos k2] at h
            replace k2 : (c == 2) = true := beq_iff_eq.mpr k2
            replace h := Option.bind_eq_some_iff.mp h
            obtain ⟨⟨d, q2⟩, P50, h⟩ := h
            have P50 := Aside0.mk (show spec_l6Rd_pick.f k s0_0 q 7 = some (d, q2) from P50)
            rw [show app0 l1 ⟨wrap64 (d - 1), [], [], 0⟩ = l1.set 0 (x0 ++ [⟨wrap64 (d - 1), [], [], 0⟩]) from by rw [hx0e.out]; rfl] at h
            simp only [Option.some.injEq, Prod.mk.injEq] at h
            obtain ⟨hr1, hr2, hr3⟩ := h
            subst hr1 hr2 hr3
            go_upto_region 16 with (fail)
            refine start_ (n := 14) (S := fun w' => w'.cell? ⟨D, 1, none⟩ = some (.slice (some ⟨B, 0, none⟩) l1.length cB) ∧ w'.cell? ⟨B, 0, none⟩ = some (.slice Au x0.length cu)) (ds := [13]) #[false, false, false, false, false, false, false, false, false, false, false, false, false, false] (by kernel_rfl) rfl rfl ⟨(BG.cell1 (BG.drew HP.out)), (pw_cell_below (below_drew (Below.refl _ _)) hB0)⟩ (fun hHeld => ?_)
            refine pure_ (i := 0) (N := some 67) (v := ?_) (a' := ?_) #[true, false, false, false, false, false, false, false, false, false, false, false, false, false] rfl rfl (by kernel_rfl) (fun _ _ _ h => h) (Or.inl ⟨by rfl, ?_⟩) ?_ ?_
            rotate_left
            · intro w'
              go_simp
              with_reducible rfl
            rotate_left
            · simp only [Act.put, List.setIfInBounds_toArray, List.set_cons_zero, List.set_cons_succ, i64_w, i32_w]
              rfl
            refine pure_ (i := 2) (N := some 69) (v := ?_) (a' := ?_) #[true, false, true, false, false, false, false, false, false, false, false, false, false, false] rfl rfl (by kernel_rfl) (fun _ _ _ h => h) (Or.inl ⟨by rfl, ?_⟩) ?_ ?_
            rotate_left
            · intro w'
              go_simp
              with_reducible rfl
            rotate_left
            · simp only [Act.put, List.setIfInBounds_toArray, List.set_cons_zero, List.set_cons_succ, i64_w, i32_w]
              rfl
            refine pure_ (i := 6) (N := some 73) (v := ?_) (a' := ?_) #[true, false, true, false, false, false, true, false, false, false, false, false, false, false] rfl rfl (by kernel_rfl) (fun _ _ _ h => h) (Or.inl ⟨by rfl, ?_⟩) ?_ ?_
            rotate_left
            · intro w'
              go_simp
              with_reducible rfl
            rotate_left
            · simp only [Act.put, List.setIfInBounds_toArray, List.set_cons_zero, List.set_cons_succ, i64_w, i32_w]
              rfl
            refine take_ (i := 1) (N := some 68) (v := ?_) (a' := ?_) #[true, true, true, false, false, false, true, false, false, false, false, false, false, false] rfl rfl (by kernel_rfl) (fun _ _ _ h => h) (Or.inl ⟨by rfl, ?_⟩) hHeld ?_ ?_
            rotate_left
            · rintro w' ⟨s0, s1⟩
              go_simp
              with_reducible rfl
            rotate_left
            · simp only [Act.put, List.setIfInBounds_toArray, List.set_cons_zero, List.set_cons_succ, i64_w, i32_w]
              rfl
            refine take_ (i := 3) (N := some 70) (v := ?_) (a' := ?_) #[true, true, true, true, false, false, true, false, false, false, false, false, false, false] rfl rfl (by kernel_rfl) (fun _ _ _ h => h) (Or.inl ⟨by rfl, ?_⟩) hHeld ?_ ?_
            rotate_left
            · rintro w' ⟨s0, s1⟩
              go_simp
              with_reducible rfl
            rotate_left
            · simp only [Act.put, List.setIfInBounds_toArray, List.set_cons_zero, List.set_cons_succ, i64_w, i32_w]
              rfl
            refine pure_ (i := 4) (N := some 71) (v := ?_) (a' := ?_) #[true, true, true, true, true, false, true, false, false, false, false, false, false, false] rfl rfl (by kernel_rfl) (fun _ _ _ h => h) (Or.inl ⟨by rfl, ?_⟩) ?_ ?_
            rotate_left
            · intro w'
              go_simp
              with_reducible rfl
            rotate_left
            · simp only [Act.put, List.setIfInBounds_toArray, List.set_cons_zero, List.set_cons_succ, i64_w, i32_w]
              rfl
            refine take_ (i := 5) (N := some 72) (v := ?_) (a' := ?_) #[true, true, true, true, true, true, true, false, false, false, false, false, false, false] rfl rfl (by kernel_rfl) (fun _ _ _ h => h) (Or.inl ⟨by rfl, ?_⟩) hHeld ?_ ?_
            rotate_left
            · rintro w' ⟨s0, s1⟩
              go_simp
              with_reducible rfl
            rotate_left
            · simp only [Act.put, List.setIfInBounds_toArray, List.set_cons_zero, List.set_cons_succ, i64_w, i32_w]
              rfl
            refine one_ (i := 7) (N := some 74) #[true, true, true, true, true, true, true, true, false, false, false, false, false, false] rfl rfl (by kernel_rfl) (by decide) (fun K hK => ?_)
            refine goes_ Try.func58 (by kernel_rfl) rfl #[.pointer (some ⟨g, 0, none⟩), .int .i64 7] (by rfl) rfl rfl (by simp only [List.map_toArray, List.map_cons, List.map_nil]; rfl) ?_
            with_reducible refine (spec_l6Rd_pick.calls k g s0_0 q 7 d q2 w0 _ (BG.I (BG.drew HP.out)) (BG.B (BG.drew HP.out)) P50.out).mono ?_
            rintro e w50 ⟨rfl, hi0, hb0, hk0⟩
            refine ⟨_, rfl, ?_⟩
            have H50 := Aside0.mk (BG.keep (BG.drew HP.out) hi0 hb0 hk0)
            have hB50 := cell_k hk0 (pw_cell_below (below_drew (Below.refl _ _)) hB0) (BG.gB (BG.drew HP.out))
            refine hK.out _ _ ⟨(BG.cell1 H50.out), hB50⟩ (fun hHeld => ?_)
            clear hK K
            refine norm_ (a' := ?_) ?_ ?_
            rotate_left
            · show Act.put _ (some 74) _ = _
              simp only [Act.put, List.setIfInBounds_toArray, List.set_cons_zero, List.set_cons_succ, i64_w, i32_w]
              rfl
            refine pure_ (i := 8) (N := some 75) (v := ?_) (a' := ?_) #[true, true, true, true, true, true, true, true, true, false, false, false, false, false] rfl rfl (by kernel_rfl) (fun _ _ _ h => h) (Or.inl ⟨by rfl, ?_⟩) ?_ ?_
            rotate_left
            · intro w'
              go_simp
              with_reducible rfl
            rotate_left
            · simp only [Act.put, List.setIfInBounds_toArray, List.set_cons_zero, List.set_cons_succ, i64_w, i32_w]
              rfl
            refine pure_ (i := 9) (N := some 76) (v := ?_) (a' := ?_) #[true, true, true, true, true, true, true, true, true, true, false, false, false, false] rfl rfl (by kernel_rfl) (fun _ _ _ h => h) (Or.inl ⟨by rfl, ?_⟩) ?_ ?_
            rotate_left
            · intro w'
              go_simp
              with_reducible rfl
            rotate_left
            · simp only [Act.put, List.setIfInBounds_toArray, List.set_cons_zero, List.set_cons_succ, i64_w, i32_w]
              rfl
            refine one_ (i := 10) (N := some 77) #[true, true, true, true, true, true, true, true, true, true, true, false, false, false] rfl rfl (by kernel_rfl) (by decide) (fun K hK => ?_)
            refine value_ (w1 := ?_) (v := ?_) (by rfl) rfl ?_ ?_
            rotate_left 2
            · go_simp
              constructor
              · rfl
              · rfl
            refine hK.out _ _ ⟨(BG.cell1 (BG.alloc H50.out _)), (pw_cell_below (below_alloc (Below.refl _ _) _) hB50)⟩ (fun hHeld => ?_)
            clear hK K
            refine norm_ (a' := ?_) ?_ ?_
            rotate_left
            · show Act.put _ (some 77) _ = _
              simp only [Act.put, List.setIfInBounds_toArray, List.set_cons_zero, List.set_cons_succ, i64_w, i32_w]
              rfl
            refine one_ (i := 11) (N := some 78) #[true, true, true, true, true, true, true, true, true, true, true, true, false, false] rfl rfl (by kernel_rfl) (by decide) (fun K hK => ?_)
            obtain ⟨oki, hoki, huR, hH, hDu, hBu, hfu⟩ := BG.lendU H50.out hlN hB50
            rw [← hx0e.out] at huR
            have hM : k57.M w50 base (fun k => some k ≠ (Value.slice (some ⟨C, 0, none⟩) l0.length ca).ownBlock) (⟨wrap64 (d - 1), [], [], 0⟩ : S57) [.int .i64 (wrap64 (d - 1)), .slice none 0 0, .slice none 0 0, .int .i64 0] := k57_mkM _ _ _ (⟨wrap64 (d - 1), [], [], 0⟩ : S57) (Kd.R_nil _ _ _ _ _) (Kd.R_nil _ _ _ _ _)
            have hv0lt := Kd.R_lt (BG.r0 H50.out)
            refine Kd.R_append_step (w0 := w50) (kz (k57.M w50 base (fun k => some k ≠ (Value.slice (some ⟨C, 0, none⟩) l0.length ca).ownBlock))) V.heap.size (by rfl) (.tmp 72) (.tmp 77) 54 57 (.agg #[.int .i64 0, .slice none 0 0, .slice none 0 0, .int .i64 0]) 64 (by rfl) Try.underlying54 (by kernel_rfl) (by rfl) (show (0 : Nat) < 4 by decide) (by decide) (.slice Au x0.length cu) x0 (⟨wrap64 (d - 1), [], [], 0⟩ : S57) [.int .i64 (wrap64 (d - 1)), .slice none 0 0, .slice none 0 0, .int .i64 0] (fun k => oki k ∨ some k ≠ (Value.slice (some ⟨C, 0, none⟩) l0.length ca).ownBlock ∧ w50.heap.size ≤ k) (fun _ => False) (by rfl) (by first | rfl | (go_simp; done) | (simp; done)) (kz_mk hM hM) (fun _ hk => hk.elim) (fun k hk => .inr ⟨fun e => by have h1 := hv0lt k e.symm; omega, hk⟩) (Kd.R_mono huR (fun _ hk => .inl hk)) (Below.refl _ _) (keep_size (BG.K H50.out)) (by have h1 := hx0.out; omega) ?_
            intro va wa hra hba hga hata
            obtain ⟨Ac, cc2, hva⟩ := Kd.R_slice hra
            subst hva
            have HA := Aside0.mk (BG.app0 H50.out hlN hoki huR hH hra hba hga)
            have hcB : wa.cell? ⟨B, 0, none⟩ = some (.slice Au x0.length cu) := cell_g hga hB50 hBu
            have hcD : wa.cell? ⟨D, 1, none⟩ = some (.slice (some ⟨B, 0, none⟩) l1.length cB) := cell_g hga (BG.cell1 H50.out) hDu
            have hfB := hfu _ hga
            refine hK.out _ _ ⟨hcD, hcB⟩ (fun hHeld => ?_)
            clear hK K
            refine norm_ (a' := ?_) ?_ ?_
            rotate_left
            · show Act.put _ (some 78) _ = _
              simp only [Act.put, List.setIfInBounds_toArray, List.set_cons_zero, List.set_cons_succ, i64_w, i32_w]
              rfl
            refine pure_ (i := 12) (N := some 79) (v := ?_) (a' := ?_) #[true, true, true, true, true, true, true, true, true, true, true, true, true, false] rfl rfl (by kernel_rfl) (fun _ _ _ h => h) (Or.inl ⟨by rfl, ?_⟩) ?_ ?_
            rotate_left
            · intro w'
              go_simp
              with_reducible rfl
            rotate_left
            · simp only [Act.put, List.setIfInBounds_toArray, List.set_cons_zero, List.set_cons_succ, i64_w, i32_w]
              rfl
            refine last_ (i := 13) (N := none) #[true, true, true, true, true, true, true, true, true, true, true, true, true, true] rfl rfl (by kernel_rfl) (by decide) (fun K hK => ?_)
            refine skip_ (w1 := ?_) (by rfl) rfl ?_ ?_
            rotate_left
            · go_simp
              rfl
            refine hK.out _ _ ?_
            clear hK K
            refine done_ (by kernel_rfl) ?_
            have HF := Aside0.mk (FG.done (BG.fin HA.out))
            simp only [List.length_append, List.length_cons, List.length_nil, Nat.zero_add] at HF
            clear hcB hcD hfB HP HA hra hba hga hata
            generalize hwE : wa.setCell ⟨B, 0, none⟩ (.slice Ac (x0.length + 1) cc2) = wE at HF ⊢
            clear hwE
            have hbR : wE.heap[w.heap.size + 1]? = some (.cells #[.slice none 0 0, .slice none 0 0] 36 (0, 0)) := HF.out.K.blk hbr.out (by have := IsS118.lt HI.out; omega) (by simp)
            have hc0 := HF.out.cell0
            have hc1 := HF.out.cell1
            have hbS := blk_set hbR 0 (.slice (some ⟨C, 0, none⟩) l0.length ca)
            have hd0 : wE.cell? ⟨w.heap.size + 1, 0, none⟩ = some (.slice none 0 0) := (blk_cell hbR 0).trans rfl
            have hf0 : wE.frozen? ⟨w.heap.size + 1, 0, none⟩ = false := blk_frozen hbR 0
            have hd1 : (wE.setCell ⟨w.heap.size + 1, 0, none⟩ (.slice (some ⟨C, 0, none⟩) l0.length ca)).cell? ⟨w.heap.size + 1, 1, none⟩ = some (.slice none 0 0) := (blk_cell hbS 1).trans rfl
            have hf1 : (wE.setCell ⟨w.heap.size + 1, 0, none⟩ (.slice (some ⟨C, 0, none⟩) l0.length ca)).frozen? ⟨w.heap.size + 1, 1, none⟩ = false := blk_frozen hbS 1
            have hDn := Aside0.mk (bdone HF.out (we := w) (R := w.heap.size + 1) (by have := hVs.out; omega) hbr.out (KeepBut.of_below hbV.out g none) (Nat.le_succ _) (by have := IsS118.lt HI.out; omega) (by have := HB.out.size; omega))
            clear hbR hbS
            go_wp2_with (fail)
            exact bodyPost_ret (results_cell_row rfl _ _ (w.heap.size + 1) 36 _ (0, 0) _ rfl hDn.out.1 Try.underlying36 rfl (show (Try.prog.info? 36).map (·.size) = some 2 by kernel_rfl)) rfl ⟨_, _, rfl, hDn.out.2⟩
          · rw [if_neg k2] at h
            replace k2 : (c == 2) = false := beq_eq_false_iff_ne.mpr k2
            by_cases k3 : c = 3
            · rw [if_pos k3] at h
              replace k3 : (c == 3) = true := beq_iff_eq.mpr k3
              replace h := Option.bind_eq_some_iff.mp h
              obtain ⟨⟨d, q2⟩, P50, h⟩ := h
              have P50 := Aside0.mk (show spec_l6Rd_pick.f k s0_0 q 6 = some (d, q2) from P50)
              rw [show app0 l1 ⟨2, [], [wrap64 (d - 1)], 0⟩ = l1.set 0 (x0 ++ [⟨2, [], [wrap64 (d - 1)], 0⟩]) from by rw [hx0e.out]; rfl] at h
              simp only [Option.some.injEq, Prod.mk.injEq] at h
              obtain ⟨hr1, hr2, hr3⟩ := h
              subst hr1 hr2 hr3
              go_upto_region 18 with (fail)
              refine start_ (n := 15) (S := fun w' => w'.cell? ⟨D, 1, none⟩ = some (.slice (some ⟨B, 0, none⟩) l1.length cB) ∧ w'.cell? ⟨B, 0, none⟩ = some (.slice Au x0.length cu)) (ds := [14]) #[false, false, false, false, false, false, false, false, false, false, false, false, false, false, false] (by kernel_rfl) rfl rfl ⟨(BG.cell1 (BG.drew HP.out)), (pw_cell_below (below_drew (Below.refl _ _)) hB0)⟩ (fun hHeld => ?_)
              refine pure_ (i := 0) (N := some 82) (v := ?_) (a' := ?_) #[true, false, false, false, false, false, false, false, false, false, false, false, false, false, false] rfl rfl (by kernel_rfl) (fun _ _ _ h => h) (Or.inl ⟨by rfl, ?_⟩) ?_ ?_
              rotate_left
              · intro w'
                go_simp
                with_reducible rfl
              rotate_left
              · simp only [Act.put, List.setIfInBounds_toArray, List.set_cons_zero, List.set_cons_succ, i64_w, i32_w]
                rfl
              refine pure_ (i := 2) (N := some 84) (v := ?_) (a' := ?_) #[true, false, true, false, false, false, false, false, false, false, false, false, false, false, false] rfl rfl (by kernel_rfl) (fun _ _ _ h => h) (Or.inl ⟨by rfl, ?_⟩) ?_ ?_
              rotate_left
              · intro w'
                go_simp
                with_reducible rfl
              rotate_left
              · simp only [Act.put, List.setIfInBounds_toArray, List.set_cons_zero, List.set_cons_succ, i64_w, i32_w]
                rfl
              refine pure_ (i := 6) (N := some 88) (v := ?_) (a' := ?_) #[true, false, true, false, false, false, true, false, false, false, false, false, false, false, false] rfl rfl (by kernel_rfl) (fun _ _ _ h => h) (Or.inl ⟨by rfl, ?_⟩) ?_ ?_
              rotate_left
              · intro w'
                go_simp
                with_reducible rfl
              rotate_left
              · simp only [Act.put, List.setIfInBounds_toArray, List.set_cons_zero, List.set_cons_succ, i64_w, i32_w]
                rfl
              refine take_ (i := 1) (N := some 83) (v := ?_) (a' := ?_) #[true, true, true, false, false, false, true, false, false, false, false, false, false, false, false] rfl rfl (by kernel_rfl) (fun _ _ _ h => h) (Or.inl ⟨by rfl, ?_⟩) hHeld ?_ ?_
              rotate_left
              · rintro w' ⟨s0, s1⟩
                go_simp
                with_reducible rfl
              rotate_left
              · simp only [Act.put, List.setIfInBounds_toArray, List.set_cons_zero, List.set_cons_succ, i64_w, i32_w]
                rfl
              refine take_ (i := 3) (N := some 85) (v := ?_) (a' := ?_) #[true, true, true, true, false, false, true, false, false, false, false, false, false, false, false] rfl rfl (by kernel_rfl) (fun _ _ _ h => h) (Or.inl ⟨by rfl, ?_⟩) hHeld ?_ ?_
              rotate_left
              · rintro w' ⟨s0, s1⟩
                go_simp
                with_reducible rfl
              rotate_left
              · simp only [Act.put, List.setIfInBounds_toArray, List.set_cons_zero, List.set_cons_succ, i64_w, i32_w]
                rfl
              refine pure_ (i := 4) (N := some 86) (v := ?_) (a' := ?_) #[true, true, true, true, true, false, true, false, false, false, false, false, false, false, false] rfl rfl (by kernel_rfl) (fun _ _ _ h => h) (Or.inl ⟨by rfl, ?_⟩) ?_ ?_
              rotate_left
              · intro w'
                go_simp
                with_reducible rfl
              rotate_left
              · simp only [Act.put, List.setIfInBounds_toArray, List.set_cons_zero, List.set_cons_succ, i64_w, i32_w]
                rfl
              refine take_ (i := 5) (N := some 87) (v := ?_) (a' := ?_) #[true, true, true, true, true, true, true, false, false, false, false, false, false, false, false] rfl rfl (by kernel_rfl) (fun _ _ _ h => h) (Or.inl ⟨by rfl, ?_⟩) hHeld ?_ ?_
              rotate_left
              · rintro w' ⟨s0, s1⟩
                go_simp
                with_reducible rfl
              rotate_left
              · simp only [Act.put, List.setIfInBounds_toArray, List.set_cons_zero, List.set_cons_succ, i64_w, i32_w]
                rfl
              refine one_ (i := 7) (N := some 89) #[true, true, true, true, true, true, true, true, false, false, false, false, false, false, false] rfl rfl (by kernel_rfl) (by decide) (fun K hK => ?_)
              refine goes_ Try.func58 (by kernel_rfl) rfl #[.pointer (some ⟨g, 0, none⟩), .int .i64 6] (by rfl) rfl rfl (by simp only [List.map_toArray, List.map_cons, List.map_nil]; rfl) ?_
              with_reducible refine (spec_l6Rd_pick.calls k g s0_0 q 6 d q2 w0 _ (BG.I (BG.drew HP.out)) (BG.B (BG.drew HP.out)) P50.out).mono ?_
              rintro e w50 ⟨rfl, hi0, hb0, hk0⟩
              refine ⟨_, rfl, ?_⟩
              have H50 := Aside0.mk (BG.keep (BG.drew HP.out) hi0 hb0 hk0)
              have hB50 := cell_k hk0 (pw_cell_below (below_drew (Below.refl _ _)) hB0) (BG.gB (BG.drew HP.out))
              refine hK.out _ _ ⟨(BG.cell1 H50.out), hB50⟩ (fun hHeld => ?_)
              clear hK K
              refine norm_ (a' := ?_) ?_ ?_
              rotate_left
              · show Act.put _ (some 89) _ = _
                simp only [Act.put, List.setIfInBounds_toArray, List.set_cons_zero, List.set_cons_succ, i64_w, i32_w]
                rfl
              refine pure_ (i := 8) (N := some 90) (v := ?_) (a' := ?_) #[true, true, true, true, true, true, true, true, true, false, false, false, false, false, false] rfl rfl (by kernel_rfl) (fun _ _ _ h => h) (Or.inl ⟨by rfl, ?_⟩) ?_ ?_
              rotate_left
              · intro w'
                go_simp
                with_reducible rfl
              rotate_left
              · simp only [Act.put, List.setIfInBounds_toArray, List.set_cons_zero, List.set_cons_succ, i64_w, i32_w]
                rfl
              refine one_ (i := 9) (N := some 91) #[true, true, true, true, true, true, true, true, true, true, false, false, false, false, false] rfl rfl (by kernel_rfl) (by decide) (fun K hK => ?_)
              refine value_ (w1 := ?_) (v := ?_) (by rfl) rfl ?_ ?_
              rotate_left 2
              · go_simp
                constructor
                · rfl
                · rfl
              refine hK.out _ _ ⟨(BG.cell1 (BG.alloc H50.out (.cells #[.int .i64 (wrap64 (d - 1))] 3))), (pw_cell_below (below_alloc (Below.refl _ _) _) hB50)⟩ (fun hHeld => ?_)
              clear hK K
              refine norm_ (a' := ?_) ?_ ?_
              rotate_left
              · show Act.put _ (some 91) _ = _
                simp only [Act.put, List.setIfInBounds_toArray, List.set_cons_zero, List.set_cons_succ, i64_w, i32_w]
                rfl
              refine pure_ (i := 10) (N := some 92) (v := ?_) (a' := ?_) #[true, true, true, true, true, true, true, true, true, true, true, false, false, false, false] rfl rfl (by kernel_rfl) (fun _ _ _ h => h) (Or.inl ⟨by rfl, ?_⟩) ?_ ?_
              rotate_left
              · intro w'
                go_simp
                with_reducible rfl
              rotate_left
              · simp only [Act.put, List.setIfInBounds_toArray, List.set_cons_zero, List.set_cons_succ, i64_w, i32_w]
                rfl
              refine one_ (i := 11) (N := some 93) #[true, true, true, true, true, true, true, true, true, true, true, true, false, false, false] rfl rfl (by kernel_rfl) (by decide) (fun K hK => ?_)
              refine value_ (w1 := ?_) (v := ?_) (by rfl) rfl ?_ ?_
              rotate_left 2
              · go_simp
                constructor
                · rfl
                · rfl
              refine hK.out _ _ ⟨(BG.cell1 (BG.alloc (BG.alloc H50.out (.cells #[.int .i64 (wrap64 (d - 1))] 3)) _)), (pw_cell_below (below_alloc (Below.refl _ _) _) (pw_cell_below (below_alloc (Below.refl _ _) _) hB50))⟩ (fun hHeld => ?_)
              clear hK K
              refine norm_ (a' := ?_) ?_ ?_
              rotate_left
              · show Act.put _ (some 93) _ = _
                simp only [Act.put, List.setIfInBounds_toArray, List.set_cons_zero, List.set_cons_succ, i64_w, i32_w]
                rfl
              refine one_ (i := 12) (N := some 94) #[true, true, true, true, true, true, true, true, true, true, true, true, true, false, false] rfl rfl (by kernel_rfl) (by decide) (fun K hK => ?_)
              obtain ⟨oki, hoki, huR, hH, hDu, hBu, hfu⟩ := BG.lendU (BG.alloc H50.out (.cells #[.int .i64 (wrap64 (d - 1))] 3)) hlN (pw_cell_below (below_alloc (Below.refl _ _) _) hB50)
              rw [← hx0e.out] at huR
              have hM : k57.M (w50.alloc (.cells #[.int .i64 (wrap64 (d - 1))] 3)) base (fun k => some k ≠ (Value.slice (some ⟨C, 0, none⟩) l0.length ca).ownBlock) (⟨2, [], [wrap64 (d - 1)], 0⟩ : S57) [.int .i64 2, .slice none 0 0, .slice (some ⟨w50.heap.size, 0, none⟩) 1 1, .int .i64 0] := k57_mkM _ _ _ (⟨2, [], [wrap64 (d - 1)], 0⟩ : S57) (Kd.R_nil _ _ _ _ _) (R_fresh (xs := [wrap64 (d - 1)]) (cs := [.int .i64 (wrap64 (d - 1))]) (heap_alloc_new _ _) (Nat.le_trans Hb2.out (keep_size H50.out.K)) (fun e => by have h1 := Kd.R_lt H50.out.r0 _ e.symm; omega) (by simp [maxLen]) ((Reps.none _ _).snoc (p := wrap64 (d - 1)) (c := [.int .i64 (wrap64 (d - 1))]) rfl rfl))
              have hv0lt := Kd.R_lt (BG.r0 (BG.alloc H50.out (.cells #[.int .i64 (wrap64 (d - 1))] 3)))
              refine Kd.R_append_step (w0 := (w50.alloc (.cells #[.int .i64 (wrap64 (d - 1))] 3))) (kz (k57.M (w50.alloc (.cells #[.int .i64 (wrap64 (d - 1))] 3)) base (fun k => some k ≠ (Value.slice (some ⟨C, 0, none⟩) l0.length ca).ownBlock))) V.heap.size (by rfl) (.tmp 87) (.tmp 93) 54 57 (.agg #[.int .i64 0, .slice none 0 0, .slice none 0 0, .int .i64 0]) 64 (by rfl) Try.underlying54 (by kernel_rfl) (by rfl) (show (0 : Nat) < 4 by decide) (by decide) (.slice Au x0.length cu) x0 (⟨2, [], [wrap64 (d - 1)], 0⟩ : S57) [.int .i64 2, .slice none 0 0, .slice (some ⟨w50.heap.size, 0, none⟩) 1 1, .int .i64 0] (fun k => oki k ∨ some k ≠ (Value.slice (some ⟨C, 0, none⟩) l0.length ca).ownBlock ∧ (w50.alloc (.cells #[.int .i64 (wrap64 (d - 1))] 3)).heap.size ≤ k) (fun _ => False) (by rfl) (by first | rfl | (go_simp; done) | (simp; done)) (kz_mk hM hM) (fun _ hk => hk.elim) (fun k hk => .inr ⟨fun e => by have h1 := hv0lt k e.symm; omega, hk⟩) (Kd.R_mono huR (fun _ hk => .inl hk)) (Below.refl _ _) (keep_size (BG.K (BG.alloc H50.out (.cells #[.int .i64 (wrap64 (d - 1))] 3)))) (by have h1 := hx0.out; omega) ?_
              intro va wa hra hba hga hata
              obtain ⟨Ac, cc2, hva⟩ := Kd.R_slice hra
              subst hva
              have HA := Aside0.mk (BG.app0 (BG.alloc H50.out (.cells #[.int .i64 (wrap64 (d - 1))] 3)) hlN hoki huR hH hra hba hga)
              have hcB : wa.cell? ⟨B, 0, none⟩ = some (.slice Au x0.length cu) := cell_g hga (pw_cell_below (below_alloc (Below.refl _ _) _) hB50) hBu
              have hcD : wa.cell? ⟨D, 1, none⟩ = some (.slice (some ⟨B, 0, none⟩) l1.length cB) := cell_g hga (BG.cell1 (BG.alloc H50.out (.cells #[.int .i64 (wrap64 (d - 1))] 3))) hDu
              have hfB := hfu _ hga
              refine hK.out _ _ ⟨hcD, hcB⟩ (fun hHeld => ?_)
              clear hK K
              refine norm_ (a' := ?_) ?_ ?_
              rotate_left
              · show Act.put _ (some 94) _ = _
                simp only [Act.put, List.setIfInBounds_toArray, List.set_cons_zero, List.set_cons_succ, i64_w, i32_w]
                rfl
              refine pure_ (i := 13) (N := some 95) (v := ?_) (a' := ?_) #[true, true, true, true, true, true, true, true, true, true, true, true, true, true, false] rfl rfl (by kernel_rfl) (fun _ _ _ h => h) (Or.inl ⟨by rfl, ?_⟩) ?_ ?_
              rotate_left
              · intro w'
                go_simp
                with_reducible rfl
              rotate_left
              · simp only [Act.put, List.setIfInBounds_toArray, List.set_cons_zero, List.set_cons_succ, i64_w, i32_w]
                rfl
              refine last_ (i := 14) (N := none) #[true, true, true, true, true, true, true, true, true, true, true, true, true, true, true] rfl rfl (by kernel_rfl) (by decide) (fun K hK => ?_)
              refine skip_ (w1 := ?_) (by rfl) rfl ?_ ?_
              rotate_left
              · go_simp
                rfl
              refine hK.out _ _ ?_
              clear hK K
              refine done_ (by kernel_rfl) ?_
              have HF := Aside0.mk (FG.done (BG.fin HA.out))
              simp only [List.length_append, List.length_cons, List.length_nil, Nat.zero_add] at HF
              clear hcB hcD hfB HP HA hra hba hga hata
              generalize hwE : wa.setCell ⟨B, 0, none⟩ (.slice Ac (x0.length + 1) cc2) = wE at HF ⊢
              clear hwE
              have hbR : wE.heap[w.heap.size + 1]? = some (.cells #[.slice none 0 0, .slice none 0 0] 36 (0, 0)) := HF.out.K.blk hbr.out (by have := IsS118.lt HI.out; omega) (by simp)
              have hc0 := HF.out.cell0
              have hc1 := HF.out.cell1
              have hbS := blk_set hbR 0 (.slice (some ⟨C, 0, none⟩) l0.length ca)
              have hd0 : wE.cell? ⟨w.heap.size + 1, 0, none⟩ = some (.slice none 0 0) := (blk_cell hbR 0).trans rfl
              have hf0 : wE.frozen? ⟨w.heap.size + 1, 0, none⟩ = false := blk_frozen hbR 0
              have hd1 : (wE.setCell ⟨w.heap.size + 1, 0, none⟩ (.slice (some ⟨C, 0, none⟩) l0.length ca)).cell? ⟨w.heap.size + 1, 1, none⟩ = some (.slice none 0 0) := (blk_cell hbS 1).trans rfl
              have hf1 : (wE.setCell ⟨w.heap.size + 1, 0, none⟩ (.slice (some ⟨C, 0, none⟩) l0.length ca)).frozen? ⟨w.heap.size + 1, 1, none⟩ = false := blk_frozen hbS 1
              have hDn := Aside0.mk (bdone HF.out (we := w) (R := w.heap.size + 1) (by have := hVs.out; omega) hbr.out (KeepBut.of_below hbV.out g none) (Nat.le_succ _) (by have := IsS118.lt HI.out; omega) (by have := HB.out.size; omega))
              clear hbR hbS
              go_wp2_with (fail)
              exact bodyPost_ret (results_cell_row rfl _ _ (w.heap.size + 1) 36 _ (0, 0) _ rfl hDn.out.1 Try.underlying36 rfl (show (Try.prog.info? 36).map (·.size) = some 2 by kernel_rfl)) rfl ⟨_, _, rfl, hDn.out.2⟩
            · rw [if_neg k3] at h
              replace k3 : (c == 3) = false := beq_eq_false_iff_ne.mpr k3
              by_cases k4 : c = 4
              · rw [if_pos k4] at h
                replace k4 : (c == 4) = true := beq_iff_eq.mpr k4
                replace h := Option.bind_eq_some_iff.mp h
                obtain ⟨⟨da, q2⟩, P50, h⟩ := h
                replace h := Option.bind_eq_some_iff.mp h
                obtain ⟨⟨db, q3⟩, P51, h⟩ := h
                replace h := Option.bind_eq_some_iff.mp h
                obtain ⟨⟨dc, q4⟩, P52, h⟩ := h
                have P50 := Aside0.mk (show spec_l6Rd_pick.f k s0_0 q 7 = some (da, q2) from P50)
                have P51 := Aside0.mk (show spec_l6Rd_pick.f k s0_0 q2 5 = some (db, q3) from P51)
                have P52 := Aside0.mk (show spec_l6Rd_pick.f k s0_0 q3 5 = some (dc, q4) from P52)
                rw [show app0 l1 ⟨1, [⟨da, wrap64 (db - 1), wrap64 (dc - 1)⟩], [], 0⟩ = l1.set 0 (x0 ++ [⟨1, [⟨da, wrap64 (db - 1), wrap64 (dc - 1)⟩], [], 0⟩]) from by rw [hx0e.out]; rfl] at h
                simp only [Option.some.injEq, Prod.mk.injEq] at h
                obtain ⟨hr1, hr2, hr3⟩ := h
                subst hr1 hr2 hr3
                go_upto_region 20 with (fail)
                refine start_ (n := 21) (S := fun w' => w'.cell? ⟨D, 1, none⟩ = some (.slice (some ⟨B, 0, none⟩) l1.length cB) ∧ w'.cell? ⟨B, 0, none⟩ = some (.slice Au x0.length cu)) (ds := [20]) #[false, false, false, false, false, false, false, false, false, false, false, false, false, false, false, false, false, false, false, false, false] (by kernel_rfl) rfl rfl ⟨(BG.cell1 (BG.drew HP.out)), (pw_cell_below (below_drew (Below.refl _ _)) hB0)⟩ (fun hHeld => ?_)
                refine pure_ (i := 0) (N := some 98) (v := ?_) (a' := ?_) #[true, false, false, false, false, false, false, false, false, false, false, false, false, false, false, false, false, false, false, false, false] rfl rfl (by kernel_rfl) (fun _ _ _ h => h) (Or.inl ⟨by rfl, ?_⟩) ?_ ?_
                rotate_left
                · intro w'
                  go_simp
                  with_reducible rfl
                rotate_left
                · simp only [Act.put, List.setIfInBounds_toArray, List.set_cons_zero, List.set_cons_succ, i64_w, i32_w]
                  rfl
                refine pure_ (i := 2) (N := some 100) (v := ?_) (a' := ?_) #[true, false, true, false, false, false, false, false, false, false, false, false, false, false, false, false, false, false, false, false, false] rfl rfl (by kernel_rfl) (fun _ _ _ h => h) (Or.inl ⟨by rfl, ?_⟩) ?_ ?_
                rotate_left
                · intro w'
                  go_simp
                  with_reducible rfl
                rotate_left
                · simp only [Act.put, List.setIfInBounds_toArray, List.set_cons_zero, List.set_cons_succ, i64_w, i32_w]
                  rfl
                refine pure_ (i := 6) (N := some 104) (v := ?_) (a' := ?_) #[true, false, true, false, false, false, true, false, false, false, false, false, false, false, false, false, false, false, false, false, false] rfl rfl (by kernel_rfl) (fun _ _ _ h => h) (Or.inl ⟨by rfl, ?_⟩) ?_ ?_
                rotate_left
                · intro w'
                  go_simp
                  with_reducible rfl
                rotate_left
                · simp only [Act.put, List.setIfInBounds_toArray, List.set_cons_zero, List.set_cons_succ, i64_w, i32_w]
                  rfl
                refine pure_ (i := 8) (N := some 106) (v := ?_) (a' := ?_) #[true, false, true, false, false, false, true, false, true, false, false, false, false, false, false, false, false, false, false, false, false] rfl rfl (by kernel_rfl) (fun _ _ _ h => h) (Or.inl ⟨by rfl, ?_⟩) ?_ ?_
                rotate_left
                · intro w'
                  go_simp
                  with_reducible rfl
                rotate_left
                · simp only [Act.put, List.setIfInBounds_toArray, List.set_cons_zero, List.set_cons_succ, i64_w, i32_w]
                  rfl
                refine pure_ (i := 11) (N := some 109) (v := ?_) (a' := ?_) #[true, false, true, false, false, false, true, false, true, false, false, true, false, false, false, false, false, false, false, false, false] rfl rfl (by kernel_rfl) (fun _ _ _ h => h) (Or.inl ⟨by rfl, ?_⟩) ?_ ?_
                rotate_left
                · intro w'
                  go_simp
                  with_reducible rfl
                rotate_left
                · simp only [Act.put, List.setIfInBounds_toArray, List.set_cons_zero, List.set_cons_succ, i64_w, i32_w]
                  rfl
                refine take_ (i := 1) (N := some 99) (v := ?_) (a' := ?_) #[true, true, true, false, false, false, true, false, true, false, false, true, false, false, false, false, false, false, false, false, false] rfl rfl (by kernel_rfl) (fun _ _ _ h => h) (Or.inl ⟨by rfl, ?_⟩) hHeld ?_ ?_
                rotate_left
                · rintro w' ⟨s0, s1⟩
                  go_simp
                  with_reducible rfl
                rotate_left
                · simp only [Act.put, List.setIfInBounds_toArray, List.set_cons_zero, List.set_cons_succ, i64_w, i32_w]
                  rfl
                refine take_ (i := 3) (N := some 101) (v := ?_) (a' := ?_) #[true, true, true, true, false, false, true, false, true, false, false, true, false, false, false, false, false, false, false, false, false] rfl rfl (by kernel_rfl) (fun _ _ _ h => h) (Or.inl ⟨by rfl, ?_⟩) hHeld ?_ ?_
                rotate_left
                · rintro w' ⟨s0, s1⟩
                  go_simp
                  with_reducible rfl
                rotate_left
                · simp only [Act.put, List.setIfInBounds_toArray, List.set_cons_zero, List.set_cons_succ, i64_w, i32_w]
                  rfl
                refine pure_ (i := 4) (N := some 102) (v := ?_) (a' := ?_) #[true, true, true, true, true, false, true, false, true, false, false, true, false, false, false, false, false, false, false, false, false] rfl rfl (by kernel_rfl) (fun _ _ _ h => h) (Or.inl ⟨by rfl, ?_⟩) ?_ ?_
                rotate_left
                · intro w'
                  go_simp
                  with_reducible rfl
                rotate_left
                · simp only [Act.put, List.setIfInBounds_toArray, List.set_cons_zero, List.set_cons_succ, i64_w, i32_w]
                  rfl
                refine take_ (i := 5) (N := some 103) (v := ?_) (a' := ?_) #[true, true, true, true, true, true, true, false, true, false, false, true, false, false, false, false, false, false, false, false, false] rfl rfl (by kernel_rfl) (fun _ _ _ h => h) (Or.inl ⟨by rfl, ?_⟩) hHeld ?_ ?_
                rotate_left
                · rintro w' ⟨s0, s1⟩
                  go_simp
                  with_reducible rfl
                rotate_left
                · simp only [Act.put, List.setIfInBounds_toArray, List.set_cons_zero, List.set_cons_succ, i64_w, i32_w]
                  rfl
                refine one_ (i := 7) (N := some 105) #[true, true, true, true, true, true, true, true, true, false, false, true, false, false, false, false, false, false, false, false, false] rfl rfl (by kernel_rfl) (by decide) (fun K hK => ?_)
                refine goes_ Try.func58 (by kernel_rfl) rfl #[.pointer (some ⟨g, 0, none⟩), .int .i64 7] (by rfl) rfl rfl (by simp only [List.map_toArray, List.map_cons, List.map_nil]; rfl) ?_
                with_reducible refine (spec_l6Rd_pick.calls k g s0_0 q 7 da q2 w0 _ (BG.I (BG.drew HP.out)) (BG.B (BG.drew HP.out)) P50.out).mono ?_
                rintro e w50 ⟨rfl, hi0, hb0, hk0⟩
                refine ⟨_, rfl, ?_⟩
                have H50 := Aside0.mk (BG.keep (BG.drew HP.out) hi0 hb0 hk0)
                have hB50 := cell_k hk0 (pw_cell_below (below_drew (Below.refl _ _)) hB0) (BG.gB (BG.drew HP.out))
                refine hK.out _ _ ⟨(BG.cell1 H50.out), hB50⟩ (fun hHeld => ?_)
                clear hK K
                refine norm_ (a' := ?_) ?_ ?_
                rotate_left
                · show Act.put _ (some 105) _ = _
                  simp only [Act.put, List.setIfInBounds_toArray, List.set_cons_zero, List.set_cons_succ, i64_w, i32_w]
                  rfl
                refine one_ (i := 9) (N := some 107) #[true, true, true, true, true, true, true, true, true, true, false, true, false, false, false, false, false, false, false, false, false] rfl rfl (by kernel_rfl) (by decide) (fun K hK => ?_)
                refine goes_ Try.func58 (by kernel_rfl) rfl #[.pointer (some ⟨g, 0, none⟩), .int .i64 5] (by rfl) rfl rfl (by simp only [List.map_toArray, List.map_cons, List.map_nil]; rfl) ?_
                with_reducible refine (spec_l6Rd_pick.calls k g s0_0 q2 5 db q3 w0 _ (BG.I H50.out) (BG.B H50.out) P51.out).mono ?_
                rintro e w51 ⟨rfl, hi1, hb1, hk1⟩
                refine ⟨_, rfl, ?_⟩
                have H51 := Aside0.mk (BG.keep H50.out hi1 hb1 hk1)
                have hB51 := cell_k hk1 hB50 (BG.gB H50.out)
                refine hK.out _ _ ⟨(BG.cell1 H51.out), hB51⟩ (fun hHeld => ?_)
                clear hK K
                refine norm_ (a' := ?_) ?_ ?_
                rotate_left
                · show Act.put _ (some 107) _ = _
                  simp only [Act.put, List.setIfInBounds_toArray, List.set_cons_zero, List.set_cons_succ, i64_w, i32_w]
                  rfl
                refine pure_ (i := 10) (N := some 108) (v := ?_) (a' := ?_) #[true, true, true, true, true, true, true, true, true, true, true, true, false, false, false, false, false, false, false, false, false] rfl rfl (by kernel_rfl) (fun _ _ _ h => h) (Or.inl ⟨by rfl, ?_⟩) ?_ ?_
                rotate_left
                · intro w'
                  go_simp
                  with_reducible rfl
                rotate_left
                · simp only [Act.put, List.setIfInBounds_toArray, List.set_cons_zero, List.set_cons_succ, i64_w, i32_w]
                  rfl
                refine one_ (i := 12) (N := some 110) #[true, true, true, true, true, true, true, true, true, true, true, true, true, false, false, false, false, false, false, false, false] rfl rfl (by kernel_rfl) (by decide) (fun K hK => ?_)
                refine goes_ Try.func58 (by kernel_rfl) rfl #[.pointer (some ⟨g, 0, none⟩), .int .i64 5] (by rfl) rfl rfl (by simp only [List.map_toArray, List.map_cons, List.map_nil]; rfl) ?_
                with_reducible refine (spec_l6Rd_pick.calls k g s0_0 q3 5 dc q4 w0 _ (BG.I H51.out) (BG.B H51.out) P52.out).mono ?_
                rintro e w52 ⟨rfl, hi2, hb2, hk2⟩
                refine ⟨_, rfl, ?_⟩
                have H52 := Aside0.mk (BG.keep H51.out hi2 hb2 hk2)
                have hB52 := cell_k hk2 hB51 (BG.gB H51.out)
                refine hK.out _ _ ⟨(BG.cell1 H52.out), hB52⟩ (fun hHeld => ?_)
                clear hK K
                refine norm_ (a' := ?_) ?_ ?_
                rotate_left
                · show Act.put _ (some 110) _ = _
                  simp only [Act.put, List.setIfInBounds_toArray, List.set_cons_zero, List.set_cons_succ, i64_w, i32_w]
                  rfl
                refine pure_ (i := 13) (N := some 111) (v := ?_) (a' := ?_) #[true, true, true, true, true, true, true, true, true, true, true, true, true, true, false, false, false, false, false, false, false] rfl rfl (by kernel_rfl) (fun _ _ _ h => h) (Or.inl ⟨by rfl, ?_⟩) ?_ ?_
                rotate_left
                · intro w'
                  go_simp
                  with_reducible rfl
                rotate_left
                · simp only [Act.put, List.setIfInBounds_toArray, List.set_cons_zero, List.set_cons_succ, i64_w, i32_w]
                  rfl
                refine pure_ (i := 14) (N := some 112) (v := ?_) (a' := ?_) #[true, true, true, true, true, true, true, true, true, true, true, true, true, true, true, false, false, false, false, false, false] rfl rfl (by kernel_rfl) (fun _ _ _ h => h) (Or.inl ⟨by rfl, ?_⟩) ?_ ?_
                rotate_left
                · intro w'
                  go_simp
                  with_reducible rfl
                rotate_left
                · simp only [Act.put, List.setIfInBounds_toArray, List.set_cons_zero, List.set_cons_succ, i64_w, i32_w]
                  rfl
                refine one_ (i := 15) (N := some 113) #[true, true, true, true, true, true, true, true, true, true, true, true, true, true, true, true, false, false, false, false, false] rfl rfl (by kernel_rfl) (by decide) (fun K hK => ?_)
                refine value_ (w1 := ?_) (v := ?_) (by rfl) rfl ?_ ?_
                rotate_left 2
                · go_simp
                  constructor
                  · rfl
                  · rfl
                refine hK.out _ _ ⟨(BG.cell1 (BG.alloc H52.out (.cells #[.int .i64 da, .int .i64 (wrap64 (db - 1)), .int .i64 (wrap64 (dc - 1))] 122))), (pw_cell_below (below_alloc (Below.refl _ _) _) hB52)⟩ (fun hHeld => ?_)
                clear hK K
                refine norm_ (a' := ?_) ?_ ?_
                rotate_left
                · show Act.put _ (some 113) _ = _
                  simp only [Act.put, List.setIfInBounds_toArray, List.set_cons_zero, List.set_cons_succ, i64_w, i32_w]
                  rfl
                refine pure_ (i := 16) (N := some 114) (v := ?_) (a' := ?_) #[true, true, true, true, true, true, true, true, true, true, true, true, true, true, true, true, true, false, false, false, false] rfl rfl (by kernel_rfl) (fun _ _ _ h => h) (Or.inl ⟨by rfl, ?_⟩) ?_ ?_
                rotate_left
                · intro w'
                  go_simp
                  with_reducible rfl
                rotate_left
                · simp only [Act.put, List.setIfInBounds_toArray, List.set_cons_zero, List.set_cons_succ, i64_w, i32_w]
                  rfl
                refine one_ (i := 17) (N := some 115) #[true, true, true, true, true, true, true, true, true, true, true, true, true, true, true, true, true, true, false, false, false] rfl rfl (by kernel_rfl) (by decide) (fun K hK => ?_)
                refine value_ (w1 := ?_) (v := ?_) (by rfl) rfl ?_ ?_
                rotate_left 2
                · go_simp
                  constructor
                  · rfl
                  · rfl
                refine hK.out _ _ ⟨(BG.cell1 (BG.alloc (BG.alloc H52.out (.cells #[.int .i64 da, .int .i64 (wrap64 (db - 1)), .int .i64 (wrap64 (dc - 1))] 122)) _)), (pw_cell_below (below_alloc (Below.refl _ _) _) (pw_cell_below (below_alloc (Below.refl _ _) _) hB52))⟩ (fun hHeld => ?_)
                clear hK K
                refine norm_ (a' := ?_) ?_ ?_
                rotate_left
                · show Act.put _ (some 115) _ = _
                  simp only [Act.put, List.setIfInBounds_toArray, List.set_cons_zero, List.set_cons_succ, i64_w, i32_w]
                  rfl
                refine one_ (i := 18) (N := some 116) #[true, true, true, true, true, true, true, true, true, true, true, true, true, true, true, true, true, true, true, false, false] rfl rfl (by kernel_rfl) (by decide) (fun K hK => ?_)
                obtain ⟨oki, hoki, huR, hH, hDu, hBu, hfu⟩ := BG.lendU (BG.alloc H52.out (.cells #[.int .i64 da, .int .i64 (wrap64 (db - 1)), .int .i64 (wrap64 (dc - 1))] 122)) hlN (pw_cell_below (below_alloc (Below.refl _ _) _) hB52)
                rw [← hx0e.out] at huR
                have hM : k57.M (w52.alloc (.cells #[.int .i64 da, .int .i64 (wrap64 (db - 1)), .int .i64 (wrap64 (dc - 1))] 122)) base (fun k => some k ≠ (Value.slice (some ⟨C, 0, none⟩) l0.length ca).ownBlock) (⟨1, [⟨da, wrap64 (db - 1), wrap64 (dc - 1)⟩], [], 0⟩ : S57) [.int .i64 1, .slice (some ⟨w52.heap.size, 0, none⟩) 1 1, .slice none 0 0, .int .i64 0] := k57_mkM _ _ _ (⟨1, [⟨da, wrap64 (db - 1), wrap64 (dc - 1)⟩], [], 0⟩ : S57) (R_fresh (xs := ([⟨da, wrap64 (db - 1), wrap64 (dc - 1)⟩] : List S122)) (cs := [.int .i64 da, .int .i64 (wrap64 (db - 1)), .int .i64 (wrap64 (dc - 1))]) (heap_alloc_new _ _) (Nat.le_trans Hb2.out (keep_size H52.out.K)) (fun e => by have h1 := Kd.R_lt H52.out.r0 _ e.symm; omega) (by simp [maxLen]) ((Reps.none _ _).snoc (k122_mkM _ _ _ ⟨da, wrap64 (db - 1), wrap64 (dc - 1)⟩) rfl)) (Kd.R_nil _ _ _ _ _)
                have hv0lt := Kd.R_lt (BG.r0 (BG.alloc H52.out (.cells #[.int .i64 da, .int .i64 (wrap64 (db - 1)), .int .i64 (wrap64 (dc - 1))] 122)))
                refine Kd.R_append_step (w0 := (w52.alloc (.cells #[.int .i64 da, .int .i64 (wrap64 (db - 1)), .int .i64 (wrap64 (dc - 1))] 122))) (kz (k57.M (w52.alloc (.cells #[.int .i64 da, .int .i64 (wrap64 (db - 1)), .int .i64 (wrap64 (dc - 1))] 122)) base (fun k => some k ≠ (Value.slice (some ⟨C, 0, none⟩) l0.length ca).ownBlock))) V.heap.size (by rfl) (.tmp 103) (.tmp 115) 54 57 (.agg #[.int .i64 0, .slice none 0 0, .slice none 0 0, .int .i64 0]) 64 (by rfl) Try.underlying54 (by kernel_rfl) (by rfl) (show (0 : Nat) < 4 by decide) (by decide) (.slice Au x0.length cu) x0 (⟨1, [⟨da, wrap64 (db - 1), wrap64 (dc - 1)⟩], [], 0⟩ : S57) [.int .i64 1, .slice (some ⟨w52.heap.size, 0, none⟩) 1 1, .slice none 0 0, .int .i64 0] (fun k => oki k ∨ some k ≠ (Value.slice (some ⟨C, 0, none⟩) l0.length ca).ownBlock ∧ (w52.alloc (.cells #[.int .i64 da, .int .i64 (wrap64 (db - 1)), .int .i64 (wrap64 (dc - 1))] 122)).heap.size ≤ k) (fun _ => False) (by rfl) (by first | rfl | (go_simp; done) | (simp; done)) (kz_mk hM hM) (fun _ hk => hk.elim) (fun k hk => .inr ⟨fun e => by have h1 := hv0lt k e.symm; omega, hk⟩) (Kd.R_mono huR (fun _ hk => .inl hk)) (Below.refl _ _) (keep_size (BG.K (BG.alloc H52.out (.cells #[.int .i64 da, .int .i64 (wrap64 (db - 1)), .int .i64 (wrap64 (dc - 1))] 122)))) (by have h1 := hx0.out; omega) ?_
                intro va wa hra hba hga hata
                obtain ⟨Ac, cc2, hva⟩ := Kd.R_slice hra
                subst hva
                have HA := Aside0.mk (BG.app0 (BG.alloc H52.out (.cells #[.int .i64 da, .int .i64 (wrap64 (db - 1)), .int .i64 (wrap64 (dc - 1))] 122)) hlN hoki huR hH hra hba hga)
                have hcB : wa.cell? ⟨B, 0, none⟩ = some (.slice Au x0.length cu) := cell_g hga (pw_cell_below (below_alloc (Below.refl _ _) _) hB52) hBu
                have hcD : wa.cell? ⟨D, 1, none⟩ = some (.slice (some ⟨B, 0, none⟩) l1.length cB) := cell_g hga (BG.cell1 (BG.alloc H52.out (.cells #[.int .i64 da, .int .i64 (wrap64 (db - 1)), .int .i64 (wrap64 (dc - 1))] 122))) hDu
                have hfB := hfu _ hga
                refine hK.out _ _ ⟨hcD, hcB⟩ (fun hHeld => ?_)
                clear hK K
                refine norm_ (a' := ?_) ?_ ?_
                rotate_left
                · show Act.put _ (some 116) _ = _
                  simp only [Act.put, List.setIfInBounds_toArray, List.set_cons_zero, List.set_cons_succ, i64_w, i32_w]
                  rfl
                refine pure_ (i := 19) (N := some 117) (v := ?_) (a' := ?_) #[true, true, true, true, true, true, true, true, true, true, true, true, true, true, true, true, true, true, true, true, false] rfl rfl (by kernel_rfl) (fun _ _ _ h => h) (Or.inl ⟨by rfl, ?_⟩) ?_ ?_
                rotate_left
                · intro w'
                  go_simp
                  with_reducible rfl
                rotate_left
                · simp only [Act.put, List.setIfInBounds_toArray, List.set_cons_zero, List.set_cons_succ, i64_w, i32_w]
                  rfl
                refine last_ (i := 20) (N := none) #[true, true, true, true, true, true, true, true, true, true, true, true, true, true, true, true, true, true, true, true, true] rfl rfl (by kernel_rfl) (by decide) (fun K hK => ?_)
                refine skip_ (w1 := ?_) (by rfl) rfl ?_ ?_
                rotate_left
                · go_simp
                  rfl
                refine hK.out _ _ ?_
                clear hK K
                refine done_ (by kernel_rfl) ?_
                have HF := Aside0.mk (FG.done (BG.fin HA.out))
                simp only [List.length_append, List.length_cons, List.length_nil, Nat.zero_add] at HF
                clear hcB hcD hfB HP HA hra hba hga hata
                generalize hwE : wa.setCell ⟨B, 0, none⟩ (.slice Ac (x0.length + 1) cc2) = wE at HF ⊢
                clear hwE
                have hbR : wE.heap[w.heap.size + 1]? = some (.cells #[.slice none 0 0, .slice none 0 0] 36 (0, 0)) := HF.out.K.blk hbr.out (by have := IsS118.lt HI.out; omega) (by simp)
                have hc0 := HF.out.cell0
                have hc1 := HF.out.cell1
                have hbS := blk_set hbR 0 (.slice (some ⟨C, 0, none⟩) l0.length ca)
                have hd0 : wE.cell? ⟨w.heap.size + 1, 0, none⟩ = some (.slice none 0 0) := (blk_cell hbR 0).trans rfl
                have hf0 : wE.frozen? ⟨w.heap.size + 1, 0, none⟩ = false := blk_frozen hbR 0
                have hd1 : (wE.setCell ⟨w.heap.size + 1, 0, none⟩ (.slice (some ⟨C, 0, none⟩) l0.length ca)).cell? ⟨w.heap.size + 1, 1, none⟩ = some (.slice none 0 0) := (blk_cell hbS 1).trans rfl
                have hf1 : (wE.setCell ⟨w.heap.size + 1, 0, none⟩ (.slice (some ⟨C, 0, none⟩) l0.length ca)).frozen? ⟨w.heap.size + 1, 1, none⟩ = false := blk_frozen hbS 1
                have hDn := Aside0.mk (bdone HF.out (we := w) (R := w.heap.size + 1) (by have := hVs.out; omega) hbr.out (KeepBut.of_below hbV.out g none) (Nat.le_succ _) (by have := IsS118.lt HI.out; omega) (by have := HB.out.size; omega))
                clear hbR hbS
                go_wp2_with (fail)
                exact bodyPost_ret (results_cell_row rfl _ _ (w.heap.size + 1) 36 _ (0, 0) _ rfl hDn.out.1 Try.underlying36 rfl (show (Try.prog.info? 36).map (·.size) = some 2 by kernel_rfl)) rfl ⟨_, _, rfl, hDn.out.2⟩
              · rw [if_neg k4] at h
                replace k4 : (c == 4) = false := beq_eq_false_iff_ne.mpr k4
                by_cases k5 : c = 5
                · rw [if_pos k5] at h
                  replace k5 : (c == 5) = true := beq_iff_eq.mpr k5
                  simp only [Option.some.injEq, Prod.mk.injEq] at h
                  obtain ⟨hr1, hr2, hr3⟩ := h
                  subst hr1 hr2 hr3
                  have HF0 := Aside0.mk (FG.alloc (FG.alloc (FG.alloc (FG.alloc (BG.fin HP.out) (.cells #[] 57)) (.cells #[] 57)) (.cells #[] 57)) (.cells #[.slice (some ⟨wp.heap.size, 0, none⟩) 0 0, .slice (some ⟨wp.heap.size + 1, 0, none⟩) 0 0, .slice (some ⟨wp.heap.size + 1 + 1, 0, none⟩) 0 0] 54))
                  have hbp2 : base ≤ wp.heap.size := Nat.le_trans Hb2.out (keep_size HP.out.K)
                  have hl3 := three_r1 wp base hbp2
                  obtain ⟨A3, c3, he3, _, hl3⟩ := OwnRow.reads hl3.2
                  injection he3 with he3 _ he4
                  subst he3 he4
                  have hl3 := Aside0.mk hl3
                  have hv1lt := Kd.S_lt (BG.r1 HP.out)
                  have hv1lt := Aside0.mk hv1lt
                  have hv0lt := Aside0.mk (Kd.R_lt (BG.r0 HP.out))
                  replace hbp2 := Aside0.mk hbp2
                  have hcp0 := BG.cell1 HP.out
                  clear HP
                  go_wp2_with (at_builtin; refine Kd.R_append_rows (Rr := (Kd.slice 57 k57).M ((((wp.alloc (.cells #[] 57)).alloc (.cells #[] 57)).alloc (.cells #[] 57)).alloc (.cells #[.slice (some ⟨wp.heap.size, 0, none⟩) 0 0, .slice (some ⟨wp.heap.size + 1, 0, none⟩) 0 0, .slice (some ⟨wp.heap.size + 1 + 1, 0, none⟩) 0 0] 54)) base (fun k => wp.heap.size ≤ k ∧ some k ≠ (Value.slice (some ⟨wp.heap.size + 1 + 1 + 1, 0, none⟩) 3 3).ownBlock)) (w0 := ((((wp.alloc (.cells #[] 57)).alloc (.cells #[] 57)).alloc (.cells #[] 57)).alloc (.cells #[.slice (some ⟨wp.heap.size, 0, none⟩) 0 0, .slice (some ⟨wp.heap.size + 1, 0, none⟩) 0 0, .slice (some ⟨wp.heap.size + 1 + 1, 0, none⟩) 0 0] 54))) (Kd.slice 57 k57) base rfl _ _ 34 54 (.slice none 0 0) 24 rfl Try.underlying34 (by kernel_rfl) rfl (by decide) (by decide) (.slice (some ⟨B, 0, none⟩) l1.length cB) l1 [[], [], []] (some ⟨wp.heap.size + 1 + 1 + 1, 0, none⟩) 3 3 (fun k => some k ≠ (Value.slice (some ⟨C, 0, none⟩) l0.length ca).ownBlock) (fun k => wp.heap.size ≤ k) rfl rfl HF0.out.r1 hl3.out (fun x cs h => (Kd.slice 57 k57).M_mono (fun k hk => hk.1) h) (fun k hk => ⟨fun e => by have := hv0lt.out k e.symm; omega, fun e => by have := hv1lt.out k e.symm; omega⟩) (fun k hk e => Nat.lt_irrefl _ (Nat.lt_of_lt_of_le (Kd.R_lt HF0.out.r0 k e.symm) hk)) (Below.refl _ _) (Nat.le_trans Hb2.out (keep_size HF0.out.K)) (by have := hok.out.2.1; omega) ?_)
                  intro va wa hra hba hga hata
                  obtain ⟨Ac, cc2, hva⟩ := Kd.R_slice hra
                  subst hva
                  have hcA : wa.cell? ⟨D, 1, none⟩ = some (.slice (some ⟨B, 0, none⟩) l1.length cB) := (blk_cell (FG.grow1 HF0.out hga) 1).trans rfl
                  have hfA : wa.frozen? ⟨D, 1, none⟩ = false := blk_frozen (FG.grow1 HF0.out hga) 1
                  have HF := Aside0.mk (FG.push1 HF0.out hra (below_of_grown hga HF0.out.nv (keep_size HF0.out.K)) hga)
                  have e3 : (l1 ++ [[], [], []] : List (List S57)).length = l1.length + 3 := by simp
                  rw [e3] at HF
                  clear e3
                  clear hra hba hga hata HF0 hl3 hcp0
                  have hbR : (wa.setCell ⟨D, 1, none⟩ (.slice Ac (l1.length + 3) cc2)).heap[w.heap.size + 1]? = some (.cells #[.slice none 0 0, .slice none 0 0] 36 (0, 0)) := HF.out.K.blk hbr.out (by have := IsS118.lt HI.out; omega) (by simp)
                  have hc0 := HF.out.cell0
                  have hc1 := HF.out.cell1
                  have hbS := blk_set hbR 0 (.slice (some ⟨C, 0, none⟩) l0.length ca)
                  have hd0 : (wa.setCell ⟨D, 1, none⟩ (.slice Ac (l1.length + 3) cc2)).cell? ⟨w.heap.size + 1, 0, none⟩ = some (.slice none 0 0) := (blk_cell hbR 0).trans rfl
                  have hf0 : (wa.setCell ⟨D, 1, none⟩ (.slice Ac (l1.length + 3) cc2)).frozen? ⟨w.heap.size + 1, 0, none⟩ = false := blk_frozen hbR 0
                  have hd1 : ((wa.setCell ⟨D, 1, none⟩ (.slice Ac (l1.length + 3) cc2)).setCell ⟨w.heap.size + 1, 0, none⟩ (.slice (some ⟨C, 0, none⟩) l0.length ca)).cell? ⟨w.heap.size + 1, 1, none⟩ = some (.slice none 0 0) := (blk_cell hbS 1).trans rfl
                  have hf1 : ((wa.setCell ⟨D, 1, none⟩ (.slice Ac (l1.length + 3) cc2)).setCell ⟨w.heap.size + 1, 0, none⟩ (.slice (some ⟨C, 0, none⟩) l0.length ca)).frozen? ⟨w.heap.size + 1, 1, none⟩ = false := blk_frozen hbS 1
                  have hDn := Aside0.mk (bdone HF.out (we := w) (R := w.heap.size + 1) (by have := hVs.out; omega) hbr.out (KeepBut.of_below hbV.out g none) (Nat.le_succ _) (by have := IsS118.lt HI.out; omega) (by have := HB.out.size; omega))
                  clear hbR hbS
                  go_wp2_with (fail)
                  exact bodyPost_ret (results_cell_row rfl _ _ (w.heap.size + 1) 36 _ (0, 0) _ rfl hDn.out.1 Try.underlying36 rfl (show (Try.prog.info? 36).map (·.size) = some 2 by kernel_rfl)) rfl ⟨_, _, rfl, hDn.out.2⟩
                · rw [if_neg k5] at h
                  replace k5 : (c == 5) = false := beq_eq_false_iff_ne.mpr k5
                  by_cases k6 : c = 6
                  · rw [if_pos k6] at h
                    replace k6 : (c == 6) = true := beq_iff_eq.mpr k6
                    replace h := Option.bind_eq_some_iff.mp h
                    obtain ⟨⟨d, q2⟩, P50, h⟩ := h
                    have P50 := Aside0.mk (show spec_l6Rd_pick.f k s0_0 q 5 = some (d, q2) from P50)
                    rw [show app0 l1 ⟨4, [], [], wrap64 (d - 1)⟩ = l1.set 0 (x0 ++ [⟨4, [], [], wrap64 (d - 1)⟩]) from by rw [hx0e.out]; rfl] at h
                    simp only [Option.some.injEq, Prod.mk.injEq] at h
                    obtain ⟨hr1, hr2, hr3⟩ := h
                    subst hr1 hr2 hr3
                    go_upto_region 24 with (fail)
                    refine start_ (n := 14) (S := fun w' => w'.cell? ⟨D, 1, none⟩ = some (.slice (some ⟨B, 0, none⟩) l1.length cB) ∧ w'.cell? ⟨B, 0, none⟩ = some (.slice Au x0.length cu)) (ds := [13]) #[false, false, false, false, false, false, false, false, false, false, false, false, false, false] (by kernel_rfl) rfl rfl ⟨(BG.cell1 (BG.drew HP.out)), (pw_cell_below (below_drew (Below.refl _ _)) hB0)⟩ (fun hHeld => ?_)
                    refine pure_ (i := 0) (N := some 130) (v := ?_) (a' := ?_) #[true, false, false, false, false, false, false, false, false, false, false, false, false, false] rfl rfl (by kernel_rfl) (fun _ _ _ h => h) (Or.inl ⟨by rfl, ?_⟩) ?_ ?_
                    rotate_left
                    · intro w'
                      go_simp
                      with_reducible rfl
                    rotate_left
                    · simp only [Act.put, List.setIfInBounds_toArray, List.set_cons_zero, List.set_cons_succ, i64_w, i32_w]
                      rfl
                    refine pure_ (i := 2) (N := some 132) (v := ?_) (a' := ?_) #[true, false, true, false, false, false, false, false, false, false, false, false, false, false] rfl rfl (by kernel_rfl) (fun _ _ _ h => h) (Or.inl ⟨by rfl, ?_⟩) ?_ ?_
                    rotate_left
                    · intro w'
                      go_simp
                      with_reducible rfl
                    rotate_left
                    · simp only [Act.put, List.setIfInBounds_toArray, List.set_cons_zero, List.set_cons_succ, i64_w, i32_w]
                      rfl
                    refine pure_ (i := 6) (N := some 136) (v := ?_) (a' := ?_) #[true, false, true, false, false, false, true, false, false, false, false, false, false, false] rfl rfl (by kernel_rfl) (fun _ _ _ h => h) (Or.inl ⟨by rfl, ?_⟩) ?_ ?_
                    rotate_left
                    · intro w'
                      go_simp
                      with_reducible rfl
                    rotate_left
                    · simp only [Act.put, List.setIfInBounds_toArray, List.set_cons_zero, List.set_cons_succ, i64_w, i32_w]
                      rfl
                    refine take_ (i := 1) (N := some 131) (v := ?_) (a' := ?_) #[true, true, true, false, false, false, true, false, false, false, false, false, false, false] rfl rfl (by kernel_rfl) (fun _ _ _ h => h) (Or.inl ⟨by rfl, ?_⟩) hHeld ?_ ?_
                    rotate_left
                    · rintro w' ⟨s0, s1⟩
                      go_simp
                      with_reducible rfl
                    rotate_left
                    · simp only [Act.put, List.setIfInBounds_toArray, List.set_cons_zero, List.set_cons_succ, i64_w, i32_w]
                      rfl
                    refine take_ (i := 3) (N := some 133) (v := ?_) (a' := ?_) #[true, true, true, true, false, false, true, false, false, false, false, false, false, false] rfl rfl (by kernel_rfl) (fun _ _ _ h => h) (Or.inl ⟨by rfl, ?_⟩) hHeld ?_ ?_
                    rotate_left
                    · rintro w' ⟨s0, s1⟩
                      go_simp
                      with_reducible rfl
                    rotate_left
                    · simp only [Act.put, List.setIfInBounds_toArray, List.set_cons_zero, List.set_cons_succ, i64_w, i32_w]
                      rfl
                    refine pure_ (i := 4) (N := some 134) (v := ?_) (a' := ?_) #[true, true, true, true, true, false, true, false, false, false, false, false, false, false] rfl rfl (by kernel_rfl) (fun _ _ _ h => h) (Or.inl ⟨by rfl, ?_⟩) ?_ ?_
                    rotate_left
                    · intro w'
                      go_simp
                      with_reducible rfl
                    rotate_left
                    · simp only [Act.put, List.setIfInBounds_toArray, List.set_cons_zero, List.set_cons_succ, i64_w, i32_w]
                      rfl
                    refine take_ (i := 5) (N := some 135) (v := ?_) (a' := ?_) #[true, true, true, true, true, true, true, false, false, false, false, false, false, false] rfl rfl (by kernel_rfl) (fun _ _ _ h => h) (Or.inl ⟨by rfl, ?_⟩) hHeld ?_ ?_
                    rotate_left
                    · rintro w' ⟨s0, s1⟩
                      go_simp
                      with_reducible rfl
                    rotate_left
                    · simp only [Act.put, List.setIfInBounds_toArray, List.set_cons_zero, List.set_cons_succ, i64_w, i32_w]
                      rfl
                    refine one_ (i := 7) (N := some 137) #[true, true, true, true, true, true, true, true, false, false, false, false, false, false] rfl rfl (by kernel_rfl) (by decide) (fun K hK => ?_)
                    refine goes_ Try.func58 (by kernel_rfl) rfl #[.pointer (some ⟨g, 0, none⟩), .int .i64 5] (by rfl) rfl rfl (by simp only [List.map_toArray, List.map_cons, List.map_nil]; rfl) ?_
                    with_reducible refine (spec_l6Rd_pick.calls k g s0_0 q 5 d q2 w0 _ (BG.I (BG.drew HP.out)) (BG.B (BG.drew HP.out)) P50.out).mono ?_
                    rintro e w50 ⟨rfl, hi0, hb0, hk0⟩
                    refine ⟨_, rfl, ?_⟩
                    have H50 := Aside0.mk (BG.keep (BG.drew HP.out) hi0 hb0 hk0)
                    have hB50 := cell_k hk0 (pw_cell_below (below_drew (Below.refl _ _)) hB0) (BG.gB (BG.drew HP.out))
                    refine hK.out _ _ ⟨(BG.cell1 H50.out), hB50⟩ (fun hHeld => ?_)
                    clear hK K
                    refine norm_ (a' := ?_) ?_ ?_
                    rotate_left
                    · show Act.put _ (some 137) _ = _
                      simp only [Act.put, List.setIfInBounds_toArray, List.set_cons_zero, List.set_cons_succ, i64_w, i32_w]
                      rfl
                    refine pure_ (i := 8) (N := some 138) (v := ?_) (a' := ?_) #[true, true, true, true, true, true, true, true, true, false, false, false, false, false] rfl rfl (by kernel_rfl) (fun _ _ _ h => h) (Or.inl ⟨by rfl, ?_⟩) ?_ ?_
                    rotate_left
                    · intro w'
                      go_simp
                      with_reducible rfl
                    rotate_left
                    · simp only [Act.put, List.setIfInBounds_toArray, List.set_cons_zero, List.set_cons_succ, i64_w, i32_w]
                      rfl
                    refine pure_ (i := 9) (N := some 139) (v := ?_) (a' := ?_) #[true, true, true, true, true, true, true, true, true, true, false, false, false, false] rfl rfl (by kernel_rfl) (fun _ _ _ h => h) (Or.inl ⟨by rfl, ?_⟩) ?_ ?_
                    rotate_left
                    · intro w'
                      go_simp
                      with_reducible rfl
                    rotate_left
                    · simp only [Act.put, List.setIfInBounds_toArray, List.set_cons_zero, List.set_cons_succ, i64_w, i32_w]
                      rfl
                    refine one_ (i := 10) (N := some 140) #[true, true, true, true, true, true, true, true, true, true, true, false, false, false] rfl rfl (by kernel_rfl) (by decide) (fun K hK => ?_)
                    refine value_ (w1 := ?_) (v := ?_) (by rfl) rfl ?_ ?_
                    rotate_left 2
                    · go_simp
                      constructor
                      · rfl
                      · rfl
                    refine hK.out _ _ ⟨(BG.cell1 (BG.alloc H50.out _)), (pw_cell_below (below_alloc (Below.refl _ _) _) hB50)⟩ (fun hHeld => ?_)
                    clear hK K
                    refine norm_ (a' := ?_) ?_ ?_
                    rotate_left
                    · show Act.put _ (some 140) _ = _
                      simp only [Act.put, List.setIfInBounds_toArray, List.set_cons_zero, List.set_cons_succ, i64_w, i32_w]
                      rfl
                    refine one_ (i := 11) (N := some 141) #[true, true, true, true, true, true, true, true, true, true, true, true, false, false] rfl rfl (by kernel_rfl) (by decide) (fun K hK => ?_)
                    obtain ⟨oki, hoki, huR, hH, hDu, hBu, hfu⟩ := BG.lendU H50.out hlN hB50
                    rw [← hx0e.out] at huR
                    have hM : k57.M w50 base (fun k => some k ≠ (Value.slice (some ⟨C, 0, none⟩) l0.length ca).ownBlock) (⟨4, [], [], wrap64 (d - 1)⟩ : S57) [.int .i64 4, .slice none 0 0, .slice none 0 0, .int .i64 (wrap64 (d - 1))] := k57_mkM _ _ _ (⟨4, [], [], wrap64 (d - 1)⟩ : S57) (Kd.R_nil _ _ _ _ _) (Kd.R_nil _ _ _ _ _)
                    have hv0lt := Kd.R_lt (BG.r0 H50.out)
                    refine Kd.R_append_step (w0 := w50) (kz (k57.M w50 base (fun k => some k ≠ (Value.slice (some ⟨C, 0, none⟩) l0.length ca).ownBlock))) V.heap.size (by rfl) (.tmp 135) (.tmp 140) 54 57 (.agg #[.int .i64 0, .slice none 0 0, .slice none 0 0, .int .i64 0]) 64 (by rfl) Try.underlying54 (by kernel_rfl) (by rfl) (show (0 : Nat) < 4 by decide) (by decide) (.slice Au x0.length cu) x0 (⟨4, [], [], wrap64 (d - 1)⟩ : S57) [.int .i64 4, .slice none 0 0, .slice none 0 0, .int .i64 (wrap64 (d - 1))] (fun k => oki k ∨ some k ≠ (Value.slice (some ⟨C, 0, none⟩) l0.length ca).ownBlock ∧ w50.heap.size ≤ k) (fun _ => False) (by rfl) (by first | rfl | (go_simp; done) | (simp; done)) (kz_mk hM hM) (fun _ hk => hk.elim) (fun k hk => .inr ⟨fun e => by have h1 := hv0lt k e.symm; omega, hk⟩) (Kd.R_mono huR (fun _ hk => .inl hk)) (Below.refl _ _) (keep_size (BG.K H50.out)) (by have h1 := hx0.out; omega) ?_
                    intro va wa hra hba hga hata
                    obtain ⟨Ac, cc2, hva⟩ := Kd.R_slice hra
                    subst hva
                    have HA := Aside0.mk (BG.app0 H50.out hlN hoki huR hH hra hba hga)
                    have hcB : wa.cell? ⟨B, 0, none⟩ = some (.slice Au x0.length cu) := cell_g hga hB50 hBu
                    have hcD : wa.cell? ⟨D, 1, none⟩ = some (.slice (some ⟨B, 0, none⟩) l1.length cB) := cell_g hga (BG.cell1 H50.out) hDu
                    have hfB := hfu _ hga
                    refine hK.out _ _ ⟨hcD, hcB⟩ (fun hHeld => ?_)
                    clear hK K
                    refine norm_ (a' := ?_) ?_ ?_
                    rotate_left
                    · show Act.put _ (some 141) _ = _
                      simp only [Act.put, List.setIfInBounds_toArray, List.set_cons_zero, List.set_cons_succ, i64_w, i32_w]
                      rfl
                    refine pure_ (i := 12) (N := some 142) (v := ?_) (a' := ?_) #[true, true, true, true, true, true, true, true, true, true, true, true, true, false] rfl rfl (by kernel_rfl) (fun _ _ _ h => h) (Or.inl ⟨by rfl, ?_⟩) ?_ ?_
                    rotate_left
                    · intro w'
                      go_simp
                      with_reducible rfl
                    rotate_left
                    · simp only [Act.put, List.setIfInBounds_toArray, List.set_cons_zero, List.set_cons_succ, i64_w, i32_w]
                      rfl
                    refine last_ (i := 13) (N := none) #[true, true, true, true, true, true, true, true, true, true, true, true, true, true] rfl rfl (by kernel_rfl) (by decide) (fun K hK => ?_)
                    refine skip_ (w1 := ?_) (by rfl) rfl ?_ ?_
                    rotate_left
                    · go_simp
                      rfl
                    refine hK.out _ _ ?_
                    clear hK K
                    refine done_ (by kernel_rfl) ?_
                    have HF := Aside0.mk (FG.done (BG.fin HA.out))
                    simp only [List.length_append, List.length_cons, List.length_nil, Nat.zero_add] at HF
                    clear hcB hcD hfB HP HA hra hba hga hata
                    generalize hwE : wa.setCell ⟨B, 0, none⟩ (.slice Ac (x0.length + 1) cc2) = wE at HF ⊢
                    clear hwE
                    have hbR : wE.heap[w.heap.size + 1]? = some (.cells #[.slice none 0 0, .slice none 0 0] 36 (0, 0)) := HF.out.K.blk hbr.out (by have := IsS118.lt HI.out; omega) (by simp)
                    have hc0 := HF.out.cell0
                    have hc1 := HF.out.cell1
                    have hbS := blk_set hbR 0 (.slice (some ⟨C, 0, none⟩) l0.length ca)
                    have hd0 : wE.cell? ⟨w.heap.size + 1, 0, none⟩ = some (.slice none 0 0) := (blk_cell hbR 0).trans rfl
                    have hf0 : wE.frozen? ⟨w.heap.size + 1, 0, none⟩ = false := blk_frozen hbR 0
                    have hd1 : (wE.setCell ⟨w.heap.size + 1, 0, none⟩ (.slice (some ⟨C, 0, none⟩) l0.length ca)).cell? ⟨w.heap.size + 1, 1, none⟩ = some (.slice none 0 0) := (blk_cell hbS 1).trans rfl
                    have hf1 : (wE.setCell ⟨w.heap.size + 1, 0, none⟩ (.slice (some ⟨C, 0, none⟩) l0.length ca)).frozen? ⟨w.heap.size + 1, 1, none⟩ = false := blk_frozen hbS 1
                    have hDn := Aside0.mk (bdone HF.out (we := w) (R := w.heap.size + 1) (by have := hVs.out; omega) hbr.out (KeepBut.of_below hbV.out g none) (Nat.le_succ _) (by have := IsS118.lt HI.out; omega) (by have := HB.out.size; omega))
                    clear hbR hbS
                    go_wp2_with (fail)
                    exact bodyPost_ret (results_cell_row rfl _ _ (w.heap.size + 1) 36 _ (0, 0) _ rfl hDn.out.1 Try.underlying36 rfl (show (Try.prog.info? 36).map (·.size) = some 2 by kernel_rfl)) rfl ⟨_, _, rfl, hDn.out.2⟩
                  · rw [if_neg k6] at h
                    replace k6 : (c == 6) = false := beq_eq_false_iff_ne.mpr k6
                    have h := (show some (l0, apps 5 l1, q) = some (r1, r2, r3) from h)
                    simp only [Option.some.injEq, Prod.mk.injEq] at h
                    obtain ⟨hr1, hr2, hr3⟩ := h
                    subst hr1 hr2 hr3
                    go_wp2_with (fail)
                    go_loopg [7] 5 (fun m v7 w' => ∃ (j : Int) (L : List (List S57)), v7 = .int .i64 j ∧ Aside0 (j + m = 5 ∧ 0 ≤ j) ∧ Aside0 (apps m L = apps 5 l1 ∧ L.length = l1.length ∧ (L.getD 0 []).length + m < 1010) ∧ Aside0 (BG w0 V w' g D base s0_0 q (.slice (some ⟨C, 0, none⟩) l0.length ca) (.slice (some ⟨B, 0, none⟩) l1.length cB) l0 L))
                    case atStart => exact ⟨0, l1, rfl, ⟨by simp⟩, ⟨rfl, rfl, by have h1 := hx0.out; have h2 := hx0e.out; rw [← h2]; omega⟩, HP⟩
                    case round =>
                      clear HP
                      obtain ⟨j7, L, rfl, hj7, hL7, HG⟩ := hrel
                      cases gk with
                      | zero =>
                        have cb7 : decide (j7 < 5) = false := by have := hj7.out; exact decide_eq_false (by omega)
                        have hL : L = apps 5 l1 := hL7.out.1
                        rw [hL] at HG
                        clear hL hL7
                        have HF := Aside0.mk (FG.done (BG.fin HG.out))
                        clear HG
                        have hbR : wr.heap[w.heap.size + 1]? = some (.cells #[.slice none 0 0, .slice none 0 0] 36 (0, 0)) := HF.out.K.blk hbr.out (by have := IsS118.lt HI.out; omega) (by simp)
                        have hc0 := HF.out.cell0
                        have hc1 := HF.out.cell1
                        have hbS := blk_set hbR 0 (.slice (some ⟨C, 0, none⟩) l0.length ca)
                        have hd0 : wr.cell? ⟨w.heap.size + 1, 0, none⟩ = some (.slice none 0 0) := (blk_cell hbR 0).trans rfl
                        have hf0 : wr.frozen? ⟨w.heap.size + 1, 0, none⟩ = false := blk_frozen hbR 0
                        have hd1 : (wr.setCell ⟨w.heap.size + 1, 0, none⟩ (.slice (some ⟨C, 0, none⟩) l0.length ca)).cell? ⟨w.heap.size + 1, 1, none⟩ = some (.slice none 0 0) := (blk_cell hbS 1).trans rfl
                        have hf1 : (wr.setCell ⟨w.heap.size + 1, 0, none⟩ (.slice (some ⟨C, 0, none⟩) l0.length ca)).frozen? ⟨w.heap.size + 1, 1, none⟩ = false := blk_frozen hbS 1
                        have hDn := Aside0.mk (bdone HF.out (we := w) (R := w.heap.size + 1) (by have := hVs.out; omega) hbr.out (KeepBut.of_below hbV.out g none) (Nat.le_succ _) (by have := IsS118.lt HI.out; omega) (by have := HB.out.size; omega))
                        clear hbR hbS
                        go_wp2_with (fail)
                        exact bodyPost_ret (results_cell_row rfl _ _ (w.heap.size + 1) 36 _ (0, 0) _ rfl hDn.out.1 Try.underlying36 rfl (show (Try.prog.info? 36).map (·.size) = some 2 by kernel_rfl)) rfl ⟨_, _, rfl, hDn.out.2⟩
                      | succ m =>
                        have cb7 : decide (j7 < 5) = true := by have := hj7.out; exact decide_eq_true (by omega)
                        have hlL : 0 < L.length := by have h1 := hL7.out.2.1; omega
                        obtain ⟨oki0, u0, hB0, -, -, hu0, -⟩ := BG.lend HG.out hlN
                        obtain ⟨x0, hx0e⟩ : ∃ x0, x0 = L.getD 0 [] := ⟨_, rfl⟩
                        rw [← hx0e] at hu0
                        obtain ⟨Au, cu, hu0e⟩ := Kd.R_slice hu0
                        subst hu0e
                        have hx0 := Aside0.mk (show x0.length < 1010 by have h1 := hL7.out.2.2; rw [← hx0e] at h1; omega)
                        replace hx0e := Aside0.mk hx0e
                        replace hlL := Aside0.mk hlL
                        clear hu0
                        obtain ⟨wx, hwx⟩ : ∃ wx : World, wx = wr := ⟨_, rfl⟩
                        go_upto_region 10 with (fail)
                        rw [← hwx] at HG hB0 ⊢
                        clear hwx wr
                        refine start_ (n := 11) (S := fun w' => w'.cell? ⟨D, 1, none⟩ = some (.slice (some ⟨B, 0, none⟩) l1.length cB) ∧ w'.cell? ⟨B, 0, none⟩ = some (.slice Au x0.length cu)) (ds := [10]) #[false, false, false, false, false, false, false, false, false, false, false] (by kernel_rfl) rfl rfl ⟨(BG.cell1 (BG.drew HG.out)), (pw_cell_below (below_drew (Below.refl _ _)) hB0)⟩ (fun hHeld => ?_)
                        refine pure_ (i := 0) (N := some 38) (v := ?_) (a' := ?_) #[true, false, false, false, false, false, false, false, false, false, false] rfl rfl (by kernel_rfl) (fun _ _ _ h => h) (Or.inl ⟨by rfl, ?_⟩) ?_ ?_
                        rotate_left
                        · intro w'
                          go_simp
                          with_reducible rfl
                        rotate_left
                        · simp only [Act.put, List.setIfInBounds_toArray, List.set_cons_zero, List.set_cons_succ, i64_w, i32_w]
                          rfl
                        refine pure_ (i := 2) (N := some 40) (v := ?_) (a' := ?_) #[true, false, true, false, false, false, false, false, false, false, false] rfl rfl (by kernel_rfl) (fun _ _ _ h => h) (Or.inl ⟨by rfl, ?_⟩) ?_ ?_
                        rotate_left
                        · intro w'
                          go_simp
                          with_reducible rfl
                        rotate_left
                        · simp only [Act.put, List.setIfInBounds_toArray, List.set_cons_zero, List.set_cons_succ, i64_w, i32_w]
                          rfl
                        refine pure_ (i := 6) (N := some 44) (v := ?_) (a' := ?_) #[true, false, true, false, false, false, true, false, false, false, false] rfl rfl (by kernel_rfl) (fun _ _ _ h => h) (Or.inl ⟨by rfl, ?_⟩) ?_ ?_
                        rotate_left
                        · intro w'
                          go_simp
                          with_reducible rfl
                        rotate_left
                        · simp only [Act.put, List.setIfInBounds_toArray, List.set_cons_zero, List.set_cons_succ, i64_w, i32_w]
                          rfl
                        refine take_ (i := 1) (N := some 39) (v := ?_) (a' := ?_) #[true, true, true, false, false, false, true, false, false, false, false] rfl rfl (by kernel_rfl) (fun _ _ _ h => h) (Or.inl ⟨by rfl, ?_⟩) hHeld ?_ ?_
                        rotate_left
                        · rintro w' ⟨s0, s1⟩
                          go_simp
                          with_reducible rfl
                        rotate_left
                        · simp only [Act.put, List.setIfInBounds_toArray, List.set_cons_zero, List.set_cons_succ, i64_w, i32_w]
                          rfl
                        refine take_ (i := 3) (N := some 41) (v := ?_) (a' := ?_) #[true, true, true, true, false, false, true, false, false, false, false] rfl rfl (by kernel_rfl) (fun _ _ _ h => h) (Or.inl ⟨by rfl, ?_⟩) hHeld ?_ ?_
                        rotate_left
                        · rintro w' ⟨s0, s1⟩
                          go_simp
                          with_reducible rfl
                        rotate_left
                        · simp only [Act.put, List.setIfInBounds_toArray, List.set_cons_zero, List.set_cons_succ, i64_w, i32_w]
                          rfl
                        refine pure_ (i := 4) (N := some 42) (v := ?_) (a' := ?_) #[true, true, true, true, true, false, true, false, false, false, false] rfl rfl (by kernel_rfl) (fun _ _ _ h => h) (Or.inl ⟨by rfl, ?_⟩) ?_ ?_
                        rotate_left
                        · intro w'
                          go_simp
                          with_reducible rfl
                        rotate_left
                        · simp only [Act.put, List.setIfInBounds_toArray, List.set_cons_zero, List.set_cons_succ, i64_w, i32_w]
                          rfl
                        refine take_ (i := 5) (N := some 43) (v := ?_) (a' := ?_) #[true, true, true, true, true, true, true, false, false, false, false] rfl rfl (by kernel_rfl) (fun _ _ _ h => h) (Or.inl ⟨by rfl, ?_⟩) hHeld ?_ ?_
                        rotate_left
                        · rintro w' ⟨s0, s1⟩
                          go_simp
                          with_reducible rfl
                        rotate_left
                        · simp only [Act.put, List.setIfInBounds_toArray, List.set_cons_zero, List.set_cons_succ, i64_w, i32_w]
                          rfl
                        refine one_ (i := 7) (N := some 45) #[true, true, true, true, true, true, true, true, false, false, false] rfl rfl (by kernel_rfl) (by decide) (fun K hK => ?_)
                        refine value_ (w1 := ?_) (v := ?_) (by rfl) rfl ?_ ?_
                        rotate_left 2
                        · go_simp
                          constructor
                          · rfl
                          · rfl
                        refine hK.out _ _ ⟨(BG.cell1 (BG.alloc (BG.drew HG.out) _)), (pw_cell_below (below_alloc (Below.refl _ _) _) (pw_cell_below (below_drew (Below.refl _ _)) hB0))⟩ (fun hHeld => ?_)
                        clear hK K
                        refine norm_ (a' := ?_) ?_ ?_
                        rotate_left
                        · show Act.put _ (some 45) _ = _
                          simp only [Act.put, List.setIfInBounds_toArray, List.set_cons_zero, List.set_cons_succ, i64_w, i32_w]
                          rfl
                        refine one_ (i := 8) (N := some 46) #[true, true, true, true, true, true, true, true, true, false, false] rfl rfl (by kernel_rfl) (by decide) (fun K hK => ?_)
                        obtain ⟨oki, hoki, huR, hH, hDu, hBu, hfu⟩ := BG.lendU (BG.drew HG.out) hlN (pw_cell_below (below_drew (Below.refl _ _)) hB0)
                        rw [← hx0e.out] at huR
                        have hM : k57.M wx.drew base (fun k => some k ≠ (Value.slice (some ⟨C, 0, none⟩) l0.length ca).ownBlock) (⟨3, [], [], 0⟩ : S57) [.int .i64 3, .slice none 0 0, .slice none 0 0, .int .i64 0] := k57_mkM _ _ _ (⟨3, [], [], 0⟩ : S57) (Kd.R_nil _ _ _ _ _) (Kd.R_nil _ _ _ _ _)
                        have hv0lt := Kd.R_lt (BG.r0 (BG.drew HG.out))
                        refine Kd.R_append_step (w0 := wx.drew) (kz (k57.M wx.drew base (fun k => some k ≠ (Value.slice (some ⟨C, 0, none⟩) l0.length ca).ownBlock))) V.heap.size (by rfl) (.tmp 43) (.tmp 45) 54 57 (.agg #[.int .i64 0, .slice none 0 0, .slice none 0 0, .int .i64 0]) 64 (by rfl) Try.underlying54 (by kernel_rfl) (by rfl) (show (0 : Nat) < 4 by decide) (by decide) (.slice Au x0.length cu) x0 (⟨3, [], [], 0⟩ : S57) [.int .i64 3, .slice none 0 0, .slice none 0 0, .int .i64 0] (fun k => oki k ∨ some k ≠ (Value.slice (some ⟨C, 0, none⟩) l0.length ca).ownBlock ∧ wx.drew.heap.size ≤ k) (fun _ => False) (by rfl) (by first | rfl | (go_simp; done) | (simp; done)) (kz_mk hM hM) (fun _ hk => hk.elim) (fun k hk => .inr ⟨fun e => by have h1 := hv0lt k e.symm; omega, hk⟩) (Kd.R_mono huR (fun _ hk => .inl hk)) (Below.refl _ _) (keep_size (BG.K (BG.drew HG.out))) (by have h1 := hx0.out; omega) ?_
                        intro va wa hra hba hga hata
                        obtain ⟨Ac, cc2, hva⟩ := Kd.R_slice hra
                        subst hva
                        have HA := Aside0.mk (BG.app0 (BG.drew HG.out) hlN hoki huR hH hra hba hga)
                        have hcB : wa.cell? ⟨B, 0, none⟩ = some (.slice Au x0.length cu) := cell_g hga (pw_cell_below (below_drew (Below.refl _ _)) hB0) hBu
                        have hcD : wa.cell? ⟨D, 1, none⟩ = some (.slice (some ⟨B, 0, none⟩) l1.length cB) := cell_g hga (BG.cell1 (BG.drew HG.out)) hDu
                        have hfB := hfu _ hga
                        refine hK.out _ _ ⟨hcD, hcB⟩ (fun hHeld => ?_)
                        clear hK K
                        refine norm_ (a' := ?_) ?_ ?_
                        rotate_left
                        · show Act.put _ (some 46) _ = _
                          simp only [Act.put, List.setIfInBounds_toArray, List.set_cons_zero, List.set_cons_succ, i64_w, i32_w]
                          rfl
                        refine pure_ (i := 9) (N := some 47) (v := ?_) (a' := ?_) #[true, true, true, true, true, true, true, true, true, true, false] rfl rfl (by kernel_rfl) (fun _ _ _ h => h) (Or.inl ⟨by rfl, ?_⟩) ?_ ?_
                        rotate_left
                        · intro w'
                          go_simp
                          with_reducible rfl
                        rotate_left
                        · simp only [Act.put, List.setIfInBounds_toArray, List.set_cons_zero, List.set_cons_succ, i64_w, i32_w]
                          rfl
                        refine last_ (i := 10) (N := none) #[true, true, true, true, true, true, true, true, true, true, true] rfl rfl (by kernel_rfl) (by decide) (fun K hK => ?_)
                        refine skip_ (w1 := ?_) (by rfl) rfl ?_ ?_
                        rotate_left
                        · go_simp
                          rfl
                        refine hK.out _ _ ?_
                        clear hK K
                        refine done_ (by kernel_rfl) ?_
                        have hap := app0_head L (⟨3, [], [], 0⟩ : S57) hlL.out
                        have ej7 : wrap64 (j7 + 1) = j7 + 1 := by have h1 := hj7.out; unfold wrap64; omega
                        simp only [List.length_append, List.length_cons, List.length_nil, Nat.zero_add] at HA
                        rw [show L.set 0 (x0 ++ [(⟨3, [], [], 0⟩ : S57)]) = app0 L (⟨3, [], [], 0⟩ : S57) from by rw [hx0e.out]; rfl] at HA
                        clear hcB hcD hfB hra hba hga hata hB0
                        go_wp2
                        go_roundg m
                        case measure => exact Nat.lt_succ_self _
                        case rel => exact ⟨j7 + 1, app0 L (⟨3, [], [], 0⟩ : S57), by first | rfl | (simp [ej7]; done), ⟨by have h1 := hj7.out; omega⟩, ⟨hL7.out.1, (app0_len _ _).trans hL7.out.2.1, by have h1 := hL7.out.2.2; rw [hap, List.length_append]; simp only [List.length_cons, List.length_nil]; omega⟩, HA⟩
    | succ m =>
      have cb : decide (j < l1.length) = true := by have := hj.out; exact decide_eq_true (by omega)
      obtain ⟨wx, hwx⟩ : ∃ wx : World, wx = wr := ⟨_, rfl⟩
      go_upto_region 5 with (fail)
      rw [← hwx] at HG hp1 ⊢
      clear hwx wr
      have hjn : j.toNat < l1.length := by have := hj.out; omega
      have hpR := Kd.R_mono (ok' := fun k => k < V.heap.size) (Kd.R_keep (IsS118.apart hIV.out (Kd.R_mono (ok' := fun k => k < V.heap.size) (Kd.R_bound hR1V.out) (fun k hk => hk.2.2.1)) (by decide)) HG.out.K (fun _ hk => hk.2)) (fun _ hk => hk.1)
      obtain ⟨P, cP, hA1, _, hPlt, _⟩ := Kd.R_form hpR (by omega)
      injection hA1 with hA1 _ hcc
      subst hA1
      clear hcc cP
      have hPV : P < V.heap.size := Kd.R_lt hR1V.out P (by simp [Value.ownBlock])
      obtain ⟨cc, hcl, hM, hcc, _⟩ := Kd.R_elem hpR ([] : List S57) j (by have := hj.out; omega) (by have := hj.out; omega)
      obtain ⟨u, rfl, hu⟩ := hM
      obtain ⟨x, hx⟩ : ∃ x, x = l1.getD j.toNat [] := ⟨_, rfl⟩
      rw [← hx] at hu
      have hq2 : wx.cell? ⟨P, j.toNat, none⟩ = some u := by have := hcc 0 u rfl; simpa [Kd.slice] using this
      obtain ⟨Au, cu, he, hcu, hRu⟩ := OwnRow.reads hu.2
      subst he
      have hv0ge : ∀ k, (Value.slice Aa l0.length ca).ownBlock = some k → V.heap.size ≤ k := Kd.R_base HG.out.r0
      have hRu := Aside0.mk (ReadsRow.imp_ hRu (Below.refl _ _) (fun x cs h => k57.M_mono (ok' := fun k => some k ≠ (Value.slice Aa l0.length ca).ownBlock) (fun k hk e => by have h1 := hv0ge k e.symm; have h2 := hk.1.1; omega) h))
      have hq0 := hp1
      have hq1 := HG.out.cell1
      have hx1 : x.length < 1000 := by
        have h1 := List.all_eq_true.mp hok.out.2.2 (l1[j.toNat]) (List.getElem_mem _)
        rw [hx, List.getD_eq_getElem?_getD, List.getElem?_eq_getElem hjn]
        exact of_decide_eq_true h1
      have ej : wrap64 (j + 1) = j + 1 := by have h1 := hok.out.2.1; have h2 := hj.out; unfold wrap64; omega
      have hjp : 0 ≤ j := hj.out.2.1
      have hjl : j < (l1.length : Int) := by omega
      replace hjn := Aside0.mk hjn
      replace hx := Aside0.mk hx
      replace hpR := Aside0.mk hpR
      replace hu := Aside0.mk hu
      clear hcc hcl hp1 hPlt
      replace hx1 := Aside0.mk hx1
      replace hPV := Aside0.mk hPV
      refine start_ (n := 13) (S := fun w' => w'.cell? ⟨w.heap.size, 1, none⟩ = some (.slice (some ⟨P, 0, none⟩) l1.length c1) ∧ w'.cell? ⟨D, 1, none⟩ = some v1 ∧ w'.cell? ⟨P, j.toNat, none⟩ = some (.slice Au x.length cu)) (ds := [12]) #[false, false, false, false, false, false, false, false, false, false, false, false, false] (by kernel_rfl) rfl rfl ⟨(pw_cell_below (below_drew (Below.refl _ _)) hq0), (pw_cell_below (below_drew (Below.refl _ _)) hq1), (pw_cell_below (below_drew (Below.refl _ _)) hq2)⟩ (fun hHeld => ?_)
      refine pure_ (i := 0) (N := some 20) (v := ?_) (a' := ?_) #[true, false, false, false, false, false, false, false, false, false, false, false, false] rfl rfl (by kernel_rfl) (fun _ _ _ h => h) (Or.inl ⟨by rfl, ?_⟩) ?_ ?_
      rotate_left
      · intro w'
        go_simp
        with_reducible rfl
      rotate_left
      · simp only [Act.put, List.setIfInBounds_toArray, List.set_cons_zero, List.set_cons_succ, i64_w, i32_w]
        rfl
      refine pure_ (i := 3) (N := some 23) (v := ?_) (a' := ?_) #[true, false, false, true, false, false, false, false, false, false, false, false, false] rfl rfl (by kernel_rfl) (fun _ _ _ h => h) (Or.inl ⟨by rfl, ?_⟩) ?_ ?_
      rotate_left
      · intro w'
        go_simp
        with_reducible rfl
      rotate_left
      · simp only [Act.put, List.setIfInBounds_toArray, List.set_cons_zero, List.set_cons_succ, i64_w, i32_w]
        rfl
      refine pure_ (i := 5) (N := some 25) (v := ?_) (a' := ?_) #[true, false, false, true, false, true, false, false, false, false, false, false, false] rfl rfl (by kernel_rfl) (fun _ _ _ h => h) (Or.inl ⟨by rfl, ?_⟩) ?_ ?_
      rotate_left
      · intro w'
        go_simp
        with_reducible rfl
      rotate_left
      · simp only [Act.put, List.setIfInBounds_toArray, List.set_cons_zero, List.set_cons_succ, i64_w, i32_w]
        rfl
      refine take_ (i := 1) (N := some 21) (v := ?_) (a' := ?_) #[true, true, false, true, false, true, false, false, false, false, false, false, false] rfl rfl (by kernel_rfl) (fun _ _ _ h => h) (Or.inl ⟨by rfl, ?_⟩) hHeld ?_ ?_
      rotate_left
      · rintro w' ⟨s0, s1, s2⟩
        go_simp
        with_reducible rfl
      rotate_left
      · simp only [Act.put, List.setIfInBounds_toArray, List.set_cons_zero, List.set_cons_succ, i64_w, i32_w]
        rfl
      refine take_ (i := 4) (N := some 24) (v := ?_) (a' := ?_) #[true, true, false, true, true, true, false, false, false, false, false, false, false] rfl rfl (by kernel_rfl) (fun _ _ _ h => h) (Or.inl ⟨by rfl, ?_⟩) hHeld ?_ ?_
      rotate_left
      · rintro w' ⟨s0, s1, s2⟩
        go_simp
        with_reducible rfl
      rotate_left
      · simp only [Act.put, List.setIfInBounds_toArray, List.set_cons_zero, List.set_cons_succ, i64_w, i32_w]
        rfl
      refine pure_ (i := 6) (N := some 26) (v := ?_) (a' := ?_) #[true, true, false, true, true, true, true, false, false, false, false, false, false] rfl rfl (by kernel_rfl) (fun _ _ _ h => h) (Or.inl ⟨by rfl, ?_⟩) ?_ ?_
      rotate_left
      · intro w'
        go_simp
        with_reducible rfl
      rotate_left
      · simp only [Act.put, List.setIfInBounds_toArray, List.set_cons_zero, List.set_cons_succ, i64_w, i32_w]
        rfl
      refine take_ (i := 7) (N := some 27) (v := ?_) (a' := ?_) #[true, true, false, true, true, true, true, true, false, false, false, false, false] rfl rfl (by kernel_rfl) (fun _ _ _ h => h) (Or.inl ⟨by rfl, ?_⟩) hHeld ?_ ?_
      rotate_left
      · rintro w' ⟨s0, s1, s2⟩
        go_simp
        with_reducible rfl
      rotate_left
      · simp only [Act.put, List.setIfInBounds_toArray, List.set_cons_zero, List.set_cons_succ, i64_w, i32_w]
        rfl
      refine one_ (i := 2) (N := some 22) #[true, true, true, true, true, true, true, true, false, false, false, false, false] rfl rfl (by kernel_rfl) (by decide) (fun K hK => ?_)
      refine value_ (w1 := ?_) (v := ?_) (by rfl) rfl ?_ ?_
      rotate_left 2
      · go_simp
        constructor
        · rfl
        · rfl
      refine hK.out _ _ ⟨(pw_cell_below (below_alloc (below_drew (Below.refl _ _)) _) hq0), (pw_cell_below (below_alloc (below_drew (Below.refl _ _)) _) hq1), (pw_cell_below (below_alloc (below_drew (Below.refl _ _)) _) hq2)⟩ (fun hHeld => ?_)
      clear hK K
      refine norm_ (a' := ?_) ?_ ?_
      rotate_left
      · show Act.put _ (some 22) _ = _
        simp only [Act.put, List.setIfInBounds_toArray, List.set_cons_zero, List.set_cons_succ, i64_w, i32_w]
        rfl
      refine one_ (i := 8) (N := some 28) #[true, true, true, true, true, true, true, true, true, false, false, false, false] rfl rfl (by kernel_rfl) (by decide) (fun K hK => ?_)
      refine Kd.R_append_rows_step (Rr := k57.M wx base (fun k => some k ≠ (Value.slice Aa l0.length ca).ownBlock)) (w0 := wx) (kz (k57.M wx base (fun k => some k ≠ (Value.slice Aa l0.length ca).ownBlock))) wx.heap.size (by rfl) (.tmp 22) (.tmp 27) 54 57 (.agg #[.int .i64 0, .slice none 0 0, .slice none 0 0, .int .i64 0]) 64 (by rfl) Try.underlying54 (by kernel_rfl) (by rfl) (show (0 : Nat) < 4 by decide) (by decide) (.slice (some ⟨wx.heap.size, 0, none⟩) 0 0) [] x Au x.length cu (fun k => wx.heap.size ≤ k) (fun _ => False) (by rfl) (by first | rfl | (go_simp; done) | (simp; done)) (R_nought (heap_alloc_new _ _) (Nat.le_refl _) (Nat.le_refl _)) (ReadsRow.imp_ hRu.out (below_alloc (below_drew (Below.refl _ _)) _) (fun _ _ h => h)) (fun x cs h => kz_mk h h) (fun _ hk => hk.elim) (fun k hk => by have hk' : (wx.drew.alloc (.cells #[] 57)).heap.size ≤ k := hk; have h2 : (wx.drew.alloc (.cells #[] 57)).heap.size = wx.heap.size + 1 := (by simp); omega) (below_alloc (below_drew (Below.refl _ _)) _) (by simp) (by have h1 := hx1.out; simp; omega) ?_
      intro vb wb hrb hbb hgb hatb
      obtain ⟨Ab, cb', hvb⟩ := Kd.R_slice hrb
      rw [List.nil_append] at hvb
      subst hvb
      rw [List.nil_append] at hrb
      clear hgb hatb
      refine hK.out _ _ ⟨(pw_cell_below hbb hq0), (pw_cell_below hbb hq1), (pw_cell_below hbb hq2)⟩ (fun hHeld => ?_)
      clear hK K
      refine norm_ (a' := ?_) ?_ ?_
      rotate_left
      · show Act.put _ (some 28) _ = _
        simp only [Act.put, List.setIfInBounds_toArray, List.set_cons_zero, List.set_cons_succ, i64_w, i32_w]
        rfl
      refine one_ (i := 9) (N := some 29) #[true, true, true, true, true, true, true, true, true, true, false, false, false] rfl rfl (by kernel_rfl) (by decide) (fun K hK => ?_)
      refine value_ (w1 := ?_) (v := ?_) (by rfl) rfl ?_ ?_
      rotate_left 2
      · go_simp
        constructor
        · rfl
        · rfl
      refine hK.out _ _ ⟨(pw_cell_below (below_alloc hbb _) hq0), (pw_cell_below (below_alloc hbb _) hq1), (pw_cell_below (below_alloc hbb _) hq2)⟩ (fun hHeld => ?_)
      clear hK K
      refine norm_ (a' := ?_) ?_ ?_
      rotate_left
      · show Act.put _ (some 29) _ = _
        simp only [Act.put, List.setIfInBounds_toArray, List.set_cons_zero, List.set_cons_succ, i64_w, i32_w]
        rfl
      refine one_ (i := 10) (N := some 30) #[true, true, true, true, true, true, true, true, true, true, true, false, false] rfl rfl (by kernel_rfl) (by decide) (fun K hK => ?_)
      have hHB := BG.below HG.out hbb
      have hpz : k57.M wx base (fun k => some k ≠ (Value.slice Aa l0.length ca).ownBlock) = k57.M wx base (fun k => some k ≠ (Value.slice Aa l0.length ca).ownBlock) := rfl
      have hrz := kz_R (P' := k57.M wb base (fun k => some k ≠ (Value.slice Aa l0.length ca).ownBlock)) (fun x cs hx => Kd.M_below hx hbb) hrb
      have hS0 := Kd.S_mono (Kd.S_old HG.out.r1 hbb) (ok' := fun k => some k ≠ (Value.slice Aa l0.length ca).ownBlock ∧ ¬ (wx.heap.size ≤ k)) (fun k hk => ⟨hk.1, by have := hk.2; omega⟩)
      have hS1 := kz_S (P' := k57.M wb base (fun k => some k ≠ (Value.slice Aa l0.length ca).ownBlock)) (fun x cs hx => Kd.M_below hx hbb) hS0
      have hv0lt : ∀ k, (Value.slice Aa l0.length ca).ownBlock = some k → k < wx.heap.size := Kd.R_lt HG.out.r0
      have hv1lt : ∀ k, v1.ownBlock = some k → k < wx.heap.size := Kd.S_lt HG.out.r1
      refine Kd.S_append_step (w0 := wb) (Kd.slice 57 (kz (k57.M wb base (fun k => some k ≠ (Value.slice Aa l0.length ca).ownBlock)))) V.heap.size (by rfl) (.tmp 21) (.tmp 29) 34 54 (.slice none 0 0) 24 (by rfl) Try.underlying34 (by kernel_rfl) (by rfl) (show (0 : Nat) < 1 by decide) (by decide) v1 L x [.slice Ab x.length cb'] (fun k => some k ≠ (Value.slice Aa l0.length ca).ownBlock) (fun k => wx.heap.size ≤ k) (by rfl) (by first | rfl | (go_simp; done) | (simp; done)) ⟨_, rfl, Kd.R_lower hrz (keep_size HG.out.K)⟩ (fun k hk => ⟨fun e => by have := hv0lt k e.symm; omega, fun e => by have := hv1lt k e.symm; omega⟩) (fun k hk e => by have := hv0lt k e.symm; have := hbb.size; omega) hS1 (Below.refl _ _) (Nat.le_trans (keep_size HG.out.K) hbb.size) (by have h1 := hj.out; have h2 := hok.out.2.1; have h3 : L.length ≤ l1.length := (by rw [h1.2.2, List.length_take]; exact Nat.min_le_right _ _); omega) ?_
      intro va wc hra hba hga hata
      obtain ⟨Ac, cc2, hva⟩ := Kd.S_slice hra
      subst hva
      have HA := Aside0.mk (BG.push1 hHB hra hba hga)
      have hbA := BG.grow1 hHB hga
      have hcA : wc.cell? ⟨D, 1, none⟩ = some v1 := (blk_cell hbA 1).trans rfl
      have hfA : wc.frozen? ⟨D, 1, none⟩ = false := blk_frozen hbA 1
      have hv1ge : ∀ k, v1.ownBlock = some k → V.heap.size ≤ k := Kd.S_base HG.out.r1
      refine hK.out _ _ ⟨(cell_g hga (pw_cell_below hbb hq0) (fun e => by have h1 := hv1ge _ e.symm; have h2 := hVs.out; have h3 : w.heap.size = (⟨w.heap.size, 1, none⟩ : Addr).block := rfl; omega)), hcA, (cell_g hga (pw_cell_below hbb hq2) (fun e => by have h1 := hv1ge _ e.symm; have h2 := hPV.out; have h3 : P = (⟨P, j.toNat, none⟩ : Addr).block := rfl; omega))⟩ (fun hHeld => ?_)
      clear hK K
      refine norm_ (a' := ?_) ?_ ?_
      rotate_left
      · show Act.put _ (some 30) _ = _
        simp only [Act.put, List.setIfInBounds_toArray, List.set_cons_zero, List.set_cons_succ, i64_w, i32_w]
        rfl
      refine pure_ (i := 11) (N := some 31) (v := ?_) (a' := ?_) #[true, true, true, true, true, true, true, true, true, true, true, true, false] rfl rfl (by kernel_rfl) (fun _ _ _ h => h) (Or.inl ⟨by rfl, ?_⟩) ?_ ?_
      rotate_left
      · intro w'
        go_simp
        with_reducible rfl
      rotate_left
      · simp only [Act.put, List.setIfInBounds_toArray, List.set_cons_zero, List.set_cons_succ, i64_w, i32_w]
        rfl
      refine last_ (i := 12) (N := none) #[true, true, true, true, true, true, true, true, true, true, true, true, true] rfl rfl (by kernel_rfl) (by decide) (fun K hK => ?_)
      refine skip_ (w1 := ?_) (by rfl) rfl ?_ ?_
      rotate_left
      · go_simp
        rfl
      refine hK.out _ _ ?_
      clear hK K
      refine done_ (by kernel_rfl) ?_
      have hL := take_snoc hj.out.2.2 hx.out hjp hjl
      clear hcA hfA hbA hq0 hq1 hq2 hRu hpR hu hrb hrz hS0 hS1 hra hba hga hata hv0lt hv1lt hv1ge hHB hpz HG hbb
      go_wp2
      go_roundg m
      case measure => exact Nat.lt_succ_self _
      case rel => exact ⟨j + 1, L ++ [x], .slice Ac (L.length + 1) cc2, by first | rfl | (simp [ej]; done), ⟨by have h1 := hj.out; omega, by omega, hL⟩, by have h := HA.out; simp only [List.length_append, List.length_cons, List.length_nil, Nat.zero_add] at h; exact ⟨h⟩⟩
section
variable {w0 w wx : World} {g R : Nat} {b : List Int} {p : Int} {v0 v1 x0 x1 : Value} {l0 : List Int} {l1 : List (List S57)}
theorem adone (hI : IsS118 w0 wx g b p) (hB : Below w0.heap.size w0 wx) (hK : KeepBut w wx g none) (q0 : Kd.R (Kd.int .i64) 3 wx R (fun _ => True) v0 l0) (q1 : Kd.R (Kd.slice 57 k57) 54 wx R (fun k => some k ≠ v0.ownBlock) v1 l1)
    (hb : wx.heap[R]? = some (.cells #[x0, x1] 36 (0, 0))) (hw : w.heap.size = R) (hg : g ≠ R) (hR : w0.heap.size ≤ R) :
    ((wx.setCell ⟨R, 0, none⟩ v0).setCell ⟨R, 1, none⟩ v1).heap[R]? = some (.cells #[v0, v1] 36 (0, 0)) ∧ Kd.R (Kd.int .i64) 3 ((wx.setCell ⟨R, 0, none⟩ v0).setCell ⟨R, 1, none⟩ v1) R (fun _ => True) v0 l0 ∧ Kd.R (Kd.slice 57 k57) 54 ((wx.setCell ⟨R, 0, none⟩ v0).setCell ⟨R, 1, none⟩ v1) R (fun k => some k ≠ v0.ownBlock) v1 l1 ∧ IsS118 w0 ((wx.setCell ⟨R, 0, none⟩ v0).setCell ⟨R, 1, none⟩ v1) g b p ∧ Below w0.heap.size w0 ((wx.setCell ⟨R, 0, none⟩ v0).setCell ⟨R, 1, none⟩ v1) ∧ KeepBut w ((wx.setCell ⟨R, 0, none⟩ v0).setCell ⟨R, 1, none⟩ v1) g none := by
  have hb1 := blk_set hb 0 v0
  have hb2 := blk_set hb1 1 v1
  exact ⟨hb2, Kd.R_set (Kd.R_set q0 hb (by decide) 0 v0) hb1 (by decide) 1 v1, Kd.R_set (Kd.R_set q1 hb (by decide) 0 v0) hb1 (by decide) 1 v1, (hI.far (p := ⟨R, 0, none⟩) (fun e => hg e) _).far (p := ⟨R, 1, none⟩) (fun e => hg e) _, below_set (below_set hB hR) hR,
    keep_setD (keep_setD hK (by omega) 0 v0) (by omega) 1 v1⟩
end
end Go.Proofs.Ytoeepmcaabmjkaa.QPM
namespace Go.Proofs.Ytoeepmcaabmjkaa.QPM
open Go.RowKit Go.Proofs.YtoeepmcaabmjkaaW.PrintWords Go.Proofs.YtoeepmcaabmjkaaW.PrintLast Go.Proofs.YtoeepmcaabmjkaaW.PrintMore
attribute [local go_sem] max2_int min2_int max_two min_two max_three min_three max_four min_four   -- for this text's walks alone
set_option linter.unusedVariables false
set_option linter.unusedSimpArgs false
def spec_DrawProgOk.f (k : Nat) (l0 : List Int) : Option (List Int × (List (List (S57)))) := (spec_l6Open.f l0).bind fun o => (spec_l71Prog.f k o.1 o.2).bind fun x => (spec_l6Rd_pick.f k o.1 x.2.2 2).bind fun y => if y.1 = 0 then (spec_l71Bent.f k o.1 y.2 x.1 x.2.1).bind fun z => some (z.1, z.2.1) else some (x.1, x.2.1)
set_option maxHeartbeats 8000000 in
set_option maxRecDepth 100000 in
theorem spec_DrawProgOk.calls (k : Nat) (A0 : Option Addr) (c0 : Nat) (l0 : List Int) (r1 : List Int) (r2 : List (List (S57))) (w : World) (hr0 : Kd.C (Kd.int .u8) w A0 l0.length l0) (hc0 : l0.length ≤ c0) (h : spec_DrawProgOk.f k l0 = some (r1, r2)) :
    Calls Try.prog 25 #[.slice A0 l0.length c0] w fun e w' => ∃ v0_ v1_ : Value, e = .returned (.agg #[v0_, v1_]) ∧ Kd.R (Kd.int .i64) 3 w' w.heap.size (fun _ => True) v0_ r1 ∧ Kd.R (Kd.slice 57 k57) 54 w' w.heap.size (fun k_ => some k_ ≠ (v0_ : Value).ownBlock) v1_ r2 ∧ Below w.heap.size w w' := by
  have hu36 := Try.underlying36
  have H := (show ((spec_l6Open.f l0).bind fun o => (spec_l71Prog.f k o.1 o.2).bind fun x => (spec_l6Rd_pick.f k o.1 x.2.2 2).bind fun y => if y.1 = 0 then (spec_l71Bent.f k o.1 y.2 x.1 x.2.1).bind fun z => some (z.1, z.2.1) else some (x.1, x.2.1)) = some (r1, r2) from h)
  clear h
  replace H := Option.bind_eq_some_iff.mp H
  obtain ⟨⟨s0_0, s0_1⟩, A0', H⟩ := H
  replace H := Option.bind_eq_some_iff.mp H
  obtain ⟨⟨t0, t1, p1⟩, A1, H⟩ := H
  have A1 := Aside0.mk (show spec_l71Prog.f k s0_0 s0_1 = some (t0, t1, p1) from A1)
  replace H := Option.bind_eq_some_iff.mp H
  obtain ⟨⟨d, p2⟩, A2, H⟩ := H
  have A2 := Aside0.mk (show spec_l6Rd_pick.f k s0_0 p1 2 = some (d, p2) from A2)
  replace A0' := Aside0.mk A0'
  replace H := Aside0.mk H
  replace hr0 := Aside0.mk hr0
  go_enter Try.func25, Try.ntmps25
  go_wp2_with (fail)
  refine (spec_l6Open.calls A0 c0 l0 s0_0 s0_1 w _ (below_alloc (Below.refl _ _) _) hr0.out hc0 A0'.out).mono ?_
  rintro e wo ⟨g, rfl, hio, hbo, hbo2⟩
  have hio := Aside0.mk hio
  go_wp2_with (fail)
  refine (spec_l71Prog.calls k g s0_0 s0_1 t0 t1 p1 w _ hio.out hbo A1.out).mono ?_
  rintro e w1 ⟨v0, v1, rfl, hr0, hr1, hi1, hb1, hk1⟩
  have hRg : w.heap.size ≠ g := fun e => by
    subst e
    exact IsS118.ne_blk hio.out (blk_below (heap_alloc_new w (.cells #[.slice none 0 0, .slice none 0 0] 36)) hbo2) (by decide) rfl
  have hsz : w.heap.size ≤ wo.heap.size := Nat.le_trans (by simp) hbo2.size
  replace hsz := Aside0.mk hsz
  obtain ⟨B0, d0, hv0⟩ := Kd.R_slice hr0
  subst hv0
  obtain ⟨B1, d1, hv1⟩ := Kd.R_slice hr1
  subst hv1
  have hgR : g ≠ w.heap.size := fun e => hRg e.symm
  have hR1 : w1.heap[w.heap.size]? = some (.cells #[.slice none 0 0, .slice none 0 0] 36 (0, 0)) := hk1.blk (blk_below (heap_alloc_new w (.cells #[.slice none 0 0, .slice none 0 0] 36)) hbo2) hRg (by simp)
  have hkw : KeepBut w w1 g none := ((keep_alloc (KeepBut.refl w g none) _).trans (KeepBut.of_below hbo2 g none) (.inl rfl)).trans hk1 (.inl rfl)
  have hr0 := Aside0.mk (Kd.R_lower (base' := w.heap.size) hr0 (by first | (simp; done) | exact hsz.out))
  have hr1 := Aside0.mk (Kd.R_lower (base' := w.heap.size) hr1 (by first | (simp; done) | exact hsz.out))
  replace hgR := Aside0.mk hgR
  replace hR1 := Aside0.mk hR1
  replace hkw := Aside0.mk hkw
  replace hi1 := Aside0.mk hi1
  replace hb1 := Aside0.mk hb1
  clear hk1
  go_wp2_with (fail)
  refine (spec_l6Rd_pick.calls k g s0_0 p1 2 d p2 w _ (hi1.out.alloc _) (below_alloc hb1.out _) A2.out).mono ?_
  rintro e w2 ⟨rfl, hi2, hb2, hk2⟩
  have hD2 : w2.heap[w1.heap.size]? = some (.cells #[.slice B0 t0.length d0, .slice B1 t1.length d1] 36 (0, 0)) := hk2.blk (heap_alloc_new _ _) (Nat.ne_of_gt (IsS118.lt hi1.out)) (by simp)
  have hR2 := Aside0.mk (hk2.blk (blk_alloc hR1.out _) (fun e => hgR.out e.symm) (by simp))
  have q0 := Aside0.mk (Kd.R_mono (ok' := fun _ => True) (Kd.R_keep (IsS118.apart (hi1.out.alloc _) (Kd.R_alloc hr0.out _) (by decide)) hk2 (fun _ hk => hk.2)) (fun _ _ => trivial))
  have q1 := Aside0.mk (Kd.R_mono (ok' := fun k => some k ≠ (Value.slice B0 t0.length d0).ownBlock) (Kd.R_keep (IsS118.apart (hi1.out.alloc _) (Kd.R_alloc hr1.out _) (by decide)) hk2 (fun _ hk => hk.2)) (fun _ hk => hk.1))
  have hk2w := Aside0.mk ((keep_alloc hkw.out _).trans hk2 (.inl rfl))
  replace hi2 := Aside0.mk hi2
  replace hb2 := Aside0.mk hb2
  have hc0 : w2.cell? ⟨w1.heap.size, 0, none⟩ = some (.slice B0 t0.length d0) := (blk_cell hD2 0).trans rfl
  have hc1 : w2.cell? ⟨w1.heap.size, 1, none⟩ = some (.slice B1 t1.length d1) := (blk_cell hD2 1).trans rfl
  clear hk2 hD2 hr0 hr1 hi1 hb1 hkw hR1
  by_cases cd : d = 0
  · have H := H.out
    rw [if_pos cd] at H
    replace cd : (d == 0) = true := beq_iff_eq.mpr cd
    replace H := Option.bind_eq_some_iff.mp H
    obtain ⟨⟨z0, z1, p3⟩, A3, H⟩ := H
    have A3 := Aside0.mk (show spec_l71Bent.f k s0_0 p2 t0 t1 = some (z0, z1, p3) from A3)
    simp only [Option.some.injEq, Prod.mk.injEq] at H
    obtain ⟨hh1, hh2⟩ := H
    subst hh1 hh2
    go_wp2_with (fail)
    refine (spec_l71Bent.calls k g s0_0 p2 B0 d0 t0 B1 d1 t1 z0 z1 p3 w.heap.size w _ hi2.out hb2.out (keep_size hk2w.out) q0.out (Kd.R_mono q1.out (fun _ _ => trivial)) A3.out).mono ?_
    rintro e w3 ⟨v2, v3, rfl, hs0, hs1, hi3, hb3, hk3⟩
    obtain ⟨E0, e0, hv2⟩ := Kd.R_slice hs0
    subst hv2
    obtain ⟨E1, e1, hv3⟩ := Kd.R_slice hs1
    subst hv3
    have hRx := hk3.blk hR2.out (fun e => hgR.out e.symm) (by simp)
    have hDn := Aside0.mk (adone hi3 hb3 (hk2w.out.trans hk3 (.inl rfl)) hs0 hs1 hRx rfl hgR.out (Nat.le_refl _))
    clear hs0 hs1 hi3 hb3 hk3 hc0 hc1 q0 q1 hi2 hb2
    have hS := blk_set hRx 0 (.slice E0 z0.length e0)
    have hd0 : w3.cell? ⟨w.heap.size, 0, none⟩ = some (.slice none 0 0) := (blk_cell hRx 0).trans rfl
    have hf0 : w3.frozen? ⟨w.heap.size, 0, none⟩ = false := blk_frozen hRx 0
    have hd1 : (w3.setCell ⟨w.heap.size, 0, none⟩ (.slice E0 z0.length e0)).cell? ⟨w.heap.size, 1, none⟩ = some (.slice none 0 0) := (blk_cell hS 1).trans rfl
    have hf1 : (w3.setCell ⟨w.heap.size, 0, none⟩ (.slice E0 z0.length e0)).frozen? ⟨w.heap.size, 1, none⟩ = false := blk_frozen hS 1
    clear hS hRx
    go_wp2_with (fail)
    exact bodyPost_ret (results_cell_row rfl _ _ w.heap.size 36 _ (0, 0) _ rfl hDn.out.1 Try.underlying36 rfl (show (Try.prog.info? 36).map (·.size) = some 2 by kernel_rfl)) rfl ⟨_, _, rfl, hDn.out.2.1, hDn.out.2.2.1, hDn.out.2.2.2.2.1⟩
  · have H := H.out
    rw [if_neg cd] at H
    replace cd : (d == 0) = false := beq_eq_false_iff_ne.mpr cd
    simp only [Option.some.injEq, Prod.mk.injEq] at H
    obtain ⟨hh1, hh2⟩ := H
    subst hh1 hh2
    have hRx := hR2.out
    have hDn := Aside0.mk (adone hi2.out hb2.out hk2w.out q0.out q1.out hRx rfl hgR.out (Nat.le_refl _))
    clear q0 q1 hi2 hb2
    have hS := blk_set hRx 0 (.slice B0 t0.length d0)
    have hd0 : w2.cell? ⟨w.heap.size, 0, none⟩ = some (.slice none 0 0) := (blk_cell hRx 0).trans rfl
    have hf0 : w2.frozen? ⟨w.heap.size, 0, none⟩ = false := blk_frozen hRx 0
    have hd1 : (w2.setCell ⟨w.heap.size, 0, none⟩ (.slice B0 t0.length d0)).cell? ⟨w.heap.size, 1, none⟩ = some (.slice none 0 0) := (blk_cell hS 1).trans rfl
    have hf1 : (w2.setCell ⟨w.heap.size, 0, none⟩ (.slice B0 t0.length d0)).frozen? ⟨w.heap.size, 1, none⟩ = false := blk_frozen hS 1
    clear hS hRx
    go_wp2_with (fail)
    exact bodyPost_ret (results_cell_row rfl _ _ w.heap.size 36 _ (0, 0) _ rfl hDn.out.1 Try.underlying36 rfl (show (Try.prog.info? 36).map (·.size) = some 2 by kernel_rfl)) rfl ⟨_, _, rfl, hDn.out.2.1, hDn.out.2.2.1, hDn.out.2.2.2.2.1⟩
def impl_isPlace.f (a0 : Int) (a1 : Int) : Option (Bool) := if 0 ≤ a0 then (some (decide (a0 < a1))) else (some false)
set_option maxHeartbeats 8000000 in
set_option maxRecDepth 100000 in
theorem impl_isPlace.calls (a0 : Int) (a1 : Int) (r : Bool) (w : World) (h : impl_isPlace.f a0 a1 = some r) :
    Calls Try.prog 66 #[.int .i64 a0, .int .i64 a1] w fun e w' => e = .returned (.bool r) ∧ Drawn0 w w' := by
  have H : (if 0 ≤ a0 then (some (decide (a0 < a1))) else (some false)) = some r := h
  clear h
  by_cases c3 : 0 ≤ a0
  · rw [if_pos c3] at H
    have c3b0 : decide (0 ≤ a0) = true := decide_eq_true c3
    clear c3
    obtain rfl := Option.some.inj H
    go_enter Try.func66, Try.ntmps66
    go_wp2
    go_ret
    exact ⟨by first | rfl | (simp; done) | (simp [*]; done), by repeat (first | exact Drawn0.refl _ | apply Drawn0.step)⟩
  · rw [if_neg c3] at H
    have c3b0 : decide (0 ≤ a0) = false := decide_eq_false c3
    clear c3
    obtain rfl := Option.some.inj H
    go_enter Try.func66, Try.ntmps66
    go_wp2
    go_ret
    exact ⟨by first | rfl | (simp; done) | (simp [*]; done), by repeat (first | exact Drawn0.refl _ | apply Drawn0.step)⟩
def impl_isNum.f (a0 : Int) : Option (Bool) := (impl_isPlace.f a0 100).bind fun t229 => (some t229)
set_option maxHeartbeats 8000000 in
set_option maxRecDepth 100000 in
theorem impl_isNum.calls (a0 : Int) (r : Bool) (w : World) (h : impl_isNum.f a0 = some r) :
    Calls Try.prog 85 #[.int .i64 a0] w fun e w' => e = .returned (.bool r) ∧ Drawn0 w w' := by
  have H : ((impl_isPlace.f a0 100).bind fun t229 => (some t229)) = some r := h
  clear h
  replace H := Option.bind_eq_some_iff.mp H
  obtain ⟨t229, A20, H⟩ := H
  replace H : (some t229) = some r := H
  have A2 := Aside0.mk A20
  clear A20
  obtain rfl := Option.some.inj H
  go_enter Try.func85, Try.ntmps85
  go_wp2_with (first | ((with_reducible refine gate_callee (f := 66) rfl ?_); refine goesL_ (some 4) rfl rfl Try.func66 (by kernel_rfl) rfl #[.int .i64 a0, .int .i64 100] rfl (by (try simp only [List.map_toArray, List.map_cons, List.map_nil]); first | done | rfl | (simp only [List.length_drop, List.length_take]; rfl)) ?_; (with_reducible refine (impl_isPlace.calls a0 100 t229 _ A2.out).mono ?_); rintro e w' ⟨rfl, ⟨nd, rfl⟩⟩; refine ⟨_, rfl, ?_⟩))
  go_ret
  exact ⟨by first | rfl | (simp; done) | (simp [*]; done), by repeat (first | exact Drawn0.refl _ | apply Drawn0.step)⟩
def impl_allNums.l0 : Nat → List Int → Int → Int → Option (Bool)
  | 0, _, _, _ => none
  | k + 1, x5, x6, x7 => if x7 < x6 then (if 0 ≤ x7 then (if x7 < (x5.length : Int) then ((impl_isNum.f (rd x5 x7)).bind fun t231 => (if t231 = true then (impl_allNums.l0 k x5 x6 (wrap64 (x7 + 1))) else (some false))) else (none)) else (none)) else (some true)
def impl_allNums.f (k : Nat) (l0 : List Int) : Option (Bool) := impl_allNums.l0 k l0 (l0.length : Int) 0
set_option maxHeartbeats 8000000 in
set_option maxRecDepth 100000 in
theorem impl_allNums.calls (k : Nat) (A0 : Option Addr) (c0 : Nat) (l0 : List Int) (r : Bool) (w : World) (hr0 : Kd.C (Kd.int .i64) w A0 l0.length l0) (hc0 : l0.length ≤ c0) (h : impl_allNums.f k l0 = some r) :
    Calls Try.prog 60 #[.slice A0 l0.length c0] w fun e w' => e = .returned (.bool r) ∧ Drawn0 w w' := by
  have HR0 := Aside0.mk hr0
  have HC0 := Aside0.mk hc0
  clear hr0 hc0
  have H : (impl_allNums.l0 k l0 (l0.length : Int) 0) = some r := h
  clear h
  have H' := Aside0.mk H
  clear H
  go_enter Try.func60, Try.ntmps60
  go_wp2
  go_loopg [7] k (fun kq v7 w' => ∃ (x7_1 : Int), v7 = .int .i64 x7_1 ∧ Aside0 (impl_allNums.l0 kq l0 (l0.length : Int) x7_1 = some r) ∧ Aside0 (kq ≤ k) ∧ Drawn0 w w')
  case atStart => exact ⟨(0), (by first | rfl | (simp; done) | (simp [*]; done)), H', ⟨Nat.le_refl _⟩, by repeat (first | exact Drawn0.refl _ | apply Drawn0.step)⟩
  case round =>
    clear H'
    obtain ⟨x7_1, rfl, HA, HK1, ⟨m1, rfl⟩⟩ := hrel
    cases gk with
    | zero => exact absurd HA.out (by simp [impl_allNums.l0])
    | succ k1 =>
      have H := HA.out
      clear HA
      simp only [impl_allNums.l0] at H
      by_cases c2 : x7_1 < (l0.length : Int)
      · rw [if_pos c2] at H
        have c2b0 : decide (x7_1 < (l0.length : Int)) = true := decide_eq_true c2
        clear c2
        by_cases c3 : 0 ≤ x7_1
        · rw [if_pos c3] at H
          have c3b0 : decide (0 ≤ x7_1) = true := decide_eq_true c3
          clear c3
          by_cases c4 : x7_1 < (l0.length : Int)
          · rw [if_pos c4] at H
            have c4b0 : decide (x7_1 < (l0.length : Int)) = true := decide_eq_true c4
            clear c4
            replace H := Option.bind_eq_some_iff.mp H
            obtain ⟨t231, A50, H⟩ := H
            replace H : (if t231 = true then (impl_allNums.l0 k1 l0 (l0.length : Int) (wrap64 (x7_1 + 1))) else (some false)) = some r := H
            have A5 := Aside0.mk A50
            clear A50
            by_cases c6 : t231 = true
            · subst c6
              have H1 : (impl_allNums.l0 k1 l0 (l0.length : Int) (wrap64 (x7_1 + 1))) = some r := by rw [if_pos rfl] at H; exact H
              clear H
              have H := H1
              clear H1
              have H' := Aside0.mk H
              clear H
              have p230 : 0 ≤ (x7_1 : Int) := of_decide_eq_true (by first | (with_reducible assumption) | assumption)
              have q230 : x7_1 < (l0.length : Int) := of_decide_eq_true (by first | (with_reducible assumption) | assumption)
              obtain ⟨ad230, e230, hx230_0⟩ := Kd.at_int HR0.out x7_1 p230 q230
              cases e230
              replace p230 := eq_true p230
              replace q230 := eq_true q230
              go_wp2_with (first | ((with_reducible refine gate_callee (f := 85) rfl ?_); refine goesL_ (some 12) rfl rfl Try.func85 (by kernel_rfl) rfl #[.int .i64 (rd l0 x7_1)] rfl (by (try simp only [List.map_toArray, List.map_cons, List.map_nil]); first | done | rfl | (simp only [List.length_drop, List.length_take]; rfl)) ?_; (with_reducible refine (impl_isNum.calls (rd l0 x7_1) true _ A5.out).mono ?_); rintro e w' ⟨rfl, ⟨nd, rfl⟩⟩; refine ⟨_, rfl, ?_⟩))
              go_roundg k1
              case measure => have := HK1.out; omega
              case rel => exact ⟨(wrap64 (x7_1 + 1)), (by first | rfl | (simp; done) | (simp [*]; done)), H', ⟨by have := HK1.out; omega⟩, by repeat (first | exact Drawn0.refl _ | apply Drawn0.step)⟩
            · replace c6 := Bool.eq_false_iff.mpr c6
              subst c6
              have H1 : (some false) = some r := by rw [if_neg (show ¬ (false = true) by decide)] at H; exact H
              clear H
              have H := H1
              clear H1
              obtain rfl := Option.some.inj H
              have p230 : 0 ≤ (x7_1 : Int) := of_decide_eq_true (by first | (with_reducible assumption) | assumption)
              have q230 : x7_1 < (l0.length : Int) := of_decide_eq_true (by first | (with_reducible assumption) | assumption)
              obtain ⟨ad230, e230, hx230_0⟩ := Kd.at_int HR0.out x7_1 p230 q230
              cases e230
              replace p230 := eq_true p230
              replace q230 := eq_true q230
              go_wp2_with (first | ((with_reducible refine gate_callee (f := 85) rfl ?_); refine goesL_ (some 12) rfl rfl Try.func85 (by kernel_rfl) rfl #[.int .i64 (rd l0 x7_1)] rfl (by (try simp only [List.map_toArray, List.map_cons, List.map_nil]); first | done | rfl | (simp only [List.length_drop, List.length_take]; rfl)) ?_; (with_reducible refine (impl_isNum.calls (rd l0 x7_1) false _ A5.out).mono ?_); rintro e w' ⟨rfl, ⟨nd, rfl⟩⟩; refine ⟨_, rfl, ?_⟩))
              go_ret
              exact ⟨by first | rfl | (simp; done) | (simp [*]; done), by repeat (first | exact Drawn0.refl _ | apply Drawn0.step)⟩
          · rw [if_neg c4] at H
            exact absurd H (by simp)
        · rw [if_neg c3] at H
          exact absurd H (by simp)
      · rw [if_neg c2] at H
        have c2b0 : decide (x7_1 < (l0.length : Int)) = false := decide_eq_false c2
        clear c2
        obtain rfl := Option.some.inj H
        go_wp2
        go_ret
        exact ⟨by first | rfl | (simp; done) | (simp [*]; done), by repeat (first | exact Drawn0.refl _ | apply Drawn0.step)⟩
def impl_isReg.f (a0 : Int) : Option (Bool) := (impl_isPlace.f a0 3).bind fun t232 => (some t232)
set_option maxHeartbeats 8000000 in
set_option maxRecDepth 100000 in
theorem impl_isReg.calls (a0 : Int) (r : Bool) (w : World) (h : impl_isReg.f a0 = some r) :
    Calls Try.prog 87 #[.int .i64 a0] w fun e w' => e = .returned (.bool r) ∧ Drawn0 w w' := by
  have H : ((impl_isPlace.f a0 3).bind fun t232 => (some t232)) = some r := h
  clear h
  replace H := Option.bind_eq_some_iff.mp H
  obtain ⟨t232, A20, H⟩ := H
  replace H : (some t232) = some r := H
  have A2 := Aside0.mk A20
  clear A20
  obtain rfl := Option.some.inj H
  go_enter Try.func87, Try.ntmps87
  go_wp2_with (first | ((with_reducible refine gate_callee (f := 66) rfl ?_); refine goesL_ (some 4) rfl rfl Try.func66 (by kernel_rfl) rfl #[.int .i64 a0, .int .i64 3] rfl (by (try simp only [List.map_toArray, List.map_cons, List.map_nil]); first | done | rfl | (simp only [List.length_drop, List.length_take]; rfl)) ?_; (with_reducible refine (impl_isPlace.calls a0 3 t232 _ A2.out).mono ?_); rintro e w' ⟨rfl, ⟨nd, rfl⟩⟩; refine ⟨_, rfl, ?_⟩))
  go_ret
  exact ⟨by first | rfl | (simp; done) | (simp [*]; done), by repeat (first | exact Drawn0.refl _ | apply Drawn0.step)⟩
end Go.Proofs.Ytoeepmcaabmjkaa.QPM
namespace Go.Proofs.Ytoeepmcaabmjkaa.QPM
open Go.RowKit Go.Proofs.YtoeepmcaabmjkaaW.PrintWords Go.Proofs.YtoeepmcaabmjkaaW.PrintLast Go.Proofs.YtoeepmcaabmjkaaW.PrintMore
attribute [local go_sem] max2_int min2_int max_two min_two max_three min_three max_four min_four   -- for this text's walks alone
set_option linter.unusedVariables false
set_option linter.unusedSimpArgs false
def impl_deedOk.f (a0 : Part) (a1 : Int) : Option Bool :=
  if a0.t = 1 then (impl_isReg.f a0.a).bind fun b => if b = true then impl_isPlace.f a0.b a1 else some false
  else if a0.t = 2 then (impl_isPlace.f a0.a a1).bind fun b => if b = true then impl_isReg.f a0.b else some false
  else if a0.t = 3 then (impl_isReg.f a0.a).bind fun b => if b = true then impl_isNum.f a0.b else some false
  else if a0.t = 4 then (impl_isReg.f a0.a).bind fun b => if b = true then impl_isReg.f a0.b else some false
  else if a0.t = 5 then impl_isReg.f a0.a
  else some false
set_option maxHeartbeats 8000000 in
set_option maxRecDepth 100000 in
theorem impl_deedOk.calls (a0 : Part) (a1 : Int) (r : Bool) (w : World) (h : impl_deedOk.f a0 a1 = some r) :
    Calls Try.prog 99 #[partW a0, .int .i64 a1] w fun e w' => e = .returned (.bool r) ∧ Below w.heap.size w w' := by
  obtain ⟨t, a, b⟩ := a0
  have hu1 := Try.underlying159
  have hu2 := Try.underlying161
  have hu3 := Try.underlying163
  have hu4 := Try.underlying165
  have hu5 := Try.underlying166
  unfold impl_deedOk.f at h
  simp only at h
  by_cases c1 : t = 1
  · subst c1
    rw [if_pos rfl] at h
    show Calls Try.prog 99 #[.iface 159 (.agg #[.int .i64 a, .int .i64 b]), .int .i64 a1] w _
    have y1 : ∀ W, (Instr.typeAssert (.iface 159 (.agg #[.int .i64 a, .int .i64 b])) 97 159 true).run Try.prog W = .ok (.tuple #[.agg #[.int .i64 a, .int .i64 b], .bool true]) W := fun W => by kernel_rfl
    obtain ⟨b1, h1, h2⟩ := Option.bind_eq_some_iff.1 h
    clear h
    have H1 := Aside0.mk h1
    clear h1
    cases b1 with
    | false =>
      obtain rfl : r = false := by simpa using h2.symm
      clear h2
      go_enter Try.func99, Try.ntmps99
      go_wp2_with fail
      refine (impl_isReg.calls a false _ H1.out).mono ?_
      rintro e w1 ⟨rfl, hd⟩
      obtain ⟨nd, rfl⟩ := hd.out
      go_wp2
      go_ret
      exact ⟨rfl, pw_below_drewN (below_alloc (Below.refl _ _) _) _⟩
    | true =>
      have H2 := Aside0.mk (show impl_isPlace.f b a1 = some r from h2)
      clear h2
      go_enter Try.func99, Try.ntmps99
      go_wp2_with fail
      refine (impl_isReg.calls a true _ H1.out).mono ?_
      rintro e w1 ⟨rfl, hd⟩
      obtain ⟨nd, rfl⟩ := hd.out
      go_wp2_with fail
      refine (impl_isPlace.calls b a1 r _ H2.out).mono ?_
      rintro e w2 ⟨rfl, hd2⟩
      obtain ⟨nd2, rfl⟩ := hd2.out
      go_wp2
      go_ret
      exact ⟨rfl, by repeat (first | exact Below.refl _ _ | apply pw_below_drewN | apply below_alloc)⟩
  by_cases c2 : t = 2
  · subst c2
    rw [if_neg (by decide), if_pos rfl] at h
    show Calls Try.prog 99 #[.iface 161 (.agg #[.int .i64 a, .int .i64 b]), .int .i64 a1] w _
    have y1 : ∀ W, (Instr.typeAssert (.iface 161 (.agg #[.int .i64 a, .int .i64 b])) 97 159 true).run Try.prog W = .ok (.tuple #[.agg #[.int .i64 0, .int .i64 0], .bool false]) W := fun W => by kernel_rfl
    have y2 : ∀ W, (Instr.typeAssert (.iface 161 (.agg #[.int .i64 a, .int .i64 b])) 97 161 true).run Try.prog W = .ok (.tuple #[.agg #[.int .i64 a, .int .i64 b], .bool true]) W := fun W => by kernel_rfl
    obtain ⟨b1, h1, h2⟩ := Option.bind_eq_some_iff.1 h
    clear h
    have H1 := Aside0.mk h1
    clear h1
    cases b1 with
    | false =>
      obtain rfl : r = false := by simpa using h2.symm
      clear h2
      go_enter Try.func99, Try.ntmps99
      go_wp2_with fail
      refine (impl_isPlace.calls a a1 false _ H1.out).mono ?_
      rintro e w1 ⟨rfl, hd⟩
      obtain ⟨nd, rfl⟩ := hd.out
      go_wp2
      go_ret
      exact ⟨rfl, pw_below_drewN (below_alloc (Below.refl _ _) _) _⟩
    | true =>
      have H2 := Aside0.mk (show impl_isReg.f b = some r from h2)
      clear h2
      go_enter Try.func99, Try.ntmps99
      go_wp2_with fail
      refine (impl_isPlace.calls a a1 true _ H1.out).mono ?_
      rintro e w1 ⟨rfl, hd⟩
      obtain ⟨nd, rfl⟩ := hd.out
      go_wp2_with fail
      refine (impl_isReg.calls b r _ H2.out).mono ?_
      rintro e w2 ⟨rfl, hd2⟩
      obtain ⟨nd2, rfl⟩ := hd2.out
      go_wp2
      go_ret
      exact ⟨rfl, by repeat (first | exact Below.refl _ _ | apply pw_below_drewN | apply below_alloc)⟩
  by_cases c3 : t = 3
  · subst c3
    rw [if_neg (by decide), if_neg (by decide), if_pos rfl] at h
    show Calls Try.prog 99 #[.iface 163 (.agg #[.int .i64 a, .int .i64 b]), .int .i64 a1] w _
    have y1 : ∀ W, (Instr.typeAssert (.iface 163 (.agg #[.int .i64 a, .int .i64 b])) 97 159 true).run Try.prog W = .ok (.tuple #[.agg #[.int .i64 0, .int .i64 0], .bool false]) W := fun W => by kernel_rfl
    have y2 : ∀ W, (Instr.typeAssert (.iface 163 (.agg #[.int .i64 a, .int .i64 b])) 97 161 true).run Try.prog W = .ok (.tuple #[.agg #[.int .i64 0, .int .i64 0], .bool false]) W := fun W => by kernel_rfl
    have y3 : ∀ W, (Instr.typeAssert (.iface 163 (.agg #[.int .i64 a, .int .i64 b])) 97 163 true).run Try.prog W = .ok (.tuple #[.agg #[.int .i64 a, .int .i64 b], .bool true]) W := fun W => by kernel_rfl
    obtain ⟨b1, h1, h2⟩ := Option.bind_eq_some_iff.1 h
    clear h
    have H1 := Aside0.mk h1
    clear h1
    cases b1 with
    | false =>
      obtain rfl : r = false := by simpa using h2.symm
      clear h2
      go_enter Try.func99, Try.ntmps99
      go_wp2_with fail
      refine (impl_isReg.calls a false _ H1.out).mono ?_
      rintro e w1 ⟨rfl, hd⟩
      obtain ⟨nd, rfl⟩ := hd.out
      go_wp2
      go_ret
      exact ⟨rfl, pw_below_drewN (below_alloc (Below.refl _ _) _) _⟩
    | true =>
      have H2 := Aside0.mk (show impl_isNum.f b = some r from h2)
      clear h2
      go_enter Try.func99, Try.ntmps99
      go_wp2_with fail
      refine (impl_isReg.calls a true _ H1.out).mono ?_
      rintro e w1 ⟨rfl, hd⟩
      obtain ⟨nd, rfl⟩ := hd.out
      go_wp2_with fail
      refine (impl_isNum.calls b r _ H2.out).mono ?_
      rintro e w2 ⟨rfl, hd2⟩
      obtain ⟨nd2, rfl⟩ := hd2.out
      go_wp2
      go_ret
      exact ⟨rfl, by repeat (first | exact Below.refl _ _ | apply pw_below_drewN | apply below_alloc)⟩
  by_cases c4 : t = 4
  · subst c4
    rw [if_neg (by decide), if_neg (by decide), if_neg (by decide), if_pos rfl] at h
    show Calls Try.prog 99 #[.iface 165 (.agg #[.int .i64 a, .int .i64 b]), .int .i64 a1] w _
    have y1 : ∀ W, (Instr.typeAssert (.iface 165 (.agg #[.int .i64 a, .int .i64 b])) 97 159 true).run Try.prog W = .ok (.tuple #[.agg #[.int .i64 0, .int .i64 0], .bool false]) W := fun W => by kernel_rfl
    have y2 : ∀ W, (Instr.typeAssert (.iface 165 (.agg #[.int .i64 a, .int .i64 b])) 97 161 true).run Try.prog W = .ok (.tuple #[.agg #[.int .i64 0, .int .i64 0], .bool false]) W := fun W => by kernel_rfl
    have y3 : ∀ W, (Instr.typeAssert (.iface 165 (.agg #[.int .i64 a, .int .i64 b])) 97 163 true).run Try.prog W = .ok (.tuple #[.agg #[.int .i64 0, .int .i64 0], .bool false]) W := fun W => by kernel_rfl
    have y4 : ∀ W, (Instr.typeAssert (.iface 165 (.agg #[.int .i64 a, .int .i64 b])) 97 165 true).run Try.prog W = .ok (.tuple #[.agg #[.int .i64 a, .int .i64 b], .bool true]) W := fun W => by kernel_rfl
    obtain ⟨b1, h1, h2⟩ := Option.bind_eq_some_iff.1 h
    clear h
    have H1 := Aside0.mk h1
    clear h1
    cases b1 with
    | false =>
      obtain rfl : r = false := by simpa using h2.symm
      clear h2
      go_enter Try.func99, Try.ntmps99
      go_wp2_with fail
      refine (impl_isReg.calls a false _ H1.out).mono ?_
      rintro e w1 ⟨rfl, hd⟩
      obtain ⟨nd, rfl⟩ := hd.out
      go_wp2
      go_ret
      exact ⟨rfl, pw_below_drewN (below_alloc (Below.refl _ _) _) _⟩
    | true =>
      have H2 := Aside0.mk (show impl_isReg.f b = some r from h2)
      clear h2
      go_enter Try.func99, Try.ntmps99
      go_wp2_with fail
      refine (impl_isReg.calls a true _ H1.out).mono ?_
      rintro e w1 ⟨rfl, hd⟩
      obtain ⟨nd, rfl⟩ := hd.out
      go_wp2_with fail
      refine (impl_isReg.calls b r _ H2.out).mono ?_
      rintro e w2 ⟨rfl, hd2⟩
      obtain ⟨nd2, rfl⟩ := hd2.out
      go_wp2
      go_ret
      exact ⟨rfl, by repeat (first | exact Below.refl _ _ | apply pw_below_drewN | apply below_alloc)⟩
  by_cases c5 : t = 5
  · subst c5
    rw [if_neg (by decide), if_neg (by decide), if_neg (by decide), if_neg (by decide), if_pos rfl] at h
    show Calls Try.prog 99 #[.iface 166 (.agg #[.int .i64 a]), .int .i64 a1] w _
    have y1 : ∀ W, (Instr.typeAssert (.iface 166 (.agg #[.int .i64 a])) 97 159 true).run Try.prog W = .ok (.tuple #[.agg #[.int .i64 0, .int .i64 0], .bool false]) W := fun W => by kernel_rfl
    have y2 : ∀ W, (Instr.typeAssert (.iface 166 (.agg #[.int .i64 a])) 97 161 true).run Try.prog W = .ok (.tuple #[.agg #[.int .i64 0, .int .i64 0], .bool false]) W := fun W => by kernel_rfl
    have y3 : ∀ W, (Instr.typeAssert (.iface 166 (.agg #[.int .i64 a])) 97 163 true).run Try.prog W = .ok (.tuple #[.agg #[.int .i64 0, .int .i64 0], .bool false]) W := fun W => by kernel_rfl
    have y4 : ∀ W, (Instr.typeAssert (.iface 166 (.agg #[.int .i64 a])) 97 165 true).run Try.prog W = .ok (.tuple #[.agg #[.int .i64 0, .int .i64 0], .bool false]) W := fun W => by kernel_rfl
    have y5 : ∀ W, (Instr.typeAssert (.iface 166 (.agg #[.int .i64 a])) 97 166 true).run Try.prog W = .ok (.tuple #[.agg #[.int .i64 a], .bool true]) W := fun W => by kernel_rfl
    have H1 := Aside0.mk h
    clear h
    go_enter Try.func99, Try.ntmps99
    go_wp2_with fail
    refine (impl_isReg.calls a r _ H1.out).mono ?_
    rintro e w1 ⟨rfl, hd⟩
    obtain ⟨nd, rfl⟩ := hd.out
    go_wp2
    go_ret
    exact ⟨rfl, pw_below_drewN (below_alloc (Below.refl _ _) _) _⟩
  rw [if_neg c1, if_neg c2, if_neg c3, if_neg c4, if_neg c5] at h
  obtain rfl := Option.some.inj h
  have hp : partW ⟨t, a, b⟩ = .nilIface := by simp [partW, c1, c2, c3, c4, c5]
  rw [hp]
  clear hp c1 c2 c3 c4 c5 h
  have y1 : ∀ W, (Instr.typeAssert .nilIface 97 159 true).run Try.prog W = .ok (.tuple #[.agg #[.int .i64 0, .int .i64 0], .bool false]) W := fun W => by kernel_rfl
  have y2 : ∀ W, (Instr.typeAssert .nilIface 97 161 true).run Try.prog W = .ok (.tuple #[.agg #[.int .i64 0, .int .i64 0], .bool false]) W := fun W => by kernel_rfl
  have y3 : ∀ W, (Instr.typeAssert .nilIface 97 163 true).run Try.prog W = .ok (.tuple #[.agg #[.int .i64 0, .int .i64 0], .bool false]) W := fun W => by kernel_rfl
  have y4 : ∀ W, (Instr.typeAssert .nilIface 97 165 true).run Try.prog W = .ok (.tuple #[.agg #[.int .i64 0, .int .i64 0], .bool false]) W := fun W => by kernel_rfl
  have y5 : ∀ W, (Instr.typeAssert .nilIface 97 166 true).run Try.prog W = .ok (.tuple #[.agg #[.int .i64 0], .bool false]) W := fun W => by kernel_rfl
  go_enter Try.func99, Try.ntmps99
  go_wp2
  go_ret
  exact ⟨rfl, Below.refl _ _⟩
def impl_partOfDeed.f (a0_0 : Int) (a0_1 : Int) (a0_2 : Int) : Option Part :=
  some (if a0_0 = 1 ∨ a0_0 = 2 ∨ a0_0 = 3 ∨ a0_0 = 4 then ⟨a0_0, a0_1, a0_2⟩ else if a0_0 = 5 then (if a0_2 = 0 then ⟨5, a0_1, 0⟩ else ⟨0, 0, 0⟩) else ⟨0, 0, 0⟩)
set_option maxHeartbeats 4000000 in
set_option maxRecDepth 100000 in
theorem impl_partOfDeed.calls (a0_0 : Int) (a0_1 : Int) (a0_2 : Int) (r : Part) (w : World) (h : impl_partOfDeed.f a0_0 a0_1 a0_2 = some r) :
    Calls Try.prog 100 #[.agg #[.int .i64 a0_0, .int .i64 a0_1, .int .i64 a0_2]] w fun e w' => e = .returned (partW r) ∧ Below w.heap.size w w' := by
  obtain rfl := Option.some.inj h
  clear h
  have hu := Try.underlying122
  have hu1 := Try.underlying159
  have hu2 := Try.underlying161
  have hu3 := Try.underlying163
  have hu4 := Try.underlying165
  have hu5 := Try.underlying166
  by_cases c1 : a0_0 = 1
  · subst c1
    go_enter Try.func100, Try.ntmps100
    go_wp2
    go_ret
    exact ⟨by simp [partW], below_alloc (Below.refl _ _) _⟩
  have c1b : (a0_0 == 1) = false := beq_eq_false_iff_ne.mpr c1
  by_cases c2 : a0_0 = 2
  · subst c2
    go_enter Try.func100, Try.ntmps100
    go_wp2
    go_ret
    exact ⟨by simp [partW], below_alloc (Below.refl _ _) _⟩
  have c2b : (a0_0 == 2) = false := beq_eq_false_iff_ne.mpr c2
  by_cases c3 : a0_0 = 3
  · subst c3
    go_enter Try.func100, Try.ntmps100
    go_wp2
    go_ret
    exact ⟨by simp [partW], below_alloc (Below.refl _ _) _⟩
  have c3b : (a0_0 == 3) = false := beq_eq_false_iff_ne.mpr c3
  by_cases c4 : a0_0 = 4
  · subst c4
    go_enter Try.func100, Try.ntmps100
    go_wp2
    go_ret
    exact ⟨by simp [partW], below_alloc (Below.refl _ _) _⟩
  have c4b : (a0_0 == 4) = false := beq_eq_false_iff_ne.mpr c4
  by_cases c5 : a0_0 = 5
  · subst c5
    by_cases c6 : a0_2 = 0
    · subst c6
      go_enter Try.func100, Try.ntmps100
      go_wp2
      go_ret
      exact ⟨by simp [partW], below_alloc (Below.refl _ _) _⟩
    · have c6b : (a0_2 == 0) = false := beq_eq_false_iff_ne.mpr c6
      go_enter Try.func100, Try.ntmps100
      go_wp2
      go_ret
      exact ⟨by simp [partW, c6], below_alloc (Below.refl _ _) _⟩
  have c5b : (a0_0 == 5) = false := beq_eq_false_iff_ne.mpr c5
  go_enter Try.func100, Try.ntmps100
  go_wp2
  go_ret
  exact ⟨by simp [partW, c1, c2, c3, c4, c5], below_alloc (Below.refl _ _) _⟩
end Go.Proofs.Ytoeepmcaabmjkaa.QPM
namespace Go.Proofs.Ytoeepmcaabmjkaa.QPM
open Go.RowKit Go.Proofs.YtoeepmcaabmjkaaW.PrintWords Go.Proofs.YtoeepmcaabmjkaaW.PrintLast Go.Proofs.YtoeepmcaabmjkaaW.PrintMore
attribute [local go_sem] max2_int min2_int max_two min_two max_three min_three max_four min_four   -- for this text's walks alone
set_option linter.unusedVariables false
set_option linter.unusedSimpArgs false
mutual
def impl_ChangeOk.j0 : Nat → List (S122) → Int → Bool → Option (Bool)
  | 0, _, _, _ => none
  | k + 1, x0, x1, x17 => if x17 = true then (some false) else (impl_ChangeOk.l0 k x1 x0 (x0.length : Int) 0)
def impl_ChangeOk.l0 : Nat → Int → List (S122) → Int → Int → Option (Bool)
  | 0, _, _, _, _ => none
  | k + 1, x1, x18, x19, x20 => if x20 < x19 then (if 0 ≤ x20 then (if x20 < (x18.length : Int) then ((impl_partOfDeed.f ((rd_T122 x18 x20).f0) ((rd_T122 x18 x20).f1) ((rd_T122 x18 x20).f2)).bind fun t235 => ((impl_deedOk.f t235 x1).bind fun t236 => (if t236 = true then (impl_ChangeOk.l0 k x1 x18 x19 (wrap64 (x20 + 1))) else (some false)))) else (none)) else (none)) else (some true)
end
def impl_ChangeOk.f (k : Nat) (l0 : List (S122)) (a1 : Int) : Option (Bool) := if a1 < 0 then (impl_ChangeOk.j0 k l0 a1 true) else (if a1 > 3 then (impl_ChangeOk.j0 k l0 a1 true) else (impl_ChangeOk.j0 k l0 a1 (decide ((l0.length : Int) > 5))))
set_option maxHeartbeats 8000000 in
set_option maxRecDepth 100000 in
theorem impl_ChangeOk.calls (k : Nat) (A0 : Option Addr) (c0 : Nat) (l0 : List (S122)) (a1 : Int) (r : Bool) (w : World) (hr0 : Kd.C k122 w A0 l0.length l0) (hc0 : l0.length ≤ c0) (h : impl_ChangeOk.f k l0 a1 = some r) :
    Calls Try.prog 86 #[.slice A0 l0.length c0, .int .i64 a1] w fun e w' => e = .returned (.bool r) ∧ Below w.heap.size w w' := by
  have hu122 := Try.underlying122
  have HR0 := Aside0.mk hr0
  have HC0 := Aside0.mk hc0
  clear hr0 hc0
  have HB := Aside0.mk (Below.refl w.heap.size w)
  have H : (if a1 < 0 then (impl_ChangeOk.j0 k l0 a1 true) else (if a1 > 3 then (impl_ChangeOk.j0 k l0 a1 true) else (impl_ChangeOk.j0 k l0 a1 (decide ((l0.length : Int) > 5))))) = some r := h
  clear h
  have HC3 := Aside0.mk H
  clear H
  go_enter Try.func86, Try.ntmps86
  go_upto_region 1 with (fail)
  go_cut [17] (fun v17 wc => ∃ (kq : Nat) (x17_2 : Bool), v17 = .bool x17_2 ∧ Aside0 (impl_ChangeOk.j0 kq l0 a1 x17_2 = some r) ∧ Aside0 (kq ≤ k) ∧ Aside0 (Below w.heap.size w wc))
  case first =>
    have H := HC3.out
    clear HC3
    by_cases c4 : a1 < 0
    · rw [if_pos c4] at H
      have c4b0 : decide (a1 < 0) = true := decide_eq_true c4
      clear c4
      (first | rw [c4b0] | (simp only [i64_w, i32_w]; rw [c4b0]) | skip)
      have H' := Aside0.mk H
      clear H
      go_wp2
      go_meet
      case rel => exact ⟨_, (true), (by first | rfl | (simp; done) | (simp [*]; done)), H', ⟨by first | omega | exact Nat.le_refl _⟩, ⟨by repeat (first | (with_reducible first | exact HB.out | apply below_alloc | apply pw_below_drewN | apply below_drew1) | exact HB.out)⟩⟩
    · rw [if_neg c4] at H
      have c4b0 : decide (a1 < 0) = false := decide_eq_false c4
      clear c4
      (first | rw [c4b0] | (simp only [i64_w, i32_w]; rw [c4b0]) | skip)
      by_cases c5 : a1 > 3
      · rw [if_pos c5] at H
        have c5b0 : decide (3 < a1) = true := decide_eq_true c5
        clear c5
        have H' := Aside0.mk H
        clear H
        go_wp2
        go_meet
        case rel => exact ⟨_, (true), (by first | rfl | (simp; done) | (simp [*]; done)), H', ⟨by first | omega | exact Nat.le_refl _⟩, ⟨by repeat (first | (with_reducible first | exact HB.out | apply below_alloc | apply pw_below_drewN | apply below_drew1) | exact HB.out)⟩⟩
      · rw [if_neg c5] at H
        have c5b0 : decide (3 < a1) = false := decide_eq_false c5
        clear c5
        have H' := Aside0.mk H
        clear H
        go_wp2
        go_meet
        case rel => exact ⟨_, (decide ((l0.length : Int) > 5)), (by first | rfl | (simp; done) | (simp [*]; done)), H', ⟨by first | omega | exact Nat.le_refl _⟩, ⟨by repeat (first | (with_reducible first | exact HB.out | apply below_alloc | apply pw_below_drewN | apply below_drew1) | exact HB.out)⟩⟩
  case rest =>
    clear HC3
    try clear p2
    try clear c4
    try clear c4b0
    try clear c5
    try clear c5b0
    obtain ⟨kq, x17_2, rfl, HA, HJ2, HB⟩ := hcut
    cases kq with
    | zero => exact absurd HA.out (by simp [impl_ChangeOk.j0])
    | succ kj2 =>
      have H := HA.out
      clear HA
      simp only [impl_ChangeOk.j0] at H
      by_cases c6 : x17_2 = true
      · subst c6
        have H1 : (some false) = some r := by rw [if_pos rfl] at H; exact H
        clear H
        have H := H1
        clear H1
        obtain rfl := Option.some.inj H
        go_wp2
        go_ret
        exact ⟨by first | rfl | (simp [errW_none, errW_some] <;> rfl) | (simp [*, errW_none, errW_some] <;> rfl), by repeat (first | (with_reducible first | exact HB.out | apply below_alloc | apply pw_below_drewN | apply below_drew1) | exact HB.out)⟩
      · replace c6 := Bool.eq_false_iff.mpr c6
        subst c6
        have H1 : (impl_ChangeOk.l0 kj2 a1 l0 (l0.length : Int) 0) = some r := by rw [if_neg (show ¬ (false = true) by decide)] at H; exact H
        clear H
        have H := H1
        clear H1
        have H' := Aside0.mk H
        clear H
        go_wp2
        go_loopg [20] kj2 (fun kq v20 w' => ∃ (x20_2 : Int), v20 = .int .i64 x20_2 ∧ Aside0 (impl_ChangeOk.l0 kq a1 l0 (l0.length : Int) x20_2 = some r) ∧ Aside0 (kq ≤ kj2) ∧ Aside0 (Below w.heap.size w w'))
        case atStart => exact ⟨(0), (by first | rfl | (simp; done) | (simp [*]; done)), H', ⟨Nat.le_refl _⟩, ⟨by repeat (first | (with_reducible first | exact HB.out | apply below_alloc | apply pw_below_drewN | apply below_drew1) | exact HB.out)⟩⟩
        case round =>
          clear H'
          try clear p2
          try clear c4
          try clear c4b0
          try clear c5
          try clear c5b0
          try clear c6
          try clear p2
          obtain ⟨x20_2, rfl, HA, HK2, HB⟩ := hrel
          cases gk with
          | zero => exact absurd HA.out (by simp [impl_ChangeOk.l0])
          | succ k2 =>
            have H := HA.out
            clear HA
            simp only [impl_ChangeOk.l0] at H
            by_cases c7 : x20_2 < (l0.length : Int)
            · rw [if_pos c7] at H
              have c7b0 : decide (x20_2 < (l0.length : Int)) = true := decide_eq_true c7
              clear c7
              by_cases c8 : 0 ≤ x20_2
              · rw [if_pos c8] at H
                have c8b0 : decide (0 ≤ x20_2) = true := decide_eq_true c8
                clear c8
                by_cases c9 : x20_2 < (l0.length : Int)
                · rw [if_pos c9] at H
                  have c9b0 : decide (x20_2 < (l0.length : Int)) = true := decide_eq_true c9
                  clear c9
                  replace H := Option.bind_eq_some_iff.mp H
                  obtain ⟨t235, A100, H⟩ := H
                  replace H : ((impl_deedOk.f t235 a1).bind fun t236 => (if t236 = true then (impl_ChangeOk.l0 k2 a1 l0 (l0.length : Int) (wrap64 (x20_2 + 1))) else (some false))) = some r := H
                  have A10 := Aside0.mk A100
                  clear A100
                  replace H := Option.bind_eq_some_iff.mp H
                  obtain ⟨t236, A110, H⟩ := H
                  replace H : (if t236 = true then (impl_ChangeOk.l0 k2 a1 l0 (l0.length : Int) (wrap64 (x20_2 + 1))) else (some false)) = some r := H
                  have A11 := Aside0.mk A110
                  clear A110
                  by_cases c12 : t236 = true
                  · subst c12
                    have H1 : (impl_ChangeOk.l0 k2 a1 l0 (l0.length : Int) (wrap64 (x20_2 + 1))) = some r := by rw [if_pos rfl] at H; exact H
                    clear H
                    have H := H1
                    clear H1
                    have H' := Aside0.mk H
                    clear H
                    have p233 : 0 ≤ (x20_2 : Int) := of_decide_eq_true (by first | (with_reducible assumption) | assumption)
                    have q233 : x20_2 < (l0.length : Int) := of_decide_eq_true (by first | (with_reducible assumption) | assumption)
                    obtain ⟨ad233, e233, hx233_0, hx233_1, hx233_2⟩ := at_T122 HR0.out x20_2 p233 q233
                    cases e233
                    replace hx233_0 := (HB.out.cell (World.block_lt_of_cell? w _ hx233_0)).trans hx233_0
                    replace hx233_1 := (HB.out.cell (World.block_lt_of_cell? w _ hx233_1)).trans hx233_1
                    replace hx233_2 := (HB.out.cell (World.block_lt_of_cell? w _ hx233_2)).trans hx233_2
                    replace p233 := eq_true p233
                    replace q233 := eq_true q233
                    go_wp2_with (first | ((with_reducible refine gate_dst (N := 6) rfl ?_); (try (refine gate_guard (by rfl) ?_; dsimp only)); refine box_event ?hg (N := 6) ?hd (cs := #[.int .i64 0, .int .i64 0, .int .i64 0]) (t := 122) ?hr ?_; (case hd => rfl); (case hg => rfl); (case hr => first | (go_simp; done) | (go_simp; rfl)); intro gb234 hg w13 hbox hb; have n0_ := Aside0.mk (below_step (by repeat (first | (with_reducible first | exact HB.out | apply below_alloc | apply pw_below_drewN | apply below_drew1) | exact HB.out)) hb); have n1_ := Aside0.mk (hbox); have n2_ := Aside0.mk ((by rw [hg]; exact (below_size (by repeat (first | (with_reducible first | exact HB.out | apply below_alloc | apply pw_below_drewN | apply below_drew1) | exact HB.out))) : w.heap.size ≤ gb234)); have n3_ := Aside0.mk ((by rw [hg]; exact (below_size (by repeat (first | (with_reducible first | exact HB.out | apply below_alloc | apply pw_below_drewN | apply below_drew1) | exact HB.out))) : w.heap.size ≤ gb234)); clear HB; have HB := n0_; have BK234 := n1_; have GW234 := n2_; have GE234 := n3_; clear n0_ n1_ n2_ n3_; clear hb hbox hg; have hcz14_0 : w13.cell? ⟨gb234, 0, none⟩ = some (.int .i64 0) := (blk_cell BK234.out 0).trans rfl; have hcz14_1 : w13.cell? ⟨gb234, 1, none⟩ = some (.int .i64 0) := (blk_cell BK234.out 1).trans rfl; have hcz14_2 : w13.cell? ⟨gb234, 2, none⟩ = some (.int .i64 0) := (blk_cell BK234.out 2).trans rfl; have hfz14_0 := blk_frozen BK234.out 0; have hfz14_1 := blk_frozen BK234.out 1; have hfz14_2 := blk_frozen BK234.out 2) | ((with_reducible refine gate_callee (f := 100) rfl ?_); refine goesL_ (some 25) rfl rfl Try.func100 (by kernel_rfl) rfl #[.agg #[.int .i64 ((rd_T122 l0 x20_2).f0), .int .i64 ((rd_T122 l0 x20_2).f1), .int .i64 ((rd_T122 l0 x20_2).f2)]] rfl (by (try simp only [List.map_toArray, List.map_cons, List.map_nil]); first | done | rfl | (simp only [List.length_drop, List.length_take]; rfl)) ?_; (with_reducible refine (impl_partOfDeed.calls ((rd_T122 l0 x20_2).f0) ((rd_T122 l0 x20_2).f1) ((rd_T122 l0 x20_2).f2) t235 _ A10.out).mono ?_); rintro e w15 ⟨rfl, hb⟩; refine ⟨_, rfl, ?_⟩; have n0_ := Aside0.mk (blk_below (g := gb234) (o := .cells #[.int .i64 ((rd_T122 l0 x20_2).f0), .int .i64 ((rd_T122 l0 x20_2).f1), .int .i64 ((rd_T122 l0 x20_2).f2)] 122 (0, 0)) (by (with_reducible repeat (first | refine blk_drewN ?_ _ | refine blk_drew ?_ | refine blk_alloc ?_ _)); refine blk_put (cs := #[.int .i64 ((rd_T122 l0 x20_2).f0), .int .i64 ((rd_T122 l0 x20_2).f1), .int .i64 0]) ?_ 2 _ rfl; (with_reducible repeat (first | refine blk_drewN ?_ _ | refine blk_drew ?_ | refine blk_alloc ?_ _)); refine blk_put (cs := #[.int .i64 ((rd_T122 l0 x20_2).f0), .int .i64 0, .int .i64 0]) ?_ 1 _ rfl; (with_reducible repeat (first | refine blk_drewN ?_ _ | refine blk_drew ?_ | refine blk_alloc ?_ _)); refine blk_put (cs := #[.int .i64 0, .int .i64 0, .int .i64 0]) ?_ 0 _ rfl; (with_reducible repeat (first | refine blk_drewN ?_ _ | refine blk_drew ?_ | refine blk_alloc ?_ _)); exact BK234.out) hb); have n1_ := Aside0.mk (below_step (by repeat (first | (with_reducible first | exact HB.out | apply below_alloc | apply pw_below_drewN | apply below_drew1 | refine below_set ?_ GE234.out) | exact HB.out)) hb); clear BK234; clear HB; have BK234 := n0_; have HB := n1_; clear n0_ n1_; (try clear hb); (try clear hb2); (try clear hk); (try clear hi)) | ((with_reducible refine gate_callee (f := 99) rfl ?_); refine goesL_ (some 27) rfl rfl Try.func99 (by kernel_rfl) rfl #[partW t235, .int .i64 a1] rfl (by (try simp only [List.map_toArray, List.map_cons, List.map_nil]); first | done | rfl | (simp only [List.length_drop, List.length_take]; rfl)) ?_; (with_reducible refine (impl_deedOk.calls t235 a1 true _ A11.out).mono ?_); rintro e w16 ⟨rfl, hb⟩; refine ⟨_, rfl, ?_⟩; have n0_ := Aside0.mk (blk_below (g := gb234) (o := .cells #[.int .i64 ((rd_T122 l0 x20_2).f0), .int .i64 ((rd_T122 l0 x20_2).f1), .int .i64 ((rd_T122 l0 x20_2).f2)] 122 (0, 0)) (by (with_reducible repeat (first | refine blk_drewN ?_ _ | refine blk_drew ?_ | refine blk_alloc ?_ _)); exact BK234.out) hb); have n1_ := Aside0.mk (below_step (by repeat (first | (with_reducible first | exact HB.out | apply below_alloc | apply pw_below_drewN | apply below_drew1 | refine below_set ?_ GE234.out) | exact HB.out)) hb); clear BK234; clear HB; have BK234 := n0_; have HB := n1_; clear n0_ n1_; (try clear hb); (try clear hb2); (try clear hk); (try clear hi)))
                    go_roundg k2
                    case measure => have := HJ2.out; have := HK2.out; omega
                    case rel => exact ⟨(wrap64 (x20_2 + 1)), (by first | rfl | (simp; done) | (simp [*]; done)), H', ⟨by have := HJ2.out; have := HK2.out; omega⟩, ⟨by repeat (first | (with_reducible first | exact HB.out | apply below_alloc | apply pw_below_drewN | apply below_drew1 | refine below_set ?_ GE234.out) | exact HB.out)⟩⟩
                  · replace c12 := Bool.eq_false_iff.mpr c12
                    subst c12
                    have H1 : (some false) = some r := by rw [if_neg (show ¬ (false = true) by decide)] at H; exact H
                    clear H
                    have H := H1
                    clear H1
                    obtain rfl := Option.some.inj H
                    have p233 : 0 ≤ (x20_2 : Int) := of_decide_eq_true (by first | (with_reducible assumption) | assumption)
                    have q233 : x20_2 < (l0.length : Int) := of_decide_eq_true (by first | (with_reducible assumption) | assumption)
                    obtain ⟨ad233, e233, hx233_0, hx233_1, hx233_2⟩ := at_T122 HR0.out x20_2 p233 q233
                    cases e233
                    replace hx233_0 := (HB.out.cell (World.block_lt_of_cell? w _ hx233_0)).trans hx233_0
                    replace hx233_1 := (HB.out.cell (World.block_lt_of_cell? w _ hx233_1)).trans hx233_1
                    replace hx233_2 := (HB.out.cell (World.block_lt_of_cell? w _ hx233_2)).trans hx233_2
                    replace p233 := eq_true p233
                    replace q233 := eq_true q233
                    go_wp2_with (first | ((with_reducible refine gate_dst (N := 6) rfl ?_); (try (refine gate_guard (by rfl) ?_; dsimp only)); refine box_event ?hg (N := 6) ?hd (cs := #[.int .i64 0, .int .i64 0, .int .i64 0]) (t := 122) ?hr ?_; (case hd => rfl); (case hg => rfl); (case hr => first | (go_simp; done) | (go_simp; rfl)); intro gb234 hg w17 hbox hb; have n0_ := Aside0.mk (below_step (by repeat (first | (with_reducible first | exact HB.out | apply below_alloc | apply pw_below_drewN | apply below_drew1) | exact HB.out)) hb); have n1_ := Aside0.mk (hbox); have n2_ := Aside0.mk ((by rw [hg]; exact (below_size (by repeat (first | (with_reducible first | exact HB.out | apply below_alloc | apply pw_below_drewN | apply below_drew1) | exact HB.out))) : w.heap.size ≤ gb234)); have n3_ := Aside0.mk ((by rw [hg]; exact (below_size (by repeat (first | (with_reducible first | exact HB.out | apply below_alloc | apply pw_below_drewN | apply below_drew1) | exact HB.out))) : w.heap.size ≤ gb234)); clear HB; have HB := n0_; have BK234 := n1_; have GW234 := n2_; have GE234 := n3_; clear n0_ n1_ n2_ n3_; clear hb hbox hg; have hcz18_0 : w17.cell? ⟨gb234, 0, none⟩ = some (.int .i64 0) := (blk_cell BK234.out 0).trans rfl; have hcz18_1 : w17.cell? ⟨gb234, 1, none⟩ = some (.int .i64 0) := (blk_cell BK234.out 1).trans rfl; have hcz18_2 : w17.cell? ⟨gb234, 2, none⟩ = some (.int .i64 0) := (blk_cell BK234.out 2).trans rfl; have hfz18_0 := blk_frozen BK234.out 0; have hfz18_1 := blk_frozen BK234.out 1; have hfz18_2 := blk_frozen BK234.out 2) | ((with_reducible refine gate_callee (f := 100) rfl ?_); refine goesL_ (some 25) rfl rfl Try.func100 (by kernel_rfl) rfl #[.agg #[.int .i64 ((rd_T122 l0 x20_2).f0), .int .i64 ((rd_T122 l0 x20_2).f1), .int .i64 ((rd_T122 l0 x20_2).f2)]] rfl (by (try simp only [List.map_toArray, List.map_cons, List.map_nil]); first | done | rfl | (simp only [List.length_drop, List.length_take]; rfl)) ?_; (with_reducible refine (impl_partOfDeed.calls ((rd_T122 l0 x20_2).f0) ((rd_T122 l0 x20_2).f1) ((rd_T122 l0 x20_2).f2) t235 _ A10.out).mono ?_); rintro e w19 ⟨rfl, hb⟩; refine ⟨_, rfl, ?_⟩; have n0_ := Aside0.mk (blk_below (g := gb234) (o := .cells #[.int .i64 ((rd_T122 l0 x20_2).f0), .int .i64 ((rd_T122 l0 x20_2).f1), .int .i64 ((rd_T122 l0 x20_2).f2)] 122 (0, 0)) (by (with_reducible repeat (first | refine blk_drewN ?_ _ | refine blk_drew ?_ | refine blk_alloc ?_ _)); refine blk_put (cs := #[.int .i64 ((rd_T122 l0 x20_2).f0), .int .i64 ((rd_T122 l0 x20_2).f1), .int .i64 0]) ?_ 2 _ rfl; (with_reducible repeat (first | refine blk_drewN ?_ _ | refine blk_drew ?_ | refine blk_alloc ?_ _)); refine blk_put (cs := #[.int .i64 ((rd_T122 l0 x20_2).f0), .int .i64 0, .int .i64 0]) ?_ 1 _ rfl; (with_reducible repeat (first | refine blk_drewN ?_ _ | refine blk_drew ?_ | refine blk_alloc ?_ _)); refine blk_put (cs := #[.int .i64 0, .int .i64 0, .int .i64 0]) ?_ 0 _ rfl; (with_reducible repeat (first | refine blk_drewN ?_ _ | refine blk_drew ?_ | refine blk_alloc ?_ _)); exact BK234.out) hb); have n1_ := Aside0.mk (below_step (by repeat (first | (with_reducible first | exact HB.out | apply below_alloc | apply pw_below_drewN | apply below_drew1 | refine below_set ?_ GE234.out) | exact HB.out)) hb); clear BK234; clear HB; have BK234 := n0_; have HB := n1_; clear n0_ n1_; (try clear hb); (try clear hb2); (try clear hk); (try clear hi)) | ((with_reducible refine gate_callee (f := 99) rfl ?_); refine goesL_ (some 27) rfl rfl Try.func99 (by kernel_rfl) rfl #[partW t235, .int .i64 a1] rfl (by (try simp only [List.map_toArray, List.map_cons, List.map_nil]); first | done | rfl | (simp only [List.length_drop, List.length_take]; rfl)) ?_; (with_reducible refine (impl_deedOk.calls t235 a1 false _ A11.out).mono ?_); rintro e w20 ⟨rfl, hb⟩; refine ⟨_, rfl, ?_⟩; have n0_ := Aside0.mk (blk_below (g := gb234) (o := .cells #[.int .i64 ((rd_T122 l0 x20_2).f0), .int .i64 ((rd_T122 l0 x20_2).f1), .int .i64 ((rd_T122 l0 x20_2).f2)] 122 (0, 0)) (by (with_reducible repeat (first | refine blk_drewN ?_ _ | refine blk_drew ?_ | refine blk_alloc ?_ _)); exact BK234.out) hb); have n1_ := Aside0.mk (below_step (by repeat (first | (with_reducible first | exact HB.out | apply below_alloc | apply pw_below_drewN | apply below_drew1 | refine below_set ?_ GE234.out) | exact HB.out)) hb); clear BK234; clear HB; have BK234 := n0_; have HB := n1_; clear n0_ n1_; (try clear hb); (try clear hb2); (try clear hk); (try clear hi)))
                    go_ret
                    exact ⟨by first | rfl | (simp [errW_none, errW_some] <;> rfl) | (simp [*, errW_none, errW_some] <;> rfl), by repeat (first | (with_reducible first | exact HB.out | apply below_alloc | apply pw_below_drewN | apply below_drew1 | refine below_set ?_ GE234.out) | exact HB.out)⟩
                · rw [if_neg c9] at H
                  exact absurd H (by simp)
              · rw [if_neg c8] at H
                exact absurd H (by simp)
            · rw [if_neg c7] at H
              have c7b0 : decide (x20_2 < (l0.length : Int)) = false := decide_eq_false c7
              clear c7
              obtain rfl := Option.some.inj H
              go_wp2
              go_ret
              exact ⟨by first | rfl | (simp [errW_none, errW_some] <;> rfl) | (simp [*, errW_none, errW_some] <;> rfl), by repeat (first | (with_reducible first | exact HB.out | apply below_alloc | apply pw_below_drewN | apply below_drew1) | exact HB.out)⟩
end Go.Proofs.Ytoeepmcaabmjkaa.QPM
namespace Go.Proofs.Ytoeepmcaabmjkaa.QPM
open Go.RowKit Go.Proofs.YtoeepmcaabmjkaaW.PrintWords Go.Proofs.YtoeepmcaabmjkaaW.PrintLast Go.Proofs.YtoeepmcaabmjkaaW.PrintMore
attribute [local go_sem] max2_int min2_int max_two min_two max_three min_three max_four min_four   -- for this text's walks alone
set_option linter.unusedVariables false
set_option linter.unusedSimpArgs false
def kidOk (body bodies x : Int) : Bool := !(decide (x ≤ body) || decide (x ≥ bodies))
def kidsOk (l : List Int) (body bodies : Int) : Bool := l.all (kidOk body bodies) && (decide (1 ≤ l.length) && decide (l.length ≤ 2))
def impl_actOk.f (k : Nat) (a0 : Int) (l1 : List S122) (l2 : List Int) (a3 cells body bodies : Int) : Option Bool :=
  if a0 = 1 ∧ l2.length = 0 ∧ a3 = 0 then impl_ChangeOk.f k l1 cells
  else if a0 = 2 ∧ l1.length = 0 ∧ a3 = 0 then some (kidsOk l2 body bodies)
  else if a0 = 3 ∧ l1.length = 0 ∧ l2.length = 0 ∧ a3 = 0 then some true
  else if a0 = 4 ∧ l1.length = 0 ∧ l2.length = 0 then impl_isReg.f a3
  else some false
set_option maxHeartbeats 4000000 in
set_option maxRecDepth 100000 in
theorem impl_actOk.calls (k : Nat) (a0 : Int) (A1 : Option Addr) (c1 : Nat) (l1 : List S122) (A2 : Option Addr) (c2 : Nat) (l2 : List Int) (a3 cells body bodies : Int) (r : Bool) (w : World) (hr1 : Kd.C k122 w A1 l1.length l1) (hc1 : l1.length ≤ c1) (hr2 : Kd.C (Kd.int .i64) w A2 l2.length l2) (hc2 : l2.length ≤ c2) (h : impl_actOk.f k a0 l1 l2 a3 cells body bodies = some r) :
    Calls Try.prog 61 #[actW a0 (.slice A1 l1.length c1) l1.length (.slice A2 l2.length c2) l2.length a3, .int .i64 cells, .int .i64 body, .int .i64 bodies] w fun e w' => e = .returned (.bool r) ∧ Below w.heap.size w w' := by
  have hu1 := Try.underlying127
  have hu2 := Try.underlying130
  have hu3 := Try.underlying132
  have hu4 := Try.underlying134
  have hu5 := Try.underlying22
  have HR1 := Aside0.mk hr1
  have HC1 := Aside0.mk hc1
  have HR2 := Aside0.mk hr2
  have HC2 := Aside0.mk hc2
  clear hr1 hc1 hr2 hc2
  unfold impl_actOk.f at h
  unfold actW
  by_cases q1 : a0 = 1 ∧ l2.length = 0 ∧ a3 = 0
  · rw [if_pos q1] at h ⊢
    have H1 := Aside0.mk h
    clear h q1
    have y1 : ∀ W, (Instr.typeAssert (.iface 127 (.agg #[.slice A1 l1.length c1])) 97 127 true).run Try.prog W = .ok (.tuple #[.agg #[.slice A1 l1.length c1], .bool true]) W := fun W => by kernel_rfl
    go_enter Try.func61, Try.ntmps61
    go_wp2_with fail
    refine (impl_ChangeOk.calls k A1 c1 l1 cells r _ (Kd.C_alloc HR1.out _) HC1.out H1.out).mono ?_
    rintro e w1 ⟨rfl, hb⟩
    have HB := Aside0.mk hb
    clear hb
    go_wp2
    go_ret
    exact ⟨rfl, below_step (below_alloc (Below.refl _ _) _) HB.out⟩
  rw [if_neg q1] at h ⊢
  by_cases q2 : a0 = 2 ∧ l1.length = 0 ∧ a3 = 0
  · rw [if_pos q2] at h ⊢
    obtain rfl : kidsOk l2 body bodies = r := by simpa using h
    clear h q1 q2
    have y1 : ∀ W, (Instr.typeAssert (.iface 130 (.agg #[.slice A2 l2.length c2])) 97 127 true).run Try.prog W = .ok (.tuple #[.agg #[.slice none 0 0], .bool false]) W := fun W => by kernel_rfl
    have y2 : ∀ W, (Instr.typeAssert (.iface 130 (.agg #[.slice A2 l2.length c2])) 97 130 true).run Try.prog W = .ok (.tuple #[.agg #[.slice A2 l2.length c2], .bool true]) W := fun W => by kernel_rfl
    have HM := Aside0.mk (show l2.length ≤ 9223372036854775807 from HR2.out.2.1)
    have hb0 : (w.alloc (.cells #[.slice A2 l2.length c2] 130)).heap[w.heap.size]? = some (.cells #[.slice A2 l2.length c2] 130 (0, 0)) := heap_alloc_new w _
    have HB0 := Aside0.mk hb0
    clear hb0
    go_enter Try.func61, Try.ntmps61
    go_wp2
    go_loopw [29] (fun v29 wr => ∃ x : Int, v29 = .int .i64 x ∧ Aside0 (0 ≤ x ∧ x ≤ (l2.length : Nat)) ∧ Aside0 (∀ j : Nat, (j : Int) < x → kidOk body bodies (rd l2 (j : Int)) = true) ∧ Aside0 (Below w.heap.size w wr) ∧ Aside0 (wr.heap[w.heap.size]? = some (.cells #[.slice A2 l2.length c2] 130 (0, 0)))) (fun v29 _ => l2.length - (intOf v29).toNat)
    case atStart => exact ⟨0, rfl, ⟨by omega, by omega⟩, ⟨fun j hj => absurd hj (by omega)⟩, ⟨below_alloc (Below.refl _ _) _⟩, HB0⟩
    case round =>
      clear HB0
      obtain ⟨x, rfl, HX, HK, HB, HBX⟩ := hrel
      by_cases c0 : x < ((l2.length : Nat) : Int)
      · have c0b : decide (x < ((l2.length : Nat) : Int)) = true := decide_eq_true c0
        have hx0 := HX.out.1
        obtain ⟨ad, ea, hx⟩ := Kd.at_int (Kd.C_below HR2.out HB.out) x hx0 c0
        cases ea
        have HP := Aside0.mk c0
        have p0 := eq_true hx0
        have p1 := eq_true c0
        clear c0 hx0
        obtain ⟨y, hy⟩ : ∃ y, y = rd l2 x := ⟨_, rfl⟩
        rw [← hy] at hx
        have HY := Aside0.mk hy
        clear hy
        by_cases c3 : kidOk body bodies y = true
        · have HG := Aside0.mk c3
          unfold kidOk at c3
          have d1 : decide (y ≤ body) = false := by revert c3; cases decide (y ≤ body) <;> simp
          have d2 : decide (y ≥ bodies) = false := by revert c3; cases decide (y ≥ bodies) <;> simp
          have d2' : decide (bodies ≤ y) = false := d2
          clear c3
          go_wp2
          go_roundw
          case rel =>
            have e1 : (wrap64 (x + 1)) = x + 1 := by have h1 := HX.out.1; have h2 := HP.out; have h3 := HM.out; unfold wrap64; omega
            refine ⟨_, rfl, ⟨?_⟩, ⟨?_⟩, HB, HBX⟩
            · rw [e1]; exact ⟨by have := HX.out.1; omega, by have := HP.out; omega⟩
            · rw [e1]
              intro j hj
              by_cases hjx : (j : Int) = x
              · rw [hjx, ← HY.out]; exact HG.out
              · exact HK.out j (by omega)
          case measure =>
            have h1 := HX.out.1
            have h2 := HP.out
            have h3 := HM.out
            have e1 : (wrap64 (x + 1)) = x + 1 := by unfold wrap64; omega
            rw [e1]
            simp [intOf]
            omega
        · have hf : kidsOk l2 body bodies = false := by
            have hxl : x.toNat < l2.length := by have h1 := HX.out.1; have h2 := HP.out; omega
            have e : l2[x.toNat] = y := by rw [HY.out]; simp [rd, List.getD, hxl]
            unfold kidsOk
            rw [Bool.and_eq_false_iff]
            refine .inl (List.all_eq_false.2 ⟨l2[x.toNat], List.getElem_mem hxl, ?_⟩)
            rw [e]; exact c3
          have HF := Aside0.mk hf
          unfold kidOk at c3
          by_cases c4 : y ≤ body
          · have d1 : decide (y ≤ body) = true := decide_eq_true c4
            clear c3 c4 hf
            go_wp2
            go_ret
            exact ⟨by rw [HF.out]; rfl, HB.out⟩
          · have d1 : decide (y ≤ body) = false := decide_eq_false c4
            have d2 : decide (y ≥ bodies) = true := by rw [d1] at c3; simpa using c3
            have d2' : decide (bodies ≤ y) = true := d2
            clear c3 c4 hf
            go_wp2
            go_ret
            exact ⟨by rw [HF.out]; rfl, HB.out⟩
      · have c0b : decide (x < ((l2.length : Nat) : Int)) = false := decide_eq_false c0
        have HE := Aside0.mk (show x = (l2.length : Nat) by have := HX.out.1; have := HX.out.2; omega)
        clear c0
        have hbx : wr.cell? ⟨w.heap.size, 0, none⟩ = some (.slice A2 l2.length c2) := (blk_cell HBX.out 0).trans rfl
        have hall : l2.all (kidOk body bodies) = true := by
          rw [List.all_eq_true]
          intro z hz
          obtain ⟨j, hj, rfl⟩ := List.getElem_of_mem hz
          have := HK.out j (by rw [HE.out]; omega)
          simpa [rd, List.getD, hj] using this
        have hv : kidsOk l2 body bodies = (decide (1 ≤ l2.length) && decide (l2.length ≤ 2)) := by unfold kidsOk; rw [hall, Bool.true_and]
        have HV := Aside0.mk hv
        clear hall hv
        by_cases n1 : 1 ≤ l2.length
        · have m1 : decide ((l2.length : Int) ≥ 1) = true := decide_eq_true (by omega)
          have m1' : decide ((1 : Int) ≤ (l2.length : Int)) = true := decide_eq_true (by omega)
          have m1'' : decide (1 ≤ l2.length) = true := decide_eq_true n1
          by_cases n2 : l2.length ≤ 2
          · have m2 : decide ((l2.length : Int) ≤ 2) = true := decide_eq_true (by omega)
            have m2' : decide (l2.length ≤ 2) = true := decide_eq_true n2
            clear n1 n2
            go_wp2
            go_ret
            exact ⟨by rw [HV.out, m1'', m2']; rfl, HB.out⟩
          · have m2 : decide ((l2.length : Int) ≤ 2) = false := decide_eq_false (by omega)
            have m2' : decide (l2.length ≤ 2) = false := decide_eq_false n2
            clear n1 n2
            go_wp2
            go_ret
            exact ⟨by rw [HV.out, m1'', m2']; rfl, HB.out⟩
        · have m1 : decide ((l2.length : Int) ≥ 1) = false := decide_eq_false (by omega)
          have m1' : decide ((1 : Int) ≤ (l2.length : Int)) = false := decide_eq_false (by omega)
          have m1'' : decide (1 ≤ l2.length) = false := decide_eq_false n1
          clear n1
          go_wp2
          go_ret
          exact ⟨by rw [HV.out, m1'']; rfl, HB.out⟩
  rw [if_neg q2] at h ⊢
  by_cases q3 : a0 = 3 ∧ l1.length = 0 ∧ l2.length = 0 ∧ a3 = 0
  · rw [if_pos q3] at h ⊢
    obtain rfl : true = r := by simpa using h
    clear h q1 q2 q3
    have y1 : ∀ W, (Instr.typeAssert (.iface 132 (.agg #[])) 97 127 true).run Try.prog W = .ok (.tuple #[.agg #[.slice none 0 0], .bool false]) W := fun W => by kernel_rfl
    have y2 : ∀ W, (Instr.typeAssert (.iface 132 (.agg #[])) 97 130 true).run Try.prog W = .ok (.tuple #[.agg #[.slice none 0 0], .bool false]) W := fun W => by kernel_rfl
    have y3 : ∀ W, (Instr.typeAssert (.iface 132 (.agg #[])) 97 132 true).run Try.prog W = .ok (.tuple #[.agg #[], .bool true]) W := fun W => by kernel_rfl
    go_enter Try.func61, Try.ntmps61
    go_wp2
    go_ret
    exact ⟨rfl, by repeat (first | exact Below.refl _ _ | apply pw_below_drewN | apply below_alloc)⟩
  rw [if_neg q3] at h ⊢
  by_cases q4 : a0 = 4 ∧ l1.length = 0 ∧ l2.length = 0
  · rw [if_pos q4] at h ⊢
    have H1 := Aside0.mk h
    clear h q1 q2 q3 q4
    have y1 : ∀ W, (Instr.typeAssert (.iface 134 (.agg #[.int .i64 a3])) 97 127 true).run Try.prog W = .ok (.tuple #[.agg #[.slice none 0 0], .bool false]) W := fun W => by kernel_rfl
    have y2 : ∀ W, (Instr.typeAssert (.iface 134 (.agg #[.int .i64 a3])) 97 130 true).run Try.prog W = .ok (.tuple #[.agg #[.slice none 0 0], .bool false]) W := fun W => by kernel_rfl
    have y3 : ∀ W, (Instr.typeAssert (.iface 134 (.agg #[.int .i64 a3])) 97 132 true).run Try.prog W = .ok (.tuple #[.agg #[], .bool false]) W := fun W => by kernel_rfl
    have y4 : ∀ W, (Instr.typeAssert (.iface 134 (.agg #[.int .i64 a3])) 97 134 true).run Try.prog W = .ok (.tuple #[.agg #[.int .i64 a3], .bool true]) W := fun W => by kernel_rfl
    go_enter Try.func61, Try.ntmps61
    go_wp2_with fail
    refine (impl_isReg.calls a3 r _ H1.out).mono ?_
    rintro e w1 ⟨rfl, hd⟩
    obtain ⟨nd, rfl⟩ := hd.out
    go_wp2
    go_ret
    exact ⟨rfl, by repeat (first | exact Below.refl _ _ | apply pw_below_drewN | apply below_alloc)⟩
  rw [if_neg q4] at h ⊢
  obtain rfl : false = r := by simpa using h
  clear h q1 q2 q3 q4
  have y1 : ∀ W, (Instr.typeAssert .nilIface 97 127 true).run Try.prog W = .ok (.tuple #[.agg #[.slice none 0 0], .bool false]) W := fun W => by kernel_rfl
  have y2 : ∀ W, (Instr.typeAssert .nilIface 97 130 true).run Try.prog W = .ok (.tuple #[.agg #[.slice none 0 0], .bool false]) W := fun W => by kernel_rfl
  have y3 : ∀ W, (Instr.typeAssert .nilIface 97 132 true).run Try.prog W = .ok (.tuple #[.agg #[], .bool false]) W := fun W => by kernel_rfl
  have y4 : ∀ W, (Instr.typeAssert .nilIface 97 134 true).run Try.prog W = .ok (.tuple #[.agg #[.int .i64 0], .bool false]) W := fun W => by kernel_rfl
  go_enter Try.func61, Try.ntmps61
  go_wp2
  go_ret
  exact ⟨rfl, by repeat (first | exact Below.refl _ _ | apply pw_below_drewN | apply below_alloc)⟩
theorem int_eq_nat (n : Nat) : (((n : Int) == 0) : Bool) = (n == 0) := by
  rw [Bool.eq_iff_iff]; simp
set_option maxHeartbeats 4000000 in
set_option maxRecDepth 100000 in
theorem impl_partOfAct.calls (k : Int) (A1 : Option Addr) (n1 c1 : Nat) (A2 : Option Addr) (n2 c2 : Nat) (r : Int) (w : World) :
    Calls Try.prog 62 #[.agg #[.int .i64 k, .slice A1 n1 c1, .slice A2 n2 c2, .int .i64 r]] w fun e w' => e = .returned (actW k (.slice A1 n1 c1) n1 (.slice A2 n2 c2) n2 r) ∧ Below w.heap.size w w' := by
  have hu := Try.underlying57
  have hu1 := Try.underlying127
  have hu2 := Try.underlying130
  have hu3 := Try.underlying132
  have hu4 := Try.underlying134
  have e1 := int_eq_nat n1
  have e2 := int_eq_nat n2
  obtain ⟨b1, hb1⟩ : ∃ b, b = (n1 == 0) := ⟨_, rfl⟩
  obtain ⟨b2, hb2⟩ : ∃ b, b = (n2 == 0) := ⟨_, rfl⟩
  obtain ⟨b3, hb3⟩ : ∃ b, b = (r == 0) := ⟨_, rfl⟩
  rw [← hb1] at e1
  rw [← hb2] at e2
  have H1 := Aside0.mk hb1
  have H2 := Aside0.mk hb2
  have H3 := Aside0.mk hb3
  have e3 : (r == 0) = b3 := hb3.symm
  clear hb1 hb2 hb3
  obtain ⟨q1, hq1⟩ : ∃ b, b = (k == 1) := ⟨_, rfl⟩
  obtain ⟨q2, hq2⟩ : ∃ b, b = (k == 2) := ⟨_, rfl⟩
  obtain ⟨q3, hq3⟩ : ∃ b, b = (k == 3) := ⟨_, rfl⟩
  obtain ⟨q4, hq4⟩ : ∃ b, b = (k == 4) := ⟨_, rfl⟩
  have f1 := hq1.symm
  have f2 := hq2.symm
  have f3 := hq3.symm
  have f4 := hq4.symm
  have K1 := Aside0.mk hq1
  have K2 := Aside0.mk hq2
  have K3 := Aside0.mk hq3
  have K4 := Aside0.mk hq4
  clear hq1 hq2 hq3 hq4
  go_enter Try.func62, Try.ntmps62
  go_wp2
  go_quiet (fail)
  go_wp2
  all_goals
    go_ret
    refine ⟨?_, by repeat (first | exact Below.refl _ _ | apply pw_below_drewN | apply below_drew1 | apply below_alloc)⟩
    have h1 := K1.out
    have h2 := K2.out
    have h3 := K3.out
    have h4 := K4.out
    have g1 := H1.out
    have g2 := H2.out
    have g3 := H3.out
    clear K1 K2 K3 K4 H1 H2 H3
    clear hu hu1 hu2 hu3 hu4 e1 e2
    try clear e3
    simp_all [actW]
end Go.Proofs.Ytoeepmcaabmjkaa.QPM
namespace Go.Proofs.Ytoeepmcaabmjkaa.QPM
open Go.RowKit Go.Proofs.YtoeepmcaabmjkaaW.PrintWords Go.Proofs.YtoeepmcaabmjkaaW.PrintLast Go.Proofs.YtoeepmcaabmjkaaW.PrintMore
attribute [local go_sem] max2_int min2_int max_two min_two max_three min_three max_four min_four   -- for this text's walks alone
set_option linter.unusedVariables false
set_option linter.unusedSimpArgs false
mutual
def impl_treeOf.l0 : Nat → Int → List (S57) → Int → Int → List Int → List (List (S57)) → Option (Int)
  | 0, _, _, _, _, _, _ => none
  | k + 1, x5, x14, x15, x16, x238000, x238001 => if x16 < x15 then (if 0 ≤ x16 then (if x16 < (x14.length : Int) then (impl_treeOf.l1 k x5 x14 x15 x16 ((rd_T57 x14 x16).f2) (((rd_T57 x14 x16).f2).length : Int) 0 x238000 x238001) else (none)) else (none)) else (some x5)
def impl_treeOf.l1 : Nat → Int → List (S57) → Int → Int → List Int → Int → Int → List Int → List (List (S57)) → Option (Int)
  | 0, _, _, _, _, _, _, _, _, _ => none
  | k + 1, x5, x14, x15, x16, x21, x22, x23, x238000, x238001 => if x23 < x22 then (if 0 ≤ x23 then (if x23 < (x21.length : Int) then ((impl_treeOf.f k x238000 x238001 (rd x21 x23)).bind fun t242 => (impl_treeOf.l1 k (wrap64 (x5 + t242)) x14 x15 x16 x21 x22 (wrap64 (x23 + 1)) x238000 x238001)) else (none)) else (none)) else (impl_treeOf.l0 k x5 x14 x15 (wrap64 (x16 + 1)) x238000 x238001)
def impl_treeOf.f : Nat → List Int → List (List (S57)) → Int → Option (Int)
  | 0, _, _, _ => none
  | k + 1, l0_0, l0_1, a1 => if 0 ≤ a1 then (if a1 < (l0_1.length : Int) then (impl_treeOf.l0 k 1 (rd_L6 l0_1 a1) ((rd_L6 l0_1 a1).length : Int) 0 l0_0 l0_1) else (none)) else (none)
end
set_option maxHeartbeats 8000000 in
set_option maxRecDepth 100000 in
theorem impl_treeOf.calls (k : Nat) : ∀ (A0_0 : Option Addr) (c0_0 : Nat) (l0_0 : List Int) (A0_1 : Option Addr) (c0_1 : Nat) (l0_1 : List (List (S57))) (a1 : Int) (r : Int) (w : World) (hr0_0 : Kd.C (Kd.int .i64) w A0_0 l0_0.length l0_0) (hc0_0 : l0_0.length ≤ c0_0) (hr0_1 : Kd.C (Kd.slice 57 k57) w A0_1 l0_1.length l0_1) (hc0_1 : l0_1.length ≤ c0_1) (h : impl_treeOf.f k l0_0 l0_1 a1 = some r),
    Calls Try.prog 63 #[.agg #[.slice A0_0 l0_0.length c0_0, .slice A0_1 l0_1.length c0_1], .int .i64 a1] w fun e w' => e = .returned (.int .i64 r) ∧ Below w.heap.size w w' := by
  induction k using Nat.strongRecOn with
  | _ k ih =>
  intro A0_0 c0_0 l0_0 A0_1 c0_1 l0_1 a1 r w hr0_0 hc0_0 hr0_1 hc0_1 h
  cases k with
  | zero => exact absurd h (by simp [impl_treeOf.f])
  | succ k =>
  simp only [impl_treeOf.f] at h
  have hu36 := Try.underlying36
  have hu57 := Try.underlying57
  have HR0_0 := Aside0.mk hr0_0
  have HC0_0 := Aside0.mk hc0_0
  clear hr0_0 hc0_0
  have HR0_1 := Aside0.mk hr0_1
  have HC0_1 := Aside0.mk hc0_1
  clear hr0_1 hc0_1
  have HB := Aside0.mk (Below.refl w.heap.size w)
  have H : (if 0 ≤ a1 then (if a1 < (l0_1.length : Int) then (impl_treeOf.l0 k 1 (rd_L6 l0_1 a1) ((rd_L6 l0_1 a1).length : Int) 0 l0_0 l0_1) else (none)) else (none)) = some r := h
  clear h
  by_cases c3 : 0 ≤ a1
  · rw [if_pos c3] at H
    have c3b0 : decide (0 ≤ a1) = true := decide_eq_true c3
    clear c3
    by_cases c4 : a1 < (l0_1.length : Int)
    · rw [if_pos c4] at H
      have c4b0 : decide (a1 < (l0_1.length : Int)) = true := decide_eq_true c4
      clear c4
      have H' := Aside0.mk H
      clear H
      go_enter Try.func63, Try.ntmps63
      go_wp2_with (first | ((with_reducible refine gate_dst (N := 2) rfl ?_); refine box_event ?hg (N := 2) ?hd (cs := #[.slice A0_0 l0_0.length c0_0, .slice A0_1 l0_1.length c0_1]) (t := 36) ?hr ?_; (case hd => rfl); (case hg => rfl); (case hr => first | (go_simp; done) | (go_simp; rfl)); intro gb237 hg w5 hbox hb; have n0_ := Aside0.mk (below_step (by repeat (first | (with_reducible first | exact HB.out | apply below_alloc | apply pw_below_drewN | apply below_drew1) | exact HB.out)) hb); have n1_ := Aside0.mk (hbox); have n2_ := Aside0.mk ((by rw [hg]; exact (below_size (by repeat (first | (with_reducible first | exact HB.out | apply below_alloc | apply pw_below_drewN | apply below_drew1) | exact HB.out))) : w.heap.size ≤ gb237)); have n3_ := Aside0.mk ((by rw [hg]; exact (below_size (by repeat (first | (with_reducible first | exact HB.out | apply below_alloc | apply pw_below_drewN | apply below_drew1) | exact HB.out))) : w.heap.size ≤ gb237)); clear HB; have HB := n0_; have BK237 := n1_; have GW237 := n2_; have GE237 := n3_; clear n0_ n1_ n2_ n3_; clear hb hbox hg; have hcz6_0 : w5.cell? ⟨gb237, 0, none⟩ = some (.slice A0_0 l0_0.length c0_0) := (blk_cell BK237.out 0).trans rfl; have hcz6_1 : w5.cell? ⟨gb237, 1, none⟩ = some (.slice A0_1 l0_1.length c0_1) := (blk_cell BK237.out 1).trans rfl; have hfz6_0 := blk_frozen BK237.out 0; have hfz6_1 := blk_frozen BK237.out 1; have p238 : 0 ≤ (a1 : Int) := of_decide_eq_true (by first | (with_reducible assumption) | assumption); have q238 : a1 < (l0_1.length : Int) := of_decide_eq_true (by first | (with_reducible assumption) | assumption); obtain ⟨ad238, A238_0, c238_0, e238, hx238_0, hl238_0, hi238_0⟩ := at_L6 HR0_1.out a1 p238 q238; cases e238; replace hx238_0 := (HB.out.cell (World.block_lt_of_cell? w _ hx238_0)).trans hx238_0; have HR238_0 := Aside0.mk hi238_0; have HC238_0 := Aside0.mk hl238_0; clear hi238_0 hl238_0; replace p238 := eq_true p238; replace q238 := eq_true q238))
      go_loopg [5, 16] k (fun kq v5 v16 w' => ∃ (x5_1 : Int) (x16_1 : Int), v5 = .int .i64 x5_1 ∧ v16 = .int .i64 x16_1 ∧ Aside0 (impl_treeOf.l0 kq x5_1 (rd_L6 l0_1 a1) ((rd_L6 l0_1 a1).length : Int) x16_1 l0_0 l0_1 = some r) ∧ Aside0 (kq ≤ k) ∧ Aside0 (w'.heap[gb237]? = some (.cells #[(.slice A0_0 l0_0.length c0_0), (.slice (some ad238) l0_1.length c0_1)] 36 (0, 0))) ∧ Aside0 (Below w.heap.size w w'))
      case atStart => exact ⟨(1), (0), (by first | rfl | (simp; done) | (simp [*]; done)), (by first | rfl | (simp; done) | (simp [*]; done)), H', ⟨Nat.le_refl _⟩, ⟨by (with_reducible repeat (first | refine blk_drewN ?_ _ | refine blk_drew ?_ | refine blk_alloc ?_ _)); exact BK237.out⟩, ⟨by repeat (first | (with_reducible first | exact HB.out | apply below_alloc | apply pw_below_drewN | apply below_drew1 | refine below_set ?_ GE237.out) | exact HB.out)⟩⟩
      case round =>
        clear H'
        try clear c2
        try clear p2
        try clear q2
        try clear hx2
        try clear c3
        try clear c3b0
        try clear c4
        try clear c4b0
        try clear c6
        try clear hcz6_0
        try clear hcz6_1
        try clear hfz6_0
        try clear hfz6_1
        try clear hx238_0
        try clear p238
        try clear q238
        obtain ⟨x5_1, x16_1, rfl, rfl, HA, HK1, BK237, HB⟩ := hrel
        cases gk with
        | zero => exact absurd HA.out (by simp [impl_treeOf.l0])
        | succ k1 =>
          have H := HA.out
          clear HA
          simp only [impl_treeOf.l0] at H
          by_cases c7 : x16_1 < ((rd_L6 l0_1 a1).length : Int)
          · rw [if_pos c7] at H
            have c7b0 : decide (x16_1 < ((rd_L6 l0_1 a1).length : Int)) = true := decide_eq_true c7
            clear c7
            by_cases c8 : 0 ≤ x16_1
            · rw [if_pos c8] at H
              have c8b0 : decide (0 ≤ x16_1) = true := decide_eq_true c8
              clear c8
              by_cases c9 : x16_1 < ((rd_L6 l0_1 a1).length : Int)
              · rw [if_pos c9] at H
                have c9b0 : decide (x16_1 < ((rd_L6 l0_1 a1).length : Int)) = true := decide_eq_true c9
                clear c9
                have H' := Aside0.mk H
                clear H
                have p239 : 0 ≤ (x16_1 : Int) := of_decide_eq_true (by first | (with_reducible assumption) | assumption)
                have q239 : x16_1 < ((rd_L6 l0_1 a1).length : Int) := of_decide_eq_true (by first | (with_reducible assumption) | assumption)
                obtain ⟨ad239, A239_1, c239_1, A239_2, c239_2, e239, hx239_0, hx239_1, hx239_2, hx239_3, hl239_1, hi239_1, hl239_2, hi239_2⟩ := at_T57 HR238_0.out x16_1 p239 q239
                cases e239
                replace hx239_0 := (HB.out.cell (World.block_lt_of_cell? w _ hx239_0)).trans hx239_0
                replace hx239_1 := (HB.out.cell (World.block_lt_of_cell? w _ hx239_1)).trans hx239_1
                replace hx239_2 := (HB.out.cell (World.block_lt_of_cell? w _ hx239_2)).trans hx239_2
                replace hx239_3 := (HB.out.cell (World.block_lt_of_cell? w _ hx239_3)).trans hx239_3
                have HR239_1 := Aside0.mk hi239_1
                have HC239_1 := Aside0.mk hl239_1
                clear hi239_1 hl239_1
                have HR239_2 := Aside0.mk hi239_2
                have HC239_2 := Aside0.mk hl239_2
                clear hi239_2 hl239_2
                replace p239 := eq_true p239
                replace q239 := eq_true q239
                go_wp2_with (first | ((with_reducible refine gate_dst (N := 7) rfl ?_); refine box_event ?hg (N := 7) ?hd (cs := #[.int .i64 0, .slice none 0 0, .slice none 0 0, .int .i64 0]) (t := 57) ?hr ?_; (case hd => rfl); (case hg => rfl); (case hr => first | (go_simp; done) | (go_simp; rfl)); intro gb240 hg w10 hbox hb; have n0_ := Aside0.mk (blk_below (g := gb237) (o := .cells #[.slice A0_0 l0_0.length c0_0, .slice (some ad238) l0_1.length c0_1] 36 (0, 0)) (by (with_reducible repeat (first | refine blk_drewN ?_ _ | refine blk_drew ?_ | refine blk_alloc ?_ _)); exact BK237.out) hb); have n1_ := Aside0.mk (below_step (by repeat (first | (with_reducible first | exact HB.out | apply below_alloc | apply pw_below_drewN | apply below_drew1 | refine below_set ?_ GE237.out) | exact HB.out)) hb); have n2_ := Aside0.mk (hbox); have n3_ := Aside0.mk ((by rw [hg]; exact (below_size (by repeat (first | (with_reducible first | exact HB.out | apply below_alloc | apply pw_below_drewN | apply below_drew1 | refine below_set ?_ GE237.out) | exact HB.out))) : w.heap.size ≤ gb240)); have n4_ := Aside0.mk ((by rw [hg]; exact (below_size (by repeat (first | (with_reducible first | exact HB.out | apply below_alloc | apply pw_below_drewN | apply below_drew1 | refine below_set ?_ GE237.out) | exact HB.out))) : w.heap.size ≤ gb240)); have n5_ := Aside0.mk ((by rw [hg]; exact Nat.ne_of_lt (blk_lt (g := gb237) (o := .cells #[.slice A0_0 l0_0.length c0_0, .slice (some ad238) l0_1.length c0_1] 36 (0, 0)) (by (with_reducible repeat (first | refine blk_drewN ?_ _ | refine blk_drew ?_ | refine blk_alloc ?_ _)); exact BK237.out)) : gb237 ≠ gb240)); have n6_ := Aside0.mk ((by rw [hg]; exact Nat.ne_of_gt (blk_lt (g := gb237) (o := .cells #[.slice A0_0 l0_0.length c0_0, .slice (some ad238) l0_1.length c0_1] 36 (0, 0)) (by (with_reducible repeat (first | refine blk_drewN ?_ _ | refine blk_drew ?_ | refine blk_alloc ?_ _)); exact BK237.out)) : gb240 ≠ gb237)); clear BK237; clear HB; have BK237 := n0_; have HB := n1_; have BK240 := n2_; have GW240 := n3_; have GE240 := n4_; have NB237_240 := n5_; have NB240_237 := n6_; clear n0_ n1_ n2_ n3_ n4_ n5_ n6_; clear hb hbox hg; have hnb11 := NB240_237.out; have hnc11 := NB237_240.out; have hcz12_0 : w10.cell? ⟨gb240, 0, none⟩ = some (.int .i64 0) := (blk_cell BK240.out 0).trans rfl; have hcz12_1 : w10.cell? ⟨gb240, 1, none⟩ = some (.slice none 0 0) := (blk_cell BK240.out 1).trans rfl; have hcz12_2 : w10.cell? ⟨gb240, 2, none⟩ = some (.slice none 0 0) := (blk_cell BK240.out 2).trans rfl; have hcz12_3 : w10.cell? ⟨gb240, 3, none⟩ = some (.int .i64 0) := (blk_cell BK240.out 3).trans rfl; have hfz12_0 := blk_frozen BK240.out 0; have hfz12_1 := blk_frozen BK240.out 1; have hfz12_2 := blk_frozen BK240.out 2; have hfz12_3 := blk_frozen BK240.out 3))
                go_loopg [5, 23] k1 (fun kq v5 v23 w' => ∃ (x5_2 : Int) (x23_2 : Int), v5 = .int .i64 x5_2 ∧ v23 = .int .i64 x23_2 ∧ Aside0 (impl_treeOf.l1 kq x5_2 (rd_L6 l0_1 a1) ((rd_L6 l0_1 a1).length : Int) x16_1 ((rd_T57 (rd_L6 l0_1 a1) x16_1).f2) (((rd_T57 (rd_L6 l0_1 a1) x16_1).f2).length : Int) x23_2 l0_0 l0_1 = some r) ∧ Aside0 (kq ≤ k1) ∧ Aside0 (w'.heap[gb237]? = some (.cells #[(.slice A0_0 l0_0.length c0_0), (.slice (some ad238) l0_1.length c0_1)] 36 (0, 0))) ∧ Aside0 (w'.heap[gb240]? = some (.cells #[.int .i64 ((rd_T57 (rd_L6 l0_1 a1) x16_1).f0), (.slice A239_1 ((rd_T57 (rd_L6 l0_1 a1) x16_1).f1).length c239_1), (.slice A239_2 ((rd_T57 (rd_L6 l0_1 a1) x16_1).f2).length c239_2), .int .i64 ((rd_T57 (rd_L6 l0_1 a1) x16_1).f3)] 57 (0, 0))) ∧ Aside0 (Below w.heap.size w w'))
                case atStart => exact ⟨(x5_1), (0), (by first | rfl | (simp; done) | (simp [*]; done)), (by first | rfl | (simp; done) | (simp [*]; done)), H', ⟨Nat.le_refl _⟩, ⟨by (with_reducible repeat (first | refine blk_drewN ?_ _ | refine blk_drew ?_ | refine blk_alloc ?_ _)); refine blk_far ?_ NB237_240.out _; (with_reducible repeat (first | refine blk_drewN ?_ _ | refine blk_drew ?_ | refine blk_alloc ?_ _)); refine blk_far ?_ NB237_240.out _; (with_reducible repeat (first | refine blk_drewN ?_ _ | refine blk_drew ?_ | refine blk_alloc ?_ _)); refine blk_far ?_ NB237_240.out _; (with_reducible repeat (first | refine blk_drewN ?_ _ | refine blk_drew ?_ | refine blk_alloc ?_ _)); refine blk_far ?_ NB237_240.out _; (with_reducible repeat (first | refine blk_drewN ?_ _ | refine blk_drew ?_ | refine blk_alloc ?_ _)); exact BK237.out⟩, ⟨by (with_reducible repeat (first | refine blk_drewN ?_ _ | refine blk_drew ?_ | refine blk_alloc ?_ _)); refine blk_put (cs := #[.int .i64 ((rd_T57 (rd_L6 l0_1 a1) x16_1).f0), .slice A239_1 ((rd_T57 (rd_L6 l0_1 a1) x16_1).f1).length c239_1, .slice A239_2 ((rd_T57 (rd_L6 l0_1 a1) x16_1).f2).length c239_2, .int .i64 0]) ?_ 3 _ rfl; (with_reducible repeat (first | refine blk_drewN ?_ _ | refine blk_drew ?_ | refine blk_alloc ?_ _)); refine blk_put (cs := #[.int .i64 ((rd_T57 (rd_L6 l0_1 a1) x16_1).f0), .slice A239_1 ((rd_T57 (rd_L6 l0_1 a1) x16_1).f1).length c239_1, .slice none 0 0, .int .i64 0]) ?_ 2 _ rfl; (with_reducible repeat (first | refine blk_drewN ?_ _ | refine blk_drew ?_ | refine blk_alloc ?_ _)); refine blk_put (cs := #[.int .i64 ((rd_T57 (rd_L6 l0_1 a1) x16_1).f0), .slice none 0 0, .slice none 0 0, .int .i64 0]) ?_ 1 _ rfl; (with_reducible repeat (first | refine blk_drewN ?_ _ | refine blk_drew ?_ | refine blk_alloc ?_ _)); refine blk_put (cs := #[.int .i64 0, .slice none 0 0, .slice none 0 0, .int .i64 0]) ?_ 0 _ rfl; (with_reducible repeat (first | refine blk_drewN ?_ _ | refine blk_drew ?_ | refine blk_alloc ?_ _)); exact BK240.out⟩, ⟨by repeat (first | (with_reducible first | exact HB.out | apply below_alloc | apply pw_below_drewN | apply below_drew1 | refine below_set ?_ GE237.out | refine below_set ?_ GE240.out) | exact HB.out)⟩⟩
                case round =>
                  clear H'
                  try clear c1
                  try clear c2
                  try clear p2
                  try clear q2
                  try clear hx2
                  try clear c3
                  try clear c3b0
                  try clear c4
                  try clear c4b0
                  try clear c6
                  try clear c7
                  try clear c7b0
                  try clear c8
                  try clear c8b0
                  try clear c9
                  try clear c9b0
                  try clear c11
                  try clear hcz12_0
                  try clear hcz12_1
                  try clear hcz12_2
                  try clear hcz12_3
                  try clear hcz6_0
                  try clear hcz6_1
                  try clear hfz12_0
                  try clear hfz12_1
                  try clear hfz12_2
                  try clear hfz12_3
                  try clear hfz6_0
                  try clear hfz6_1
                  try clear hx238_0
                  try clear hx239_0
                  try clear hx239_1
                  try clear hx239_2
                  try clear hx239_3
                  try clear p2
                  try clear p238
                  try clear p239
                  try clear q2
                  try clear q238
                  try clear q239
                  obtain ⟨x5_2, x23_2, rfl, rfl, HA, HK2, BK237, BK240, HB⟩ := hrel
                  cases gk with
                  | zero => exact absurd HA.out (by simp [impl_treeOf.l1])
                  | succ k2 =>
                    have H := HA.out
                    clear HA
                    simp only [impl_treeOf.l1] at H
                    by_cases c13 : x23_2 < (((rd_T57 (rd_L6 l0_1 a1) x16_1).f2).length : Int)
                    · rw [if_pos c13] at H
                      have c13b0 : decide (x23_2 < (((rd_T57 (rd_L6 l0_1 a1) x16_1).f2).length : Int)) = true := decide_eq_true c13
                      clear c13
                      by_cases c14 : 0 ≤ x23_2
                      · rw [if_pos c14] at H
                        have c14b0 : decide (0 ≤ x23_2) = true := decide_eq_true c14
                        clear c14
                        by_cases c15 : x23_2 < (((rd_T57 (rd_L6 l0_1 a1) x16_1).f2).length : Int)
                        · rw [if_pos c15] at H
                          have c15b0 : decide (x23_2 < (((rd_T57 (rd_L6 l0_1 a1) x16_1).f2).length : Int)) = true := decide_eq_true c15
                          clear c15
                          replace H := Option.bind_eq_some_iff.mp H
                          obtain ⟨t242, A160, H⟩ := H
                          replace H : (impl_treeOf.l1 k2 (wrap64 (x5_2 + t242)) (rd_L6 l0_1 a1) ((rd_L6 l0_1 a1).length : Int) x16_1 ((rd_T57 (rd_L6 l0_1 a1) x16_1).f2) (((rd_T57 (rd_L6 l0_1 a1) x16_1).f2).length : Int) (wrap64 (x23_2 + 1)) l0_0 l0_1) = some r := H
                          have A16 := Aside0.mk A160
                          clear A160
                          have H' := Aside0.mk H
                          clear H
                          have p241 : 0 ≤ (x23_2 : Int) := of_decide_eq_true (by first | (with_reducible assumption) | assumption)
                          have q241 : x23_2 < (((rd_T57 (rd_L6 l0_1 a1) x16_1).f2).length : Int) := of_decide_eq_true (by first | (with_reducible assumption) | assumption)
                          obtain ⟨ad241, e241, hx241_0⟩ := Kd.at_int HR239_2.out x23_2 p241 q241
                          cases e241
                          replace hx241_0 := (HB.out.cell (World.block_lt_of_cell? w _ hx241_0)).trans hx241_0
                          replace p241 := eq_true p241
                          replace q241 := eq_true q241
                          have hnb17 := NB237_240.out
                          have hnc17 := NB240_237.out
                          have hcz18_0 : wr.cell? ⟨gb237, 0, none⟩ = some (.slice A0_0 l0_0.length c0_0) := (blk_cell BK237.out 0).trans rfl
                          have hcz18_1 : wr.cell? ⟨gb237, 1, none⟩ = some (.slice (some ad238) l0_1.length c0_1) := (blk_cell BK237.out 1).trans rfl
                          have hfz18_0 := blk_frozen BK237.out 0
                          have hfz18_1 := blk_frozen BK237.out 1
                          go_wp2_with (first | ((with_reducible refine gate_callee (f := 63) rfl ?_); refine goesL_ (some 30) rfl rfl Try.func63 (by kernel_rfl) rfl #[.agg #[.slice A0_0 l0_0.length c0_0, .slice (some ad238) l0_1.length c0_1], .int .i64 (rd ((rd_T57 (rd_L6 l0_1 a1) x16_1).f2) x23_2)] rfl (by (try simp only [List.map_toArray, List.map_cons, List.map_nil]); first | done | rfl | (simp only [List.length_drop, List.length_take]; rfl)) ?_; (with_reducible refine (ih k2 (by have := HK1.out; have := HK2.out; omega) _ _ l0_0 _ _ l0_1 (rd ((rd_T57 (rd_L6 l0_1 a1) x16_1).f2) x23_2) t242 _ ?side1 ?side2 ?side3 ?side4 A16.out).mono ?_); (case side1 => repeat (first | exact (Kd.C_below HR0_0.out HB.out) | (with_reducible refine Kd.C_alloc ?_ _) | (with_reducible refine Kd.C_drewN ?_ _) | (with_reducible refine Kd.C_drew ?_))); (case side2 => exact HC0_0.out); (case side3 => repeat (first | exact (Kd.C_below HR0_1.out HB.out) | (with_reducible refine Kd.C_alloc ?_ _) | (with_reducible refine Kd.C_drewN ?_ _) | (with_reducible refine Kd.C_drew ?_))); (case side4 => exact HC0_1.out); rintro e w19 ⟨rfl, hb⟩; refine ⟨_, rfl, ?_⟩; have n0_ := Aside0.mk (blk_below (g := gb237) (o := .cells #[.slice A0_0 l0_0.length c0_0, .slice (some ad238) l0_1.length c0_1] 36 (0, 0)) (by (with_reducible repeat (first | refine blk_drewN ?_ _ | refine blk_drew ?_ | refine blk_alloc ?_ _)); exact BK237.out) hb); have n1_ := Aside0.mk (blk_below (g := gb240) (o := .cells #[.int .i64 ((rd_T57 (rd_L6 l0_1 a1) x16_1).f0), .slice A239_1 ((rd_T57 (rd_L6 l0_1 a1) x16_1).f1).length c239_1, .slice (some ad241) ((rd_T57 (rd_L6 l0_1 a1) x16_1).f2).length c239_2, .int .i64 ((rd_T57 (rd_L6 l0_1 a1) x16_1).f3)] 57 (0, 0)) (by (with_reducible repeat (first | refine blk_drewN ?_ _ | refine blk_drew ?_ | refine blk_alloc ?_ _)); exact BK240.out) hb); have n2_ := Aside0.mk (below_step (by repeat (first | (with_reducible first | exact HB.out | apply below_alloc | apply pw_below_drewN | apply below_drew1 | refine below_set ?_ GE237.out | refine below_set ?_ GE240.out) | exact HB.out)) hb); clear BK237; clear BK240; clear HB; have BK237 := n0_; have BK240 := n1_; have HB := n2_; clear n0_ n1_ n2_; (try clear hb); (try clear hb2); (try clear hk); (try clear hi)))
                          go_roundg k2
                          case measure => have := HK1.out; have := HK2.out; omega
                          case rel => exact ⟨(wrap64 (x5_2 + t242)), (wrap64 (x23_2 + 1)), (by first | rfl | (simp; done) | (simp [*]; done)), (by first | rfl | (simp; done) | (simp [*]; done)), H', ⟨by have := HK1.out; have := HK2.out; omega⟩, ⟨by (with_reducible repeat (first | refine blk_drewN ?_ _ | refine blk_drew ?_ | refine blk_alloc ?_ _)); exact BK237.out⟩, ⟨by (with_reducible repeat (first | refine blk_drewN ?_ _ | refine blk_drew ?_ | refine blk_alloc ?_ _)); exact BK240.out⟩, ⟨by repeat (first | (with_reducible first | exact HB.out | apply below_alloc | apply pw_below_drewN | apply below_drew1 | refine below_set ?_ GE237.out | refine below_set ?_ GE240.out) | exact HB.out)⟩⟩
                        · rw [if_neg c15] at H
                          exact absurd H (by simp)
                      · rw [if_neg c14] at H
                        exact absurd H (by simp)
                    · rw [if_neg c13] at H
                      have c13b0 : decide (x23_2 < (((rd_T57 (rd_L6 l0_1 a1) x16_1).f2).length : Int)) = false := decide_eq_false c13
                      clear c13
                      have H' := Aside0.mk H
                      clear H
                      go_wp2
                      go_roundg k2
                      case measure => have := HK1.out; have := HK2.out; omega
                      case rel => exact ⟨(x5_2), (wrap64 (x16_1 + 1)), (by first | rfl | (simp; done) | (simp [*]; done)), (by first | rfl | (simp; done) | (simp [*]; done)), H', ⟨by have := HK1.out; have := HK2.out; omega⟩, ⟨by (with_reducible repeat (first | refine blk_drewN ?_ _ | refine blk_drew ?_ | refine blk_alloc ?_ _)); exact BK237.out⟩, ⟨by repeat (first | (with_reducible first | exact HB.out | apply below_alloc | apply pw_below_drewN | apply below_drew1 | refine below_set ?_ GE237.out | refine below_set ?_ GE240.out) | exact HB.out)⟩⟩
              · rw [if_neg c9] at H
                exact absurd H (by simp)
            · rw [if_neg c8] at H
              exact absurd H (by simp)
          · rw [if_neg c7] at H
            have c7b0 : decide (x16_1 < ((rd_L6 l0_1 a1).length : Int)) = false := decide_eq_false c7
            clear c7
            obtain rfl := Option.some.inj H
            go_wp2
            go_ret
            exact ⟨by first | rfl | (simp [errW_none, errW_some] <;> rfl) | (simp [*, errW_none, errW_some] <;> rfl), by repeat (first | (with_reducible first | exact HB.out | apply below_alloc | apply pw_below_drewN | apply below_drew1 | refine below_set ?_ GE237.out) | exact HB.out)⟩
    · rw [if_neg c4] at H
      exact absurd H (by simp)
  · rw [if_neg c3] at H
    exact absurd H (by simp)
end Go.Proofs.Ytoeepmcaabmjkaa.QPM
